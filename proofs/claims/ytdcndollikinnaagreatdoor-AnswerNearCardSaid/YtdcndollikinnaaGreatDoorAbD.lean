/- A deterministic evaluator of the model's code, and that the model follows it (part 4). -/
import Derived.Test.YtdcndollikinnaaGreatDoorAbC
import Derived.Orders
open Array renaming getElem?_eq_getElem->zM,getD_eq_getD_getElem?->zO,replicate->Xa,getElem?_toList->Xh,getElem?_push->Xl,getElem?_replicate->Xt,all_eq_true'->XD,getElem?_eq_none->XK
open Bool renaming and_eq_true->Xb,not_eq_true'->Xi
open Nat renaming eq_of_beq_eq_true->Xc,lt_of_lt_of_le->Xd,le_refl->Xe,beq_refl->Xj,lt_trichotomy->Xo,zero_add->Xs,zero_le->Xv,lt_or_ge->Xz,min_eq_left->XB,beq->XC,le_trans->XO
open List renaming mem_cons_of_mem->Xf,mem_of_getElem?->Xg,getElem?_eq_getElem->Xk,mem_cons_self->Xm,mem_range->Xp,all_eq_true->Xq,getElem?_append_right->Xr,getElem?_cons_succ->Xu,cons_append->Xy,mem_filter->XA,map_cons->XE,getElem?_eq_some_iff->XF,length_take->XH,append_nil->XI,nil_append->XJ,range'->XL,getElem?_toArray->XM,mem_map->XP,map_map->XQ
open Option renaming map_some->Xn,bind_some->Xw,getD_some->Xx,map->XG
open Prod renaming fst->XN
set_option maxHeartbeats 400000
set_option linter.defProp false
set_option linter.unusedVariables false
set_option linter.unusedSimpArgs false
namespace Go.Ab

section
variable(E:Env)(ops:Array Oper)(q:Nat)(L:Nat->Loc)(H:Nat->Hp)(X:Nat->Bool)(nr:Nat)(mu0:Mu)(w0:World)

def AtC(S:Nat->Bool)(c:Nat):Prop:=c<=ops.size/\(c=ops.size\/ ∃o,ops[c]? =some o/\isW E X q o c/\S c=false)/\ ∀(i:Nat) o,i<c->ops[i]? =some o->isW E X q o i->S i=true
def RegsAt(S:Nat->Bool)(mu:Mu)(tmps:Array Value):Prop:= ∀(i:Nat),i<=ops.size-> ∀(t:Tmp) v,(∀(p:Nat) (o:Oper),ops[p]? =some o->o.dst=some t->(p<i↔S p=true))->
 (L i).regs.get t=some v-> ∃a,tmps[t]? =some a/\au mu v a
structure Inv(S:Nat->Bool)(mu:Mu)(w:World)(tmps:Array Value):Prop where
 c: ∃c,AtC E ops q X S c/\aO mu (H c) w
 glob:lI mu
 non: ∀p,p<ops.size->S p=false-> ∀b,(H p).n<=b->b<(H (p+1)).n->mu b=.none
 size:tmps.size=nr
 regs:RegsAt ops L S mu tmps
 ext:WExt mu0 (H 0) w0 mu w
 cov: ∀p,p<ops.size->S p=true-> ∀b,(H p).n<=b->b<(H (p+1)).n->mu b≠ .none
end

def j8(S:Nat->Bool)(p:Nat):Nat->Bool:=fun i=>if i=p then true else S i
theorem fk(S:Nat->Bool)(p:Nat):j8 S p p=true:=by simp [j8]
theorem bJ(S:Nat->Bool){p i:Nat}(h:i≠p):j8 S p i=S i:=by simp [j8,h]

section
variable{E:Env}{R:Rec}{ops:Array Oper}{q:Nat}{ps:List (Nat×Nat)}{M:List Nat}{L:Nat->Loc}{H:Nat->Hp}{T:Nat->Option Nat}{X:Nat->Bool}(D:DT E R ops q ps M L H T X)

theorem m8{l:Loc}{d:Option Tmp}{v:Value}{t:Tmp}(h:d≠some t):(l.put d v).regs.get t=l.regs.get t:=by
 cases d with
 |none=>rfl| some d=>show(l.regs.set d v).get t=_;simp_all[Tr.get_set,if_neg]
include D in
theorem rj{j:Nat}{o:Oper}(b:ops[j]? =some o){t:Tmp}(h:o.dst≠some t):(L (j+1)).regs.get t=(L j).regs.get t:=by
 have a:=D.step j o b;generalize L (j+1)=e at a;generalize H (j+1)=f at a;generalize T j=g at a;generalize X j=i at a;cases a with
 |skip c=>exact m8 h|exec c d=>exact m8 h

include D in
theorem oS{S:Nat->Bool}{mu e:Mu}{tmps:Array Value}{r:Nat}(z:Down ops S){p:Nat}{o:Oper}(s:ops[p]? =some o)(A:Ready o S)(B:S p=false)(C:Le mu e)(k:tmps.size=r)(l:(L p).regs.Sized r)
 {v v':Value} (Q:au e v v') (F:L (p+1)=(L p).put o.dst v) (f:RegsAt ops L S mu tmps):RegsAt ops L (j8 S p) e (gp tmps o.dst v'):=by
 intro i G t u g m;by_cases n:o.dst=some t
 . have I:p<i:=(g p o s n).2 (fk S p);have b:t∈jM ops.toList o:=(by unfold jM;rw [n];simp);have J:=vK D z s A B b;have h:(L i).regs.get t=(L (p+1)).regs.get t:=by
    have:=walk_eq (fun j=>(L j).regs.get t) (a:=p+1) (i-(p+1)) (fun j w x=>by
     have U:j<i:=(by omega);grind[zM,bJ,rj])
    grind
   rw [h,F,n]at m;have c:((L p).regs.set t v).get t=some u:=m;rw [Tr.get_set]at c;cases y:(L p).regs.get t with
   |none=>grind| some V=>rw [y]at c;simp at c;subst c;have:t<tmps.size:=(by rw [k];exact(l t).1 (by rw [y];rfl));grind[gp]
 . obtain⟨K,w,x⟩:=f i G t u (fun j W N O=>by
    grind[bJ]) m
   refine⟨K,?_,x.mono C⟩;cases P:o.dst with
   |none=>exact w| some d=>show(tmps.setIfInBounds d v')[t]? =_;grind

theorem oR(tmps:Array Value)(d:Option Tmp)(v:Value):(gp tmps d v).size=tmps.size:=by cases d<;>simp [gp]
end
end Go.Ab

namespace Go.Ab

theorem next_W{E:Env}{ops:Array Oper}{q:Nat}{X:Nat->Bool}: ∀(d c:Nat),c+d=ops.size-> ∃c',c<=c'/\c'<=ops.size/\(c'=ops.size\/ ∃o,ops[c']? =some o/\isW E X q o c')/\ ∀i o,c<=i->i<c'->ops[i]? =some o-> ¬isW E X q o i
 |0,c,h=>⟨c,Xe _,by omega,.inl (by omega),fun i o b e=>by omega⟩
 | d +1,c,h=>by
   obtain⟨a,f⟩: ∃a,ops[c]? =some a:=⟨_,zM (xs:=ops) (i:=c) (by omega)⟩;by_cases g:isW E X q a c
   . exact⟨c,Xe _,by omega,.inr ⟨_,f,g⟩,fun i o b e=>by omega⟩
   . obtain⟨c',b,e,j,k⟩:=next_W (E:=E) (ops:=ops) (q:=q) (X:=X) d (c+1) (by omega);grind

section
variable{E:Env}{P:Program}(ok:EOk E P){R:Rec}(hc:gK E P R.call)(hcode:jf P R.code)
variable{ops:Array Oper}{q:Nat}{ps:List (Nat×Nat)}{M:List Nat}{L:Nat->Loc}{H:Nat->Hp}{T:Nat->Option Nat}{X:Nat->Bool}(D:DT E R ops q ps M L H T X)
variable{nr:Nat}{mu0:Mu}{w0:World}

include D in
theorem Ck (dm: ∀j o,j<ops.size->ops[j]? =some o->Turn ops E X q H T j o) {n i:Nat} {o:Oper} (V:ops[n]? =some o) (W:cls E o.op=2) (F:ow ops.toList o n i=true) {b:Nat} (Y:touch ((L n).evD (tmpsOf o.op.operands.toList)) o.op=some b):(H (i+1)).n<=b:=by
 have hn:=(Array.getElem?_eq_some_iff.1 V).1;unfold ow at F;cases u:mapArg o.op with
 |none=>grind| some t=>
   rw [u]at F;simp only [List.any_eq_true,Xp,Xb,Xq,Bool.or_eq_true,Xi]at F;obtain⟨k,hk,w,f,y⟩:=F;have w:i<k:=(by simp_all);have l:ops[k]? =some ops[k]:=zM (by omega);unfold atIs at f;rw [Xh,l]at f;simp only [Xb]at f;have I: ∀{p:Oper},rf t p=true->p.dst=some t:=(by grind[rf,Xc]);have Z:=I f.2
   -- what the temporary holds at n
   have J:(L n).regs.get t=(L (k+1)).regs.get t:=by
    have:=walk_eq (fun j=>(L j).regs.get t) (a:=k+1) (n-(k+1)) (fun j h1 W=>by
     have K:ops[j]? =some ops[j]:=zM (by omega);refine rj D K fun hd=>?_;rcases y j (by omega)with x|x
     . have:=Nat.le_of_ble_eq_true x;omega
     grind[atIs,rf,Xj])
    grind
   -- what the touched block is
   have ht:touch ((L n).evD (tmpsOf o.op.operands.toList)) o.op=some b->(L n).ev (.tmp t)=.map (some b):=by
    intro h;have z: ∀(N:List Tmp) (v:Value),(L n).evD N (.tmp t)=.map (some b)->(L n).ev (.tmp t)=.map (some b):=by
     intro N v h;unfold Loc.evD at h;cases O:nK t N with
     |true=>grind|false=>simp only [O,cond_false]at h;cases h
    cases g:o.op<;>rw [g]at u<;>(try (cases u;done))
    all_goals
     rename_i ty m kk vv;cases m<;>(try (cases u;done));cases u;rw [g]at h;unfold touch at h;simp only []at h
     split at h
     next r hr=>subst h;exact z _ .nilIface hr
     next=>cases h
   have Q:=ht Y;have A:=D.step k ops[k] l;generalize hL:L (k+1)=L1 at A;generalize hH:H (k+1)=H1 at A;generalize T k=T1 at A;generalize hX:X k=X1 at A;have B: ∀v,L1=(L k).put ops[k].dst v-> ∀b,(L n).ev (.tmp t)=.map (some b)->v=.map (some b):=(by grind[Loc.ev,Loc.put,Tr.get_set]);cases A with
   |skip hg=>grind| exec hg c=>
     rename_i v;have hv:=B _ rfl b Q;subst hv;have d:=f.1;have h4:cls E ops[k].op=4:=by
      unfold isMk at d
      split at d
      . next h=>rw [h];rfl
      . cases d
     have hq:=pu (q:=q) (i:=k) (op:=ops[k].op) (E:=E) (by omega) (D.four k _ l h4);rw [hq]at c;have hle:=eL dm (show i+1<=k from w) (by omega);have C: ∀(h:Hp) (G:dH) (S:Hp),aop E ((L k).evD (tmpsOf ops[k].op.operands.toList)) h ops[k].op=some (G,S)->G=.val (.map (some h.n)):=by
      intro h G S U;unfold isMk at d
      split at d
      . next ty sz g=>
        rw [g]at U;cases sz<;>cases U;rfl
      . cases d
     unfold cU at c;simp only [cond_true]at c;cases s:aop E ((L k).evD (tmpsOf ops[k].op.operands.toList)) {H k with lo:=(H k).n} ops[k].op with
     |none=>rw [s]at c;cases c
     | some r=>
       obtain⟨G,S⟩:=r;have e:=C _ _ _ s;subst e;rw [s]at c;simp only [di]at c;grind
include D in
theorem wr_new(d: ∀j,j<=ops.size->(H j).t.Sized (H j).n)(dm: ∀j o,j<ops.size->ops[j]? =some o->Turn ops E X q H T j o){n i:Nat}{o:Oper}(e:ops[n]? =some o)(h:isW E X q o n)(g:cls E o.op=2)(k:ow ops.toList o n i=true)(f:i<n){b:Nat}(p:b<(H (i+1)).n):(H (n+1)).get b=(H n).get b:=by
 have r:=(Array.getElem?_eq_some_iff.1 e).1;have l:=fun b=>Ck D dm e g k (b:=b);have a:=D.step n o e;generalize L (n+1)=s at a;generalize t:H (n+1)=u at a;generalize T n=v at a;generalize w:X n=x at a;cases a with
 |skip m=>rfl| exec m c=>
   rw [sX h]at c;obtain⟨y,z⟩:=xy (.inl g) c;have hle:=eL dm (show i+1<=n from f) (by omega);grind[w_only]

theorem stand(dm: ∀j o,j<ops.size->ops[j]? =some o->Turn ops E X q H T j o){a c:Nat}(k:a<=c)(l:c<=ops.size)
 (e: ∀j o,a<=j->j<c->ops[j]? =some o->isR E X o j\/isQ E X q o j\/ ∀b,b<(H a).n->(H (j+1)).get b=(H j).get b) {b:Nat} (f:b<(H a).n):(H c).get b=(H a).get b:=by
 have:=walk_eq (fun j=>(H j).get b) (a:=a) (c-a) (fun j g m=>by
  have d:ops[j]? =some ops[j]:=zM (by omega);have i:=dm j _ (by omega) d;rcases e j _ g (by omega) d with h|h|h
  rotate_right
  . exact h b f
  . show(H (j+1)).get b=(H j).get b;rw [i.still h]
  . exact i.quiet h b (Xd f (eL dm g (by omega))))
 grind

include D in
theorem after_c{S:Nat->Bool}(g:Down ops S){c:Nat}(h:AtC E ops q X S c){i:Nat}{o:Oper}(s:c<=i)(a:ops[i]? =some o)(j:isW E X q o i\/isQ E X q o i)(k:isQ E X q o i->c≠i):S i=false:=by
 have l:=(Array.getElem?_eq_some_iff.1 a).1;rcases h.2.1 with e|⟨t,b,d,n⟩
 . omega
 . by_cases p:c=i
   . grind
   . cases r:S i with
     |false=>rfl| true=>
       obtain⟨m,f⟩:=mask D a;have:=ng D g i o m c a f r (cmp D a f (by omega) b ⟨d,j⟩);grind

include D in
theorem read_at(dm: ∀j o,j<ops.size->ops[j]? =some o->Turn ops E X q H T j o)(k: ∀j,j<=ops.size->(H j).t.Sized (H j).n){S:Nat->Bool}(J:Down ops S){c:Nat}(y:AtC E ops q X S c)
 {p:Nat} {o:Oper} (l:ops[p]? =some o) (W:Ready o S) (Y:S p=false) (r:cls E o.op<=1) {ρ:Operand->Value} (K:T p=touch ρ o.op)
 (s: ∀b,touch ρ o.op=some b->b<(H p).n) (t: ∀b,touch ρ o.op=some b->b<(H c).n)
 {f:Hp->Option Value} (N: ∀h,aop E ρ h o.op=cL h (f h)) (O:cls E o.op=0-> ∀h i,f h=f i) (C: ∀h i,(∀b,touch ρ o.op=some b->i.get b=h.get b)->f h=f i):
 f (H c)=f (H p):=by
 have Q:=(Array.getElem?_eq_some_iff.1 l).1;have U:=y.1;have u: ∀j,j<ops.size->(∀b,touch ρ o.op=some b->b<(H j).n)->(∀v,ops[j]? =some v->isW E X q v j->(p<j/\S j=true)\/(j<p/\S j=false))->f (H (j+1))=f (H j):=by
  intro j F hlt z;have d:ops[j]? =some ops[j]:=zM F;have G:=dm j _ F d;rcases kinds D d with h|h|h
  . rw [G.still h]
  . exact(C _ _ fun b w=>G.quiet h b (hlt b w)).symm
  . refine w_leaves D k l d h r K ?_ hlt N O C;rcases z _ d h with⟨g,i⟩|⟨g,i⟩
    . obtain⟨m,A⟩:=mask D d;refine .inl ⟨g,D.owe j _ m p o d A g l ?_⟩;grind[ng]
    . obtain⟨m,A⟩:=mask D l;refine .inr ⟨g,D.owe p o m j _ l A g d ?_⟩;grind[oP]
 rcases Nat.le_total p c with B|B
 . have:=walk_eq (fun j=>f (H j)) (a:=p) (c-p) (fun j g i=>u j (by omega) (fun b w=>Xd (s b w) (eL dm g (by omega))) (fun v d n=>by
    have V:p≠j:=(by intro e;subst e;rw [l]at d;cases d;rcases n.2 with x|⟨x,_⟩<;>omega);exact .inl ⟨by omega,y.2.2 j v (by omega) d n⟩))
   simp_all
 . have:=walk_eq (fun j=>f (H j)) (a:=c) (p-c) (fun j g i=>u j (by omega) (fun b w=>Xd (t b w) (eL dm g (by omega))) (fun v d n=>
    .inr ⟨by omega,after_c D J y g d (.inl n) (fun I=>by
     intro _;have:=n.2;have:=I.2.2;rcases n.2 with x|⟨_,x⟩
     . have:=I.2.1;omega
     grind)⟩))
   simp_all
end
end Go.Ab

namespace Go.Ab
section
variable{E:Env}{P:Program}(ok:EOk E P){R:Rec}(hc:gK E P R.call)(hcode:jf P R.code)
variable{ops:Array Oper}{q:Nat}{ps:List (Nat×Nat)}{M:List Nat}{L:Nat->Loc}{H:Nat->Hp}{T:Nat->Option Nat}{X:Nat->Bool}(D:DT E R ops q ps M L H T X)
variable{nr:Nat}{mu0:Mu}{w0:World}

theorem AI{mu:Mu}{n:Nat}(h: ∀b,mu b≠ .none->b<n):cut mu n=mu:=by grind[eN,oD,absurd]

theorem tq{S:Nat->Bool}{c p:Nat}(h:AtC E ops q X S c)(f:p≠c):AtC E ops q X (j8 S p) c:=by
 refine⟨h.1,h.2.1.imp id fun⟨o,a,b,e⟩=>⟨o,a,b,by rw [bJ S (Ne.symm f)];exact e⟩,fun i o g j k=>?_⟩;by_cases d:i=p
 . subst d;exact fk S i
 . rw [bJ S d];exact h.2.2 i o g j k

theorem wZ{mu:Mu}{h e:Hp}{w:World}(d:aO mu h w)(k:e.t.Sized e.n)(l:h.n<=e.n)(j: ∀b,b<h.n->e.get b=h.get b):aO mu e w:=by
 refine⟨k,fun b c f g a=>?_,fun b a=>?_,d.inj,fun b a=>Xd (d.lt b a) l⟩
 . obtain⟨x,o,m,i,n⟩:=d.blk b c f g a;exact⟨x,o,by rw [j b (d.lt b (by rw [a];simp))];exact m,i,n⟩
 . rw [j b (d.lt b (by rw [a];simp))];exact d.dead b a

theorem i9.cut{mu d:Mu}{n:Nat}(g: ∀b,d b≠ .none->b<n){t:Tr Value}{m:Nat}{ts e:Array Value}(h:i9 mu t m ts)(j:i9 d t m e):i9 (cut mu n) t m ts:=by refine⟨h.size,h.sized,fun i v f=>?_⟩;obtain⟨k,a,b⟩:=h.get i v f;obtain⟨l,_,c⟩:=j.get i v f;exact⟨k,a,au.cut g c b⟩
theorem li.cut{mu f:Mu}{n:Nat}(z: ∀b,f b≠ .none->b<n){x:Blk}{base top d g:Nat}{o B:Obj}(h:li mu x base top o)(m:li f x d g B):li (cut mu n) x base top o:=by
 cases x with
 |dead=>exact h| cells t Q el S=>
   obtain⟨C,p,F,e,r⟩:=h;obtain⟨G,I,J,A,j⟩:=m;refine⟨C,p,F,e,r.whole,r.fits,r.sized,fun i v k=>?_,r.free⟩;obtain⟨s,a,b⟩:=r.get i v k;obtain⟨K,_,c⟩:=j.get i v k;exact⟨s,a,au.cut z c b⟩
 | map U c=>
   obtain⟨u,w,e,r⟩:=h;obtain⟨_,N,A,j⟩:=m;refine⟨u,w,e,r.1,fun i v s k y=>?_⟩;obtain⟨V,W,Y,Z⟩:=r.2 i v s k y;obtain⟨K,b1,b2⟩:=j.get k;grind[au.cut]
 | loop l=>
   obtain⟨u,O,e,r⟩:=h;obtain⟨_,lT,A,j⟩:=m;exact⟨u,O,e,r.fn,r.regs.cut z j.regs,r.params,r.assign,r.body,r.st,r.pending⟩
 |dfr=>exact h

def glue(a mu:Mu)(n:Nat):Mu:=fun b=>if b<n then a b else mu b
theorem jJ{a mu:Mu}{n b:Nat}(h:b<n):glue a mu n b=a b:=by simp [glue,h]
theorem kU{a mu:Mu}{n b:Nat}(h:n<=b):glue a mu n b=mu b:=by simp [glue,Nat.not_lt.2 h]

theorem glue_rel {mu e:Mu} {hc r f:Hp} {w z:World} (l:aO mu hc w) (y:aO e f z) (k2:Ext (cut mu r.n) r w e f z)
 (K: ∀b,r.n<=b->b<f.n->mu b=.none) (U:f.n<=hc.n) (s: ∀b,b<f.n->hc.get b=f.get b):
 aO (glue e mu f.n) hc z/\Le mu (glue e mu f.n)/\Le e (glue e mu f.n):=by
 have N:=k2.n;have F:Le mu (glue e mu f.n):=by
  intro b t;by_cases h:b<f.n
  . rw [jJ h];by_cases m:b<r.n
    . rcases k2.old b m with x|⟨_,x⟩
      . left;rw [x,eN m]
      grind
    grind
  . rw [kU (by omega)];exact .inl rfl
 have u:Le e (glue e mu f.n):=by intro b t;left;exact jJ (y.lt b t)
 refine⟨⟨l.sized,fun b c a g j=>?_,fun b j=>?_,?_,fun b j=>?_⟩,F,u⟩
 . by_cases h:b<f.n
   . rw [jJ h]at j;obtain⟨x,o,G,A,B⟩:=y.blk b c a g j;exact⟨x,o,by grind,A,B.mono u⟩
   . rw [kU (by omega)]at j;obtain⟨x,o,G,A,B⟩:=l.blk b c a g j;refine⟨x,o,G,?_,B.mono F⟩;rw [k2.frame c (l.clt j) (fun k d i v=>?_)]
     . exact A
     . by_cases m:k<r.n
       . rw [eN m]at v;have:=l.inj b k c a g d i j v;omega
       grind[oD]
 . by_cases h:b<f.n
   . rw [jJ h]at j;rw [s b h];exact y.dead b j
   . rw [kU (by omega)]at j;exact l.dead b j
 . have O: ∀b k c a g d i,b<f.n->f.n<=k->e b=.blk c a g->mu k=.blk c d i->False:=by
    intro b k c a g d i h m n p;by_cases t:b<r.n
    . rcases k2.old b t with x|⟨_,x⟩
      . rw [x,eN t]at n;have:=l.inj b k c _ _ _ _ n p;omega
      grind
    . rcases k2.fresh b c a g (by omega) n with x|⟨Q,C,I,S,J,_⟩
      . have:=l.clt p;omega
      . rw [eN S]at J;have:=l.inj Q k c _ _ _ _ J p;omega
   intro b k c a g d i n p;by_cases h:b<f.n
   . rw [jJ h]at n;by_cases m:k<f.n
     . rw [jJ m]at p;exact y.inj b k c _ _ _ _ n p
     grind[kU]
   . rw [kU (by omega)]at n;by_cases m:k<f.n
     . grind[jJ]
     . rw [kU (by omega)]at p;exact l.inj b k c _ _ _ _ n p
 . by_cases h:b<f.n
   . omega
   . rw [kU (by omega)]at j;exact l.lt b j

structure jm(ops opsM:Array Oper)(σ:Nat->Nat):Prop where
 op: ∀p o,ops[p]? =some o-> ∃oM,opsM[σ p]? =some oM/\oM.op=o.op/\oM.dst=o.dst/\((o.guard=none/\oM.guard=none)\/ ∃j want,o.guard=some (j,want)/\oM.guard=some (σ j,want))
 no: ∀(p:Nat) (o:Oper) (j:Nat) (want:Bool),ops[p]? =some o->o.guard=some (j,want)->ops[j]? =none->opsM[σ j]? =none
theorem Ce {mu:Mu} {ops e:Array Oper} {σ:Nat->Nat} (g:jm ops e σ) {t:Tr Value} {tmps:Array Value} {o k:Oper} {b:Bool} {p:Nat} (l:ops[p]? =some o) (m:(o.guard=none/\k.guard=none)\/ ∃j a,o.guard=some (j,a)/\k.guard=some (σ j,a))
 (u: ∀j a o' d,o.guard=some (j,a)->ops[j]? =some o'->o'.dst=some d-> ∀v,t.get d=some v-> ∃v',tmps[d]? =some v'/\au mu v v')
 (c:cC ops.toList t o=some b):Region.wanted k (yielded e tmps)=b:=by
 unfold cC at c;unfold Region.wanted;rcases m with⟨h,w⟩|⟨j,a,h,w⟩
 . grind
 . rw [h]at c;rw [w];simp only []at c⊢;unfold yielded;cases f:ops[j]? with
   |none=>rw [Xh,f]at c;cases c;rw [g.no p o j a l h f];rfl
   | some o'=>
     obtain⟨A,y,_,z,_⟩:=g.op j o' f;rw [Xh,f]at c;rw [y];simp only [Xw]at c⊢;cases i:o'.dst with
     |none=>grind| some d=>
       rw [i]at c;rw [z,i];simp only [Xw]at c⊢
       split at c
       next B n=>
        obtain⟨v',r,s⟩:=u j a o' d h f i _ n;cases s;rw [r];cases c;grind
       next x n=>
        obtain⟨v',r,s⟩:=u j a o' d h f i _ n;rw [r];cases c;cases s;rfl
       next=>cases c
theorem qZ{E:Env}{R:Rec}{ρ:Operand->Value}{b:Bool}{o a:Oper}{h:Hp}(e:a.op=o.op):cU E R ρ b a h=cU E R ρ b o h:=by unfold cU;rw [e]
theorem alloc_at{mu:Mu}{h:Hp}{w w':World}(g:aO mu h w){b:Nat}(J:mu b=.none)(K:b<h.n){x:Blk}{top:Nat}{o:Obj}(n:h.get b=some x)(B:WNew w w' o)(r:li mu x 0 top o):
 aO (upd mu b (.blk w.heap.size 0 top)) h w'/\Le mu (upd mu b (.blk w.heap.size 0 top)):=by
 have C: ∀j,w'.heap[j]? =if j=w.heap.size then some o else w.heap[j]? :=by intro j;rw [B.heap,Xl]
 have hle:Le mu (upd mu b (.blk w.heap.size 0 top)):=by intro f F;grind[aQ]
 refine⟨⟨g.sized,?_,?_,?_,?_⟩,hle⟩
 . intro f c i p d;by_cases a:f=b
   . subst a;rw [upd_same]at d;cases d;exact⟨x,o,n,by rw [C];simp,r.mono hle⟩
   . rw [aQ _ _ a]at d;obtain⟨y,G,k,l,I⟩:=g.blk f c i p d;have:=g.clt d;exact⟨y,G,k,by grind,I.mono hle⟩
 . intro f d;by_cases a:f=b
   . grind[upd_same]
   . rw [aQ _ _ a]at d;exact g.dead f d
 . intro v s c t z u A k l;by_cases m:v=b
   . by_cases e:s=b
     . rw [m,e]
     . subst m;rw [upd_same]at k;rw [aQ _ _ e]at l;cases k;have:=g.clt l;omega
   . rw [aQ _ _ m]at k;by_cases e:s=b
     . subst e;rw [upd_same]at l;cases l;have:=g.clt k;omega
     . rw [aQ _ _ e]at l;exact g.inj v s c _ _ _ _ k l
 . intro f d;by_cases a:f=b
   . omega
   . rw [aQ _ _ a]at d;exact g.lt f d
theorem WExt.alloc{mu0 mu:Mu}{h0:Hp}{w0 w w':World}(W:WExt mu0 h0 w0 mu w)(n: ∀b,mu0 b≠ .none->b<h0.n)(l: ∀b c base top,mu0 b=.blk c base top->c<w0.heap.size){b top:Nat}{o:Obj}(u:h0.n<=b)(h:WNew w w' o):WExt mu0 h0 w0 (upd mu b (.blk w.heap.size 0 top)) w':=by
 have p: ∀j,j<w.heap.size->w'.heap[j]? =w.heap[j]? :=by intro j v;rw [h.heap,Xl,if_neg (by omega)]
 refine⟨fun f d=>?_,fun f c base a d g=>?_,fun c hc r=>?_,fun f c base a t s el g i=>?_,?_,h.os.trans W.os,h.tape.trans W.tape,h.output.trans W.output⟩
 . rw [aQ _ _ (by omega)];exact W.old f d
 . by_cases e:f=b
   . subst e;rw [upd_same]at g;cases g;exact .inl W.wsize
   . rw [aQ _ _ e]at g;rcases W.fresh f c base a d g with x|⟨A,k,m,x,y,z⟩
     . exact .inl x
     grind[aQ]
 . rw [p c (Xd hc W.wsize)];exact W.frame c hc r
 . obtain⟨x,y⟩:=W.ro f c base a t s el g i;grind[aQ,Xz]
 . rw [h.heap];simp;have:=W.wsize;omega
include ok in
theorem C4{mu:Mu}{h:Hp}{w:World}{b:Nat}{e:TypeId}{z:List Value}(j:E.zero e=some z)(k:aO mu h w)(l:mu b=.none)(m:b<h.n)(c:h.get b=some (.cells (Tr.ofList z) z.length e 1))(d:Operand->Value){o:Oper}(t:o.op=.alloc e):
 ∃w' top n,(execOp d o).run P w=.ok (.value (.pointer (some ⟨w.heap.size,0,none⟩))) w'/\WNew w w' n/\aO (upd mu b (.blk w.heap.size 0 top)) h w'/\Le mu (upd mu b (.blk w.heap.size 0 top)):=by
 obtain⟨a,u,x,y,A⟩:=mW ok j w;have p:VL mu z a.cells.toList:=by grind[LR.refl,au.const,Xq]
 have f:li mu (.cells (Tr.ofList z) z.length e 1) 0 a.cells.size (.cells a.cells e):=by
  refine⟨a.cells,e,(0,0),rfl,rfl,?_,Tr.sized_ofList z,?_,?_⟩
  . grind
  . intro i v g;rw [Tr.get_ofList]at g;obtain⟨B,C,F⟩:=p.get g;grind
  omega
 obtain⟨r,s⟩:=alloc_at k l m c (ib w (.cells a.cells e)) f;refine⟨_,_,_,?_,ib w (.cells a.cells e),r,s⟩;simp_all[guard,execOp,Instr.alloc,newVar,newRow]
include ok hc hcode D in
theorem inv_step (dm: ∀j o,j<ops.size->ops[j]? =some o->Turn ops E X q H T j o) (bf: ∀i,i<=ops.size->pU nr mu0 w0 L H i) (a3: ∀b,mu0 b≠ .none->b<(H 0).n) (bs: ∀b c base top,mu0 b=.blk c base top->c<w0.heap.size)
 {K:Array Oper} {σ:Nat->Nat} (bt:jm ops K σ)
 {S:Nat->Bool} {mu:Mu} {w:World} {tmps:Array Value} (l:Inv E ops q L H X nr mu0 w0 S mu w tmps) (hd:Down ops S) {p:Nat} {o:Oper} (J:ops[p]? =some o) (hr:Ready o S) (hp:S p=false)
 {F:FC} {dfs:List Deferred} {k:List Item} {cs:List Frame} {rest:List Nat}:
 ∃ b5 w' an,Inv E ops q L H X nr mu0 w0 (j8 S p) b5 w' an/\
   Steps P (lone (F.mk' tmps dfs (.inRegion K (σ p::rest)::k)) cs w) (lone (F.mk' an dfs (.inRegion K rest::k)) cs w'):=by
 obtain⟨oM,aL,e1,e2,e3⟩:=bt.op p o J;have bh:=(Array.getElem?_eq_some_iff.1 J).1;obtain⟨bi,wT,bk,t1,t2,t3,t4⟩:=bf p (by omega);obtain⟨c,N,Z⟩:=l.c;have a0: ∀t∈jM ops.toList o,∀v,(L p).regs.get t=some v-> ∃v',tmps[t]? =some v'/\au mu v v':=
  fun t ht v hv=>l.regs p (by omega) t v (vK D hd J hr hp ht) hv
 have a4: ∀{b:Bool},cC ops.toList (L p).regs o=some b->Region.wanted oM (yielded K tmps)=b:=by intro b hg;refine Ce (mu:=mu) bt J e3 (fun j cm o' d cn hj cp v hv=>a0 d ?_ v hv) hg;grind[jM]
 have a5: ∀x,au mu ((L p).evD (tmpsOf o.op.operands.toList) x) (dN tmps x):=
  fun x=>xm t3.sized l.size _ (fun t ht v hv=>a0 t (by
   unfold jM;have:Operand.tmp t∈o.op.operands.toList:=(rG t _).1 ht;grind) v hv) l.glob x
 have a8: ∀x,au bi ((L p).evD (tmpsOf o.op.operands.toList) x) (dN bk x):=
  fun x=>xm t3.sized t3.size _ (fun t ht v hv=>t3.get t v hv) t2 x
 have U: ∀j,j<=ops.size->(H j).t.Sized (H j).n:=fun j hj=>by obtain⟨_,_,_,g,_⟩:=bf j hj;exact g.sized
 have tp:=dm p o bh J;have hs:=D.step p o J;have bl: ∀j,j<=ops.size-> ∀b c base top t sz el,mu0 b=.blk c base top->(H 0).get b=some (.cells t sz el 0)->(H j).get b=some (.cells t sz el 0):=by intro j hj b c base top t sz el O hg;obtain⟨_,_,_,_,_,_,e⟩:=bf j hj;exact((e.ro b c base top t sz el O hg).2.1).trans hg
 have cW: ∀{i:Nat} {oi:Oper},ops[i]? =some oi->c=i->isW E X q oi i:=by
  intro i oi bu b6;subst b6;rcases N.2.1 with e|⟨oc,ak,al,_⟩
  . grind
  grind
 generalize hL:L (p+1)=L1 at hs;generalize hH:H (p+1)=H1 at hs;generalize bv:T p=T1 at hs;generalize b7:X p=X1 at hs;cases hs with
 | skip hg=>
   have ad:p≠c:=(by intro e;have:=(cW J e.symm).1;grind);have r:=vZ (P:=P) (F:=F) (tmps:=tmps) (dfs:=dfs) (k:=k) (cs:=cs) (w:=w) (ops:=K) (i:=σ p) (rest:=rest) (by grind);rw [aL,show(some oM).bind (·.dst)=oM.dst from rfl,e2]at r;refine⟨mu,w,_,⟨⟨c,tq N ad,Z⟩,l.glob,fun A s n b I B=>?_,by rw [oR];exact l.size,?_,l.ext,?_⟩,.one r⟩
   . refine l.non A s ?_ b I B;grind[bJ]
   . exact oS D hd J hr hp (Le.refl mu) l.size t3.sized (v:=.tuple #[]) (v':=undef) (.tuple rfl (by grind)) hL l.regs
   . intro A s n b I B;by_cases e:A=p
     . grind
     . rw [bJ S e]at n;exact l.cov A s n b I B
 | exec hg r=>
   rename_i v;have V:=a4 hg;cases a6:fo o.op with
   | true =>
     obtain⟨e,bw⟩: ∃e,o.op=.alloc e:=(by unfold fo at a6;grind);have h4:=yx (E:=E) a6;have bx:=D.four p o J h4;have Y:isQ E X q o p:=⟨b7,by omega,bx⟩;rw [pu (by omega) bx]at r;obtain⟨z,hz,hv,bB⟩: ∃z,E.zero e=some z/\v=ptrTo (H p).n/\H1=(H p).new (.cells (Tr.ofList z) z.length e 1):=by
      unfold cU at r;simp only [cond_true,bw,aop]at r;cases hz:E.zero e with
      |none=>rw [hz]at r;cases r
      | some z=>
        rw [hz]at r;simp only [dq,di,rz]at r;rw [show Nat.ble (H p).n (({H p with lo:=(H p).n}:Hp).new (.cells (Tr.ofList z) z.length e 1)).lo=true from Nat.ble_eq_true_of_le (Xe _)]at r;cases r;exact⟨z,rfl,rfl,rfl⟩
     have hT:T p=some (H p).n:=(by rw [bv];unfold jG;rw [a6];rfl);have b8:(H (p+1)).get (H p).n=some (.cells (Tr.ofList z) z.length e 1):=(by rw [hH,bB,Hp.get_new _ _ (U p (by omega)),if_pos rfl]);have cr:(H (p+1)).n=(H p).n+1:=(by rw [hH,bB];rfl);have ad:p<c:=by
      rcases Xo p c with h|h|h
      . exact h
      . exfalso;have hw:=cW J h.symm;rcases hw.2 with x|⟨_,x⟩
        . omega
        omega
      . exfalso;rcases N.2.1 with e|⟨oc,ak,al,bE⟩
        . omega
        . obtain⟨m,O⟩:=mask D J;have:=oP D hd J O hr (cmp D J O h ak ⟨al,.inr Y⟩);grind
     have ba:(H (p+1)).n<=(H c).n:=eL dm (by omega) N.1;have bm:(H c).get (H p).n=some (.cells (Tr.ofList z) z.length e 1):=by
      have:=walk_eq (fun j=>(H j).get (H p).n) (a:=p+1) (c-(p+1)) (fun j I B=>by
       have hj:j<ops.size:=(by have:=N.1;omega);have C:ops[j]? =some ops[j]:=zM hj;have tj:=dm j _ hj C;show(H (j+1)).get (H p).n=(H j).get (H p).n;rcases kinds D C with x|x|x
       . rw [tj.still x]
       . refine tj.quiet x _ ?_;have:=eL dm I (by omega);omega
       . obtain⟨m,O⟩:=mask D C;have cv:=N.2.2 j _ (by omega) C x;have G:m.testBit p=false:=(by grind[ng]);obtain⟨_,hu⟩:=D.owe j _ m p o C O (by omega) J G;have cx:=x.2;have h5:=cls_le (E:=E) ops[j].op;rcases hu with h|h|⟨_,h⟩|⟨_,h,_⟩|⟨_,h,_⟩|⟨_,h,_⟩|⟨_,h,_⟩|⟨a,b,c',d⟩|⟨_,h,_⟩|⟨_,h,_⟩|⟨_,_,bL,_,b9⟩|⟨_,h,_⟩
         . omega
         . omega
         . omega
         . omega
         . omega
         . omega
         . omega
         . grind
         . omega
         . omega
         . exact D.leave (.inl b9) J C (kC (E:=E) (by omega)) bL x.1 (sX x) hT
         . omega)
      grind
     have cb:=l.non p bh hp (H p).n (Xe _) (by omega);obtain⟨w',top,ob,r1,r2,r3,r4⟩:=C4 (P:=P) ok hz Z cb (by omega) bm (dN tmps) (o:=oM) (e1.trans bw);have bb:=Af (P:=P) (F:=F) (dfs:=dfs) (k:=k) (cs:=cs) (rest:=rest) aL V (.inr fun cc cz=>by grind) r1;rw [e2]at bb;refine⟨upd mu (H p).n (.blk w.heap.size 0 top),w',_,⟨⟨c,tq N (by omega),r3⟩,l.glob.mono r4,fun A s n b I B=>?_,by rw [oR];exact l.size,?_,?_,?_⟩,.one bb⟩
     . have a1:A≠p:=(by grind[fk]);rw [bJ S a1]at n;rw [aQ _ _ (by
        rcases Xz p A with x|x
        . have:=eL dm (show p+1<=A from x) (by omega);omega
        . have:=eL dm (show A+1<=p by omega) (by omega);omega)]
       exact l.non A s n b I B
     . refine oS D hd J hr hp r4 l.size t3.sized (v:=v) (v':=.pointer (some ⟨w.heap.size,0,none⟩)) ?_ hL l.regs;rw [hv];exact .ptr (xI mu (H p).n w.heap.size 0 _)
     . exact l.ext.alloc a3 bs (eL dm (Xv p) (by omega)) r2
     . intro A s n b I B W;by_cases e:A=p
       . grind[upd_same]
       . rw [bJ S e]at n;have Q:=l.cov A s n b I B;rcases r4 b Q with x|x
         . grind
         grind
   |false=>
   rcases kinds D J with Y|Y|Y
   . -- a read
     have bc:cls E o.op<=1:=by
      rcases Y with x|x
      . grind
      . exact x
     have ad:p≠c:=(by intro e;rcases(cW J e.symm).2 with x|⟨x,_⟩<;>omega);obtain⟨f,f1,f2,f3⟩:=uP (E:=E) (op:=o.op) (ρ:=(L p).evD (tmpsOf o.op.operands.toList)) (by omega);rw [si bc]at r;have cf:f (H p)=some v:=by
      simp only [cU,cond_false]at r;rw [f1 (H p)]at r;cases hf:f (H p)with
      |none=>rw [hf]at r;cases r
      |some u=>rw [hf]at r;cases r;rfl
     have cg:f (H c)=some v:=(by rw [<-cf];exact read_at D dm U hd N J hr hp bc (bv.trans (pj (E:=E) (by omega) _ _)) (fun b G=>t1.lt b (AS a8 G)) (fun b G=>Z.lt b (AS a5 G)) f1 f2 f3);have bP:cU E R ((L p).evD (tmpsOf o.op.operands.toList)) false o (H c)=some (v,H c):=(by simp only [cU,cond_false];rw [f1 (H c),cg];rfl);obtain⟨af,w1,v',k1,k2,k3,_,k4⟩:=qi ok hc hcode Z l.glob a5 (F:=F) (ops:=K) (i:=σ p) (dfs:=dfs) (k:=k) (cs:=cs) (rest:=rest) aL V ((qZ e1).trans bP);rw [e2]at k4;have le:=k2.le Z;have bn: ∀b,mu b=.none->af b=.none:=by
      intro b G;by_cases ch:b<(H c).n
      . rcases k2.old b ch with x|⟨x,_⟩
        . rw [x];exact G
        grind
      . exact k1.none_ge (by omega)
     refine⟨af,w1,_,⟨⟨c,tq N ad,k1⟩,l.glob.mono le,fun A s n b I B=>?_,by rw [oR];exact l.size,?_,?_,?_⟩,k4⟩
     . refine bn b (l.non A s ?_ b I B);grind[bJ]
     . exact oS D hd J hr hp le l.size t3.sized k3 hL l.regs
     . refine l.ext.step a3 (eL dm (Xv c) N.1) (by rw [AI Z.lt];exact k2) (bl c N.1) (fun _ _=>rfl) (fun b G=>?_);rw [k1.none_ge G,Z.none_ge G]
     . intro A s n b I B W;by_cases e:A=p
       . subst e;rw [tp.still Y]at B;omega
       . rw [bJ S e]at n;have Q:=l.cov A s n b I B;rcases le b Q with x|x
         . grind
         grind
   . -- a quiet one:it runs at p,below c
     have ad:p<c:=by
      rcases Xo p c with h|h|h
      . exact h
      . exfalso;have hw:=cW J h.symm;rcases hw.2 with x|⟨_,x⟩
        . have:=Y.2.1;omega
        . rw [Y.2.2]at x;cases x
      . exfalso;rcases N.2.1 with e|⟨oc,ak,al,bE⟩
        . omega
        . obtain⟨m,O⟩:=mask D J;have:=oP D hd J O hr (cmp D J O h ak ⟨al,.inr Y⟩);grind
     have bd: ∀j oj,p<=j->j<c->ops[j]? =some oj->isR E X oj j\/isQ E X q oj j\/ ∀b,b<(H (p+1)).n->(H (j+1)).get b=(H j).get b:=by
      intro j oj I B C;rcases kinds D C with x|x|x
      . exact .inl x
      . grind
      . refine .inr (.inr ?_);by_cases e:j=p
        . subst e;rw [J]at C;cases C;exfalso;rcases x.2 with y|⟨_,y⟩
          . have:=Y.2.1;omega
          . rw [Y.2.2]at y;cases y
        . obtain⟨m,O⟩:=mask D C;rcases cmpN D C O (by omega) J (.inr ⟨Y,x,a6⟩)with y|⟨_,y2,y3⟩
          . have:=ng D hd j oj m p C O (N.2.2 j oj B C x) y;grind
          grind[wr_new]
     have ai: ∀b,b<(H p).n->(H c).get b=(H p).get b:=fun b G=>stand dm (by omega) N.1 (fun j oj I B C=>(bd j oj I B C).imp id (.imp id fun f b G=>f b (by have:=tp.n;omega))) G;have a7: ∀b,b<(H (p+1)).n->(H c).get b=(H (p+1)).get b:=fun b G=>stand dm (by omega) N.1 (fun j oj I B=>bd j oj (by omega) B) G;have cA:(H p).n<=(H c).n:=eL dm (by omega) N.1;have ba:(H (p+1)).n<=(H c).n:=eL dm (by omega) N.1;have bT:aO (cut mu (H p).n) (H p) w:=by
      refine⟨U p (by omega),fun b c0 base top O=>?_,fun b O=>?_,fun b b' c0 base top bo bX I B=>?_,fun b O=>?_⟩
      . by_cases G:b<(H p).n
        . rw [eN G]at O;obtain⟨x,ob,g1,g2,g3⟩:=Z.blk b c0 base top O;refine⟨x,ob,by grind,g2,?_⟩;have cI:bi b≠ .none:=by
           by_cases W:b<(H 0).n
           . have cN:mu0 b≠ .none:=by
              rcases l.ext.old b W with y|⟨y,_⟩
              . grind
              . exact y
             rcases t4.old b W with y|⟨_,y⟩
             . grind
             . rw [y];simp
           . exact t4.cover b (by omega) G
          cases bY:bi b with
          |none=>grind| dead=>
            have:=t1.dead b bY;rw [<-ai b G,g1]at this;cases this;exact g3.elim
          | blk cT bp b0=>
            obtain⟨xT,oT,j1,j2,j3⟩:=t1.blk b cT bp b0 bY;rw [<-ai b G,g1]at j1;cases j1;exact li.cut (fun b' bq=>t1.lt b' bq) g3 j3
        grind[oD]
      . by_cases G:b<(H p).n
        . rw [eN G]at O;rw [<-ai b G];exact Z.dead b O
        grind[oD]
      . exact Z.inj b b' c0 base top bo bX (by
         grind[eN,oD]) (by
         grind[eN,oD])
      . by_cases G:b<(H p).n
        . exact G
        . rw [oD (by omega)]at O;grind
     have b1: ∀x,au (cut mu (H p).n) ((L p).evD (tmpsOf o.op.operands.toList) x) (dN tmps x):=fun x=>au.cut (fun b' bq=>t1.lt b' bq) (a8 x) (a5 x);have cj:lI (cut mu (H p).n):=fun g hg=>(l.glob g hg).cut (t1.lt _ (t2 g hg).in);have be:=r;rw [pu Y.2.1 Y.2.2]at be;obtain⟨af,w1,v',k1,k2,k3,_,k4⟩:=qi ok hc hcode bT cj b1 (F:=F) (ops:=K) (i:=σ p) (dfs:=dfs) (k:=k) (cs:=cs) (rest:=rest) aL V ((qZ e1).trans be);rw [e2]at k4;rw [<-hH]at k1 k2;obtain⟨gh,le,ck⟩:=glue_rel Z k1 k2 (fun b I B=>l.non p bh hp b I B) ba a7;refine⟨glue af mu (H (p+1)).n,w1,_,⟨⟨c,tq N (by omega),gh⟩,l.glob.mono le,fun A s n b I B=>?_,by rw [oR];exact l.size,?_,?_,?_⟩,k4⟩
     . have a1:A≠p:=(by grind[fk]);rw [bJ S a1]at n;have Q:=l.non A s n b I B;rcases Xz p A with x|x
       . rw [kU (XO (eL dm (show p+1<=A from x) (by omega)) I)];exact Q
       . have a2:b<(H p).n:=Xd B (eL dm (show A+1<=p by omega) (by omega));rw [jJ (Xd a2 tp.n)];rcases k2.old b a2 with y|⟨y,_⟩
         . rw [y,eN a2];exact Q
         grind[eN,absurd]
     . exact oS D hd J hr hp le l.size t3.sized (k3.mono ck) hL l.regs
     . exact l.ext.step a3 (eL dm (Xv p) (by omega)) k2 (bl p (by omega)) (fun b G=>jJ G) (fun b G=>kU G)
     . intro A s n b I B W;by_cases e:A=p
       . subst e;rw [jJ B]at W;exact k2.cover b I B W
       . rw [bJ S e]at n;have Q:=l.cov A s n b I B;rcases le b Q with x|x
         . grind
         grind
   . -- a writer:it is the one at c
     have ad:p=c:=by
      rcases Xo p c with h|h|h
      . have:=N.2.2 p o h J Y;grind
      . exact h
      . rcases N.2.1 with e|⟨oc,ak,al,bE⟩
        . omega
        . obtain⟨m,O⟩:=mask D J;have:=oP D hd J O hr (cmp D J O h ak ⟨al,.inl Y⟩);grind
     subst ad;rw [sX Y]at r;obtain⟨af,w1,v',k1,k2,k3,_,k4⟩:=qi ok hc hcode Z l.glob a5 (F:=F) (ops:=K) (i:=σ p) (dfs:=dfs) (k:=k) (cs:=cs) (rest:=rest) aL V ((qZ e1).trans r);rw [e2]at k4;have le:=k2.le Z;rw [<-hH]at k1 k2;obtain⟨c',d1,d2,d3,d4⟩:=next_W (E:=E) (ops:=ops) (q:=q) (X:=X) (ops.size-(p+1)) (p+1) (by omega);have br:aO af (H c') w1:=(by refine wZ k1 (U c' d2) (eL dm d1 d2) (fun b G=>stand dm d1 d2 (fun j oj I B C=>?_) G);grind[kinds,absurd]);refine⟨af,w1,_,⟨⟨c',⟨d2,?_,?_⟩,br⟩,l.glob.mono le,fun A s n b I B=>?_,by rw [oR];exact l.size,?_,?_,?_⟩,k4⟩
     . rcases d3 with e|⟨o',b2,b3⟩
       . exact .inl e
       . refine .inr ⟨o',b2,b3,?_⟩;rw [bJ S (by omega)];exact after_c D hd N (by omega) b2 (.inl b3) (fun _=>by omega)
     . intro i oi hi bu cl;by_cases b4:i=p
       . subst b4;exact fk S i
       . rw [bJ S b4];rcases Xz i p with x|x
         . exact N.2.2 i oi x bu cl
         grind
     . have a1:A≠p:=(by grind[fk]);rw [bJ S a1]at n;rcases Xz p A with x|x
       . exact k1.none_ge (XO (eL dm (show p+1<=A from x) (by omega)) I)
       . have a2:b<(H p).n:=Xd B (eL dm (show A+1<=p by omega) (by omega));have Q:=l.non A s n b I B;rcases k2.old b a2 with y|⟨y,_⟩
         . grind
         grind
     . exact oS D hd J hr hp le l.size t3.sized k3 hL l.regs
     . refine l.ext.step a3 (eL dm (Xv p) N.1) (by rw [AI Z.lt];exact k2) (bl p N.1) (fun _ _=>rfl) (fun b G=>?_);rw [k1.none_ge G,Z.none_ge (XO tp.n G)]
     . intro A s n b I B W;by_cases e:A=p
       . subst e;exact k2.cover b I B W
       . rw [bJ S e]at n;have Q:=l.cov A s n b I B;rcases le b Q with x|x
         . grind
         grind
end
end Go.Ab

namespace Go.Ab
theorem mw{e a:Edge}(h:e.ground=a.ground):binds e=binds a:=by unfold binds Region.binds;rw [h]
structure Ord(ops opsM:Array Oper)(σ τ:Nat->Nat):Prop where
 size:ops.size=opsM.size
 lt: ∀p,p<ops.size↔σ p<ops.size
 st: ∀i,σ (τ i)=i
 ts: ∀p,τ (σ p)=p
 op: ∀p o,ops[p]? =some o-> ∃oM,opsM[σ p]? =some oM/\oM.op=o.op/\oM.dst=o.dst/\((o.guard=none/\oM.guard=none)\/ ∃j want,o.guard=some (j,want)/\oM.guard=some (σ j,want))/\
  (∀e∈o.after.toList,∃eM∈oM.after.toList,e.ground=eM.ground/\(eM.on<ops.size->e.on=τ eM.on)/\(ops.size<=eM.on->ops.size<=e.on))/\
  ∀eM∈oM.after.toList,∃e∈o.after.toList,e.ground=eM.ground/\(eM.on<ops.size->e.on=τ eM.on)/\(ops.size<=eM.on->ops.size<=e.on)
theorem Ord.same{ops e:Array Oper}{σ f:Nat->Nat}(o:Ord ops e σ f):jm ops e σ:=by
 refine⟨fun p x g=>?_,fun _ _ p _ _ _ i=>?_⟩
 . obtain⟨j,a,b,c,d,_⟩:=o.op p x g;grind
 . have h: ¬p<ops.size:=(by grind);refine XK ?_;rw [<-o.size];have:=mt (o.lt p).2 h;omega
theorem Ord.part{ops f g:Array Oper}{σ n:Nat->Nat}(o:Ord ops f σ n)(t: ∀(i:Nat),i<f.size->g[i]? =f[i]?)(q: ∀x∈f.toList,iH f.size x=true):jm ops g σ:=by
 refine⟨fun p x h=>?_,fun p x j m h k u=>?_⟩
 . obtain⟨l,a,b,c,d,_⟩:=o.op p x h;grind
 . exfalso;obtain⟨l,a,_,_,d,_⟩:=o.op p x h;rcases d with⟨d,_⟩|⟨v,w,d,e⟩
   . grind
   . rw [k]at d;cases d;have r:l∈f.toList:=(by grind);have:=q l r;unfold iH at this;rw [e]at this;have s:σ j<ops.size:=(by rw [o.size];simp_all);have y:=(o.lt j).2 s;grind
theorem Ord.id(ops:Array Oper):Ord ops ops (fun i=>i) (fun i=>i):=by
 refine⟨rfl,fun _=>Iff.rfl,fun _=>rfl,fun _=>rfl,fun p o b=>⟨o,b,rfl,rfl,?_,fun e a=>⟨e,a,rfl,fun _=>rfl,fun h=>h⟩,fun e a=>⟨e,a,rfl,fun _=>rfl,fun h=>h⟩⟩⟩;cases c:o.guard with
 |none=>grind|some q=>grind
theorem rH{i:Nat}: ∀{l:List Nat},i∈l->eU i l<l.length/\l[eU i l]? =some i
 | [],h=>by cases h
 | x ::l,h=>by
   unfold eU;cases d:XC i x with
   | true=>simp_all| false=>
     have c:i≠x:=(by grind[Xj]);rcases List.mem_cons.1 h with e|h
     . omega
     . obtain⟨a,b⟩:=rH h;grind
theorem s8{i:Nat}: ∀{l:List Nat},i∉l->eU i l=l.length
 | [],_=>rfl| x::l,h=>by unfold eU;have a:XC i x=false:=(by grind[XC,absurd,Xc]);simp_all[cond_false,List.length_cons,s8,Xf]
theorem ordL_mem(ops:List Oper)(i:Nat):i∈ordL ops↔i<ops.length:=by grind[ordL,vq,lateAt]
theorem BY(ops:List Oper):(ordL ops).Nodup:=by
 unfold ordL;rw [List.nodup_append,List.nodup_append];refine⟨List.nodup_range.filter _,⟨List.nodup_range.filter _,List.nodup_range.filter _,fun a c b d e=>?_⟩,fun a c b d e=>?_⟩
 . grind
 grind
theorem ordL_len(ops:List Oper):(ordL ops).length=ops.length:=by
 unfold ordL;rw [List.length_append,List.length_append];have a: ∀(l:List Nat) (f g:Nat->Bool),(l.filter f).length+((l.filter fun i=>!f i&& !g i).length+(l.filter fun i=>!f i&&g i).length)=l.length:=by
  intro l f g
  induction l with
  |nil=>rfl| cons x l b=>grind
 simp_all
theorem yz(ops:List Oper)(ord:List Nat): ∀(l:List Nat),(∀i∈l,i<ops.length)-> ∀(p:Nat),(dW ops ord l)[p]? =(l[p]?).bind fun(i:Nat)=>(ops[i]?).map (nj ord)
 | [],_,p=>by simp [dW]| i ::l,h,p=>by
   have a:i<ops.length:=h i Xm;unfold dW;rw [Xk a];simp only [];cases p with
   |zero=>simp [a]| succ p=>
     simp only [Xu];exact yz ops ord l (fun j b=>h j (Xf _ b)) p
theorem uS{ord:List Nat}(c:ord.Nodup){p i:Nat}(d:ord[p]? =some i):eU i ord=p:=by have e:i∈ord:=Xg d;obtain⟨a,b⟩:=rH e;grind[XF,Xo,eU,absurd,List.pairwise_iff_getElem]
theorem zL(ops:Array Oper)(ord:List Nat)(c: ∀i,i∈ord↔i<ops.toList.length)(m:ord.Nodup)(f:ord.length=ops.toList.length)(u:ops.toList.all (iH ops.toList.length)=true):
 Ord (dW ops.toList ord ord).toArray ops (fun p=>(ord[p]?).getD p) (fun i=>if i<ops.size then eU i ord else i):=by
 have v:ops.toList.length=ops.size:=by simp
 rw [v]at f c;have g:=yz ops.toList ord ord (fun i B=>by grind);have n:(dW ops.toList ord ord).length=ops.size:=by
  have j: ∀p,p<(dW ops.toList ord ord).length↔p<ops.size:=by intro p;have C:p<(dW ops.toList ord ord).length↔((dW ops.toList ord ord)[p]?).isSome=true:=(by simp);grind
  have a:=j (dW ops.toList ord ord).length;have b:=j ops.size;omega
 have D: ∀p,p<ops.size-> ∃i,ord[p]? =some i/\i<ops.size:=fun p q=>⟨ord[p]'(by omega),Xk _,(c _).1 (List.getElem_mem _)⟩;have w: ∀p i,ord[p]? =some i->eU i ord=p:=fun p i q=>uS m q;have d:(dW ops.toList ord ord).toArray.size=ops.size:=by simp [n]
 refine⟨d,fun p=>?_,fun i=>?_,fun p=>?_,fun p o x=>?_⟩
 . grind
 . by_cases h:i<ops.size
   . simp_all[if_pos,rH]
   grind
 . grind
 . have k:(dW ops.toList ord ord)[p]? =some o:=(by simpa using x);rw [g]at k;obtain⟨i,E,y⟩:=Option.bind_eq_some_iff.1 k;obtain⟨r,z,rfl⟩:=Option.map_eq_some_iff.1 y;have A:ops[i]? =some r:=(by simpa using z);refine⟨r,by grind,rfl,rfl,?_,?_,?_⟩
   . grind[Xq,Xg,iH,nj,Nat.blt_eq,eU,rH]
   . intro e s;simp only [nj,Array.toList_map,XP]at s;obtain⟨l,t,rfl⟩:=s;refine⟨l,t,rfl,fun h=>?_,fun h=>?_⟩
     . grind
     simp_all[eU,s8,Xe]
   . intro l t;refine⟨{l with on:=eU l.on ord},by simp only [nj,Array.toList_map,XP];grind,rfl,fun h=>?_,fun h=>?_⟩
     . grind
     simp_all[eU,s8,Xe]
theorem yr(ops:Array Oper): ∃(a:Array Oper) (σ c:Nat->Nat),a.toList=bU ops.toList/\Ord a ops σ c:=by
 unfold bU;cases b:(ops.toList.any sH||sJ ops.toList)&&ops.toList.all (iH ops.toList.length)with
 |false=>exact⟨ops,_,_,rfl,Ord.id ops⟩| true=>simp only [Xb]at b;exact⟨_,_,_,rfl,zL ops _ (ordL_mem ops.toList) (BY ops.toList) (ordL_len ops.toList) b.2⟩
end Go.Ab

namespace Go.Ab

def iW(S:Nat->Bool):Nat->Nat
 |0=>0|n+1=>iW S n+(if S n=true then 0 else 1)
theorem pJ{S:Nat->Bool}: ∀{n:Nat},iW S n=0-> ∀i,i<n->S i=true
 |0,_,i,a=>by omega| n +1,h,i,a=>by
   simp only [iW]at h;by_cases b:S n=true
   . rw [if_pos b]at h;by_cases e:i=n
     . grind
     . exact pJ (n:=n) (by omega) i (by omega)
   grind
theorem qh{S:Nat->Bool}: ∀{n:Nat},iW S n≠0-> ∃i,i<n/\S i=false/\ ∀j,j<i->S j=true
 |0,h=>absurd rfl h| n +1,h=>by
   by_cases a:iW S n=0
   . have b:=pJ a;simp only [iW,a]at h;grind
   . obtain⟨i,e,c,d⟩:=qh a;exact⟨i,by omega,c,d⟩
theorem Ag{S:Nat->Bool}{p:Nat}: ∀{n:Nat},n<=p->iW (j8 S p) n=iW S n
 |0,_=>rfl| n+1,h=>by simp only [iW];rw [Ag (by omega),bJ S (by omega)]
theorem rX{S:Nat->Bool}{p:Nat}(a:S p=false): ∀{n:Nat},p<n->iW (j8 S p) n+1=iW S n
 |0,h=>by omega| n +1,h=>by
   simp only [iW];by_cases e:p=n
   . simp_all[Ag,Xe,fk]
   . have:=rX a (n:=n) (by omega);rw [bJ S (by omega)];omega
theorem pA: ∀(n:Nat),iW (fun _=>false) n=n
 |0=>rfl|n+1=>by simp [iW,pA n]

def bK(listed:Array Bool):Nat->Bool:=fun i=>listed.getD i false
theorem ur{listed:Array Bool}{p:Nat}(a:p<listed.size):bK (listed.setIfInBounds p true)=j8 (bK listed) p:=by funext i;simp only [bK,j8,zO,Array.getElem?_setIfInBounds];grind

theorem put_dfs(l:Loc)(d:Option Tmp)(v:Value):(l.put d v).dfs=l.dfs/\(l.put d v).rc=l.rc:=by cases d<;>exact⟨rfl,rfl⟩

def oq(ops:Array Oper):(Nat->Bool)->List Nat->Prop
 |S,[]=> ∀i,i<ops.size->S i=true|S,p::a=>p<ops.size/\S p=false/\(∀o,ops[p]? =some o->Ready o S)/\oq ops (j8 S p) a
theorem uW{ops a:Array Oper}{σ d:Nat->Nat}(c:Ord ops a σ d){M:List Nat}(g: ∀i,qj ops.toList M i): ∀(b t:Nat) (listed:Array Bool),listed.size=ops.size->iW (fun p=>bK listed (σ p)) ops.size=b->
 oq ops (fun p=>bK listed (σ p)) ((Region.linearise.go .any a b t listed []).map d)
 |0,t,listed,q,J=>pJ J| b + 1,t,listed,q,J=>by
   have r: ∀i,i<ops.size->d i<ops.size:=fun i j=>(c.lt (d i)).2 (by rw [c.st];exact j);have s: ∀i,i∈Region.ready .any a listed->i<ops.size/\bK listed i=false/\ ∀o,ops[d i]? =some o->Ready o (fun p=>bK listed (σ p)):=by
    intro i j;unfold Region.ready at j;simp only [XA,Xp,Xb,Xi]at j;obtain⟨f,A,h⟩:=j;rw [<-c.size]at f;refine⟨f,?_,fun o B e x k=>?_⟩
    . grind[bK,zO,zM]
    . obtain⟨N,y,_,_,_,O,_⟩:=c.op (d i) o B;rw [c.st]at y;rw [y]at h;simp only [Xn,Xx]at h;obtain⟨l,C,z,D,P⟩:=O e x;have:=(Array.all_eq_true'.1 h) l (by simpa using C);rw [mw z]at k;unfold binds at k;rw [k]at this;obtain⟨m,_,u,_⟩:=g (d i) o (by grind);have v:=u e x (by rw [mw z];unfold binds;exact k);have:=r i f;have hlt:l.on<ops.size:=(by omega);show bK listed (σ e.on)=true;rw [D hlt,c.st];grind[bK,XD]
   have E:Region.ready .any a listed≠ []:=by
    obtain⟨p,f,A,h⟩:=qh (S:=fun p=>bK listed (σ p)) (n:=ops.size) (by omega);intro e;have B:ops[p]? =some ops[p]:=zM f;obtain⟨m,_,k,_⟩:=g p ops[p] (by grind);obtain⟨N,y,_,_,_,_,Q⟩:=c.op p _ B;have K:=(c.lt p).1 f;have :σ p∈Region.ready .any a listed:=by
     unfold Region.ready;simp only [XA,Xp,Xb,Xi];refine⟨by grind,?_,?_⟩
     . grind[bK,zO,zM]
     . rw [y];simp only [Xn,Xx];refine Array.all_eq_true'.2 fun l x=>?_;cases F:Region.binds .any l with
       |false=>rfl| true=>
         obtain⟨L,C,z,D,P⟩:=Q l (by simpa using x);have v:=k L C (by rw [mw z];unfold binds;exact F);have hlt:l.on<ops.size:=(by omega);have:=h L.on v;rw [D hlt,c.st]at this;simpa [bK]using this
    grind
   simp only [Region.linearise.go];change oq ops (fun p=>bK listed (σ p)) (List.map d (match(Region.ready .any a listed)[t%(Region.ready .any a listed).length]? with
    |some i=>Region.linearise.go .any a b (t/(Region.ready .any a listed).length) (listed.setIfInBounds i true) [i]|none=>[].reverse))
   have w:0<(Region.ready .any a listed).length:=List.length_pos_iff.2 E;have hlt:=Nat.mod_lt t w;rw [Xk hlt];simp only [];generalize j:(Region.ready .any a listed)[t%(Region.ready .any a listed).length]=i;have G:i∈Region.ready .any a listed:=(by grind);obtain⟨f,A,h⟩:=s i G;have H:=r i f;have I:(fun p=>bK listed (σ p)) (d i)=false:=(by show bK listed (σ (d i))=false;rw [c.st];exact A);rw [linearise_go_acc,List.reverse_singleton,List.singleton_append,XE];have R:(fun p=>bK (listed.setIfInBounds i true) (σ p))=j8 (fun p=>bK listed (σ p)) (d i):=by
    funext p;rw [ur (listed:=listed) (p:=i) (by omega)];by_cases e:p=d i
    . subst e;rw [c.st,fk,fk]
    . rw [bJ _ e,bJ _ (by intro T;exact e (by rw [<-T,c.ts]))]
   refine⟨H,I,h,?_⟩;rw [<-R];exact uW c g b _ _ (by simpa using q) (by grind[rX,bK])

section
variable{E:Env}{P:Program}(ok:EOk E P){R:Rec}(hc:gK E P R.call)(hcode:jf P R.code)
variable{ops:Array Oper}{q:Nat}{ps:List (Nat×Nat)}{M:List Nat}{L:Nat->Loc}{H:Nat->Hp}{T:Nat->Option Nat}{X:Nat->Bool}(D:DT E R ops q ps M L H T X)
variable{nr:Nat}{mu0:Mu}{w0:World}

include D in
theorem down_add{S:Nat->Bool}(g:Down ops S){p:Nat}{o:Oper}(h:ops[p]? =some o)(j:Ready o S):Down ops (j8 S p):=by
 intro i k a f e c d;by_cases b:i=p
 . subst b;rw [h]at a;cases a;obtain⟨m,_,l,_⟩:=D.bef i o (by grind);have:=l e c d;rw [bJ S (by omega)];exact j e c d
 . rw [bJ S b]at f;have:=g i k a f e c d;grind[fk,bJ]

include ok hc hcode D in
theorem go_list(dm: ∀j o,j<ops.size->ops[j]? =some o->Turn ops E X q H T j o)(l: ∀i,i<=ops.size->pU nr mu0 w0 L H i)(m: ∀b,mu0 b≠ .none->b<(H 0).n)(e: ∀b c base top,mu0 b=.blk c base top->c<w0.heap.size)
 {d:Array Oper} {σ:Nat->Nat} (z:jm ops d σ) {tl:List Nat} {F:FC} {dfs:List Deferred} {k:List Item} {cs:List Frame}: ∀(n:List Nat) (S:Nat->Bool) (mu:Mu) (w:World) (tmps:Array Value),oq ops S n->Down ops S->
  Inv E ops q L H X nr mu0 w0 S mu w tmps->
  ∃ s f w' a,Inv E ops q L H X nr mu0 w0 s f w' a/\(∀i,i<ops.size->s i=true)/\
    Steps P (lone (F.mk' tmps dfs (.inRegion d (n.map σ++tl)::k)) cs w) (lone (F.mk' a dfs (.inRegion d tl::k)) cs w')
 | [],S,mu,w,tmps,t,u,g=>⟨S,mu,w,tmps,g,t,Steps.refl _ _⟩| p::n,S,mu,w,tmps,t,u,g=>by obtain⟨B,C,G,I⟩:=t;have v:ops[p]? =some ops[p]:=zM B;have A:=G _ v;obtain⟨x,J,h,r,y⟩:=inv_step ok hc hcode D dm l m e z g u v A C (F:=F) (dfs:=dfs) (k:=k) (cs:=cs) (rest:=n.map σ++tl);obtain⟨s,f,w',a,K,N,O⟩:=go_list dm l m e z n _ x J h I (down_add D u v A) r;exact⟨s,f,w',a,K,N,Steps.trans y O⟩

include ok hc hcode in
theorem sj(cx:Cx)(ops z:Array Oper){σ:Nat->Nat}(sm:jm ops z σ)(ls:List Nat)(hg:oq ops (fun _=>false) ls)(tl:List Nat)(l:Loc)(h:Hp)(l':Loc)(h':Hp)(q:Nat)(ps:List (Nat×Nat))(tr:List (Nat×Tch))
 (hp:jV E ops.toList=some (q,ps)) (he:bI E R ops.toList q ops.toList 0 l h []=some (l',h',tr)) (O:cG tr ps=true)
 (mu:Mu) (w:World) (F:FC) (A:List Frame) (tmps:Array Value) (dfs:List Deferred) (B:Option (Value×Bool)) (k:List Item) (s:SR P cx l h mu w F A tmps dfs B):
 ∃ r w' d,SR P cx l' h' r w' F A d dfs B/\Ext mu h w r h' w'/\
   Steps P (lone (F.mk' tmps dfs (.inRegion z (ls.map σ++tl)::k)) (aP B A) {w with drawn:=w.drawn+1})
    (lone (F.mk' d dfs (.inRegion z tl::k)) (aP B A) w'):=by
 obtain⟨M,a1,a7⟩:=plan_ok hp;obtain⟨_,L,H,T,X,ai,K,Q,S,a2,U,ak⟩:=A0 _ _ _ _ _ _ _ _ he;rw [Xs,Array.length_toList]at Q S;have D:DT E R ops q ps M L H T X:=by
  refine⟨a1,fun n o I h4=>?_,fun n o m i p I hm V a8 Y=>?_,fun i o I=>?_,fun {i j a b o p} u I hp ro rp ha Y=>?_,fun {i j a o p} u I hp ro rp hx hh ha=>?_⟩
  . grind
  . grind
  . grind
  . have e1:=U i o a (by grind) ro (by grind);have e2:=U j p b (by grind) rp (by grind);rw [Xs]at e1 e2;have:=rJ O u;grind[jI,Xj]
  . have e1:=U i o a (by grind) ro (by grind);have e2:=ak j p (by grind) rp (by grind) (by grind);rw [Xs]at e1 e2;rcases u with u|u
    . have:=rJ O u;rw [e1,e2]at this;exact yC this
    . have:=rJ O u;rw [e1,e2]at this;exact yC this
 let w0:World:={w with drawn:=w.drawn+1}
 have N:aO mu h w0:=rY s.hr rfl;have e0:Ext mu h w mu h w0:=uT s.hr rfl rfl rfl rfl;have al:pU cx.nr mu w0 L H 0:=⟨mu,w0,tmps,by grind,s.glob,by rw [ai];exact s.regs,by rw [K];exact Ext.refl mu h w0 N⟩;have Z: ∀i,i<=ops.size->pU cx.nr mu w0 L H i:=fun i V=>(shadow ok hc hcode D i V al).1;have dm: ∀j o,j<ops.size->ops[j]? =some o->Turn ops E X q H T j o:=fun j o hj I=>(shadow ok hc hcode D ops.size (Xe _) al).2 j o hj I;have an: ∀b,mu b≠ .none->b<(H 0).n:=by rw [K];exact s.hr.lt
 have aL: ∀b c f C,mu b=.blk c f C->c<w0.heap.size:=fun b c f C hm=>N.clt hm;have ad: ∀j,j<=ops.size->(H j).t.Sized (H j).n:=fun j hj=>by obtain⟨_,_,_,g,_⟩:=Z j hj;exact g.sized
 have a0:Inv E ops q L H X cx.nr mu w0 (fun _=>false) mu w0 tmps:=by
  obtain⟨c',d1,d2,d3,d4⟩:=next_W (E:=E) (ops:=ops) (q:=q) (X:=X) ops.size 0 (by omega);refine⟨⟨c',⟨d2,?_,fun i o V I hw=>absurd hw (d4 i o (Xv _) V I)⟩,?_⟩,s.glob,fun p ba _ b h1 h2=>?_,s.regs.size,fun i V t v a3 hv=>?_,by rw [K];exact WExt.refl N,fun p _ J=>by cases J⟩
  . grind
  . refine wZ (h:=H 0) (by grind) (ad c' d2) (eL dm d1 d2) (fun b Y=>stand dm d1 d2 (fun j oj h1 h2 a4=>?_) Y);grind[kinds,absurd]
  . exact N.none_ge (by
     have:=eL dm (Xv p) (by omega);grind)
  . have G:(L (0+i)).regs.get t=(L 0).regs.get t:=(by refine walk_eq (fun j=>(L j).regs.get t) (a:=0) i (fun j h1 h2=>?_);have a4:ops[j]? =some ops[j]:=zM (by omega);grind[rj]);rw [Xs]at G;rw [G,ai]at hv;exact s.regs.get t v hv
 obtain⟨S',r,w',d,g1,g2,g3⟩:=go_list ok hc hcode D dm Z an aL sm (tl:=tl) (F:=F) (dfs:=dfs) (k:=k) (cs:=aP B A) ls _ mu w0 tmps hg (fun i o _ J=>by cases J) a0;obtain⟨c,hC,hh⟩:=g1.c;have a5:c=ops.size:=by
  rcases hC.2.1 with e|⟨o,I,_,J⟩
  . exact e
  grind
 subst a5;rw [S]at hh;obtain⟨bb,wT,a6,t1,t2,t3,t4⟩:=Z ops.size (Xe _);rw [Q]at t3;rw [S]at t1 t4;have le:Le mu r:=by
  intro b Y;rcases g1.ext.old b (an b Y)with x|⟨_,x⟩
  . exact .inl x
  . exact .inr x
 have af: ∀i,i<=ops.size->(L i).dfs=l.dfs/\(L i).rc=l.rc:=by
  intro i
  induction i with
  |zero=>grind| succ i ih=>
    intro V;have:=ih (by omega);have J:=D.step i ops[i] (zM (by omega));generalize L (i+1)=L1 at J⊢;generalize H (i+1)=H1 at J;generalize T i=T1 at J;generalize X i=X1 at J;cases J with
    |skip hg=>grind[put_dfs,trans]|exec hg bc=>grind[put_dfs,trans]
 have hk:=af ops.size (Xe _);rw [Q]at hk;have ext:Ext mu h w0 r h' w':=by
  have W:=g1.ext;rw [K]at W t4;refine⟨t4.n,W.old,W.fresh,t4.lo,t4.same,W.frame,fun b c f C t sz el hm hg=>?_,W.wsize,W.os,W.tape,W.output,fun b h1 h2=>?_⟩
  . obtain⟨x,y⟩:=W.ro b c f C t sz el hm hg;exact⟨x,(t4.ro b c f C t sz el hm hg).2.1,y⟩
  . have bd: ∀i,i<=ops.size->b<(H i).n->r b≠ .none:=by
     intro i
     induction i with
     |zero=>grind| succ i ih=>
       intro V Y;by_cases be:b<(H i).n
       . grind
       . exact g1.cov i (by omega) (g2 i (by omega)) b (by omega) Y
    grind
 refine⟨r,w',d,⟨hh,g1.glob,⟨g1.size,t3.sized,fun i v hv=>?_⟩,?_,?_,s.ko,s.fn,s.rd.mono le,s.rn,s.fs⟩,Ext.trans e0 ext,g3⟩
 . refine g1.regs ops.size (Xe _) i v (fun p o I _=>?_) (by grind);grind
 . rw [hk.1];exact LR.mono s.dfs fun _ _=>mq.mono le
 . rw [hk.2];exact s.rc.mono le
include ok hc hcode in
theorem yv(cx:Cx)(a b:Array Oper)(B:b=a\/(∀(i:Nat),i<a.size->b[i]? =a[i]?)/\ ∀x∈a.toList,iH a.size x=true)(tl:List Nat)(l:Loc)(h:Hp)(l':Loc)(m:Hp)(q:Nat)(ps:List (Nat×Nat))(n:List (Nat×Tch))
 (o:jV E (bU a.toList)=some (q,ps)) (z:bI E R (bU a.toList) q (bU a.toList) 0 l h []=some (l',m,n)) (u:cG n ps=true)
 (mu:Mu) (w:World) (F:FC) (c:List Frame) (tmps:Array Value) (dfs:List Deferred) (d:Option (Value×Bool)) (k:List Item) (s:SR P cx l h mu w F c tmps dfs d) (t:Nat):
 ∃ g w' e,SR P cx l' m g w' F c e dfs d/\Ext mu h w g m w'/\
   Steps P (lone (F.mk' tmps dfs (.inRegion b (Region.linearise.go .any a a.size t (Xa a.size false) []++tl)::k)) (aP d c) {w with drawn:=w.drawn+1})
    (lone (F.mk' e dfs (.inRegion b tl::k)) (aP d c) w'):=by
 obtain⟨ops,v,C,G,f⟩:=yr a;have I:jm ops b v:=by
  rcases B with rfl|⟨J,K⟩
  . exact f.same
  . exact f.part J K
 rw [<-G]at o z;have j:(fun p=>bK (Xa a.size false) (v p))=fun _=>false:=by
  funext i;simp only [bK,zO,Xt]
  split<;>rfl
 obtain⟨M,y,_⟩:=plan_ok o;have A:=uW f y a.size t (Xa a.size false) (by simp [f.size]) (by rw [j,<-f.size];exact pA _);rw [j]at A;have r:=sj ok hc hcode cx ops b I _ A tl l h l' m q ps n o z u mu w F c tmps dfs d k s;rw [XQ,show(v∘C)=id from funext f.st,List.map_id]at r;exact r
include ok hc hcode in
theorem draw_ok:DrawOk E P R:=by
 intro n id a l h o p q ps r t u g v w F i d e f k s;have b:Region.schedule (P.follows .mixedOrders) a (w.tape w.drawn (.order F.fn id))=Region.linearise.go .any a a.size (w.tape w.drawn (.order F.fn id)) (Xa a.size false) []:=by rw [ok.mixed];rfl
 obtain⟨j,x,c,y,z,m⟩:=yv ok hc hcode n a a (.inl rfl) [] l h o p q ps r t u g v w F i d e f k s (w.tape w.drawn (.order F.fn id));rw [XI]at m;refine⟨j,x,c,e,f,y,z,Steps.trans (.one ?_) (Steps.trans m (.one oY))⟩;rw [<-b];rfl

theorem bef_bit{ops:Array Oper}{M:List Nat}(p: ∀i,qj ops.toList M i){S:Nat->Bool}{N:Nat}(r: ∀(i:Nat) o,i<N->ops[i]? =some o->S i=true-> ∀e∈o.after.toList,binds e=true->S e.on=true): ∀(n:Nat) (o:Oper) (m i:Nat),n<=N->ops[n]? =some o->M[n]? =some m->Ready o S->m.testBit i=true->S i=true:=by
 intro n
 induction n using Nat.strongRecOn with
 | _ n s=>
   intro o m i B t u v f;obtain⟨C,k,w,y⟩:=p n o (by grind);rw [u]at k;cases k;obtain⟨e,l,a,x⟩:=y i f;have b:=v e l a;rcases x with rfl|⟨m2,g,h⟩
   . exact b
   . have hlt:=w e l a;have z:n<ops.size:=(Array.getElem?_eq_some_iff.1 t).1;have c:ops[e.on]? =some ops[e.on]:=zM (by omega);exact s e.on hlt ops[e.on] m2 i (by omega) c g (fun A j d=>r e.on _ (by omega) c b A j d) h

theorem xQ(l:Array Bool)(i:Nat):(l.push false).getD i false=l.getD i false:=by simp only [zO,Xl];grind
theorem wj{ops A:Array Oper}{n:Nat}(c:A.size=n)(d:ops.size=n+1)(a: ∀i,i<n->ops[i]? =A[i]?)(l:Array Bool)(g:l.size=n):
 Region.ready .any ops (l.push false)=Region.ready .any A l++(if((ops[n]?).map (·.after.all fun e=>!Region.binds .any e||l.getD e.on false)).getD false=true then [n]else []):=by
 unfold Region.ready;rw [d,c,List.range_succ,List.filter_append];congr 1
 . refine List.filter_congr fun i f=>?_;have b:i<n:=List.mem_range.1 f;rw [a i b];simp only [xQ];congr 2;simp only [zO,Xl];grind
 . simp only [xQ];simp_all[zO,Xl,if_pos,List.filter_cons,List.filter_nil,Bool.not_false,Bool.true_and]

theorem lin_pop{ops A:Array Oper}{n:Nat}(v:A.size=n)(O:ops.size=n+1)(b: ∀i,i<n->ops[i]? =A[i]?){M:List Nat}(w: ∀i,qj ops.toList M i){x:Nat}(y:M[n]? =some x)(f: ∀i,i<n->x.testBit i=true):
 ∀ (a t:Nat) (l:Array Bool),l.size=n->(∀(i:Nat) o,i<n->ops[i]? =some o->bK l i=true-> ∀e∈o.after.toList,binds e=true->bK l e.on=true)->iW (bK l) n=a->
   Region.linearise.go .any ops (a+1) t (l.push false) []=Region.linearise.go .any A a t l []++[n]:=by
 have z:ops[n]? =some (ops[n]'(by omega)):=zM _;obtain⟨m0,k1,W,_⟩:=w n _ (by rw [Xh];exact z);have g: ∀(B:Array Oper) (a t:Nat) (l:Array Bool),Region.linearise.go .any B (a+1) t l []=(match(Region.ready .any B l)[t%(Region.ready .any B l).length]? with
  |some i=>Region.linearise.go .any B a (t/(Region.ready .any B l).length) (l.setIfInBounds i true) [i]|none=>[]):=fun _ _ _ _=>rfl
 intro a
 induction a with
 | zero=>
   intro t l s Q h;have U:=pJ h;have C:Region.ready .any A l=[]:=(by grind[Region.ready,List.filter_eq_nil_iff,bK,zO,zM]);have F:Region.ready .any ops (l.push false)=[n]:=by
    rw [wj v O b l s,C,z];simp only [Xn,Xx,XJ];rw [if_pos];refine Array.all_eq_true'.2 fun e u=>?_;cases d:Region.binds .any e with
    |false=>rfl| true=>have:=W e (by simpa using u) d;grind[bK]
   rw [g,F];simp [Region.linearise.go,Nat.mod_one]
 | succ a Y=>
   intro t l s Q h;have G:Region.ready .any ops (l.push false)=Region.ready .any A l:=(by rw [wj v O b l s,if_neg,XI];intro hc;obtain⟨p,I,Z,_⟩:=qh (S:=bK l) (n:=n) (by omega);have:bK l p=true:=(by refine bef_bit w Q n _ x p (Xe _) z y (fun e u d=>?_) (f p I);grind[XD,binds,bK]);grind);rw [g,g,G];have J:Region.ready .any A l≠ []:=by
    obtain⟨p,I,Z,p3⟩:=qh (S:=bK l) (n:=n) (by omega);have V:ops[p]? =some (ops[p]'(by omega)):=zM _;obtain⟨m,_,K,_⟩:=w p _ (by rw [Xh];exact V);have :p∈Region.ready .any A l:=by
     unfold Region.ready;simp only [XA,Xp,Xb,Xi];refine⟨by omega,?_,?_⟩
     . grind[bK,zO,zM]
     . rw [<-b p I,V];simp only [Xn,Xx];refine Array.all_eq_true'.2 fun e u=>?_;cases d:Region.binds .any e with
       |false=>rfl| true=>have:=p3 e.on (K e (by simpa using u) d);simpa [bK]using this
    grind
   have j:0<(Region.ready .any A l).length:=List.length_pos_iff.2 J;have hlt:=Nat.mod_lt t j;rw [Xk hlt];simp only [];generalize hi:(Region.ready .any A l)[t%(Region.ready .any A l).length]=i;have N:i∈Region.ready .any A l:=(by grind);have c:=N;unfold Region.ready at c;simp only [XA,Xp,Xb,Xi]at c;obtain⟨h1,h2,h3⟩:=c;rw [v]at h1;have ad:bK l i=false:=(by grind[bK,zO,zM]);have k:(l.push false).setIfInBounds i true=(l.setIfInBounds i true).push false:=(by grind);have r:=ur (listed:=l) (p:=i) (by omega);rw [linearise_go_acc,linearise_go_acc (acc:=[i]),List.append_assoc,k];rw [Y _ (l.setIfInBounds i true) (by simpa using s) ?_ ?_]
   . rw [r];grind[XD,binds,bK,j8,bJ]
   grind[rX,bK]

theorem ug{ops:Array Oper}{n:Nat}(w:ops.size=n+1)(a:lV ops.toList n=true)(t:Nat):Region.linearise.go .any ops (n+1) t (Xa (n+1) false) []=Region.linearise.go .any (ops.extract 0 n) n t (Xa n false) []++[n]:=by
 unfold lV at a;simp only [Xb]at a;obtain⟨b,j⟩:=a;unfold fullM at b;have e:ops.toList.length=ops.size:=by simp
 split at b
 next m f c=>
  obtain⟨k,_,g⟩:=tS _ _ _ c;simp only [List.length_nil,Xs]at k g;have l: ∀i,qj ops.toList (m::f).reverse i:=fun i o p=>g i o p;have r:(m::f).reverse[n]? =some m:=by grind
  have d: ∀i,i<n->m.testBit i=true:=fun i s=>List.all_eq_true.1 b i (List.mem_range.2 s);have u:(ops.extract 0 n).size=n:=by simp;omega
  have h: ∀i,i<n->ops[i]? =(ops.extract 0 n)[i]? :=by grind
  generalize ops.extract 0 n=A at*
  have v:bK (Xa n false)=fun _=>false:=by
   funext i;simp only [bK,zO,Xt]
   split<;>rfl
  rw [Array.replicate_succ];grind[lin_pop,pA]
 grind

include ok hc hcode in
theorem yw (cx:Cx) (id:Nat) (ops:Array Oper) (l:Loc) (h:Hp) (l':Loc) (j:Hp) (x:Ex) (mu:Mu) (w:World) (F:FC) (c:List Frame) (tmps:Array Value) (dfs:List Deferred) (d:Option (Value×Bool)) (k:List Item) (s:SR P cx l h mu w F c tmps dfs d) (n:Nat) (S:n<=ops.size) (o:(ops.toList.take n).all (iH n)=true)
 (a: ∀t,Region.linearise.go .any ops ops.size t (Xa ops.size false) []=Region.linearise.go .any (ops.extract 0 n) n t (Xa n false) []++XL n (ops.size-n))
 (b :(match jV E (bU (ops.toList.take n))with
   |none=>none| some (q,ps)=>match bI E R (bU (ops.toList.take n)) q (bU (ops.toList.take n)) 0 l h []with
     |none=>none|some (l',j,m)=>bif cG m ps then iB E R cx ops.toList (ops.toList.drop n) l' j else none)=some (x,l',j)):
 Sim P cx h mu w F c tmps dfs d (.code (.region id ops true)::k) k x l' j:=by
 have p:(ops.extract 0 n).toList=ops.toList.take n:=by simp
 have u:(ops.extract 0 n).size=n:=by simp;omega
 have e: ∀i,i<n->ops[i]? =(ops.extract 0 n)[i]? :=by grind
 rw [<-p]at b o;generalize ops.extract 0 n=A at*
 cases z:jV E (bU A.toList)with
 |none=>grind| some C=>
   obtain⟨q,ps⟩:=C;rw [z]at b;simp only []at b;cases B:bI E R (bU A.toList) q (bU A.toList) 0 l h []with
   |none=>grind| some G=>
     obtain⟨I,J,m⟩:=G;rw [B]at b;simp only []at b;cases f:cG m ps with
     |false=>grind| true=>
       rw [f]at b;simp only [cond_true]at b;have K:Region.schedule (P.follows .mixedOrders) ops (w.tape w.drawn (.order F.fn id))=Region.linearise.go .any A A.size (w.tape w.drawn (.order F.fn id)) (Xa A.size false) []++XL n (ops.size-n):=(by rw [ok.mixed,u];exact a _);obtain⟨N,U,v,O,Q,g⟩:=yv ok hc hcode cx A ops (.inr ⟨fun i V=>e i (by omega),fun x W=>by grind⟩) (XL n (ops.size-n)) l h I J q ps m z B f mu w F c tmps dfs d k s (w.tape w.drawn (.order F.fn id));have r:=ye ok hc hcode (ops:=ops) (k:=k) (ops.toList.drop n) n _ _ _ _ _ _ _ _ _ _ rfl O b;have y:(ops.toList.drop n).length=ops.size-n:=(by grind);rw [y]at r;refine Sim.pre (Steps.trans (.one ?_) g) Q r;grind[qK]

include ok hc hcode in
theorem CB (cx:Cx) (id:Nat) (ops:Array Oper) (l:Loc) (h:Hp) (l':Loc) (o:Hp) (x:Ex) (c:v8 E R cx ops.toList l h=some (x,l',o)) (mu:Mu) (w:World) (F:FC) (d:List Frame) (tmps:Array Value) (dfs:List Deferred) (e:Option (Value×Bool)) (k:List Item) (s:SR P cx l h mu w F d tmps dfs e):
 Sim P cx h mu w F d tmps dfs e (.code (.region id ops true)::k) k x l' o:=by
 unfold v8 at c;have A:ops.toList.length=ops.size:=by simp
 cases a:lV ops.toList (ops.toList.length-1)with
 |false=>grind| true =>
   rw [a]at c;simp only [cond_true]at c;have B:0<ops.size:=by
    rcases Nat.eq_zero_or_pos ops.size with i|i
    . have:ops.toList=[]:=(by grind);rw [this]at a;cases a
    . exact i
   obtain⟨n,C⟩: ∃n,ops.size=n+1:=⟨ops.size-1,by omega⟩;have p:ops.toList.length-1=n:=(by omega);unfold cutN at c;rw [p]at c a;have G:=ug C a;cases g:tail2 ops.toList&&lV (ops.toList.take n) (n-1)with
   | false=>
     rw [g]at c;refine yw ok hc hcode cx id ops l h l' o x mu w F d tmps dfs e k s n (by omega) (Bool.and_eq_true_iff.1 a).2 (fun t=>?_) c;rw [show ops.size-n=1 by omega];grind
   | true=>
     rw [g]at c;have b:lV (ops.toList.take n) (n-1)=true:=(Bool.and_eq_true_iff.1 g).2;have j:(ops.extract 0 n).toList=ops.toList.take n:=(by simp);have r:(ops.extract 0 n).size=n:=(by simp;omega);rw [<-j]at b;have I:0<n:=by
      rcases Nat.eq_zero_or_pos n with i|i
      . have:(ops.extract 0 n).toList=[]:=(by grind);rw [this]at b;cases b
      . exact i
     obtain⟨f,u⟩: ∃f,n=f+1:=⟨n-1,by omega⟩;have v:n-1=f:=(by omega);rw [v]at c b;have y:=ug (r.trans u) b;have m:=(Bool.and_eq_true_iff.1 b).2;have J:(ops.extract 0 n).extract 0 f=ops.extract 0 f:=(by grind);have z:(ops.extract 0 n).toList.take f=ops.toList.take f:=(by rw [j,List.take_take,XB (by omega)]);rw [J]at y;rw [z]at m;refine yw ok hc hcode cx id ops l h l' o x mu w F d tmps dfs e k s f (by omega) m (fun t=>?_) c;rw [show ops.size-f=2 by omega,C,G,u];rw [u]at y;rw [y];simp [XL]
end

end Go.Ab

namespace Go.Ab

def befL(x y:Nat):List Nat->Prop
 | []=>False|p::r=>p=x\/(p≠y/\befL x y r)
theorem befL_or{x y:Nat}: ∀{l:List Nat},x∈l->befL x y l\/befL y x l
 | [],h=>by cases h
 | p::r,h=>by
   by_cases a:p=x
   . exact .inl (.inl a)
   by_cases b:p=y
   . exact .inr (.inl b)
   rcases List.mem_cons.1 h with e|h
   . exact absurd e.symm a
   rcases befL_or (y:=y) h with h|h
   . exact .inl (.inr ⟨b,h⟩)
   . exact .inr (.inr ⟨a,h⟩)
theorem Aw{f:Nat->Nat}{x y:Nat}(a: ∀p,f p=f y->p=y): ∀{l:List Nat},befL x y l->befL (f x) (f y) (l.map f)
 | p::r,h=>by
   rcases h with h|⟨b,c⟩
   . exact .inl (by rw [h])
   . exact .inr ⟨fun e=>b (a _ e),Aw a c⟩
theorem Ae{ops:Array Oper}{i:Nat}(a:i<ops.size): ∀{l:List Nat} {S:Nat->Bool},oq ops S l->S i=false->i∈l
 | [],S,h,b=>by have:=h i a;grind| p::r,S,h,b=>by
   by_cases e:p=i
   . grind
   . exact Xf _ (Ae a h.2.2.2 (by rw [bJ S (Ne.symm e)];exact b))
theorem p9(os:List Oper)(k i:Nat):(mL os k)[i]? =(os[i]?).map (tie k i):=by unfold mL;grind
theorem zm(os:List Oper)(k:Nat):(mL os k).length=os.length:=by unfold mL;grind
theorem uD(k i:Nat)(o:Oper):(tie k i o).op=o.op/\(tie k i o).dst=o.dst/\(tie k i o).guard=o.guard:=by unfold tie;grind
theorem uR{ops:Array Oper}{k:Nat}: ∀{l:List Nat} {S:Nat->Bool},oq ops S l->(S k=true\/befL k (k+1) l)->oq (mL ops.toList k).toArray S l
 | [],S,h,_=>by intro i d;rw [List.size_toArray,zm]at d;exact h i (by simpa using d)| p ::r,S,h,a=>by
   obtain⟨m,n,q,s⟩:=h;refine⟨by rw [List.size_toArray,zm];simpa using m,n,fun o f=>?_,uR s ?_⟩
   . rw [XM,p9]at f;obtain⟨t,u,rfl⟩:=Option.map_eq_some_iff.1 f;have g:=q t (by grind);unfold tie;cases j:XC p (k+1)with
     |false=>exact g| true=>
       have j:=Xc j;intro e b c;simp only [cond_true,Array.toList_push,List.mem_append,List.mem_singleton]at b;rcases b with b|rfl
       . exact g e b c
       . rcases a with a|a|⟨a,_⟩
         . exact a
         . omega
         omega
   . by_cases e:k=p
     . subst e;exact .inl (fk S k)
     . rw [bJ S e];rcases a with a|a|⟨_,a⟩
       . exact .inl a
       . omega
       . exact .inr a
theorem zJ{ops b:Array Oper}{σ d:Nat->Nat}(a:Ord b ops σ d){M:List Nat}(f: ∀i,qj ops.toList M i): ∀{l:List Nat} {S:Nat->Bool},oq ops S l->oq b (fun p=>S (σ p)) (l.map d)
 | [],S,h=>fun i t=>h _ (by rw [<-a.size];exact(a.lt i).1 t)
 | p ::r,S,h=>by
   obtain⟨u,v,w,x⟩:=h;refine⟨(a.lt _).2 (by rw [a.st,a.size];exact u),by show S (σ (d p))=false;rw [a.st];exact v,fun o y e z c=>?_,?_⟩
   . obtain⟨j,k,_,_,_,A,_⟩:=a.op _ o y;rw [a.st]at k;obtain⟨g,n,B,C,F⟩:=A e z;rw [mw B]at c;have s:=w j k g n c;obtain⟨m,_,D,_⟩:=f p j (by grind);have hlt:g.on<b.size:=(by have:=D g n c;rw [a.size];omega);show S (σ e.on)=true;rw [C hlt,a.st];exact s
   . have:=zJ a f x;have s:(fun q=>j8 S p (σ q))=j8 (fun q=>S (σ q)) (d p):=by
      funext q;by_cases e:q=d p
      . subst e;rw [a.st,fk,fk]
      . rw [bJ _ e,bJ _ (by intro E;exact e (by rw [<-E,a.ts]))]
     grind
theorem jm.tie{ops b:Array Oper}{σ:Nat->Nat}(s:jm ops b σ)(k:Nat):jm (mL ops.toList k).toArray b σ:=by
 have c: ∀(p:Nat) (o:Oper),(mL ops.toList k).toArray[p]? =some o-> ∃a,ops[p]? =some a/\o.op=a.op/\o.dst=a.dst/\o.guard=a.guard:=by intro p o d;rw [XM,p9]at d;obtain⟨a,l,rfl⟩:=Option.map_eq_some_iff.1 d;grind[uD]
 refine⟨fun p o d=>?_,fun p o j e d m n=>?_⟩
 . obtain⟨a,f,g,h,i⟩:=c p o d;rw [g,h,i];exact s.op p a f
 . obtain⟨a,f,g,h,i⟩:=c p o d;refine s.no p a j e f (by grind) ?_;grind[p9]
theorem jm.comp{ops a b:Array Oper}{σ c f:Nat->Nat}(s:jm ops b σ)(e:Ord a ops c f):jm a b (σ∘c):=by
 refine⟨fun p o g=>?_,fun p o j d g l n=>?_⟩
 . obtain⟨h,i,q,r,k,_⟩:=e.op p o g;obtain⟨t,u,v,w,z⟩:=s.op _ h i;grind
 . obtain⟨h,i,_,_,k,_⟩:=e.op p o g;rcases k with⟨x,_⟩|⟨A,B,x,y⟩
   . grind
   . rw [l]at x;cases x;refine s.no _ h _ d i y (XK ?_);have m: ¬j<a.size:=(by grind);have:=mt (e.lt j).2 m;rw [<-e.size];omega
theorem xo(k i:Nat):swN k (swN k i)=i:=by grind[swN,cF]
theorem swN_lt{k n i:Nat}(a:k+1<n):swN k i<n↔i<n:=by grind[swN,cF]
theorem swN_ne{k i:Nat}(a:i≠k)(b:i≠k+1):swN k i=i:=by grind[swN,cF,decide_eq_false]
theorem swN_k(k:Nat):swN k k=k+1:=by unfold swN;simp_all
theorem swN_k1(k:Nat):swN k (k+1)=k:=by grind[swN,cF,decide_eq_false,Xj]
theorem uy(n k p:Nat):(ik n k)[p]? =if p<n then some (swN k p)else none:=by grind[ik,List.getElem?_range,List.getElem?_eq_none]
theorem Ax{n k:Nat}(b:k+1<n)(i:Nat):i∈ik n k↔i<n:=by
 unfold ik;simp only [XP,Xp];constructor
 . rintro⟨a,c,rfl⟩;exact(swN_lt b).2 c
 . intro h;exact⟨swN k i,(swN_lt b).2 h,xo k i⟩
theorem CX(n k:Nat):(ik n k).Nodup:=by unfold ik;rw [List.nodup_iff_pairwise_ne,List.pairwise_map];exact List.nodup_range.imp fun {a b} h e=>h (by rw [<-xo k a,e,xo])
theorem ord2_len(n k:Nat):(ik n k).length=n:=by unfold ik;simp

theorem te{E:Env}{R:Rec}{q:Nat}{ops ops':List Oper}: ∀(os a:List Oper) (i:Nat) (l:Loc) (h:Hp) (c:List (Nat×Tch)),os.map (fun o=>(o.op,o.dst))=a.map (fun o=>(o.op,o.dst))->(∀o∈os,o.guard=none)->(∀o∈a,o.guard=none)->
 bI E R ops q os i l h c=bI E R ops' q a i l h c
 | [],[],_,_,_,_,_,_,_=>rfl| [],_::_,_,_,_,_,b,_,_=>by simp at b|_::_,[],_,_,_,_,b,_,_=>by simp at b| o::os,o'::a,i,l,h,c,b,e,f=>by simp only [XE,List.cons.injEq,Prod.mk.injEq]at b;obtain⟨⟨g,j⟩,k⟩:=b;have m:=e o Xm;have n:=f o' Xm;have p:=fun i l h c=>te (E:=E) (R:=R) (q:=q) (ops:=ops) (ops':=ops') os a i l h c k (fun o d=>e o (Xf _ d)) (fun o d=>f o (Xf _ d));simp only [bI,cC,m,n,qZ g,g,j,p]
theorem pH{E:Env}{R:Rec}{q:Nat}{ops:List Oper}: ∀(xs ys:List Oper) (i:Nat) (l:Loc) (h:Hp) (a:List (Nat×Tch)),
 bI E R ops q (xs++ys) i l h a=(bI E R ops q xs i l h a).bind fun r=>bI E R ops q ys (i+xs.length) r.1 r.2.1 r.2.2
 | [],ys,i,l,h,a=>rfl| o ::xs,ys,i,l,h,a=>by
   have e: ∀n,i+1+n=i+(n+1):=fun n=>(by omega);simp only [Xy,bI,List.length_cons];cases cC ops l.regs o with
   |none=>rfl| some b=>
     cases b with
     |false=>simp only [];rw [pH xs ys,e]| true=>
       simp only [];cases cU E R (l.evD (tmpsOf o.op.operands.toList)) (eQ E q i o.op) o h with
       |none=>rfl|some r=>obtain⟨v,c⟩:=r;simp only [];rw [pH xs ys,e]

theorem yy{k:Value}(h:pY k=true):ce k k=some true:=by
 cases k<;>first|(cases h;done)|skip
 next a n=>
 have b:iS a a=true:=by cases a<;>rfl
 have c:iD n n=true:=by cases n<;>exact Xj _
 simp only [ce,b,c,cond_true]
theorem yu{k b v:Value}{c:Nat}: ∀{a:List (Value×Value×Nat)},ce k b=some false->aY k (a++[(b,v,c)])=aY k a
 | [],h=>by simp only [XJ,aY,h]|(d,e,n)::a,h=>by simp only [Xy,aY,yu h]
theorem sd{k v:Value}{c:Nat}(d:ce k k=some true): ∀{a:List (Value×Value×Nat)},aY k a=some none->aY k (a++[(k,v,c)])=some (some (v,c))
 | [],_=>by simp only [XJ,aY,d]| (f,g,n)::a,h=>by
   simp only [Xy,aY]at h⊢;cases e:ce k f with
   |none=>rw [e]at h;cases h
   | some b=>
     rw [e]at h;cases b with
     |true=>cases h
     |false=>exact sd d h
theorem sT{k a v:Value}: ∀{c:List (Value×Value×Nat)},ce k a=some false->aY k (jb a v c)=aY k c
 | [],_=>rfl| (k',v',n)::c,h=>by
   unfold jb;cases d:ce a k' with
   |none=>simp only [aY,sT h]| some b=>
     cases b with
     |true=>have:=mE d;subst this;simp only [aY,h]|false=>simp only [aY,sT h]
theorem sY{k v:Value}(c:ce k k=some true): ∀{a:List (Value×Value×Nat)} {u:Value×Nat},aY k a=some (some u)-> ∃n,aY k (jb k v a)=some (some (v,n))
 | [],_,h=>by cases h
 | (d,f,n)::a,u,h=>by
   simp only [aY]at h;unfold jb;cases e:ce k d with
   |none=>grind| some b=>
     rw [e]at h;cases b with
     |true=>exact⟨n,by simp only [aY,c]⟩| false=>simp_all[sY,aY]
def mput(k v:Value)(a:List (Value×Value×Nat))(c:Nat):List (Value×Value×Nat)×Nat:=match aY k a with
 |some (some _)=>(jb k v a,c)|_=>(a++[(k,v,c)],c+1)
theorem qV{k a v:Value}{b:List (Value×Value×Nat)}{c:Nat}(h:ce k a=some false):aY k (mput a v b c).1=aY k b:=by grind[mput,sT,yu]
theorem mput_eq{k v:Value}{a:List (Value×Value×Nat)}{c:Nat}(b:ce k k=some true)(h:aY k a≠none):(aY k (mput k v a c).1).map (XG XN)=some (some v):=by
 unfold mput;cases d:aY k a with
 |none=>grind| some u=>
   cases u with
   |none=>grind[sd]|some u=>simp only [];obtain⟨n,e⟩:=sY (v:=v) b d;rw [e];rfl
theorem px{E:Env}{h b:Hp}{ty:TypeId}{m k v:Value}:dZ E h ty m k v=some b↔ ∃r a c kt el,m=.map (some r)/\E.und ty=some (.map kt el)/\bD E kt k=true/\h.get r=some (.map a c)/\aY k a≠none/\b=h.put r (.map (mput k v a c).1 (mput k v a c).2):=by unfold dZ jy mput;grind
theorem Tr.set_set{a:Type}(t:Tr a)(i:Nat)(x y:a):(t.set i x).set i y=t.set i y:=by
 induction t generalizing i with
 |nil=>rfl| node z l r b c=>
   rw [Tr.set_node,Tr.set_node];cases i with
   |zero=>rfl| succ n=>
     simp only []
     split
     . simp_all[Tr.set_node,if_true]
     simp_all[Tr.set_node,if_false]
theorem tT(h:Hp)(b:Nat)(x y:Blk):(h.put b x).put b y=h.put b y:=by unfold Hp.put;simp only [Tr.set_set];congr 1;unfold dA;grind
theorem jc{h:Hp}{b:Nat}{x y:Blk}(a:h.get b=some y):(h.put b x).get b=some x:=by rw [Hp.get_put,if_pos ⟨rfl,by rw [a];rfl⟩]
theorem put_swap{E:Env}{h u p:Hp}{ty:TypeId}{m d k2 l e:Value}(I:pY d=true)(J:pY k2=true)(x:ce d k2=some false)(y:ce k2 d=some false)(z:dZ E h ty m d l=some u)(A:dZ E u ty m k2 e=some p):
 ∃ v w r b c es' c',dZ E h ty m k2 e=some v/\dZ E v ty m d l=some w/\m=.map (some r)/\p.get r=some (.map b c)/\w=p.put r (.map es' c')/\
   ∀kt el k,E.und ty=some (.map kt el)->bD E kt k=true->(aY k es').map (XG XN)=(aY k b).map (XG XN):=by
 obtain⟨r,b,c,kt,el,rfl,n,f,o,q,rfl⟩:=px.1 z;obtain⟨K,B,L,s,t,C,a,g,i,j,rfl⟩:=px.1 A;cases C;rw [n]at a;cases a;rw [jc o]at i;cases i;rw [qV y]at j;refine⟨_,_,r,_,_,(mput d l (mput k2 e b c).1 (mput k2 e b c).2).1,(mput d l (mput k2 e b c).1 (mput k2 e b c).2).2,px.2 ⟨r,b,c,kt,el,rfl,n,g,o,j,rfl⟩,
  px.2 ⟨r,_,_,kt,el,rfl,n,f,jc o,by rw [qV x];exact q,rfl⟩,rfl,jc (jc o),by rw [tT,tT,tT],?_⟩
 intro s t k a hf;rw [n]at a;cases a;obtain⟨D,F⟩:=rh hf f;obtain⟨G,H⟩:=rh hf g;cases D with
 | true=>grind[mE,mput_eq,yy,qV]| false=>
   cases G with
   | true=>grind[mE,qV,mput_eq,yy]|false=>grind[qV]
theorem uQ{E:Env}{R:Rec}{ops os:List Oper}{q i:Nat}{a:Oper}{l:Loc}{h:Hp}{d:List (Nat×Tch)}{t:Tmp}{ty:TypeId}{k:Value}{x:Operand}(c:a.op=.insert ty (.tmp t) (.const k) x)(g:a.dst=none)(j:a.guard=none)(m:pY k=true):
 bI E R ops q (a::os) i l h d=(dZ E h ty (l.ev (.tmp t)) k (l.ev x)).bind fun f=>bI E R ops q os (i+1) l f (g9 i d (match l.ev (.tmp t)with
  | .map (some r)=>some (.blk r)|_=>none)):=by
 have o:l.evD (tmpsOf a.op.operands.toList) (.tmp t)=l.ev (.tmp t):=by grind[Loc.evD,Op.operands,tmpsOf,nK,Xj]
 have p:l.evD (tmpsOf a.op.operands.toList) (.const k)=k:=by unfold Loc.evD Loc.ev;simp only [];cases k<;>first|(cases m;done)|rfl
 have s:l.evD (tmpsOf a.op.operands.toList) x=l.ev x:=by rw [c];unfold Loc.evD;cases x<;>simp [Op.operands,tmpsOf,nK,Xj]
 have n:eQ E q i a.op=false:=by unfold eQ;rw [c];show(q.testBit i&&false)=false;simp
 simp only [bI,cC,j,n,cU,cond_false];rw [show aop E (l.evD (tmpsOf a.op.operands.toList)) h a.op=fg (dZ E h ty (l.ev (.tmp t)) k (l.ev x)) by
  have: ∀b:Operand->Value,aop E b h (.insert ty (.tmp t) (.const k) x)=fg (dZ E h ty (b (.tmp t)) (b (.const k)) (b x)):=fun _=>rfl;grind]
 cases dZ E h ty (l.ev (.tmp t)) k (l.ev x)with
 |none=>rfl| some f=>
   simp only [fg,di,Xw,g];congr 1;congr 1;unfold cQ jG;have e: ∀b:Operand->Value,touch b a.op=(match b (.tmp t)with| .map r=>r|_=>none):=fun b=>(by rw [c];rfl);rw [show dM a.op=false by rw [c];rfl,show fo a.op=false by rw [c];rfl];grind
theorem note_read{E:Env}{ρ:Operand->Value}{b:Bool}{op:Op}{a c d e:Hp}(f:cls E op<=1):cQ ρ b op a c=cQ ρ b op d e:=by grind[cQ,kC,pj]
theorem yG {E:Env} {R:Rec} {ops:List Oper} {q:Nat} {t:Tmp} {ty:TypeId} {r:Nat} {C es':List (Value×Value×Nat)} {c c':Nat} {g:Hp} (G:g.get r=some (.map C c))
 (H: ∀kt el k,E.und ty=some (.map kt el)->bD E kt k=true->(aY k es').map (XG XN)=(aY k C).map (XG XN)):
 ∀ (os:List Oper) (i:Nat) (l:Loc) (u:List (Nat×Tch)) (l':Loc) (n:Hp) (b:List (Nat×Tch)),(∀o∈os,xh E ty t o=true/\o.guard=none)->bI E R ops q os i l g u=some (l',n,b)->
   n=g/\l'.ev (.tmp t)=l.ev (.tmp t)/\bI E R ops q os i l (g.put r (.map es' c')) u=some (l',g.put r (.map es' c'),b)
 | [],i,l,u,l',n,b,_,j=>by cases j;exact⟨rfl,rfl,rfl⟩
 | o :: os, i,l,u,l',n,b,D,j=>by
   obtain⟨w,x⟩:=D o Xm;unfold xh at w;simp only [Xb,Xi,Bool.or_eq_true]at w;have y:cls E o.op<=1:=by
    rcases w.2 with h|h
    . simp_all
    . unfold xx at h
      split at h
      . next e=>rw [e];exact Xe 1
      . cases h
   obtain⟨f,F,I,_⟩:=uP (E:=E) (op:=o.op) (ρ:=l.evD (tmpsOf o.op.operands.toList)) (by omega);have hf: ∀v,f g=some v->f (g.put r (.map es' c'))=some v:=by
    intro v a;rcases w.2 with h|h
    . rw [I (Xc h) _ g];exact a
    . unfold xx at h
      split at h
      next p m k z e=>
       have:=Xc h;subst this;have J: ∀h,f h=dE E h p (l.evD (tmpsOf o.op.operands.toList) m) (l.evD (tmpsOf o.op.operands.toList) k) z:=(by intro h;have:=F h;rw [e]at this;rw [e];exact yI this.symm);rw [J]at a⊢;generalize l.evD (tmpsOf o.op.operands.toList) m=Q at a⊢;generalize l.evD (tmpsOf o.op.operands.toList) k=K at a⊢;unfold dE at a⊢;cases L:E.und p with
       |none=>grind| some d=>
         rw [L]at a;cases d<;>(try (cases a;done))
         next kt el=>
          simp only []at a⊢;cases s:bD E kt K with
          |false=>grind| true=>rw [s]at a;simp only [cond_true]at a⊢;grind[jc,aY,dk]
      next=>cases h
   have M:eQ E q i o.op=false:=si y;simp only [bI,cC,x,M,cU,cond_false]at j⊢;rw [F]at j⊢;cases a:f g with
   |none=>rw [a]at j;cases j
   | some v=>
     rw [a]at j;rw [hf v a];simp only [cL,di]at j⊢;have A:=yG (c':=c') G H os (i+1) (l.put o.dst v) _ l' n b (fun o B=>D o (Xf _ B)) j;obtain⟨N,O,S⟩:=A;refine⟨N,O.trans ?_,?_⟩
     . have P:o.dst≠some t:=(by grind[rf,Xj]);grind[Loc.ev,m8]
     grind[note_read]
theorem fork_swap {E:Env} {R:Rec} {os:List Oper} {f q:Nat} {t:Tmp} (j:tM E os f=some t) {l l':Loc} {h h' h2:Hp} {tr:List (Nat×Tch)} (he:bI E R os q os 0 l h []=some (l',h',tr)) (hk:pI (some t) l' h'=some h2):
 f+2<os.length/\(∀o∈os,o.guard=none)/\ ∀o2:List Oper,o2.map (fun o=>(o.op,o.dst))=(ik os.length (f+1)).filterMap (fun i=>(os[i]?).map fun o=>(o.op,o.dst))->(∀o∈o2,o.guard=none)->
  ∃B,bI E R o2 q o2 0 l h []=some (l',B,tr)/\pI (some t) l' B=some h2:=by
 unfold tM at j
 split at j
 next m a b hm ha L=>
  split at j
  next C hd=>
   split at j
   next ta x tb y M N=>
    cases O:(isMk m.op&&(XC ta tb&&(tC x y&&(tC y x&&((os.drop (f+3)).all (xh E ta C)&&os.all fun o=>o.guard.isNone)))))with
    |false=>grind| true =>
      rw [O]at j;simp only [cond_true,Option.some.injEq]at j;subst j;simp only [Xb,Xq]at O;obtain⟨_,w,P,Q,A,ak⟩:=O;have w:=Xc w;subst w;have n: ∀o∈os,o.guard=none:=fun o J=>(by simp_all);have D:f+2<os.length:=(List.getElem?_eq_some_iff.1 L).1;refine⟨D,n,fun o2 S T=>?_⟩
      -- the parts
      have s:os=os.take (f+1)++a::b::os.drop (f+3):=(by grind[List.drop_eq_getElem_cons,XF,List.take_append_drop]);have F: ∀{o:Oper} {U:TypeId} {k:Value},insK C o=some (U,k)-> ∃z,o.op=.insert U (.tmp C) (.const k) z/\o.dst=none/\pY k=true:=by
       intro o U k h;unfold insK at h
       split at h
       next al V k' z W=>
        cases g:(XC V C&&(o.dst.isNone&&pY k'))with
        |false=>rw [g]at h;cases h
        | true=>
          rw [g]at h;cases h;simp only [Xb]at g;have:=Xc g.1;subst this;exact⟨z,W,by simpa using g.2.1,g.2.2⟩
       next=>cases h
      obtain⟨z1,p1,p2,p3⟩:=F M;obtain⟨z2,r1,r2,r3⟩:=F N;have G: ∀{u v:Value},tC u v=true->ce u v=some false:=by
       intro u v h;unfold tC at h
       split at h
       next bb an=>grind
       next=>cases h
      have X:=n a (Xg ha);have Y:=n b (Xg L)
      -- the run
      have e:=he;rw [show bI E R os q os 0 l h []=bI E R os q (os.take (f+1)++a::b::os.drop (f+3)) 0 l h [] by rw [<-s]]at e;rw [pH]at e;obtain⟨⟨l1,h1,aL⟩,s1,e⟩:=Option.bind_eq_some_iff.1 e;simp only []at e;rw [uQ p1 p2 X p3]at e;obtain⟨a0,s2,e⟩:=Option.bind_eq_some_iff.1 e;rw [uQ r1 r2 Y r3]at e;obtain⟨a1,s3,e⟩:=Option.bind_eq_some_iff.1 e;obtain⟨h3,h4,r,es,c,es',c',w1,w2,w3,w4,w5,w6⟩:=put_swap p3 r3 (G P) (G Q) s2 s3;obtain⟨k1,k2,k3⟩:=yG (t:=C) (es':=es') (c':=c') w4 w6 _ _ _ _ _ _ _ (fun o J=>⟨A o J,n o (List.mem_of_mem_drop J)⟩) e;refine⟨h4,?_,?_⟩
      . -- the other list
        have Z:o2.map (fun o=>(o.op,o.dst))=(os.take (f+1)++b::a::os.drop (f+3)).map (fun o=>(o.op,o.dst)):=by
         rw [S];have H: ∀p:Nat,((ik os.length (f+1)).filterMap (fun i=>(os[i]?).map fun o=>(o.op,o.dst)))[p]? =((os.take (f+1)++b::a::os.drop (f+3)).map (fun o=>(o.op,o.dst)))[p]? :=by
          intro p;have I:(ik os.length (f+1)).filterMap (fun i=>(os[i]?).map fun o=>(o.op,o.dst))=(ik os.length (f+1)).map (fun i=>(os.map (fun o=>(o.op,o.dst))).getD i (m.op,m.dst)):=by
           have ad: ∀(l:List Nat),(∀i∈l,i<os.length)->l.filterMap (fun i=>(os[i]?).map fun o=>(o.op,o.dst))=l.map (fun i=>(os.map (fun o=>(o.op,o.dst))).getD i (m.op,m.dst)):=by
            intro l
            induction l with
            |nil=>intro _;rfl| cons x l ih=>
              intro hx;have af:=hx x Xm;rw [XE,<-ih (fun i hi=>hx i (Xf _ hi))];simp [af]
           exact ad _ fun i hi=>(Ax (by omega) i).1 hi
          rw [I,List.getElem?_map,uy,List.getElem?_map];by_cases hp:p<os.length
          . rw [if_pos hp];simp only [Xn];rcases Xo p (f+1)with K|K|K
            . rw [swN_ne (by omega) (by omega),List.getElem?_append_left (by grind),List.getElem?_take,if_pos K];simp [hp]
            . subst K;rw [swN_k,Xr (by grind),XH,XB (by omega),Nat.sub_self];simp [L]
            . by_cases ai:p=f+2
              . subst ai;rw [swN_k1,Xr (by grind),XH,XB (by omega),show f+2-(f+1)=1 by omega];simp [ha]
              . rw [swN_ne (by omega) (by omega),Xr (by grind),XH,XB (by omega)];obtain⟨d,rfl⟩: ∃d,p=f+3+d:=⟨p-(f+3),by omega⟩;rw [show f+3+d-(f+1)=d+2 by omega,Xu,Xu,List.getElem?_drop];simp [hp]
          grind
         exact List.ext_getElem? H
        rw [te (ops':=os) o2 _ _ _ _ _ Z T (fun o J=>by
         grind)]
        grind[pH,uQ]
      grind[pI,jc,tT]
   next=>cases j
  next=>cases j
 next=>cases j

theorem tieL_sh(os:List Oper)(k:Nat):(mL os k).map (fun o=>(o.op,o.dst))=os.map (fun o=>(o.op,o.dst)):=by refine List.ext_getElem? fun i=>?_;grind[p9,uD]
theorem vI{os:List Oper}{k:Nat}(h: ∀o∈os,o.guard=none): ∀o∈mL os k,o.guard=none:=by intro o b;obtain⟨i,a⟩:=List.getElem?_of_mem b;rw [p9]at a;obtain⟨c,d,rfl⟩:=Option.map_eq_some_iff.1 a;grind[uD,Xg]
theorem uC(os:List Oper)(ord:List Nat): ∀(l:List Nat),(dW os ord l).map (fun o=>(o.op,o.dst))=l.filterMap fun i=>(os[i]?).map fun o=>(o.op,o.dst)
 | []=>rfl| i::l=>by
   unfold dW;rw [List.filterMap_cons];cases os[i]? with
   |none=>exact uC os ord l|some o=>simp only [XE,Xn,uC os ord l];rfl
theorem qH{os:List Oper}{ord:List Nat}(h: ∀o∈os,o.guard=none): ∀(l:List Nat),∀o∈dW os ord l,o.guard=none
 | [],o,a=>by cases a
 | i ::l,o,a=>by
   unfold dW at a;cases b:os[i]? with
   |none=>rw [b]at a;exact qH h l o a| some c=>
     rw [b]at a;rcases List.mem_cons.1 a with rfl|a
     . grind[Xg,nj]
     . exact qH h l o a
theorem yt{d:List (Nat×Tch)}: ∀{ps c:List (Nat×Nat)},cG d (ps++c)=true->cG d ps=true/\cG d c=true
 | [],_,h=>⟨rfl,h⟩| (i,j)::ps,c,h=>by simp only [Xy,cG,Xb]at h⊢;obtain⟨a,b⟩:=yt h.2;exact⟨⟨h.1,a⟩,b⟩
section
variable{E:Env}{P:Program}(ok:EOk E P){R:Rec}(hc:gK E P R.call)(hcode:jf P R.code)
theorem kill_sim{cx:Cx}{l:Loc}{h d:Hp}{mu:Mu}{w:World}{F:FC}{e:List Frame}{tmps:Array Value}{dfs:List Deferred}{f:Option (Value×Bool)}{t:Tmp}(s:SR P cx l h mu w F e tmps dfs f)(a:pI (some t) l h=some d):
 ∃g,SR P cx l d g w F e tmps dfs f/\Ext mu h w g d w:=by
 unfold pI at a;simp only []at a
 split at a
 next b i=>
  split at a
  next A c B=>
   cases a;have k: ∃m,au mu (.map (some b)) m:=by
    unfold Loc.ev at i;simp only []at i;cases q:l.regs.get t with
    |none=>grind|some v=>rw [q]at i;simp only []at i;subst i;obtain⟨m,_,x⟩:=s.regs.get t _ q;grind
   obtain⟨m,k⟩:=k;cases k with
   | map u=>
     unfold dQ at u;cases n:mu b with
     |none=>grind|dead=>have:=s.hr.dead b n;grind| blk r j p=>
       obtain⟨x,o,C,d,D⟩:=s.hr.blk b r j p n;obtain⟨y,z⟩:=oH s.hr n (by grind) (⟨rfl,d,fun _ _=>rfl,rfl,rfl,rfl⟩:WSet w w r o);refine⟨_,s.step y (fun G _=>?_),z⟩;grind[upd_same,aQ]
  next=>cases a
 next=>cases a

include ok hc hcode in
theorem forkD_sim(cx:Cx)(id:Nat)(ops:Array Oper)(l:Loc)(h:Hp)(l':Loc)(T:Hp)(x:Ex)(m:forkD E R ops.toList l h=some (x,l',T))(mu:Mu)(w:World)(F:FC)(g:List Frame)(tmps:Array Value)(dfs:List Deferred)(c:Option (Value×Bool))(k:List Item)(s:SR P cx l h mu w F g tmps dfs c):
 Sim P cx h mu w F g tmps dfs c (.code (.region id ops true)::k) k x l' T:=by
 unfold forkD at m;cases A:forkP E (bU ops.toList)with
 |none=>grind|some qp=>
 obtain⟨q,ps⟩:=qp;rw [A]at m;simp only []at m;cases U:bI E R (bU ops.toList) q (bU ops.toList) 0 l h []with
 |none=>grind|some r3=>
 obtain⟨l1,Z,tr⟩:=r3;rw [U]at m;simp only []at m;cases G:cG tr ps with
 |false=>grind|true=>
 rw [G]at m;simp only [cond_true]at m;obtain⟨a,v,V,hC,D⟩:=yr ops;rw [<-hC]at A U m;unfold forkP at A
 split at A
 next t ms q1 ad q2 af hT hB ai ak=>
  cases H:XC q1 q2 with
  |false=>grind|true=>
  rw [H]at A;cases A;have I:=Xc H;subst I;rw [hT]at m;cases hk:pI (some t) l1 Z with
  |none=>grind|some h2=>
  rw [hk]at m;cases m;obtain⟨J,u,al⟩:=fork_swap hT U hk;obtain⟨an,aL⟩:=yt G;obtain⟨_,_,g3⟩:=tS _ _ _ hB;simp only [List.length_nil,Xs]at g3;have z: ∀i,qj a.toList ms.reverse i:=fun i o ho=>g3 i o ho;generalize a6:pF a.toList=b at*
  have hn:a.toList.length=a.size:=by simp
  rw [hn]at J;have W:Region.schedule (P.follows .mixedOrders) ops (w.tape w.drawn (.order F.fn id))=Region.linearise.go .any ops ops.size (w.tape w.drawn (.order F.fn id)) (Xa ops.size false) []:=by rw [ok.mixed];rfl
  have K:(fun p=>bK (Xa ops.size false) (v p))=fun _=>false:=by
   funext i;simp only [bK,zO,Xt]
   split<;>rfl
  have X:=uW D z ops.size (w.tape w.drawn (.order F.fn id)) (Xa ops.size false) (by simp [D.size]) (by rw [K,<-D.size];exact pA _);rw [K]at X;generalize a3:Region.linearise.go .any ops ops.size (w.tape w.drawn (.order F.fn id)) (Xa ops.size false) []=j at*
  have L:(j.map V).map v=j:=by rw [XQ,show(v∘V)=fun i=>i from funext D.st];simp_all
  have M: ∀(Y:Hp),pI (some t) l' Y=some T->(∃B N d,SR P cx l' Y B N F g d dfs c/\Ext mu h w B Y N/\
   Steps P (lone (F.mk' tmps dfs (.inRegion ops (j++[])::k)) (aP c g) {w with drawn:=w.drawn+1}) (lone (F.mk' d dfs (.inRegion ops []::k)) (aP c g) N))->
   Sim P cx h mu w F g tmps dfs c (.code (.region id ops true)::k) k .normal l' T:=by
   rintro Y a0 ⟨B,N,d,s',e',st⟩;obtain⟨a1,s2,e2⟩:=kill_sim s' a0;rw [XI]at st;refine⟨a1,N,d,dfs,c,s2,Ext.trans e' e2,Steps.trans (.one ?_) (Steps.trans st (.one oY))⟩;grind[qK]
  have O:b+1∈j.map V:=Ae (by omega) X rfl;rcases befL_or (y:=b+1+1) O with hb|hb
  . refine M Z hk ?_;have r:=sj ok hc hcode cx (mL a.toList (b+1)).toArray ops (D.same.tie (b+1)) _ (uR X (.inr hb)) [] l h l' Z q ad tr ai
     (by rw [<-U];exact te _ _ _ _ _ _ (tieL_sh _ _) (vI u) u) an mu w F g tmps dfs c k s
    simp_all
  . have Q:b+1+1<a.toList.length:=(by rw [hn];omega);have C:=CX a.toList.length (b+1);have n:=zL a (ik a.toList.length (b+1)) (Ax Q) C (ord2_len _ _) (List.all_eq_true.2 fun o ho=>by unfold iH;rw [u o ho]);have pa:eU (b+1) (ik a.toList.length (b+1))=b+1+1:=uS C (by rw [uy,if_pos Q,swN_k1]);have pb:eU (b+1+1) (ik a.toList.length (b+1))=b+1:=uS C (by rw [uy,if_pos (by omega),swN_k]);obtain⟨h3,e3,k3⟩:=al (mL (dW a.toList (ik a.toList.length (b+1)) (ik a.toList.length (b+1))) (b+1)) (by rw [tieL_sh,uC]) (vI (qH u _));refine M h3 k3 ?_;have g2:=zJ n z X;generalize a4:(fun(p:Nat)=>((ik a.toList.length (b+1))[p]?).getD p)=σ2 at*
    generalize a5:(fun(i:Nat)=>if i<a.size then eU i (ik a.toList.length (b+1))else i)=τ2 at*
    have ta:τ2 (b+1)=b+1+1:=(by grind);have tb:τ2 (b+1+1)=b+1:=(by grind);have S:=Aw (f:=τ2) (fun p e=>by rw [<-n.st p,e,n.st]) hb;rw [ta,tb]at S;have r:=sj ok hc hcode cx (mL (dW a.toList (ik a.toList.length (b+1)) (ik a.toList.length (b+1))) (b+1)).toArray ops ((D.same.comp n).tie (b+1)) _ (uR g2 (.inr S)) [] l h l' h3 q af tr ak e3 aL mu w F g tmps dfs c k s;have a2:((j.map V).map τ2).map (v∘σ2)=j:=(by rw [XQ,show((v∘σ2)∘τ2)=v from funext fun i=>by show v (σ2 (τ2 i))=v i;rw [n.st]];exact L);simp_all
 next=>cases A
include ok hc hcode in
theorem An:uF E P R:=by intro f id b l h g i x j m w F c a d e k s;grind[cutD,hf,forkOk,forkD_sim,id,CB]
end

end Go.Ab

namespace Go.Ab

def RLe(R b:Rec):Prop:=(∀f a d h o,R.call f a d h=some o->b.call f a d h=some o)/\(∀e c l h o,R.code e c l h=some o->b.code e c l h=some o)
def pL{b:Type}(F:Rec->Option b):Prop:= ∀R a,RLe R a-> ∀o,F R=some o->F a=some o
theorem pL.const{a:Type}(x:Option a):pL (fun _=>x):=fun _ _ _ _ h=>h
theorem pL.bind{c f:Type}{F:Rec->Option c}{G:c->Rec->Option f}(g:pL F)(i: ∀a,pL (G a)):pL (fun R=>(F R).bind fun a=>G a R):=by
 intro R d e o h;simp only []at h⊢;cases b:F R with
 |none=>rw [b]at h;cases h
 | some a=>rw [b]at h;rw [g R d e a b];exact i a R d e o h

theorem RLe.refl(R:Rec):RLe R R:=⟨fun _ _ _ _ _ h=>h,fun _ _ _ _ _ h=>h⟩
theorem RLe.trans{a b c:Rec}(h:RLe a b)(k:RLe b c):RLe a c:=⟨fun f x g d o e=>k.1 _ _ _ _ _ (h.1 _ _ _ _ _ e),fun i x l d o e=>k.2 _ _ _ _ _ (h.2 _ _ _ _ _ e)⟩

def MC(E:Env)(W:Rec){a:Type}(F:Rec->Option a):Prop:=pL F/\ ∀o,F W=some o-> ∃n,F (run E n)=some o

section
variable{E:Env}{W:Rec}
theorem MC.const{a:Type}(x:Option a):MC E W (fun _=>x):=⟨.const x,fun _ h=>⟨0,h⟩⟩
theorem MC.bind(e: ∀n m,n<=m->RLe (run E n) (run E m)){f g:Type}{F:Rec->Option f}{G:f->Rec->Option g}(b:MC E W F)(c: ∀a,MC E W (G a)):MC E W (fun R=>(F R).bind fun a=>G a R):=by
 refine⟨b.1.bind fun a=>(c a).1,fun o h=>?_⟩;simp only []at h;cases d:F W with
 |none=>rw [d]at h;cases h
 | some a=>
   rw [d]at h;obtain⟨n,i⟩:=b.2 a d;obtain⟨m,j⟩:=(c a).2 o h;refine⟨n+m,?_⟩;simp only [];rw [b.1 _ _ (e n (n+m) (by omega)) a i];exact(c a).1 _ _ (e m (n+m) (by omega)) o j
theorem MC.congr{a:Type}{F F':Rec->Option a}(e: ∀R,F' R=F R)(h:MC E W F):MC E W F':=by have:F'=F:=funext e;rw [this];exact h
end

section
variable(E:Env)
structure Closed(E:Env)(K: ∀{α:Type},(Rec->Option α)->Prop):Prop where
 const: ∀{α:Type} (x:Option α),K (fun _=>x)
 bind: ∀{α β:Type} {F:Rec->Option α} {G:α->Rec->Option β},K F->(∀a,K (G a))->K (fun R=>(F R).bind fun a=>G a R)
 congr: ∀{α:Type} {F F':Rec->Option α},(∀R,F' R=F R)->K F->K F'
 call: ∀f a rc h,K (fun R=>R.call f a rc h)
 code: ∀cx c l h,K (fun R=>R.code cx c l h)
end

section
variable{E:Env}{K: ∀{α:Type},(Rec->Option α)->Prop}(C:Closed E K)
include C

theorem k_round (b:Nat) (args:List Value) (h:Hp):K (fun R=>jr E R b args h):=by
 unfold jr;cases m:h.get b with
 |none=>exact C.const _| some x =>
   cases x<;>(try exact C.const _);rename_i r;simp only [];cases(E.fn r.fn).isSome with
   |false=>exact C.const _| true =>
     simp only [cond_true]
     split
     next l =>
      split
      next=>exact C.const _
      next c i=>
       refine C.congr (F:=fun R=>(R.code ⟨r.fn,r.nr,some b⟩ r.assign ⟨c,[],none⟩ h).bind fun q=>match q with
        | (.normal,g,d)=>match d.get b with
          | some (.loop e)=>match e.st with
            | 0 =>(R.code ⟨r.fn,r.nr,some b⟩ r.body g (d.put b (.loop {e with st:=1}))).bind fun q=>match q with
              | (.normal,_,a)=>match a.get b with
                |some (.loop f)=>some (.ret (.bool true),a.put b (.loop {f with st:=0,pending:=none}))
                |_=>none
              | (.exit id,_,a)=>match a.get b with
                |some (.loop f)=>some (.ret (.bool false),a.put b (.loop {f with st:=2,pending:=some (.exit id)}))
                |_=>none
              | (.ret,_,a)=>match a.get b with
                |some (.loop f)=>some (.ret (.bool false),a.put b (.loop {f with st:=2,pending:=some .ret}))
                |_=>none
              | (.pan v,j,a)=>match j.dfs with
                | []=>some (.pan v,a)|_=>none
            |_=>none
          |_=>none
        |_=>none) ?_ ?_
       . intro R;cases R.code ⟨r.fn,r.nr,some b⟩ r.assign ⟨c,[],none⟩ h with
         |none=>rfl| some q=>
           obtain⟨x,g,d⟩:=q;cases x<;>(try rfl);simp only [Xw];cases d.get b with
           |none=>rfl| some y=>
             cases y<;>(try rfl);rename_i e;simp only [];cases k:e.st with
             | zero=>
               simp only [];cases R.code ⟨r.fn,r.nr,some b⟩ r.body g (d.put b (.loop {e with st:=1}))with
               |none=>rfl|some q=>obtain⟨x,j,a⟩:=q;cases x<;>rfl
             |succ n=>rfl
       . refine C.bind (C.code _ _ _ _) fun q=>?_;obtain⟨x,g,d⟩:=q;cases x<;>(try exact C.const _);simp only [];cases d.get b with
         |none=>exact C.const _| some y=>
           cases y<;>(try exact C.const _);simp only []
           split
           . refine C.bind (C.code _ _ _ _) fun q=>?_;exact C.const _
           . exact C.const _
     next=>exact C.const _

theorem xJ(x:Option (dH×Hp)):K (fun R=>di E R x):=by
 cases x with
 |none=>exact C.const _| some q=>
   obtain⟨e,h⟩:=q;cases e<;>(try exact C.const _)
   . rename_i f d;refine C.congr (F:=fun R=>(R.call f d none h).bind fun q=>some (q.1,q.2.2)) (fun R=>?_) (C.bind (C.call _ _ _ _) fun _=>C.const _);simp only [di];cases R.call f d none h with
     |none=>rfl|some q=>obtain⟨a,b,c⟩:=q;rfl
   . exact k_round C _ _ _

theorem k_stepOp(cx:Cx)(o:Oper)(l:Loc)(h:Hp):K (fun R=>eh E R cx o l h):=by
 unfold eh;have a:K (fun R=>nY o l (di E R (aop E l.ev h o.op))):=by refine C.congr (F:=fun R=>(di E R (aop E l.ev h o.op)).bind fun q=>nY o l (some q)) (fun R=>?_) (C.bind (xJ C _) fun _=>C.const _);cases di E R (aop E l.ev h o.op)<;>rfl
 cases b:aop E l.ev h o.op with
 |none=>exact C.const _| some q=>
   rw [b]at a;obtain⟨c,d⟩:=q;cases c<;>(try exact a)
   . cases cx.round<;>exact C.const _
   . cases cx.round<;>exact C.const _

theorem tU (cx:Cx) (ops:List Oper): ∀(os:List Oper) (l:Loc) (h:Hp),K (fun R=>iB E R cx ops os l h)
 | [],l,h=>C.const _| o :: os,l,h=>by
   simp only [iB];cases cC ops l.regs o with
   |none=>exact C.const _| some b=>
     cases b with
     |false=>exact tU cx ops os _ _| true=>
       refine C.congr (F:=fun R=>(eh E R cx o l h).bind fun q=>match q with
        |(.normal,l',a)=>iB E R cx ops os l' a|q=>some q) (fun R=>?_) (C.bind (k_stepOp C _ _ _ _) fun q=>?_)
       . cases eh E R cx o l h with
         |none=>rfl|some q=>obtain⟨x,l',a⟩:=q;cases x<;>rfl
       . obtain⟨x,l',a⟩:=q;cases x<;>first|exact tU cx ops os _ _|exact C.const _

theorem k_stepD(ρ:Operand->Value)(a:Bool)(o:Oper)(h:Hp):K (fun R=>cU E R ρ a o h):=by
 unfold cU;cases a with
 | true=>
   refine C.congr (F:=fun R=>(di E R (aop E ρ {h with lo:=h.n} o.op)).bind fun q=>match q with
    |(.ret v,b)=>bif Nat.ble h.n b.lo then some (v,{b with lo:=h.lo})else none
    |_=>none) (fun R=>?_) (C.bind (xJ C _) fun _=>C.const _)
   simp only [cond_true];cases di E R (aop E ρ {h with lo:=h.n} o.op)with
   |none=>rfl|some q=>obtain⟨x,b⟩:=q;cases x<;>rfl
 | false=>
   refine C.congr (F:=fun R=>(di E R (aop E ρ h o.op)).bind fun q=>match q with
    |(.ret v,b)=>some (v,b)|_=>none) (fun R=>?_) (C.bind (xJ C _) fun _=>C.const _)
   simp only [cond_false];cases di E R (aop E ρ h o.op)with
   |none=>rfl|some q=>obtain⟨x,b⟩:=q;cases x<;>rfl

theorem pZ (ops:List Oper) (q:Nat): ∀(os:List Oper) (i:Nat) (l:Loc) (h:Hp) (c:List (Nat×Tch)),K (fun R=>bI E R ops q os i l h c)
 | [],i,l,h,c=>C.const _| o :: os,i,l,h,c=>by
   simp only [bI];cases cC ops l.regs o with
   |none=>exact C.const _| some b=>
     cases b with
     |false=>exact pZ ops q os _ _ _ _| true=>
       refine C.congr (F:=fun R=>(cU E R (l.evD (tmpsOf o.op.operands.toList)) (eQ E q i o.op) o h).bind fun p=>
        bI E R ops q os (i+1) (l.put o.dst p.1) p.2 (g9 i c (cQ (l.evD (tmpsOf o.op.operands.toList)) (eQ E q i o.op) o.op h p.2))) (fun R=>?_) (C.bind (k_stepD C _ _ _ _) fun q=>pZ ops _ os _ _ _ _)
       cases cU E R (l.evD (tmpsOf o.op.operands.toList)) (eQ E q i o.op) o h with
       |none=>rfl|some p=>obtain⟨a,b⟩:=p;rfl

theorem k_range (cx:Cx) (f:Value) (params:Array Tmp) (assign body:Code) (l:Loc) (h:Hp):K (fun R=>iM R cx f params assign body l h):=by
 unfold iM;cases f<;>(try exact C.const _);rename_i t a b;cases t<;>(try exact C.const _);rename_i g;simp only []
 split
 . exact C.const _
 . rename_i e d c _;refine C.congr (F:=fun R=>(R.call g (a.toList++[.func (.yield e.n) #[] #[]]++b.toList) none
    (e.new (.loop {fn:=cx.fn,regs:=l.regs,nr:=cx.nr,params,assign,body,st:=0,pending:=none,defers:=d}))).bind fun q=>match q with
    |(.pan v,_,i)=>some (.pan v,{l with dfs:=c},i)
    | (.ret _,_,i)=>match i.get e.n with
      | some (.loop x)=>match x.st with
        |1=>none| _=>match x.pending with
          |none=>some (.normal,{l with dfs:=c},i.put e.n .dead)
          |some (.exit id)=>some (.exit id,{l with dfs:=c},i.put e.n .dead)
          |some .ret=>some (.ret,{l with dfs:=c},i.put e.n .dead)
          |_=>none
      |_=>none) (fun R=>?_) (C.bind (C.call _ _ _ _) fun _=>C.const _)
   cases R.call g (a.toList++[.func (.yield e.n) #[] #[]]++b.toList) none
         (e.new (.loop {fn:=cx.fn,regs:=l.regs,nr:=cx.nr,params,assign,body,st:=0,pending:=none,defers:=d}))with
   |none=>rfl|some q=>obtain⟨x,y,z⟩:=q;cases x<;>rfl

theorem k_code(cx:Cx): ∀(c:Code) (l:Loc) (h:Hp),K (fun R=>aI E R cx c l h):=by
 intro c
 induction c with
 |skip=>intro l h;exact C.const _|label n=>intro l h;exact C.const _| region id d r=>
   intro l h;simp only [aI];cases r with
   |false=>exact tU C _ _ _ _ _| true=>
     simp only [cond_true];cases E.cut cx.fn with
     | false=>
       simp only [cond_false];cases jV E (bU d.toList)with
       |none=>exact C.const _| some p=>
         obtain⟨q,o⟩:=p;simp only [];refine C.congr (F:=fun R=>(bI E R (bU d.toList) q (bU d.toList) 0 l h []).bind fun x=>bif cG x.2.2 o then some (.normal,x.1,x.2.1)else none) (fun R=>?_) (C.bind (pZ C _ _ _ _ _ _ _) fun _=>C.const _);cases bI E R (bU d.toList) q (bU d.toList) 0 l h []with
         |none=>rfl|some x=>obtain⟨a,b,c⟩:=x;rfl
     | true =>
       simp only [cond_true,cutD];cases forkOk E d.toList with
       | true=>
         simp only [cond_true,forkD];cases forkP E (bU d.toList)with
         |none=>exact C.const _| some p=>
           obtain⟨q,o⟩:=p;simp only [];refine C.congr (F:=fun R=>(bI E R (bU d.toList) q (bU d.toList) 0 l h []).bind fun x=>bif cG x.2.2 o then(match pI (tM E (bU d.toList) (pF (bU d.toList))) x.1 x.2.1 with
            |some y=>some (.normal,x.1,y)|none=>none)else none) (fun R=>?_) (C.bind (pZ C _ _ _ _ _ _ _) fun _=>C.const _)
           cases bI E R (bU d.toList) q (bU d.toList) 0 l h []with
           |none=>rfl|some x=>obtain⟨a,b,c⟩:=x;rfl
       |false=>
       simp only [cond_false,v8];cases lV d.toList (d.toList.length-1)with
       |false=>exact C.const _| true=>
         simp only [cond_true];generalize bU (d.toList.take (cutN d.toList))=A;cases jV E A with
         |none=>exact C.const _| some p=>
           obtain⟨q,o⟩:=p;simp only [];refine C.congr (F:=fun R=>(bI E R A q A 0 l h []).bind fun x=>bif cG x.2.2 o then iB E R cx d.toList (d.toList.drop (cutN d.toList)) x.1 x.2.1 else none) (fun R=>?_) (C.bind (pZ C _ _ _ _ _ _ _) fun x=>?_)
           . cases bI E R A q A 0 l h []with
             |none=>rfl|some x=>obtain⟨a,b,c⟩:=x;rfl
           . cases cG x.2.2 o with
             |false=>exact C.const _|true=>exact tU C _ _ _ _ _
 | seq a b j k=>
   intro l h;simp only [aI];refine C.congr (F:=fun R=>(aI E R cx a l h).bind fun q=>match q with
    |(.normal,e,g)=>aI E R cx b e g|q=>some q) (fun R=>?_) (C.bind (j _ _) fun q=>?_)
   . cases aI E R cx a l h with
     |none=>rfl|some q=>obtain⟨x,e,g⟩:=q;cases x<;>rfl
   . obtain⟨x,e,g⟩:=q;cases x<;>first|exact k _ _|exact C.const _
 | cond c a b j k=>
   intro l h;simp only [aI];cases l.ev c<;>(try exact C.const _);rename_i t;cases t
   . exact k _ _
   . exact j _ _
 | block id b s=>
   intro l h;simp only [aI];refine C.congr (F:=fun R=>(aI E R cx b l h).bind fun q=>match q with
    |(.exit i,e,g)=>bif XC i id then some (.normal,e,g)else some (.exit i,e,g)
    |q=>some q) (fun R=>?_) (C.bind (s _ _) fun _=>C.const _)
   cases aI E R cx b l h with
   |none=>rfl|some q=>obtain⟨x,e,g⟩:=q;cases x<;>rfl
 | loop b s=>
   intro l h;simp only [aI];refine C.congr (F:=fun R=>(aI E R cx b l h).bind fun q=>match q with
    |(.normal,e,g)=>R.code cx (.loop b) e g|q=>some q) (fun R=>?_) (C.bind (s _ _) fun q=>?_)
   . cases aI E R cx b l h with
     |none=>rfl|some q=>obtain⟨x,e,g⟩:=q;cases x<;>rfl
   . obtain⟨x,e,g⟩:=q;cases x<;>first|exact C.code _ _ _ _|exact C.const _
 |rangeFunc f u v w _ _=>intro l h;exact k_range C _ _ _ _ _ _ _|exit id=>intro l h;exact C.const _|scope b s=>intro l h;exact s _ _|goto n=>intro l h;exact C.const _|ret=>intro l h;exact C.const _|refuse m=>intro l h;exact C.const _

theorem pT : ∀(e:List Deferred) (m:Option Value) (h:Hp),K (fun R=>cB R e m h)
 | [],m,h=>C.const _| d :: e,m,h=>by
   simp only [cB];cases d.target with
   |nil=>exact C.const _|builtin a b c d=>exact C.const _|coroexit=>exact C.const _| collected b=>
     simp only [];cases h.get b with
     |none=>exact C.const _|some x=>cases x<;>first|exact pT e _ _|exact C.const _
   | fn t cap=>
     cases t<;>(try exact C.const _);rename_i f;simp only [];refine C.congr (F:=fun R=>(R.call f (d.args.toList++cap.toList) (match m with|none=>none|some v=>some (v,false)) h).bind fun q=>match q with
      | (.ret _,g,i)=>match m,g with
        |none,none=>cB R e none i|some _,some (_,true)=>cB R e none i|some _,some (v,false)=>cB R e (some v) i|_,_=>none
      |_=>none) (fun R=>?_) (C.bind (C.call _ _ _ _) fun q=>?_)
     . cases R.call f (d.args.toList++cap.toList) (match m with|none=>none|some v=>some (v,false)) h with
       |none=>rfl|some q=>obtain⟨x,y,z⟩:=q;cases x<;>rfl
     . obtain⟨x,g,i⟩:=q;cases x with
       |pan v=>exact C.const _| ret v=>
         simp only [];cases m with
         |none=>cases g<;>first|exact pT e _ _|exact C.const _
         | some j=>
           cases g with
           |none=>exact C.const _|some y=>obtain⟨k,b⟩:=y;cases b<;>exact pT e _ _

theorem k_body (f:FuncId) (args:List Value) (i:Option (Value×Bool)) (h:Hp):K (fun R=>j7 E R f args i h):=by
 unfold j7;cases E.fn f with
 |none=>exact C.const _| some b =>
   simp only [];cases b.body with
   |none=>exact C.const _| some e=>
     simp only [];cases Nat.ble args.length b.ntmps with
     |false=>exact C.const _| true =>
       simp only [cond_true];have g: ∀(l:Loc) (c:Hp),K (fun R=>match cB R l.dfs none c with
        | some (none,a)=>match bH E l.regs a b.results.toList with
          |none=>none|some d=>some (Out.ret (ab d),l.rc,a)
        |_=>none):=by
        intro l c;refine C.congr (F:=fun R=>(cB R l.dfs none c).bind fun q=>match q with
         | (none,a)=>match bH E l.regs a b.results.toList with
           |none=>none|some d=>some (Out.ret (ab d),l.rc,a)
         |_=>none) (fun R=>?_) (C.bind (pT C _ _ _) fun _=>C.const _)
        cases cB R l.dfs none c with
        |none=>rfl|some q=>obtain⟨x,y⟩:=q;cases x<;>rfl
       refine C.congr (F:=fun R=>(R.code ⟨f,b.ntmps,none⟩ e ⟨(Tr.blank (.tuple #[]) b.ntmps b.ntmps).setAll 0 args,[],i⟩ h).bind fun q=>match q with
        |(.exit _,_,_)=>none| (.pan v,l,c)=>match cB R l.dfs (some v) c with
          |none=>none|some (some v,a)=>some (Out.pan v,l.rc,a)| some (none,a)=>match bH E l.regs a b.results.toList with
            |none=>none|some d=>some (Out.ret (ab d),l.rc,a)
        | (_,l,c)=>match cB R l.dfs none c with
          | some (none,a)=>match bH E l.regs a b.results.toList with
            |none=>none|some d=>some (Out.ret (ab d),l.rc,a)
          |_=>none) (fun R=>?_) (C.bind (C.code _ _ _ _) fun q=>?_)
       . cases R.code ⟨f,b.ntmps,none⟩ e ⟨(Tr.blank (.tuple #[]) b.ntmps b.ntmps).setAll 0 args,[],i⟩ h with
         |none=>rfl|some q=>obtain⟨x,y,z⟩:=q;cases x<;>rfl
       . obtain⟨x,l,c⟩:=q;cases x with
         |exit id=>exact C.const _|normal=>exact g l c|ret=>exact g l c| pan v=>
           simp only [];refine C.congr (F:=fun R=>(cB R l.dfs (some v) c).bind fun q=>match q with
            |(some v,a)=>some (Out.pan v,l.rc,a)| (none,a)=>match bH E l.regs a b.results.toList with
              |none=>none|some d=>some (Out.ret (ab d),l.rc,a)) (fun R=>?_) (C.bind (pT C _ _ _) fun _=>C.const _)
           cases cB R l.dfs (some v) c with
           |none=>rfl|some q=>obtain⟨x,y⟩:=q;cases x<;>rfl
theorem k_call(f:FuncId)(args:List Value)(a:Option (Value×Bool))(h:Hp):K (fun R=>iO E R f args a h):=by
 unfold iO;cases E.orc f args with
 |none=>exact k_body C f args a h|some v=>cases a<;>exact C.const _
end

theorem jK(E:Env):Closed E (fun F=>pL F)where
 const:=pL.const
 bind:=fun hF hG=>hF.bind hG
 congr:=fun e h=>by have:=funext e;rw [this];exact h
 call:=fun f a rc h R R' le o=>le.1 f a rc h o
 code:=fun cx c l h R R' le o=>le.2 cx c l h o

theorem next_mono{E:Env}{R b:Rec}(h:RLe R b):RLe (next E R) (next E b):=
 ⟨fun f a g d o e=>k_call (jK E) f a g d R b h o e,fun i c l d o e=>k_code (jK E) i c l d R b h o e⟩
theorem AV{E:Env}: ∀n,RLe (run E n) (run E (n+1))
 | 0=>by
   constructor
   . intro f a b h o e;cases e
   . intro d c l h o e;cases e
 |n+1=>next_mono (AV n)
theorem run_up{E:Env}(n m:Nat)(h:n<=m):RLe (run E n) (run E m):=by
 induction m with
 | zero => have:n=0:=by omega
           subst this;exact RLe.refl _
 | succ m a=>
   by_cases e:n=m+1
   . subst e;exact RLe.refl _
   . exact(a (by omega)).trans (AV m)

open Classical in
noncomputable def limOf{a:Type}(F:Nat->Option a):Option a:=if h: ∃n o,F n=some o then some (Classical.choose (Classical.choose_spec h))else none
theorem vU{d:Type}{F:Nat->Option d}(e: ∀n m,n<=m-> ∀o,F n=some o->F m=some o){o:d}:limOf F=some o↔ ∃n,F n=some o:=by
 constructor
 . intro h;unfold limOf at h
   split at h
   . rename_i c;cases h;exact⟨_,Classical.choose_spec (Classical.choose_spec c)⟩
   . cases h
 . intro⟨n,h⟩;unfold limOf;have c: ∃n o,F n=some o:=⟨n,o,h⟩;rw [dif_pos c];have f:=Classical.choose_spec (Classical.choose_spec c);have a:=e _ (n+Classical.choose c) (by omega) _ h;have b:=e _ (n+Classical.choose c) (by omega) _ f;rw [a]at b;cases b;rfl

noncomputable def lim(E:Env):Rec where
 call:=fun f a rc h=>limOf fun n=>(run E n).call f a rc h
 code:=fun cx c l h=>limOf fun n=>(run E n).code cx c l h
theorem pV{E:Env}{f:FuncId}{a:List Value}{c:Option (Value×Bool)}{h:Hp}{o:Out×Option (Value×Bool)×Hp}:(lim E).call f a c h=some o↔ ∃n,(run E n).call f a c h=some o:=
 vU fun n m b o e=>(run_up n m b).1 _ _ _ _ _ e
theorem rF{E:Env}{cx:Cx}{c:Code}{l:Loc}{h:Hp}{o:Ex×Loc×Hp}:(lim E).code cx c l h=some o↔ ∃n,(run E n).code cx c l h=some o:=
 vU fun n m a o e=>(run_up n m a).2 _ _ _ _ _ e
theorem run_lim{E:Env}(n:Nat):RLe (run E n) (lim E):=⟨fun _ _ _ _ _ h=>pV.2 ⟨n,h⟩,fun _ _ _ _ _ h=>rF.2 ⟨n,h⟩⟩

theorem wF(E:Env):Closed E (fun F=>MC E (lim E) F)where
 const:=MC.const
 bind:=fun hF hG=>MC.bind run_up hF hG
 congr:=fun e h=>MC.congr e h
 call:=fun f a rc h=>⟨(jK E).call f a rc h,fun _ e=>pV.1 e⟩
 code:=fun cx c l h=>⟨(jK E).code cx c l h,fun _ e=>rF.1 e⟩

theorem wW{c:Type}{x y:Option c}(h: ∀o,x=some o↔y=some o):x=y:=by
 cases x with
 | none=>cases y with
   |none=>rfl|some b=>exact absurd ((h b).2 rfl) (by simp)
 |some a=>exact((h a).1 rfl).symm

theorem call_eq(E:Env)(f:FuncId)(a:List Value)(b:Option (Value×Bool))(h:Hp):(lim E).call f a b h=iO E (lim E) f a b h:=by
 refine wW fun o=>⟨fun e=>?_,fun e=>?_⟩
 . obtain⟨n,c⟩:=pV.1 e;cases n with
   |zero=>cases c
   |succ n=>exact k_call (jK E) f a b h _ _ (run_lim n) o c
 . obtain⟨n,c⟩:=(k_call (wF E) f a b h).2 o e;exact pV.2 ⟨n+1,c⟩
theorem xC(E:Env)(cx:Cx)(c:Code)(l:Loc)(h:Hp):(lim E).code cx c l h=aI E (lim E) cx c l h:=by
 refine wW fun o=>⟨fun e=>?_,fun e=>?_⟩
 . obtain⟨n,a⟩:=rF.1 e;cases n with
   |zero=>cases a
   |succ n=>exact k_code (jK E) cx c l h _ _ (run_lim n) o a
 . obtain⟨n,a⟩:=(k_code (wF E) cx c l h).2 o e;exact rF.2 ⟨n+1,a⟩

theorem lim_ok{E:Env}{P:Program}(a:EOk E P):gK E P (lim E).call:=by intro g b j h o e k f;obtain⟨n,i⟩:=pV.1 f;exact(run_ok a (fun _ c d=>⟨draw_ok a c d,An a c d⟩) n).1 _ _ _ _ _ _ _ i
end Go.Ab
namespace Go.Ab
theorem BK{E:Env}{P:Program}{R:Rec}(p:gK E P R.call){f:FuncId}{args:List Value}{v:Value}{q:Hp}(i:args.all c7=true)(l:c7 v=true)
 (r:R.call f args none hp0=some (.ret v,none,q)):(∃m,E.fn f=some m/\m.body.isSome=true)/\OrcAt P f args v:=by
 obtain⟨s,t⟩:=p _ _ _ _ _ _ _ r;refine⟨s,i,l,fun w j d u=>?_⟩;obtain⟨y,z,e,A,J,g,B,K,C,D,F⟩:=t mu0 w ⟨args⟩ none j d (hrel0 w) glob0 (LR.refl fun a k=>au.const mu0 (by simp only [Xq]at i;exact i a k)) trivial u;cases e with
 |some x=>exact B.elim| none=>
   obtain⟨L,n,G⟩:=D;rw [au.const_eq l G]at n;exact⟨z,A,⟨fun c H=>g.frame c H (by intro b o I h;unfold mu0 at h;split at h<;>cases h),g.wsize,g.os,g.tape,g.output⟩,C,n,F⟩
theorem CD{E:Env}{P:Program}(a:EOk E P){n:Nat}{f:FuncId}{args:List Value}{v:Value}{e:Hp}(g:args.all c7=true)(h:c7 v=true)
 (i:(run E n).call f args none hp0=some (.ret v,none,e)):(∃b,E.fn f=some b/\b.body.isSome=true)/\OrcAt P f args v:=
 BK (R:=run E n) (run_ok a (fun _ c d=>⟨draw_ok a c d,An a c d⟩) n).1 g h i
end Go.Ab

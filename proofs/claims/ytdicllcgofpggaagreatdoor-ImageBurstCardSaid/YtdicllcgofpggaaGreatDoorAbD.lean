/- A deterministic evaluator of the model's code, and that the model follows it (part 4). -/
import Derived.Test.YtdicllcgofpggaaGreatDoorAbC
import Derived.Orders
open Array renaming getElem?_eq_getElem->zB,getD_eq_getD_getElem?->zM,replicate->zO,getElem?_toList->Xg,getElem?_push->Xk,getElem?_replicate->Xs,all_eq_true'->XC,getElem?_eq_none->XJ
open Bool renaming and_eq_true->Xa,not_eq_true'->Xh
open Nat renaming eq_of_beq_eq_true->Xb,lt_of_lt_of_le->Xc,le_refl->Xd,beq_refl->Xi,lt_trichotomy->Xn,zero_add->Xr,zero_le->Xu,lt_or_ge->Xy,min_eq_left->XA,beq->XB,le_trans->XN
open List renaming mem_cons_of_mem->Xe,mem_of_getElem?->Xf,getElem?_eq_getElem->Xj,mem_cons_self->Xl,mem_range->Xo,all_eq_true->Xp,getElem?_append_right->Xq,getElem?_cons_succ->Xt,cons_append->Xx,mem_filter->Xz,map_cons->XD,getElem?_eq_some_iff->XE,length_take->XG,append_nil->XH,nil_append->XI,range'->XK,getElem?_toArray->XL,mem_map->XO,map_map->XP
open Option renaming map_some->Xm,bind_some->Xv,getD_some->Xw,map->XF
open Prod renaming fst->XM
set_option maxHeartbeats 400000
set_option linter.defProp false
set_option linter.unusedVariables false
set_option linter.unusedSimpArgs false
namespace Go.Ab

section
variable(E:Env)(ops:Array Oper)(q:Nat)(L:Nat->Loc)(H:Nat->Hp)(X:Nat->Bool)(nr:Nat)(mu0:Mu)(w0:World)

def AtC(S:Nat->Bool)(c:Nat):Prop:=c<=ops.size/\(c=ops.size\/ ∃o,ops[c]? =some o/\isW E X q o c/\S c=false)/\ ∀(i:Nat) o,i<c->ops[i]? =some o->isW E X q o i->S i=true
def RegsAt(S:Nat->Bool)(mu:Mu)(tmps:Array Value):Prop:= ∀(i:Nat),i<=ops.size-> ∀(t:Tmp) v,(∀(p:Nat) (o:Oper),ops[p]? =some o->o.dst=some t->(p<i↔S p=true))->
 (L i).regs.get t=some v-> ∃a,tmps[t]? =some a/\ao mu v a
structure Inv(S:Nat->Bool)(mu:Mu)(w:World)(tmps:Array Value):Prop where
 c: ∃c,AtC E ops q X S c/\aM mu (H c) w
 glob:lW mu
 non: ∀p,p<ops.size->S p=false-> ∀b,(H p).n<=b->b<(H (p+1)).n->mu b=.none
 size:tmps.size=nr
 regs:RegsAt ops L S mu tmps
 ext:WExt mu0 (H 0) w0 mu w
 cov: ∀p,p<ops.size->S p=true-> ∀b,(H p).n<=b->b<(H (p+1)).n->mu b≠ .none
end

def kG(S:Nat->Bool)(p:Nat):Nat->Bool:=fun i=>if i=p then true else S i
theorem fg(S:Nat->Bool)(p:Nat):kG S p p=true:=by simp [kG]
theorem bO(S:Nat->Bool){p i:Nat}(h:i≠p):kG S p i=S i:=by simp [kG,h]

section
variable{E:Env}{R:Rec}{ops:Array Oper}{q:Nat}{ps:List (Nat×Nat)}{M:List Nat}{L:Nat->Loc}{H:Nat->Hp}{T:Nat->Option Nat}{X:Nat->Bool}(D:DT E R ops q ps M L H T X)

theorem nK{l:Loc}{d:Option Tmp}{v:Value}{t:Tmp}(h:d≠some t):(l.put d v).regs.get t=l.regs.get t:=by
 cases d with
 |none=>rfl| some d=>show(l.regs.set d v).get t=_;simp_all[Tr.get_set,if_neg]
include D in
theorem si{j:Nat}{o:Oper}(b:ops[j]? =some o){t:Tmp}(h:o.dst≠some t):(L (j+1)).regs.get t=(L j).regs.get t:=by
 have a:=D.step j o b;generalize L (j+1)=e at a;generalize H (j+1)=f at a;generalize T j=g at a;generalize X j=i at a;cases a with
 |skip c=>exact nK h|exec c d=>exact nK h

include D in
theorem oO{S:Nat->Bool}{mu e:Mu}{tmps:Array Value}{r:Nat}(z:Down ops S){p:Nat}{o:Oper}(s:ops[p]? =some o)(A:Ready o S)(B:S p=false)(C:Le mu e)(k:tmps.size=r)(l:(L p).regs.Sized r)
 {v v':Value} (Q:ao e v v') (F:L (p+1)=(L p).put o.dst v) (f:RegsAt ops L S mu tmps):RegsAt ops L (kG S p) e (gL tmps o.dst v'):=by
 intro i G t u g m;by_cases n:o.dst=some t
 . have I:p<i:=(g p o s n).2 (fg S p);have b:t∈jR ops.toList o:=(by unfold jR;rw [n];simp);have J:=wU D z s A B b;have h:(L i).regs.get t=(L (p+1)).regs.get t:=by
    have:=walk_eq (fun j=>(L j).regs.get t) (a:=p+1) (i-(p+1)) (fun j w x=>by
     have U:j<i:=(by omega);grind[zB,bO,si])
    grind
   rw [h,F,n]at m;have c:((L p).regs.set t v).get t=some u:=m;rw [Tr.get_set]at c;cases y:(L p).regs.get t with
   |none=>grind| some V=>rw [y]at c;simp at c;subst c;have:t<tmps.size:=(by rw [k];exact(l t).1 (by rw [y];rfl));grind[gL]
 . obtain⟨K,w,x⟩:=f i G t u (fun j W N O=>by
    grind[bO]) m
   refine⟨K,?_,x.mono C⟩;cases P:o.dst with
   |none=>exact w| some d=>show(tmps.setIfInBounds d v')[t]? =_;grind

theorem pq(tmps:Array Value)(d:Option Tmp)(v:Value):(gL tmps d v).size=tmps.size:=by cases d<;>simp [gL]
end
end Go.Ab

namespace Go.Ab

theorem next_W{E:Env}{ops:Array Oper}{q:Nat}{X:Nat->Bool}: ∀(d c:Nat),c+d=ops.size-> ∃c',c<=c'/\c'<=ops.size/\(c'=ops.size\/ ∃o,ops[c']? =some o/\isW E X q o c')/\ ∀i o,c<=i->i<c'->ops[i]? =some o-> ¬isW E X q o i
 |0,c,h=>⟨c,Xd _,by omega,.inl (by omega),fun i o b e=>by omega⟩
 | d +1,c,h=>by
   obtain⟨a,f⟩: ∃a,ops[c]? =some a:=⟨_,zB (xs:=ops) (i:=c) (by omega)⟩;by_cases g:isW E X q a c
   . exact⟨c,Xd _,by omega,.inr ⟨_,f,g⟩,fun i o b e=>by omega⟩
   . obtain⟨c',b,e,j,k⟩:=next_W (E:=E) (ops:=ops) (q:=q) (X:=X) d (c+1) (by omega);grind

section
variable{E:Env}{P:Program}(ok:EOk E P){R:Rec}(hc:ic E P R.call)(hcode:jk P R.code)
variable{ops:Array Oper}{q:Nat}{ps:List (Nat×Nat)}{M:List Nat}{L:Nat->Loc}{H:Nat->Hp}{T:Nat->Option Nat}{X:Nat->Bool}(D:DT E R ops q ps M L H T X)
variable{nr:Nat}{mu0:Mu}{w0:World}

include D in
theorem Di (cZ: ∀j o,j<ops.size->ops[j]? =some o->Turn ops E X q H T j o) {n i:Nat} {o:Oper} (V:ops[n]? =some o) (W:cls E o.op=2) (F:po ops.toList o n i=true) {b:Nat} (Y:touch ((L n).evD (tmpsOf o.op.operands.toList)) o.op=some b):(H (i+1)).n<=b:=by
 have hn:=(Array.getElem?_eq_some_iff.1 V).1;unfold po at F;cases u:mapArg o.op with
 |none=>grind| some t=>
   rw [u]at F;simp only [List.any_eq_true,Xo,Xa,Xp,Bool.or_eq_true,Xh]at F;obtain⟨k,hk,w,f,y⟩:=F;have w:i<k:=(by simp_all);have l:ops[k]? =some ops[k]:=zB (by omega);unfold atIs at f;rw [Xg,l]at f;simp only [Xa]at f;have I: ∀{p:Oper},rY t p=true->p.dst=some t:=(by grind[rY,Xb]);have Z:=I f.2
   -- what the temporary holds at n
   have J:(L n).regs.get t=(L (k+1)).regs.get t:=by
    have:=walk_eq (fun j=>(L j).regs.get t) (a:=k+1) (n-(k+1)) (fun j h1 W=>by
     have K:ops[j]? =some ops[j]:=zB (by omega);refine si D K fun hd=>?_;rcases y j (by omega)with x|x
     . have:=Nat.le_of_ble_eq_true x;omega
     grind[atIs,rY,Xi])
    grind
   -- what the touched block is
   have ht:touch ((L n).evD (tmpsOf o.op.operands.toList)) o.op=some b->(L n).ev (.tmp t)=.map (some b):=by
    intro h;have z: ∀(N:List Tmp) (v:Value),(L n).evD N (.tmp t)=.map (some b)->(L n).ev (.tmp t)=.map (some b):=by
     intro N v h;unfold Loc.evD at h;cases O:oe t N with
     |true=>grind|false=>simp only [O,cond_false]at h;cases h
    cases g:o.op<;>rw [g]at u<;>(try (cases u;done))
    all_goals
     rename_i ty m kk vv;cases m<;>(try (cases u;done));cases u;rw [g]at h;unfold touch at h;simp only []at h
     split at h
     next r hr=>subst h;exact z _ .nilIface hr
     next=>cases h
   have Q:=ht Y;have A:=D.step k ops[k] l;generalize hL:L (k+1)=L1 at A;generalize hH:H (k+1)=H1 at A;generalize T k=T1 at A;generalize hX:X k=X1 at A;have B: ∀v,L1=(L k).put ops[k].dst v-> ∀b,(L n).ev (.tmp t)=.map (some b)->v=.map (some b):=(by grind[Loc.ev,Loc.put,Tr.get_set]);cases A with
   |skip hg=>grind| exec hg c=>
     rename_i v;have hv:=B _ rfl b Q;subst hv;have d:=f.1;have h4:cls E ops[k].op=4:=by
      unfold isMk at d
      split at d
      . next h=>rw [h];rfl
      . cases d
     have hq:=pK (q:=q) (i:=k) (op:=ops[k].op) (E:=E) (by omega) (D.four k _ l h4);rw [hq]at c;have hle:=ep cZ (show i+1<=k from w) (by omega);have C: ∀(h:Hp) (G:dw) (S:Hp),aop E ((L k).evD (tmpsOf ops[k].op.operands.toList)) h ops[k].op=some (G,S)->G=.val (.map (some h.n)):=by
      intro h G S U;unfold isMk at d
      split at d
      . next ty sz g=>
        rw [g]at U;cases sz<;>cases U;rfl
      . cases d
     unfold cI at c;simp only [cond_true]at c;cases s:aop E ((L k).evD (tmpsOf ops[k].op.operands.toList)) {H k with lo:=(H k).n} ops[k].op with
     |none=>rw [s]at c;cases c
     | some r=>
       obtain⟨G,S⟩:=r;have e:=C _ _ _ s;subst e;rw [s]at c;simp only [c6]at c;grind
include D in
theorem wr_new(d: ∀j,j<=ops.size->(H j).t.Sized (H j).n)(cZ: ∀j o,j<ops.size->ops[j]? =some o->Turn ops E X q H T j o){n i:Nat}{o:Oper}(e:ops[n]? =some o)(h:isW E X q o n)(g:cls E o.op=2)(k:po ops.toList o n i=true)(f:i<n){b:Nat}(p:b<(H (i+1)).n):(H (n+1)).get b=(H n).get b:=by
 have r:=(Array.getElem?_eq_some_iff.1 e).1;have l:=fun b=>Di D cZ e g k (b:=b);have a:=D.step n o e;generalize L (n+1)=s at a;generalize t:H (n+1)=u at a;generalize T n=v at a;generalize w:X n=x at a;cases a with
 |skip m=>rfl| exec m c=>
   rw [tB h]at c;obtain⟨y,z⟩:=yq (.inl g) c;have hle:=ep cZ (show i+1<=n from f) (by omega);grind[w_only]

theorem stand(cZ: ∀j o,j<ops.size->ops[j]? =some o->Turn ops E X q H T j o){a c:Nat}(k:a<=c)(l:c<=ops.size)
 (e: ∀j o,a<=j->j<c->ops[j]? =some o->isR E X o j\/isQ E X q o j\/ ∀b,b<(H a).n->(H (j+1)).get b=(H j).get b) {b:Nat} (f:b<(H a).n):(H c).get b=(H a).get b:=by
 have:=walk_eq (fun j=>(H j).get b) (a:=a) (c-a) (fun j g m=>by
  have d:ops[j]? =some ops[j]:=zB (by omega);have i:=cZ j _ (by omega) d;rcases e j _ g (by omega) d with h|h|h
  rotate_right
  . exact h b f
  . show(H (j+1)).get b=(H j).get b;rw [i.still h]
  . exact i.quiet h b (Xc f (ep cZ g (by omega))))
 grind

include D in
theorem after_c{S:Nat->Bool}(g:Down ops S){c:Nat}(h:AtC E ops q X S c){i:Nat}{o:Oper}(s:c<=i)(a:ops[i]? =some o)(j:isW E X q o i\/isQ E X q o i)(k:isQ E X q o i->c≠i):S i=false:=by
 have l:=(Array.getElem?_eq_some_iff.1 a).1;rcases h.2.1 with e|⟨t,b,d,n⟩
 . omega
 . by_cases p:c=i
   . grind
   . cases r:S i with
     |false=>rfl| true=>
       obtain⟨m,f⟩:=mask D a;have:=n8 D g i o m c a f r (cmp D a f (by omega) b ⟨d,j⟩);grind

include D in
theorem read_at(cZ: ∀j o,j<ops.size->ops[j]? =some o->Turn ops E X q H T j o)(k: ∀j,j<=ops.size->(H j).t.Sized (H j).n){S:Nat->Bool}(J:Down ops S){c:Nat}(y:AtC E ops q X S c)
 {p:Nat} {o:Oper} (l:ops[p]? =some o) (W:Ready o S) (Y:S p=false) (r:cls E o.op<=1) {ρ:Operand->Value} (K:T p=touch ρ o.op)
 (s: ∀b,touch ρ o.op=some b->b<(H p).n) (t: ∀b,touch ρ o.op=some b->b<(H c).n)
 {f:Hp->Option Value} (N: ∀h,aop E ρ h o.op=cG h (f h)) (O:cls E o.op=0-> ∀h i,f h=f i) (C: ∀h i,(∀b,touch ρ o.op=some b->i.get b=h.get b)->f h=f i):
 f (H c)=f (H p):=by
 have Q:=(Array.getElem?_eq_some_iff.1 l).1;have U:=y.1;have u: ∀j,j<ops.size->(∀b,touch ρ o.op=some b->b<(H j).n)->(∀v,ops[j]? =some v->isW E X q v j->(p<j/\S j=true)\/(j<p/\S j=false))->f (H (j+1))=f (H j):=by
  intro j F hlt z;have d:ops[j]? =some ops[j]:=zB F;have G:=cZ j _ F d;rcases kinds D d with h|h|h
  . rw [G.still h]
  . exact(C _ _ fun b w=>G.quiet h b (hlt b w)).symm
  . refine w_leaves D k l d h r K ?_ hlt N O C;rcases z _ d h with⟨g,i⟩|⟨g,i⟩
    . obtain⟨m,A⟩:=mask D d;refine .inl ⟨g,D.owe j _ m p o d A g l ?_⟩;grind[n8]
    . obtain⟨m,A⟩:=mask D l;refine .inr ⟨g,D.owe p o m j _ l A g d ?_⟩;grind[oZ]
 rcases Nat.le_total p c with B|B
 . have:=walk_eq (fun j=>f (H j)) (a:=p) (c-p) (fun j g i=>u j (by omega) (fun b w=>Xc (s b w) (ep cZ g (by omega))) (fun v d n=>by
    have V:p≠j:=(by intro e;subst e;rw [l]at d;cases d;rcases n.2 with x|⟨x,_⟩<;>omega);exact .inl ⟨by omega,y.2.2 j v (by omega) d n⟩))
   simp_all
 . have:=walk_eq (fun j=>f (H j)) (a:=c) (p-c) (fun j g i=>u j (by omega) (fun b w=>Xc (t b w) (ep cZ g (by omega))) (fun v d n=>
    .inr ⟨by omega,after_c D J y g d (.inl n) (fun I=>by
     intro _;have:=n.2;have:=I.2.2;rcases n.2 with x|⟨_,x⟩
     . have:=I.2.1;omega
     grind)⟩))
   simp_all
end
end Go.Ab

namespace Go.Ab
section
variable{E:Env}{P:Program}(ok:EOk E P){R:Rec}(hc:ic E P R.call)(hcode:jk P R.code)
variable{ops:Array Oper}{q:Nat}{ps:List (Nat×Nat)}{M:List Nat}{L:Nat->Loc}{H:Nat->Hp}{T:Nat->Option Nat}{X:Nat->Bool}(D:DT E R ops q ps M L H T X)
variable{nr:Nat}{mu0:Mu}{w0:World}

theorem Aa{mu:Mu}{n:Nat}(h: ∀b,mu b≠ .none->b<n):cut mu n=mu:=by grind[eu,oY,absurd]

theorem uI{S:Nat->Bool}{c p:Nat}(h:AtC E ops q X S c)(f:p≠c):AtC E ops q X (kG S p) c:=by
 refine⟨h.1,h.2.1.imp id fun⟨o,a,b,e⟩=>⟨o,a,b,by rw [bO S (Ne.symm f)];exact e⟩,fun i o g j k=>?_⟩;by_cases d:i=p
 . subst d;exact fg S i
 . rw [bO S d];exact h.2.2 i o g j k

theorem xp{mu:Mu}{h e:Hp}{w:World}(d:aM mu h w)(k:e.t.Sized e.n)(l:h.n<=e.n)(j: ∀b,b<h.n->e.get b=h.get b):aM mu e w:=by
 refine⟨k,fun b c f g a=>?_,fun b a=>?_,d.inj,fun b a=>Xc (d.lt b a) l⟩
 . obtain⟨x,o,m,i,n⟩:=d.blk b c f g a;exact⟨x,o,by rw [j b (d.lt b (by rw [a];simp))];exact m,i,n⟩
 . rw [j b (d.lt b (by rw [a];simp))];exact d.dead b a

theorem ji.cut{mu d:Mu}{n:Nat}(g: ∀b,d b≠ .none->b<n){t:Tr Value}{m:Nat}{ts e:Array Value}(h:ji mu t m ts)(j:ji d t m e):ji (cut mu n) t m ts:=by refine⟨h.size,h.sized,fun i v f=>?_⟩;obtain⟨k,a,b⟩:=h.get i v f;obtain⟨l,_,c⟩:=j.get i v f;exact⟨k,a,ao.cut g c b⟩
theorem lR.cut{mu f:Mu}{n:Nat}(z: ∀b,f b≠ .none->b<n){x:Blk}{base top d g:Nat}{o B:Obj}(h:lR mu x base top o)(m:lR f x d g B):lR (cut mu n) x base top o:=by
 cases x with
 |dead=>exact h| cells t Q el S=>
   obtain⟨C,p,F,e,r⟩:=h;obtain⟨G,I,J,A,j⟩:=m;refine⟨C,p,F,e,r.whole,r.fits,r.sized,fun i v k=>?_,r.free⟩;obtain⟨s,a,b⟩:=r.get i v k;obtain⟨K,_,c⟩:=j.get i v k;exact⟨s,a,ao.cut z c b⟩
 | map U c=>
   obtain⟨u,w,e,r⟩:=h;obtain⟨_,N,A,j⟩:=m;refine⟨u,w,e,r.1,fun i v s k y=>?_⟩;obtain⟨V,W,Y,Z⟩:=r.2 i v s k y;obtain⟨K,b1,b2⟩:=j.get k;grind[ao.cut]
 | loop l=>
   obtain⟨u,O,e,r⟩:=h;obtain⟨_,lT,A,j⟩:=m;exact⟨u,O,e,r.fn,r.regs.cut z j.regs,r.params,r.assign,r.body,r.st,r.pending⟩
 |dfr=>exact h

def glue(a mu:Mu)(n:Nat):Mu:=fun b=>if b<n then a b else mu b
theorem jW{a mu:Mu}{n b:Nat}(h:b<n):glue a mu n b=a b:=by simp [glue,h]
theorem kR{a mu:Mu}{n b:Nat}(h:n<=b):glue a mu n b=mu b:=by simp [glue,Nat.not_lt.2 h]

theorem glue_rel {mu e:Mu} {hc r f:Hp} {w z:World} (l:aM mu hc w) (y:aM e f z) (k2:Ext (cut mu r.n) r w e f z)
 (K: ∀b,r.n<=b->b<f.n->mu b=.none) (U:f.n<=hc.n) (s: ∀b,b<f.n->hc.get b=f.get b):
 aM (glue e mu f.n) hc z/\Le mu (glue e mu f.n)/\Le e (glue e mu f.n):=by
 have N:=k2.n;have F:Le mu (glue e mu f.n):=by
  intro b t;by_cases h:b<f.n
  . rw [jW h];by_cases m:b<r.n
    . rcases k2.old b m with x|⟨_,x⟩
      . left;rw [x,eu m]
      grind
    grind
  . rw [kR (by omega)];exact .inl rfl
 have u:Le e (glue e mu f.n):=by intro b t;left;exact jW (y.lt b t)
 refine⟨⟨l.sized,fun b c a g j=>?_,fun b j=>?_,?_,fun b j=>?_⟩,F,u⟩
 . by_cases h:b<f.n
   . rw [jW h]at j;obtain⟨x,o,G,A,B⟩:=y.blk b c a g j;exact⟨x,o,by grind,A,B.mono u⟩
   . rw [kR (by omega)]at j;obtain⟨x,o,G,A,B⟩:=l.blk b c a g j;refine⟨x,o,G,?_,B.mono F⟩;rw [k2.frame c (l.clt j) (fun k d i v=>?_)]
     . exact A
     . by_cases m:k<r.n
       . rw [eu m]at v;have:=l.inj b k c a g d i j v;omega
       grind[oY]
 . by_cases h:b<f.n
   . rw [jW h]at j;rw [s b h];exact y.dead b j
   . rw [kR (by omega)]at j;exact l.dead b j
 . have O: ∀b k c a g d i,b<f.n->f.n<=k->e b=.blk c a g->mu k=.blk c d i->False:=by
    intro b k c a g d i h m n p;by_cases t:b<r.n
    . rcases k2.old b t with x|⟨_,x⟩
      . rw [x,eu t]at n;have:=l.inj b k c _ _ _ _ n p;omega
      grind
    . rcases k2.fresh b c a g (by omega) n with x|⟨Q,C,I,S,J,_⟩
      . have:=l.clt p;omega
      . rw [eu S]at J;have:=l.inj Q k c _ _ _ _ J p;omega
   intro b k c a g d i n p;by_cases h:b<f.n
   . rw [jW h]at n;by_cases m:k<f.n
     . rw [jW m]at p;exact y.inj b k c _ _ _ _ n p
     grind[kR]
   . rw [kR (by omega)]at n;by_cases m:k<f.n
     . grind[jW]
     . rw [kR (by omega)]at p;exact l.inj b k c _ _ _ _ n p
 . by_cases h:b<f.n
   . omega
   . rw [kR (by omega)]at j;exact l.lt b j

structure jf(ops opsM:Array Oper)(σ:Nat->Nat):Prop where
 op: ∀p o,ops[p]? =some o-> ∃oM,opsM[σ p]? =some oM/\oM.op=o.op/\oM.dst=o.dst/\((o.guard=none/\oM.guard=none)\/ ∃j want,o.guard=some (j,want)/\oM.guard=some (σ j,want))
 no: ∀(p:Nat) (o:Oper) (j:Nat) (want:Bool),ops[p]? =some o->o.guard=some (j,want)->ops[j]? =none->opsM[σ j]? =none
theorem CD {mu:Mu} {ops e:Array Oper} {u:Nat->Nat} (g:jf ops e u) {t:Tr Value} {tmps:Array Value} {o k:Oper} {b:Bool} {p:Nat} (l:ops[p]? =some o) (m:(o.guard=none/\k.guard=none)\/ ∃j a,o.guard=some (j,a)/\k.guard=some (u j,a))
 (w: ∀j a o' d,o.guard=some (j,a)->ops[j]? =some o'->o'.dst=some d-> ∀v,t.get d=some v-> ∃v',tmps[d]? =some v'/\ao mu v v')
 (c:ct ops.toList t o=some b):Region.wanted k (yielded e tmps)=b:=by
 unfold ct at c;unfold Region.wanted;rcases m with⟨h,y⟩|⟨j,a,h,y⟩
 . grind
 . rw [h]at c;rw [y];simp only []at c⊢;unfold yielded;cases f:ops[j]? with
   |none=>rw [Xg,f]at c;cases c;rw [g.no p o j a l h f];rfl
   | some o'=>
     obtain⟨B,z,_,A,_⟩:=g.op j o' f;rw [Xg,f]at c;rw [z];simp only [Xv]at c⊢;cases i:o'.dst with
     |none=>grind| some d=>
       rw [i]at c;rw [A,i];simp only [Xv]at c⊢
       split at c
       next C n=>
        obtain⟨v',r,s⟩:=w j a o' d h f i _ n;cases s;rw [r];cases c;grind
       next x n=>
        obtain⟨v',r,s⟩:=w j a o' d h f i _ n;rw [r];cases c;cases s;rfl
       next=>cases c
theorem rQ{E:Env}{R:Rec}{ρ:Operand->Value}{b:Bool}{o a:Oper}{h:Hp}(e:a.op=o.op):cI E R ρ b a h=cI E R ρ b o h:=by unfold cI;rw [e]
theorem alloc_at{mu:Mu}{h:Hp}{w w':World}(g:aM mu h w){b:Nat}(J:mu b=.none)(K:b<h.n){x:Blk}{top:Nat}{o:Obj}(n:h.get b=some x)(B:WNew w w' o)(r:lR mu x 0 top o):
 aM (upd mu b (.blk w.heap.size 0 top)) h w'/\Le mu (upd mu b (.blk w.heap.size 0 top)):=by
 have C: ∀j,w'.heap[j]? =if j=w.heap.size then some o else w.heap[j]? :=by intro j;rw [B.heap,Xk]
 have hle:Le mu (upd mu b (.blk w.heap.size 0 top)):=by intro f F;grind[aO]
 refine⟨⟨g.sized,?_,?_,?_,?_⟩,hle⟩
 . intro f c i p d;by_cases a:f=b
   . subst a;rw [upd_same]at d;cases d;exact⟨x,o,n,by rw [C];simp,r.mono hle⟩
   . rw [aO _ _ a]at d;obtain⟨y,G,k,l,I⟩:=g.blk f c i p d;have:=g.clt d;exact⟨y,G,k,by grind,I.mono hle⟩
 . intro f d;by_cases a:f=b
   . grind[upd_same]
   . rw [aO _ _ a]at d;exact g.dead f d
 . intro v s c t z u A k l;by_cases m:v=b
   . by_cases e:s=b
     . rw [m,e]
     . subst m;rw [upd_same]at k;rw [aO _ _ e]at l;cases k;have:=g.clt l;omega
   . rw [aO _ _ m]at k;by_cases e:s=b
     . subst e;rw [upd_same]at l;cases l;have:=g.clt k;omega
     . rw [aO _ _ e]at l;exact g.inj v s c _ _ _ _ k l
 . intro f d;by_cases a:f=b
   . omega
   . rw [aO _ _ a]at d;exact g.lt f d
theorem WExt.alloc{mu0 mu:Mu}{i:Hp}{w0 w w':World}(W:WExt mu0 i w0 mu w)(p: ∀b,mu0 b≠ .none->b<i.n)(m: ∀b c base top,mu0 b=.blk c base top->c<w0.heap.size){b top:Nat}{o:Obj}(v:i.n<=b)(h:WNew w w' o):WExt mu0 i w0 (upd mu b (.blk w.heap.size 0 top)) w':=by
 have r: ∀j,j<w.heap.size->w'.heap[j]? =w.heap[j]? :=by intro j A;rw [h.heap,Xk,if_neg (by omega)]
 refine⟨fun f d=>?_,fun f c base a d g=>?_,fun c hc s=>?_,fun f c base a t u el g k=>?_,?_,h.os.trans W.os,h.tape.trans W.tape,h.output.trans W.output⟩
 . rw [aO _ _ (by omega)];exact W.old f d
 . by_cases e:f=b
   . subst e;rw [upd_same]at g;cases g;exact .inl W.wsize
   . rw [aO _ _ e]at g;rcases W.fresh f c base a d g with x|⟨B,l,n,x,y,z⟩
     . exact .inl x
     grind[aO]
 . rw [r c (Xc hc W.wsize)];exact W.frame c hc s
 . obtain⟨x,y⟩:=W.ro f c base a t u el g k;grind[aO,Xy]
 . rw [h.heap];simp;have:=W.wsize;omega
include ok in
theorem Du{mu:Mu}{h:Hp}{w:World}{b:Nat}{e:TypeId}{z:List Value}(j:E.zero e=some z)(k:aM mu h w)(l:mu b=.none)(m:b<h.n)(c:h.get b=some (.cells (Tr.ofList z) z.length e 1))(d:Operand->Value){o:Oper}(t:o.op=.alloc e):
 ∃w' top n,(execOp d o).run P w=.ok (.value (.pointer (some ⟨w.heap.size,0,none⟩))) w'/\WNew w w' n/\aM (upd mu b (.blk w.heap.size 0 top)) h w'/\Le mu (upd mu b (.blk w.heap.size 0 top)):=by
 obtain⟨a,u,x,y,A⟩:=nY ok j w;have p:VL mu z a.cells.toList:=by grind[LR.refl,ao.const,Xp]
 have f:lR mu (.cells (Tr.ofList z) z.length e 1) 0 a.cells.size (.cells a.cells e):=by
  refine⟨a.cells,e,(0,0),rfl,rfl,?_,Tr.sized_ofList z,?_,?_⟩
  . grind
  . intro i v g;rw [Tr.get_ofList]at g;obtain⟨B,C,F⟩:=p.get g;grind
  omega
 obtain⟨r,s⟩:=alloc_at k l m c (ij w (.cells a.cells e)) f;refine⟨_,_,_,?_,ij w (.cells a.cells e),r,s⟩;simp_all[guard,execOp,Instr.alloc,newVar,newRow]
include ok hc hcode D in
theorem inv_step (cZ: ∀j o,j<ops.size->ops[j]? =some o->Turn ops E X q H T j o) (bi: ∀i,i<=ops.size->qy nr mu0 w0 L H i) (a5: ∀b,mu0 b≠ .none->b<(H 0).n) (bv: ∀b c base top,mu0 b=.blk c base top->c<w0.heap.size)
 {K:Array Oper} {σ:Nat->Nat} (bw:jf ops K σ)
 {S:Nat->Bool} {mu:Mu} {w:World} {tmps:Array Value} (l:Inv E ops q L H X nr mu0 w0 S mu w tmps) (hd:Down ops S) {p:Nat} {o:Oper} (J:ops[p]? =some o) (hr:Ready o S) (hp:S p=false)
 {F:FC} {dfs:List Deferred} {k:List Item} {cs:List Frame} {rest:List Nat}:
 ∃ b8 w' a0,Inv E ops q L H X nr mu0 w0 (kG S p) b8 w' a0/\
   Steps P (lone (F.mk' tmps dfs (.inRegion K (σ p::rest)::k)) cs w) (lone (F.mk' a0 dfs (.inRegion K rest::k)) cs w'):=by
 obtain⟨oM,a1,e1,e2,e3⟩:=bw.op p o J;have bk:=(Array.getElem?_eq_some_iff.1 J).1;obtain⟨bl,wT,bm,t1,t2,t3,t4⟩:=bi p (by omega);obtain⟨c,N,Z⟩:=l.c;have a2: ∀t∈jR ops.toList o,∀v,(L p).regs.get t=some v-> ∃v',tmps[t]? =some v'/\ao mu v v':=
  fun t ht v hv=>l.regs p (by omega) t v (wU D hd J hr hp ht) hv
 have a6: ∀{b:Bool},ct ops.toList (L p).regs o=some b->Region.wanted oM (yielded K tmps)=b:=by intro b hg;refine CD (mu:=mu) bw J e3 (fun j cz o' d cA hj cN v hv=>a2 d ?_ v hv) hg;grind[jR]
 have a7: ∀x,ao mu ((L p).evD (tmpsOf o.op.operands.toList) x) (dH tmps x):=
  fun x=>yl t3.sized l.size _ (fun t ht v hv=>a2 t (by
   unfold jR;have:Operand.tmp t∈o.op.operands.toList:=(sW t _).1 ht;grind) v hv) l.glob x
 have bb: ∀x,ao bl ((L p).evD (tmpsOf o.op.operands.toList) x) (dH bm x):=
  fun x=>yl t3.sized t3.size _ (fun t ht v hv=>t3.get t v hv) t2 x
 have U: ∀j,j<=ops.size->(H j).t.Sized (H j).n:=fun j hj=>by obtain⟨_,_,_,g,_⟩:=bi j hj;exact g.sized
 have tp:=cZ p o bk J;have hs:=D.step p o J;have bn: ∀j,j<=ops.size-> ∀b c base top t sz el,mu0 b=.blk c base top->(H 0).get b=some (.cells t sz el 0)->(H j).get b=some (.cells t sz el 0):=by intro j hj b c base top t sz el O hg;obtain⟨_,_,_,_,_,_,e⟩:=bi j hj;exact((e.ro b c base top t sz el O hg).2.1).trans hg
 have cW: ∀{i:Nat} {oi:Oper},ops[i]? =some oi->c=i->isW E X q oi i:=by
  intro i oi bx b9;subst b9;rcases N.2.1 with e|⟨oc,ak,aL,_⟩
  . grind
  grind
 generalize hL:L (p+1)=L1 at hs;generalize hH:H (p+1)=H1 at hs;generalize bB:T p=T1 at hs;generalize cb:X p=X1 at hs;cases hs with
 | skip hg=>
   have ad:p≠c:=(by intro e;have:=(cW J e.symm).1;grind);have r:=xE (P:=P) (F:=F) (tmps:=tmps) (dfs:=dfs) (k:=k) (cs:=cs) (w:=w) (ops:=K) (i:=σ p) (rest:=rest) (by grind);rw [a1,show(some oM).bind (·.dst)=oM.dst from rfl,e2]at r;refine⟨mu,w,_,⟨⟨c,uI N ad,Z⟩,l.glob,fun A s n b I B=>?_,by rw [pq];exact l.size,?_,l.ext,?_⟩,.one r⟩
   . refine l.non A s ?_ b I B;grind[bO]
   . exact oO D hd J hr hp (Le.refl mu) l.size t3.sized (v:=.tuple #[]) (v':=undef) (.tuple rfl (by grind)) hL l.regs
   . intro A s n b I B;by_cases e:A=p
     . grind
     . rw [bO S e]at n;exact l.cov A s n b I B
 | exec hg r=>
   rename_i v;have V:=a6 hg;cases a8:fe o.op with
   | true =>
     obtain⟨e,bI⟩: ∃e,o.op=.alloc e:=(by unfold fe at a8;grind);have h4:=zH (E:=E) a8;have bL:=D.four p o J h4;have Y:isQ E X q o p:=⟨cb,by omega,bL⟩;rw [pK (by omega) bL]at r;obtain⟨z,hz,hv,bP⟩: ∃z,E.zero e=some z/\v=ptrTo (H p).n/\H1=(H p).new (.cells (Tr.ofList z) z.length e 1):=by
      unfold cI at r;simp only [cond_true,bI,aop]at r;cases hz:E.zero e with
      |none=>rw [hz]at r;cases r
      | some z=>
        rw [hz]at r;simp only [cU,c6,sd]at r;rw [show Nat.ble (H p).n (({H p with lo:=(H p).n}:Hp).new (.cells (Tr.ofList z) z.length e 1)).lo=true from Nat.ble_eq_true_of_le (Xd _)]at r;cases r;exact⟨z,rfl,rfl,rfl⟩
     have hT:T p=some (H p).n:=(by rw [bB];unfold jK;rw [a8];rfl);have cf:(H (p+1)).get (H p).n=some (.cells (Tr.ofList z) z.length e 1):=(by rw [hH,bP,Hp.get_new _ _ (U p (by omega)),if_pos rfl]);have cO:(H (p+1)).n=(H p).n+1:=(by rw [hH,bP];rfl);have ad:p<c:=by
      rcases Xn p c with h|h|h
      . exact h
      . exfalso;have hw:=cW J h.symm;rcases hw.2 with x|⟨_,x⟩
        . omega
        omega
      . exfalso;rcases N.2.1 with e|⟨oc,ak,aL,bT⟩
        . omega
        . obtain⟨m,O⟩:=mask D J;have:=oZ D hd J O hr (cmp D J O h ak ⟨aL,.inr Y⟩);grind
     have bc:(H (p+1)).n<=(H c).n:=ep cZ (by omega) N.1;have bp:(H c).get (H p).n=some (.cells (Tr.ofList z) z.length e 1):=by
      have:=walk_eq (fun j=>(H j).get (H p).n) (a:=p+1) (c-(p+1)) (fun j I B=>by
       have hj:j<ops.size:=(by have:=N.1;omega);have C:ops[j]? =some ops[j]:=zB hj;have tj:=cZ j _ hj C;show(H (j+1)).get (H p).n=(H j).get (H p).n;rcases kinds D C with x|x|x
       . rw [tj.still x]
       . refine tj.quiet x _ ?_;have:=ep cZ I (by omega);omega
       . obtain⟨m,O⟩:=mask D C;have cQ:=N.2.2 j _ (by omega) C x;have G:m.testBit p=false:=(by grind[n8]);obtain⟨_,hu⟩:=D.owe j _ m p o C O (by omega) J G;have cX:=x.2;have h5:=cls_le (E:=E) ops[j].op;rcases hu with h|h|⟨_,h⟩|⟨_,h,_⟩|⟨_,h,_⟩|⟨_,h,_⟩|⟨_,h,_⟩|⟨a,b,c',d⟩|⟨_,h,_⟩|⟨_,h,_⟩|⟨_,_,bX,_,ch⟩|⟨_,h,_⟩
         . omega
         . omega
         . omega
         . omega
         . omega
         . omega
         . omega
         . grind
         . omega
         . omega
         . exact D.leave (.inl ch) J C (kM (E:=E) (by omega)) bX x.1 (tB x) hT
         . omega)
      grind
     have cl:=l.non p bk hp (H p).n (Xd _) (by omega);obtain⟨w',top,ob,r1,r2,r3,r4⟩:=Du (P:=P) ok hz Z cl (by omega) bp (dH tmps) (o:=oM) (e1.trans bI);have bd:=A6 (P:=P) (F:=F) (dfs:=dfs) (k:=k) (cs:=cs) (rest:=rest) a1 V (.inr fun cc cY=>by grind) r1;rw [e2]at bd;refine⟨upd mu (H p).n (.blk w.heap.size 0 top),w',_,⟨⟨c,uI N (by omega),r3⟩,l.glob.mono r4,fun A s n b I B=>?_,by rw [pq];exact l.size,?_,?_,?_⟩,.one bd⟩
     . have a3:A≠p:=(by grind[fg]);rw [bO S a3]at n;rw [aO _ _ (by
        rcases Xy p A with x|x
        . have:=ep cZ (show p+1<=A from x) (by omega);omega
        . have:=ep cZ (show A+1<=p by omega) (by omega);omega)]
       exact l.non A s n b I B
     . refine oO D hd J hr hp r4 l.size t3.sized (v:=v) (v':=.pointer (some ⟨w.heap.size,0,none⟩)) ?_ hL l.regs;rw [hv];exact .ptr (xY mu (H p).n w.heap.size 0 _)
     . exact l.ext.alloc a5 bv (ep cZ (Xu p) (by omega)) r2
     . intro A s n b I B W;by_cases e:A=p
       . grind[upd_same]
       . rw [bO S e]at n;have Q:=l.cov A s n b I B;rcases r4 b Q with x|x
         . grind
         grind
   |false=>
   rcases kinds D J with Y|Y|Y
   . -- a read
     have be:cls E o.op<=1:=by
      rcases Y with x|x
      . grind
      . exact x
     have ad:p≠c:=(by intro e;rcases(cW J e.symm).2 with x|⟨x,_⟩<;>omega);obtain⟨f,f1,f2,f3⟩:=vH (E:=E) (op:=o.op) (ρ:=(L p).evD (tmpsOf o.op.operands.toList)) (by omega);rw [tw be]at r;have cm:f (H p)=some v:=by
      simp only [cI,cond_false]at r;rw [f1 (H p)]at r;cases hf:f (H p)with
      |none=>rw [hf]at r;cases r
      |some u=>rw [hf]at r;cases r;rfl
     have cn:f (H c)=some v:=(by rw [<-cm];exact read_at D cZ U hd N J hr hp be (bB.trans (pW (E:=E) (by omega) _ _)) (fun b G=>t1.lt b (Bc bb G)) (fun b G=>Z.lt b (Bc a7 G)) f1 f2 f3);have bY:cI E R ((L p).evD (tmpsOf o.op.operands.toList)) false o (H c)=some (v,H c):=(by simp only [cI,cond_false];rw [f1 (H c),cn];rfl);obtain⟨af,w1,v',k1,k2,k3,_,k4⟩:=ra ok hc hcode Z l.glob a7 (F:=F) (ops:=K) (i:=σ p) (dfs:=dfs) (k:=k) (cs:=cs) (rest:=rest) a1 V ((rQ e1).trans bY);rw [e2]at k4;have le:=k2.le Z;have bq: ∀b,mu b=.none->af b=.none:=by
      intro b G;by_cases cp:b<(H c).n
      . rcases k2.old b cp with x|⟨x,_⟩
        . rw [x];exact G
        grind
      . exact k1.none_ge (by omega)
     refine⟨af,w1,_,⟨⟨c,uI N ad,k1⟩,l.glob.mono le,fun A s n b I B=>?_,by rw [pq];exact l.size,?_,?_,?_⟩,k4⟩
     . refine bq b (l.non A s ?_ b I B);grind[bO]
     . exact oO D hd J hr hp le l.size t3.sized k3 hL l.regs
     . refine l.ext.step a5 (ep cZ (Xu c) N.1) (by rw [Aa Z.lt];exact k2) (bn c N.1) (fun _ _=>rfl) (fun b G=>?_);rw [k1.none_ge G,Z.none_ge G]
     . intro A s n b I B W;by_cases e:A=p
       . subst e;rw [tp.still Y]at B;omega
       . rw [bO S e]at n;have Q:=l.cov A s n b I B;rcases le b Q with x|x
         . grind
         grind
   . -- a quiet one:it runs at p,below c
     have ad:p<c:=by
      rcases Xn p c with h|h|h
      . exact h
      . exfalso;have hw:=cW J h.symm;rcases hw.2 with x|⟨_,x⟩
        . have:=Y.2.1;omega
        . rw [Y.2.2]at x;cases x
      . exfalso;rcases N.2.1 with e|⟨oc,ak,aL,bT⟩
        . omega
        . obtain⟨m,O⟩:=mask D J;have:=oZ D hd J O hr (cmp D J O h ak ⟨aL,.inr Y⟩);grind
     have bf: ∀j oj,p<=j->j<c->ops[j]? =some oj->isR E X oj j\/isQ E X q oj j\/ ∀b,b<(H (p+1)).n->(H (j+1)).get b=(H j).get b:=by
      intro j oj I B C;rcases kinds D C with x|x|x
      . exact .inl x
      . grind
      . refine .inr (.inr ?_);by_cases e:j=p
        . subst e;rw [J]at C;cases C;exfalso;rcases x.2 with y|⟨_,y⟩
          . have:=Y.2.1;omega
          . rw [Y.2.2]at y;cases y
        . obtain⟨m,O⟩:=mask D C;rcases cmpN D C O (by omega) J (.inr ⟨Y,x,a8⟩)with y|⟨_,y2,y3⟩
          . have:=n8 D hd j oj m p C O (N.2.2 j oj B C x) y;grind
          grind[wr_new]
     have ai: ∀b,b<(H p).n->(H c).get b=(H p).get b:=fun b G=>stand cZ (by omega) N.1 (fun j oj I B C=>(bf j oj I B C).imp id (.imp id fun f b G=>f b (by have:=tp.n;omega))) G;have ba: ∀b,b<(H (p+1)).n->(H c).get b=(H (p+1)).get b:=fun b G=>stand cZ (by omega) N.1 (fun j oj I B=>bf j oj (by omega) B) G;have c1:(H p).n<=(H c).n:=ep cZ (by omega) N.1;have bc:(H (p+1)).n<=(H c).n:=ep cZ (by omega) N.1;have b0:aM (cut mu (H p).n) (H p) w:=by
      refine⟨U p (by omega),fun b c0 base top O=>?_,fun b O=>?_,fun b b' c0 base top br b1 I B=>?_,fun b O=>?_⟩
      . by_cases G:b<(H p).n
        . rw [eu G]at O;obtain⟨x,ob,g1,g2,g3⟩:=Z.blk b c0 base top O;refine⟨x,ob,by grind,g2,?_⟩;have c2:bl b≠ .none:=by
           by_cases W:b<(H 0).n
           . have c3:mu0 b≠ .none:=by
              rcases l.ext.old b W with y|⟨y,_⟩
              . grind
              . exact y
             rcases t4.old b W with y|⟨_,y⟩
             . grind
             . rw [y];simp
           . exact t4.cover b (by omega) G
          cases b2:bl b with
          |none=>grind| dead=>
            have:=t1.dead b b2;rw [<-ai b G,g1]at this;cases this;exact g3.elim
          | blk cT bs b3=>
            obtain⟨xT,oT,j1,j2,j3⟩:=t1.blk b cT bs b3 b2;rw [<-ai b G,g1]at j1;cases j1;exact lR.cut (fun b' bt=>t1.lt b' bt) g3 j3
        grind[oY]
      . by_cases G:b<(H p).n
        . rw [eu G]at O;rw [<-ai b G];exact Z.dead b O
        grind[oY]
      . exact Z.inj b b' c0 base top br b1 (by
         grind[eu,oY]) (by
         grind[eu,oY])
      . by_cases G:b<(H p).n
        . exact G
        . rw [oY (by omega)]at O;grind
     have b4: ∀x,ao (cut mu (H p).n) ((L p).evD (tmpsOf o.op.operands.toList) x) (dH tmps x):=fun x=>ao.cut (fun b' bt=>t1.lt b' bt) (bb x) (a7 x);have cr:lW (cut mu (H p).n):=fun g hg=>(l.glob g hg).cut (t1.lt _ (t2 g hg).in);have bh:=r;rw [pK Y.2.1 Y.2.2]at bh;obtain⟨af,w1,v',k1,k2,k3,_,k4⟩:=ra ok hc hcode b0 cr b4 (F:=F) (ops:=K) (i:=σ p) (dfs:=dfs) (k:=k) (cs:=cs) (rest:=rest) a1 V ((rQ e1).trans bh);rw [e2]at k4;rw [<-hH]at k1 k2;obtain⟨gh,le,cv⟩:=glue_rel Z k1 k2 (fun b I B=>l.non p bk hp b I B) bc ba;refine⟨glue af mu (H (p+1)).n,w1,_,⟨⟨c,uI N (by omega),gh⟩,l.glob.mono le,fun A s n b I B=>?_,by rw [pq];exact l.size,?_,?_,?_⟩,k4⟩
     . have a3:A≠p:=(by grind[fg]);rw [bO S a3]at n;have Q:=l.non A s n b I B;rcases Xy p A with x|x
       . rw [kR (XN (ep cZ (show p+1<=A from x) (by omega)) I)];exact Q
       . have a4:b<(H p).n:=Xc B (ep cZ (show A+1<=p by omega) (by omega));rw [jW (Xc a4 tp.n)];rcases k2.old b a4 with y|⟨y,_⟩
         . rw [y,eu a4];exact Q
         grind[eu,absurd]
     . exact oO D hd J hr hp le l.size t3.sized (k3.mono cv) hL l.regs
     . exact l.ext.step a5 (ep cZ (Xu p) (by omega)) k2 (bn p (by omega)) (fun b G=>jW G) (fun b G=>kR G)
     . intro A s n b I B W;by_cases e:A=p
       . subst e;rw [jW B]at W;exact k2.cover b I B W
       . rw [bO S e]at n;have Q:=l.cov A s n b I B;rcases le b Q with x|x
         . grind
         grind
   . -- a writer:it is the one at c
     have ad:p=c:=by
      rcases Xn p c with h|h|h
      . have:=N.2.2 p o h J Y;grind
      . exact h
      . rcases N.2.1 with e|⟨oc,ak,aL,bT⟩
        . omega
        . obtain⟨m,O⟩:=mask D J;have:=oZ D hd J O hr (cmp D J O h ak ⟨aL,.inl Y⟩);grind
     subst ad;rw [tB Y]at r;obtain⟨af,w1,v',k1,k2,k3,_,k4⟩:=ra ok hc hcode Z l.glob a7 (F:=F) (ops:=K) (i:=σ p) (dfs:=dfs) (k:=k) (cs:=cs) (rest:=rest) a1 V ((rQ e1).trans r);rw [e2]at k4;have le:=k2.le Z;rw [<-hH]at k1 k2;obtain⟨c',d1,d2,d3,d4⟩:=next_W (E:=E) (ops:=ops) (q:=q) (X:=X) (ops.size-(p+1)) (p+1) (by omega);have bu:aM af (H c') w1:=(by refine xp k1 (U c' d2) (ep cZ d1 d2) (fun b G=>stand cZ d1 d2 (fun j oj I B C=>?_) G);grind[kinds,absurd]);refine⟨af,w1,_,⟨⟨c',⟨d2,?_,?_⟩,bu⟩,l.glob.mono le,fun A s n b I B=>?_,by rw [pq];exact l.size,?_,?_,?_⟩,k4⟩
     . rcases d3 with e|⟨o',b5,b6⟩
       . exact .inl e
       . refine .inr ⟨o',b5,b6,?_⟩;rw [bO S (by omega)];exact after_c D hd N (by omega) b5 (.inl b6) (fun _=>by omega)
     . intro i oi hi bx cx;by_cases b7:i=p
       . subst b7;exact fg S i
       . rw [bO S b7];rcases Xy i p with x|x
         . exact N.2.2 i oi x bx cx
         grind
     . have a3:A≠p:=(by grind[fg]);rw [bO S a3]at n;rcases Xy p A with x|x
       . exact k1.none_ge (XN (ep cZ (show p+1<=A from x) (by omega)) I)
       . have a4:b<(H p).n:=Xc B (ep cZ (show A+1<=p by omega) (by omega));have Q:=l.non A s n b I B;rcases k2.old b a4 with y|⟨y,_⟩
         . grind
         grind
     . exact oO D hd J hr hp le l.size t3.sized k3 hL l.regs
     . refine l.ext.step a5 (ep cZ (Xu p) N.1) (by rw [Aa Z.lt];exact k2) (bn p N.1) (fun _ _=>rfl) (fun b G=>?_);rw [k1.none_ge G,Z.none_ge (XN tp.n G)]
     . intro A s n b I B W;by_cases e:A=p
       . subst e;exact k2.cover b I B W
       . rw [bO S e]at n;have Q:=l.cov A s n b I B;rcases le b Q with x|x
         . grind
         grind
end
end Go.Ab

namespace Go.Ab
theorem mE{e a:Edge}(h:e.ground=a.ground):binds e=binds a:=by unfold binds Region.binds;rw [h]
structure Ord(ops opsM:Array Oper)(σ τ:Nat->Nat):Prop where
 size:ops.size=opsM.size
 lt: ∀p,p<ops.size↔σ p<ops.size
 st: ∀i,σ (τ i)=i
 ts: ∀p,τ (σ p)=p
 op: ∀p o,ops[p]? =some o-> ∃oM,opsM[σ p]? =some oM/\oM.op=o.op/\oM.dst=o.dst/\((o.guard=none/\oM.guard=none)\/ ∃j want,o.guard=some (j,want)/\oM.guard=some (σ j,want))/\
  (∀e∈o.after.toList,∃eM∈oM.after.toList,e.ground=eM.ground/\(eM.on<ops.size->e.on=τ eM.on)/\(ops.size<=eM.on->ops.size<=e.on))/\
  ∀eM∈oM.after.toList,∃e∈o.after.toList,e.ground=eM.ground/\(eM.on<ops.size->e.on=τ eM.on)/\(ops.size<=eM.on->ops.size<=e.on)
theorem Ord.same{ops e:Array Oper}{f g:Nat->Nat}(o:Ord ops e f g):jf ops e f:=by
 refine⟨fun p x h=>?_,fun _ _ p _ _ _ j=>?_⟩
 . obtain⟨k,a,b,c,d,_⟩:=o.op p x h;grind
 . have i: ¬p<ops.size:=(by grind);refine XJ ?_;rw [<-o.size];have:=mt (o.lt p).2 i;omega
theorem Ord.part{ops f g:Array Oper}{h q:Nat->Nat}(o:Ord ops f h q)(u: ∀(i:Nat),i<f.size->g[i]? =f[i]?)(r: ∀x∈f.toList,iO f.size x=true):jf ops g h:=by
 refine⟨fun p x k=>?_,fun p x j n k l v=>?_⟩
 . obtain⟨m,a,b,c,d,_⟩:=o.op p x k;grind
 . exfalso;obtain⟨m,a,_,_,d,_⟩:=o.op p x k;rcases d with⟨d,_⟩|⟨w,y,d,e⟩
   . grind
   . rw [l]at d;cases d;have s:m∈f.toList:=(by grind);have:=r m s;unfold iO at this;rw [e]at this;have t:h j<ops.size:=(by rw [o.size];simp_all);have z:=(o.lt j).2 t;grind
theorem Ord.id(ops:Array Oper):Ord ops ops (fun i=>i) (fun i=>i):=by
 refine⟨rfl,fun _=>Iff.rfl,fun _=>rfl,fun _=>rfl,fun p o b=>⟨o,b,rfl,rfl,?_,fun e a=>⟨e,a,rfl,fun _=>rfl,fun h=>h⟩,fun e a=>⟨e,a,rfl,fun _=>rfl,fun h=>h⟩⟩⟩;cases c:o.guard with
 |none=>grind|some q=>grind
theorem sn{i:Nat}: ∀{l:List Nat},i∈l->gG i l<l.length/\l[gG i l]? =some i
 | [],h=>by cases h
 | x ::l,h=>by
   unfold gG;cases d:XB i x with
   | true=>simp_all| false=>
     have c:i≠x:=(by grind[Xi]);rcases List.mem_cons.1 h with e|h
     . omega
     . obtain⟨a,b⟩:=sn h;grind
theorem ug{i:Nat}: ∀{l:List Nat},i∉l->gG i l=l.length
 | [],_=>rfl| x::l,h=>by unfold gG;have a:XB i x=false:=(by grind[XB,absurd,Xb]);simp_all[cond_false,List.length_cons,ug,Xe]
theorem ordL_mem(ops:List Oper)(i:Nat):i∈ordL ops↔i<ops.length:=by grind[ordL,xR,lateAt]
theorem CB(ops:List Oper):(ordL ops).Nodup:=by
 unfold ordL;rw [List.nodup_append,List.nodup_append];refine⟨List.nodup_range.filter _,⟨List.nodup_range.filter _,List.nodup_range.filter _,fun a c b d e=>?_⟩,fun a c b d e=>?_⟩
 . grind
 grind
theorem ordL_len(ops:List Oper):(ordL ops).length=ops.length:=by
 unfold ordL;rw [List.length_append,List.length_append];have a: ∀(l:List Nat) (f g:Nat->Bool),(l.filter f).length+((l.filter fun i=>!f i&& !g i).length+(l.filter fun i=>!f i&&g i).length)=l.length:=by
  intro l f g
  induction l with
  |nil=>rfl| cons x l b=>grind
 simp_all
theorem zz(ops:List Oper)(ord:List Nat): ∀(l:List Nat),(∀i∈l,i<ops.length)-> ∀(p:Nat),(fk ops ord l)[p]? =(l[p]?).bind fun(i:Nat)=>(ops[i]?).map (reix ord)
 | [],_,p=>by simp [fk]| i ::l,h,p=>by
   have a:i<ops.length:=h i Xl;unfold fk;rw [Xj a];simp only [];cases p with
   |zero=>simp [a]| succ p=>
     simp only [Xt];exact zz ops ord l (fun j b=>h j (Xe _ b)) p
theorem vh{ord:List Nat}(c:ord.Nodup){p i:Nat}(d:ord[p]? =some i):gG i ord=p:=by have e:i∈ord:=Xf d;obtain⟨a,b⟩:=sn e;grind[XE,Xn,gG,absurd,List.pairwise_iff_getElem]
theorem Be(ops:Array Oper)(ord:List Nat)(c: ∀i,i∈ord↔i<ops.toList.length)(m:ord.Nodup)(f:ord.length=ops.toList.length)(u:ops.toList.all (iO ops.toList.length)=true):
 Ord (fk ops.toList ord ord).toArray ops (fun p=>(ord[p]?).getD p) (fun i=>if i<ops.size then gG i ord else i):=by
 have v:ops.toList.length=ops.size:=by simp
 rw [v]at f c;have g:=zz ops.toList ord ord (fun i B=>by grind);have n:(fk ops.toList ord ord).length=ops.size:=by
  have j: ∀p,p<(fk ops.toList ord ord).length↔p<ops.size:=by intro p;have C:p<(fk ops.toList ord ord).length↔((fk ops.toList ord ord)[p]?).isSome=true:=(by simp);grind
  have a:=j (fk ops.toList ord ord).length;have b:=j ops.size;omega
 have D: ∀p,p<ops.size-> ∃i,ord[p]? =some i/\i<ops.size:=fun p q=>⟨ord[p]'(by omega),Xj _,(c _).1 (List.getElem_mem _)⟩;have w: ∀p i,ord[p]? =some i->gG i ord=p:=fun p i q=>vh m q;have d:(fk ops.toList ord ord).toArray.size=ops.size:=by simp [n]
 refine⟨d,fun p=>?_,fun i=>?_,fun p=>?_,fun p o x=>?_⟩
 . grind
 . by_cases h:i<ops.size
   . simp_all[if_pos,sn]
   grind
 . grind
 . have k:(fk ops.toList ord ord)[p]? =some o:=(by simpa using x);rw [g]at k;obtain⟨i,E,y⟩:=Option.bind_eq_some_iff.1 k;obtain⟨r,z,rfl⟩:=Option.map_eq_some_iff.1 y;have A:ops[i]? =some r:=(by simpa using z);refine⟨r,by grind,rfl,rfl,?_,?_,?_⟩
   . grind[Xp,Xf,iO,reix,Nat.blt_eq,gG,sn]
   . intro e s;simp only [reix,Array.toList_map,XO]at s;obtain⟨l,t,rfl⟩:=s;refine⟨l,t,rfl,fun h=>?_,fun h=>?_⟩
     . grind
     simp_all[gG,ug,Xd]
   . intro l t;refine⟨{l with on:=gG l.on ord},by simp only [reix,Array.toList_map,XO];grind,rfl,fun h=>?_,fun h=>?_⟩
     . grind
     simp_all[gG,ug,Xd]
theorem zE(ops:Array Oper): ∃(a:Array Oper) (c d:Nat->Nat),a.toList=bU ops.toList/\Ord a ops c d:=by
 unfold bU;cases b:(ops.toList.any tJ||ti ops.toList)&&ops.toList.all (iO ops.toList.length)with
 |false=>exact⟨ops,_,_,rfl,Ord.id ops⟩| true=>simp only [Xa]at b;exact⟨_,_,_,rfl,Be ops _ (ordL_mem ops.toList) (CB ops.toList) (ordL_len ops.toList) b.2⟩
end Go.Ab

namespace Go.Ab

def jd(S:Nat->Bool):Nat->Nat
 |0=>0|n+1=>jd S n+(if S n=true then 0 else 1)
theorem pX{S:Nat->Bool}: ∀{n:Nat},jd S n=0-> ∀i,i<n->S i=true
 |0,_,i,a=>by omega| n +1,h,i,a=>by
   simp only [jd]at h;by_cases b:S n=true
   . rw [if_pos b]at h;by_cases e:i=n
     . grind
     . exact pX (n:=n) (by omega) i (by omega)
   grind
theorem qG{S:Nat->Bool}: ∀{n:Nat},jd S n≠0-> ∃i,i<n/\S i=false/\ ∀j,j<i->S j=true
 |0,h=>absurd rfl h| n +1,h=>by
   by_cases a:jd S n=0
   . have b:=pX a;simp only [jd,a]at h;grind
   . obtain⟨i,e,c,d⟩:=qG a;exact⟨i,by omega,c,d⟩
theorem AI{S:Nat->Bool}{p:Nat}: ∀{n:Nat},n<=p->jd (kG S p) n=jd S n
 |0,_=>rfl| n+1,h=>by simp only [jd];rw [AI (by omega),bO S (by omega)]
theorem tV{S:Nat->Bool}{p:Nat}(a:S p=false): ∀{n:Nat},p<n->jd (kG S p) n+1=jd S n
 |0,h=>by omega| n +1,h=>by
   simp only [jd];by_cases e:p=n
   . simp_all[AI,Xd,fg]
   . have:=tV a (n:=n) (by omega);rw [bO S (by omega)];omega
theorem pO: ∀(n:Nat),jd (fun _=>false) n=n
 |0=>rfl|n+1=>by simp [jd,pO n]

def bS(listed:Array Bool):Nat->Bool:=fun i=>listed.getD i false
theorem u6{listed:Array Bool}{p:Nat}(a:p<listed.size):bS (listed.setIfInBounds p true)=kG (bS listed) p:=by funext i;simp only [bS,kG,zM,Array.getElem?_setIfInBounds];grind

theorem put_dfs(l:Loc)(d:Option Tmp)(v:Value):(l.put d v).dfs=l.dfs/\(l.put d v).rc=l.rc:=by cases d<;>exact⟨rfl,rfl⟩

def oy(ops:Array Oper):(Nat->Bool)->List Nat->Prop
 |S,[]=> ∀i,i<ops.size->S i=true|S,p::a=>p<ops.size/\S p=false/\(∀o,ops[p]? =some o->Ready o S)/\oy ops (kG S p) a
theorem v9{ops a:Array Oper}{d f:Nat->Nat}(c:Ord ops a d f){M:List Nat}(h: ∀i,qF ops.toList M i): ∀(b t:Nat) (listed:Array Bool),listed.size=ops.size->jd (fun p=>bS listed (d p)) ops.size=b->
 oy ops (fun p=>bS listed (d p)) ((Region.linearise.go .any a b t listed []).map f)
 |0,t,listed,r,K=>pX K| b + 1,t,listed,r,K=>by
   have s: ∀i,i<ops.size->f i<ops.size:=fun i k=>(c.lt (f i)).2 (by rw [c.st];exact k);have u: ∀i,i∈Region.ready .any a listed->i<ops.size/\bS listed i=false/\ ∀o,ops[f i]? =some o->Ready o (fun p=>bS listed (d p)):=by
    intro i k;unfold Region.ready at k;simp only [Xz,Xo,Xa,Xh]at k;obtain⟨g,B,j⟩:=k;rw [<-c.size]at g;refine⟨g,?_,fun o C e y l=>?_⟩
    . grind[bS,zM,zB]
    . obtain⟨O,z,_,_,_,P,_⟩:=c.op (f i) o C;rw [c.st]at z;rw [z]at j;simp only [Xm,Xw]at j;obtain⟨q,D,A,E,Q⟩:=P e y;have:=(Array.all_eq_true'.1 j) q (by simpa using D);rw [mE A]at l;unfold binds at l;rw [l]at this;obtain⟨m,_,v,_⟩:=h (f i) o (by grind);have w:=v e y (by rw [mE A];unfold binds;exact l);have:=s i g;have hlt:q.on<ops.size:=(by omega);show bS listed (d e.on)=true;rw [E hlt,c.st];grind[bS,XC]
   have F:Region.ready .any a listed≠ []:=by
    obtain⟨p,g,B,j⟩:=qG (S:=fun p=>bS listed (d p)) (n:=ops.size) (by omega);intro e;have C:ops[p]? =some ops[p]:=zB g;obtain⟨m,_,l,_⟩:=h p ops[p] (by grind);obtain⟨O,z,_,_,_,_,R⟩:=c.op p _ C;have L:=(c.lt p).1 g;have :d p∈Region.ready .any a listed:=by
     unfold Region.ready;simp only [Xz,Xo,Xa,Xh];refine⟨by grind,?_,?_⟩
     . grind[bS,zM,zB]
     . rw [z];simp only [Xm,Xw];refine Array.all_eq_true'.2 fun q y=>?_;cases G:Region.binds .any q with
       |false=>rfl| true=>
         obtain⟨N,D,A,E,Q⟩:=R q (by simpa using y);have w:=l N D (by rw [mE A];unfold binds;exact G);have hlt:q.on<ops.size:=(by omega);have:=j N.on w;rw [E hlt,c.st]at this;simpa [bS]using this
    grind
   simp only [Region.linearise.go];change oy ops (fun p=>bS listed (d p)) (List.map f (match(Region.ready .any a listed)[t%(Region.ready .any a listed).length]? with
    |some i=>Region.linearise.go .any a b (t/(Region.ready .any a listed).length) (listed.setIfInBounds i true) [i]|none=>[].reverse))
   have x:0<(Region.ready .any a listed).length:=List.length_pos_iff.2 F;have hlt:=Nat.mod_lt t x;rw [Xj hlt];simp only [];generalize k:(Region.ready .any a listed)[t%(Region.ready .any a listed).length]=i;have H:i∈Region.ready .any a listed:=(by grind);obtain⟨g,B,j⟩:=u i H;have I:=s i g;have J:(fun p=>bS listed (d p)) (f i)=false:=(by show bS listed (d (f i))=false;rw [c.st];exact B);rw [linearise_go_acc,List.reverse_singleton,List.singleton_append,XD];have T:(fun p=>bS (listed.setIfInBounds i true) (d p))=kG (fun p=>bS listed (d p)) (f i):=by
    funext p;rw [u6 (listed:=listed) (p:=i) (by omega)];by_cases e:p=f i
    . subst e;rw [c.st,fg,fg]
    . rw [bO _ e,bO _ (by intro U;exact e (by rw [<-U,c.ts]))]
   refine⟨I,J,j,?_⟩;rw [<-T];exact v9 c h b _ _ (by simpa using r) (by grind[tV,bS])

section
variable{E:Env}{P:Program}(ok:EOk E P){R:Rec}(hc:ic E P R.call)(hcode:jk P R.code)
variable{ops:Array Oper}{q:Nat}{ps:List (Nat×Nat)}{M:List Nat}{L:Nat->Loc}{H:Nat->Hp}{T:Nat->Option Nat}{X:Nat->Bool}(D:DT E R ops q ps M L H T X)
variable{nr:Nat}{mu0:Mu}{w0:World}

include D in
theorem down_add{S:Nat->Bool}(g:Down ops S){p:Nat}{o:Oper}(h:ops[p]? =some o)(j:Ready o S):Down ops (kG S p):=by
 intro i k a f e c d;by_cases b:i=p
 . subst b;rw [h]at a;cases a;obtain⟨m,_,l,_⟩:=D.bef i o (by grind);have:=l e c d;rw [bO S (by omega)];exact j e c d
 . rw [bO S b]at f;have:=g i k a f e c d;grind[fg,bO]

include ok hc hcode D in
theorem go_list(cZ: ∀j o,j<ops.size->ops[j]? =some o->Turn ops E X q H T j o)(l: ∀i,i<=ops.size->qy nr mu0 w0 L H i)(m: ∀b,mu0 b≠ .none->b<(H 0).n)(e: ∀b c base top,mu0 b=.blk c base top->c<w0.heap.size)
 {d:Array Oper} {t:Nat->Nat} (A:jf ops d t) {tl:List Nat} {F:FC} {dfs:List Deferred} {k:List Item} {cs:List Frame}: ∀(n:List Nat) (S:Nat->Bool) (mu:Mu) (w:World) (tmps:Array Value),oy ops S n->Down ops S->
  Inv E ops q L H X nr mu0 w0 S mu w tmps->
  ∃ s f w' a,Inv E ops q L H X nr mu0 w0 s f w' a/\(∀i,i<ops.size->s i=true)/\
    Steps P (lone (F.mk' tmps dfs (.inRegion d (n.map t++tl)::k)) cs w) (lone (F.mk' a dfs (.inRegion d tl::k)) cs w')
 | [],S,mu,w,tmps,u,v,g=>⟨S,mu,w,tmps,g,u,Steps.refl _ _⟩| p::n,S,mu,w,tmps,u,v,g=>by obtain⟨C,G,I,J⟩:=u;have x:ops[p]? =some ops[p]:=zB C;have B:=I _ x;obtain⟨y,K,h,r,z⟩:=inv_step ok hc hcode D cZ l m e A g v x B G (F:=F) (dfs:=dfs) (k:=k) (cs:=cs) (rest:=n.map t++tl);obtain⟨s,f,w',a,N,O,Q⟩:=go_list cZ l m e A n _ y K h J (down_add D v x B) r;exact⟨s,f,w',a,N,O,Steps.trans z Q⟩

include ok hc hcode in
theorem tI(cx:Cx)(ops z:Array Oper){σ:Nat->Nat}(sm:jf ops z σ)(ls:List Nat)(hg:oy ops (fun _=>false) ls)(tl:List Nat)(l:Loc)(h:Hp)(l':Loc)(h':Hp)(q:Nat)(ps:List (Nat×Nat))(tr:List (Nat×Tch))
 (hp:jh E ops.toList=some (q,ps)) (he:bN E R ops.toList q ops.toList 0 l h []=some (l',h',tr)) (O:cB tr ps=true)
 (mu:Mu) (w:World) (F:FC) (A:List Frame) (tmps:Array Value) (dfs:List Deferred) (B:Option (Value×Bool)) (k:List Item) (s:SR P cx l h mu w F A tmps dfs B):
 ∃ r w' d,SR P cx l' h' r w' F A d dfs B/\Ext mu h w r h' w'/\
   Steps P (lone (F.mk' tmps dfs (.inRegion z (ls.map σ++tl)::k)) (aN B A) {w with drawn:=w.drawn+1})
    (lone (F.mk' d dfs (.inRegion z tl::k)) (aN B A) w'):=by
 obtain⟨M,a3,ba⟩:=plan_ok hp;obtain⟨_,L,H,T,X,ai,K,Q,S,a4,U,ak⟩:=Ax _ _ _ _ _ _ _ _ he;rw [Xr,Array.length_toList]at Q S;have D:DT E R ops q ps M L H T X:=by
  refine⟨a3,fun n o I h4=>?_,fun n o m i p I hm V bb Y=>?_,fun i o I=>?_,fun {i j a b o p} u I hp ro rp ha Y=>?_,fun {i j a o p} u I hp ro rp hx hh ha=>?_⟩
  . grind
  . grind
  . grind
  . have e1:=U i o a (by grind) ro (by grind);have e2:=U j p b (by grind) rp (by grind);rw [Xr]at e1 e2;have:=rP O u;grind[kK,Xi]
  . have e1:=U i o a (by grind) ro (by grind);have e2:=ak j p (by grind) rp (by grind) (by grind);rw [Xr]at e1 e2;rcases u with u|u
    . have:=rP O u;rw [e1,e2]at this;exact zJ this
    . have:=rP O u;rw [e1,e2]at this;exact zJ this
 let w0:World:={w with drawn:=w.drawn+1}
 have N:aM mu h w0:=tE s.hr rfl;have e0:Ext mu h w mu h w0:=vI s.hr rfl rfl rfl rfl;have aL:qy cx.nr mu w0 L H 0:=⟨mu,w0,tmps,by grind,s.glob,by rw [ai];exact s.regs,by rw [K];exact Ext.refl mu h w0 N⟩;have Z: ∀i,i<=ops.size->qy cx.nr mu w0 L H i:=fun i V=>(shadow ok hc hcode D i V aL).1;have cZ: ∀j o,j<ops.size->ops[j]? =some o->Turn ops E X q H T j o:=fun j o hj I=>(shadow ok hc hcode D ops.size (Xd _) aL).2 j o hj I;have a0: ∀b,mu b≠ .none->b<(H 0).n:=by rw [K];exact s.hr.lt
 have a1: ∀b c f C,mu b=.blk c f C->c<w0.heap.size:=fun b c f C hm=>N.clt hm;have ad: ∀j,j<=ops.size->(H j).t.Sized (H j).n:=fun j hj=>by obtain⟨_,_,_,g,_⟩:=Z j hj;exact g.sized
 have a2:Inv E ops q L H X cx.nr mu w0 (fun _=>false) mu w0 tmps:=by
  obtain⟨c',d1,d2,d3,d4⟩:=next_W (E:=E) (ops:=ops) (q:=q) (X:=X) ops.size 0 (by omega);refine⟨⟨c',⟨d2,?_,fun i o V I hw=>absurd hw (d4 i o (Xu _) V I)⟩,?_⟩,s.glob,fun p bc _ b h1 h2=>?_,s.regs.size,fun i V t v a5 hv=>?_,by rw [K];exact WExt.refl N,fun p _ J=>by cases J⟩
  . grind
  . refine xp (h:=H 0) (by grind) (ad c' d2) (ep cZ d1 d2) (fun b Y=>stand cZ d1 d2 (fun j oj h1 h2 a6=>?_) Y);grind[kinds,absurd]
  . exact N.none_ge (by
     have:=ep cZ (Xu p) (by omega);grind)
  . have G:(L (0+i)).regs.get t=(L 0).regs.get t:=(by refine walk_eq (fun j=>(L j).regs.get t) (a:=0) i (fun j h1 h2=>?_);have a6:ops[j]? =some ops[j]:=zB (by omega);grind[si]);rw [Xr]at G;rw [G,ai]at hv;exact s.regs.get t v hv
 obtain⟨S',r,w',d,g1,g2,g3⟩:=go_list ok hc hcode D cZ Z a0 a1 sm (tl:=tl) (F:=F) (dfs:=dfs) (k:=k) (cs:=aN B A) ls _ mu w0 tmps hg (fun i o _ J=>by cases J) a2;obtain⟨c,hC,hh⟩:=g1.c;have a7:c=ops.size:=by
  rcases hC.2.1 with e|⟨o,I,_,J⟩
  . exact e
  grind
 subst a7;rw [S]at hh;obtain⟨bd,wT,a8,t1,t2,t3,t4⟩:=Z ops.size (Xd _);rw [Q]at t3;rw [S]at t1 t4;have le:Le mu r:=by
  intro b Y;rcases g1.ext.old b (a0 b Y)with x|⟨_,x⟩
  . exact .inl x
  . exact .inr x
 have af: ∀i,i<=ops.size->(L i).dfs=l.dfs/\(L i).rc=l.rc:=by
  intro i
  induction i with
  |zero=>grind| succ i ih=>
    intro V;have:=ih (by omega);have J:=D.step i ops[i] (zB (by omega));generalize L (i+1)=L1 at J⊢;generalize H (i+1)=H1 at J;generalize T i=T1 at J;generalize X i=X1 at J;cases J with
    |skip hg=>grind[put_dfs,trans]|exec hg be=>grind[put_dfs,trans]
 have hk:=af ops.size (Xd _);rw [Q]at hk;have ext:Ext mu h w0 r h' w':=by
  have W:=g1.ext;rw [K]at W t4;refine⟨t4.n,W.old,W.fresh,t4.lo,t4.same,W.frame,fun b c f C t sz el hm hg=>?_,W.wsize,W.os,W.tape,W.output,fun b h1 h2=>?_⟩
  . obtain⟨x,y⟩:=W.ro b c f C t sz el hm hg;exact⟨x,(t4.ro b c f C t sz el hm hg).2.1,y⟩
  . have bf: ∀i,i<=ops.size->b<(H i).n->r b≠ .none:=by
     intro i
     induction i with
     |zero=>grind| succ i ih=>
       intro V Y;by_cases bh:b<(H i).n
       . grind
       . exact g1.cov i (by omega) (g2 i (by omega)) b (by omega) Y
    grind
 refine⟨r,w',d,⟨hh,g1.glob,⟨g1.size,t3.sized,fun i v hv=>?_⟩,?_,?_,s.ko,s.fn,s.rd.mono le,s.rn,s.fs⟩,Ext.trans e0 ext,g3⟩
 . refine g1.regs ops.size (Xd _) i v (fun p o I _=>?_) (by grind);grind
 . rw [hk.1];exact LR.mono s.dfs fun _ _=>mV.mono le
 . rw [hk.2];exact s.rc.mono le
include ok hc hcode in
theorem zx(cx:Cx)(a b:Array Oper)(B:b=a\/(∀(i:Nat),i<a.size->b[i]? =a[i]?)/\ ∀x∈a.toList,iO a.size x=true)(tl:List Nat)(l:Loc)(h:Hp)(l':Loc)(m:Hp)(q:Nat)(ps:List (Nat×Nat))(n:List (Nat×Tch))
 (o:jh E (bU a.toList)=some (q,ps)) (z:bN E R (bU a.toList) q (bU a.toList) 0 l h []=some (l',m,n)) (u:cB n ps=true)
 (mu:Mu) (w:World) (F:FC) (c:List Frame) (tmps:Array Value) (dfs:List Deferred) (d:Option (Value×Bool)) (k:List Item) (s:SR P cx l h mu w F c tmps dfs d) (t:Nat):
 ∃ g w' e,SR P cx l' m g w' F c e dfs d/\Ext mu h w g m w'/\
   Steps P (lone (F.mk' tmps dfs (.inRegion b (Region.linearise.go .any a a.size t (zO a.size false) []++tl)::k)) (aN d c) {w with drawn:=w.drawn+1})
    (lone (F.mk' e dfs (.inRegion b tl::k)) (aN d c) w'):=by
 obtain⟨ops,v,C,G,f⟩:=zE a;have I:jf ops b v:=by
  rcases B with rfl|⟨J,K⟩
  . exact f.same
  . exact f.part J K
 rw [<-G]at o z;have j:(fun p=>bS (zO a.size false) (v p))=fun _=>false:=by
  funext i;simp only [bS,zM,Xs]
  split<;>rfl
 obtain⟨M,y,_⟩:=plan_ok o;have A:=v9 f y a.size t (zO a.size false) (by simp [f.size]) (by rw [j,<-f.size];exact pO _);rw [j]at A;have r:=tI ok hc hcode cx ops b I _ A tl l h l' m q ps n o z u mu w F c tmps dfs d k s;rw [XP,show(v∘C)=id from funext f.st,List.map_id]at r;exact r
include ok hc hcode in
theorem draw_ok:DrawOk E P R:=by
 intro n id a l h o p q ps r t u g v w F i d e f k s;have b:Region.schedule (P.follows .mixedOrders) a (w.tape w.drawn (.order F.fn id))=Region.linearise.go .any a a.size (w.tape w.drawn (.order F.fn id)) (zO a.size false) []:=by rw [ok.mixed];rfl
 obtain⟨j,x,c,y,z,m⟩:=zx ok hc hcode n a a (.inl rfl) [] l h o p q ps r t u g v w F i d e f k s (w.tape w.drawn (.order F.fn id));rw [XH]at m;refine⟨j,x,c,e,f,y,z,Steps.trans (.one ?_) (Steps.trans m (.one pz))⟩;rw [<-b];rfl

theorem bef_bit{ops:Array Oper}{M:List Nat}(p: ∀i,qF ops.toList M i){S:Nat->Bool}{N:Nat}(r: ∀(i:Nat) o,i<N->ops[i]? =some o->S i=true-> ∀e∈o.after.toList,binds e=true->S e.on=true): ∀(n:Nat) (o:Oper) (m i:Nat),n<=N->ops[n]? =some o->M[n]? =some m->Ready o S->m.testBit i=true->S i=true:=by
 intro n
 induction n using Nat.strongRecOn with
 | _ n s=>
   intro o m i B t u v f;obtain⟨C,k,w,y⟩:=p n o (by grind);rw [u]at k;cases k;obtain⟨e,l,a,x⟩:=y i f;have b:=v e l a;rcases x with rfl|⟨m2,g,h⟩
   . exact b
   . have hlt:=w e l a;have z:n<ops.size:=(Array.getElem?_eq_some_iff.1 t).1;have c:ops[e.on]? =some ops[e.on]:=zB (by omega);exact s e.on hlt ops[e.on] m2 i (by omega) c g (fun A j d=>r e.on _ (by omega) c b A j d) h

theorem yY(l:Array Bool)(i:Nat):(l.push false).getD i false=l.getD i false:=by simp only [zM,Xk];grind
theorem xy{ops A:Array Oper}{n:Nat}(c:A.size=n)(d:ops.size=n+1)(a: ∀i,i<n->ops[i]? =A[i]?)(l:Array Bool)(g:l.size=n):
 Region.ready .any ops (l.push false)=Region.ready .any A l++(if((ops[n]?).map (·.after.all fun e=>!Region.binds .any e||l.getD e.on false)).getD false=true then [n]else []):=by
 unfold Region.ready;rw [d,c,List.range_succ,List.filter_append];congr 1
 . refine List.filter_congr fun i f=>?_;have b:i<n:=List.mem_range.1 f;rw [a i b];simp only [yY];congr 2;simp only [zM,Xk];grind
 . simp only [yY];simp_all[zM,Xk,if_pos,List.filter_cons,List.filter_nil,Bool.not_false,Bool.true_and]

theorem lin_pop{ops A:Array Oper}{n:Nat}(v:A.size=n)(O:ops.size=n+1)(b: ∀i,i<n->ops[i]? =A[i]?){M:List Nat}(w: ∀i,qF ops.toList M i){x:Nat}(y:M[n]? =some x)(f: ∀i,i<n->x.testBit i=true):
 ∀ (a t:Nat) (l:Array Bool),l.size=n->(∀(i:Nat) o,i<n->ops[i]? =some o->bS l i=true-> ∀e∈o.after.toList,binds e=true->bS l e.on=true)->jd (bS l) n=a->
   Region.linearise.go .any ops (a+1) t (l.push false) []=Region.linearise.go .any A a t l []++[n]:=by
 have z:ops[n]? =some (ops[n]'(by omega)):=zB _;obtain⟨m0,k1,W,_⟩:=w n _ (by rw [Xg];exact z);have g: ∀(B:Array Oper) (a t:Nat) (l:Array Bool),Region.linearise.go .any B (a+1) t l []=(match(Region.ready .any B l)[t%(Region.ready .any B l).length]? with
  |some i=>Region.linearise.go .any B a (t/(Region.ready .any B l).length) (l.setIfInBounds i true) [i]|none=>[]):=fun _ _ _ _=>rfl
 intro a
 induction a with
 | zero=>
   intro t l s Q h;have U:=pX h;have C:Region.ready .any A l=[]:=(by grind[Region.ready,List.filter_eq_nil_iff,bS,zM,zB]);have F:Region.ready .any ops (l.push false)=[n]:=by
    rw [xy v O b l s,C,z];simp only [Xm,Xw,XI];rw [if_pos];refine Array.all_eq_true'.2 fun e u=>?_;cases d:Region.binds .any e with
    |false=>rfl| true=>have:=W e (by simpa using u) d;grind[bS]
   rw [g,F];simp [Region.linearise.go,Nat.mod_one]
 | succ a Y=>
   intro t l s Q h;have G:Region.ready .any ops (l.push false)=Region.ready .any A l:=(by rw [xy v O b l s,if_neg,XH];intro hc;obtain⟨p,I,Z,_⟩:=qG (S:=bS l) (n:=n) (by omega);have:bS l p=true:=(by refine bef_bit w Q n _ x p (Xd _) z y (fun e u d=>?_) (f p I);grind[XC,binds,bS]);grind);rw [g,g,G];have J:Region.ready .any A l≠ []:=by
    obtain⟨p,I,Z,p3⟩:=qG (S:=bS l) (n:=n) (by omega);have V:ops[p]? =some (ops[p]'(by omega)):=zB _;obtain⟨m,_,K,_⟩:=w p _ (by rw [Xg];exact V);have :p∈Region.ready .any A l:=by
     unfold Region.ready;simp only [Xz,Xo,Xa,Xh];refine⟨by omega,?_,?_⟩
     . grind[bS,zM,zB]
     . rw [<-b p I,V];simp only [Xm,Xw];refine Array.all_eq_true'.2 fun e u=>?_;cases d:Region.binds .any e with
       |false=>rfl| true=>have:=p3 e.on (K e (by simpa using u) d);simpa [bS]using this
    grind
   have j:0<(Region.ready .any A l).length:=List.length_pos_iff.2 J;have hlt:=Nat.mod_lt t j;rw [Xj hlt];simp only [];generalize hi:(Region.ready .any A l)[t%(Region.ready .any A l).length]=i;have N:i∈Region.ready .any A l:=(by grind);have c:=N;unfold Region.ready at c;simp only [Xz,Xo,Xa,Xh]at c;obtain⟨h1,h2,h3⟩:=c;rw [v]at h1;have ad:bS l i=false:=(by grind[bS,zM,zB]);have k:(l.push false).setIfInBounds i true=(l.setIfInBounds i true).push false:=(by grind);have r:=u6 (listed:=l) (p:=i) (by omega);rw [linearise_go_acc,linearise_go_acc (acc:=[i]),List.append_assoc,k];rw [Y _ (l.setIfInBounds i true) (by simpa using s) ?_ ?_]
   . rw [r];grind[XC,binds,bS,kG,bO]
   grind[tV,bS]

theorem u9{ops:Array Oper}{n:Nat}(w:ops.size=n+1)(a:jT ops.toList n=true)(t:Nat):Region.linearise.go .any ops (n+1) t (zO (n+1) false) []=Region.linearise.go .any (ops.extract 0 n) n t (zO n false) []++[n]:=by
 unfold jT at a;simp only [Xa]at a;obtain⟨b,j⟩:=a;unfold fullM at b;have e:ops.toList.length=ops.size:=by simp
 split at b
 next m f c=>
  obtain⟨k,_,g⟩:=uA _ _ _ c;simp only [List.length_nil,Xr]at k g;have l: ∀i,qF ops.toList (m::f).reverse i:=fun i o p=>g i o p;have r:(m::f).reverse[n]? =some m:=by grind
  have d: ∀i,i<n->m.testBit i=true:=fun i s=>List.all_eq_true.1 b i (List.mem_range.2 s);have u:(ops.extract 0 n).size=n:=by simp;omega
  have h: ∀i,i<n->ops[i]? =(ops.extract 0 n)[i]? :=by grind
  generalize ops.extract 0 n=A at*
  have v:bS (zO n false)=fun _=>false:=by
   funext i;simp only [bS,zM,Xs]
   split<;>rfl
  rw [Array.replicate_succ];grind[lin_pop,pO]
 grind

include ok hc hcode in
theorem yL (cx:Cx) (id:Nat) (ops:Array Oper) (l:Loc) (h:Hp) (l':Loc) (j:Hp) (x:Ex) (mu:Mu) (w:World) (F:FC) (c:List Frame) (tmps:Array Value) (dfs:List Deferred) (d:Option (Value×Bool)) (k:List Item) (s:SR P cx l h mu w F c tmps dfs d) (n:Nat) (S:n<=ops.size) (o:(ops.toList.take n).all (iO n)=true)
 (a: ∀t,Region.linearise.go .any ops ops.size t (zO ops.size false) []=Region.linearise.go .any (ops.extract 0 n) n t (zO n false) []++XK n (ops.size-n))
 (b :(match jh E (bU (ops.toList.take n))with
   |none=>none| some (q,ps)=>match bN E R (bU (ops.toList.take n)) q (bU (ops.toList.take n)) 0 l h []with
     |none=>none|some (l',j,m)=>bif cB m ps then iG E R cx ops.toList (ops.toList.drop n) l' j else none)=some (x,l',j)):
 Sim P cx h mu w F c tmps dfs d (.code (.region id ops true)::k) k x l' j:=by
 have p:(ops.extract 0 n).toList=ops.toList.take n:=by simp
 have u:(ops.extract 0 n).size=n:=by simp;omega
 have e: ∀i,i<n->ops[i]? =(ops.extract 0 n)[i]? :=by grind
 rw [<-p]at b o;generalize ops.extract 0 n=A at*
 cases z:jh E (bU A.toList)with
 |none=>grind| some C=>
   obtain⟨q,ps⟩:=C;rw [z]at b;simp only []at b;cases B:bN E R (bU A.toList) q (bU A.toList) 0 l h []with
   |none=>grind| some G=>
     obtain⟨I,J,m⟩:=G;rw [B]at b;simp only []at b;cases f:cB m ps with
     |false=>grind| true=>
       rw [f]at b;simp only [cond_true]at b;have K:Region.schedule (P.follows .mixedOrders) ops (w.tape w.drawn (.order F.fn id))=Region.linearise.go .any A A.size (w.tape w.drawn (.order F.fn id)) (zO A.size false) []++XK n (ops.size-n):=(by rw [ok.mixed,u];exact a _);obtain⟨N,U,v,O,Q,g⟩:=zx ok hc hcode cx A ops (.inr ⟨fun i V=>e i (by omega),fun x W=>by grind⟩) (XK n (ops.size-n)) l h I J q ps m z B f mu w F c tmps dfs d k s (w.tape w.drawn (.order F.fn id));have r:=yU ok hc hcode (ops:=ops) (k:=k) (ops.toList.drop n) n _ _ _ _ _ _ _ _ _ _ rfl O b;have y:(ops.toList.drop n).length=ops.size-n:=(by grind);rw [y]at r;refine Sim.pre (Steps.trans (.one ?_) g) Q r;grind[rN]

include ok hc hcode in
theorem Cv (cx:Cx) (id:Nat) (ops:Array Oper) (l:Loc) (h:Hp) (l':Loc) (o:Hp) (x:Ex) (c:tW E R cx ops.toList l h=some (x,l',o)) (mu:Mu) (w:World) (F:FC) (d:List Frame) (tmps:Array Value) (dfs:List Deferred) (e:Option (Value×Bool)) (k:List Item) (s:SR P cx l h mu w F d tmps dfs e):
 Sim P cx h mu w F d tmps dfs e (.code (.region id ops true)::k) k x l' o:=by
 unfold tW at c;have A:ops.toList.length=ops.size:=by simp
 cases a:jT ops.toList (ops.toList.length-1)with
 |false=>grind| true =>
   rw [a]at c;simp only [cond_true]at c;have B:0<ops.size:=by
    rcases Nat.eq_zero_or_pos ops.size with i|i
    . have:ops.toList=[]:=(by grind);rw [this]at a;cases a
    . exact i
   obtain⟨n,C⟩: ∃n,ops.size=n+1:=⟨ops.size-1,by omega⟩;have p:ops.toList.length-1=n:=(by omega);unfold cutN at c;rw [p]at c a;have G:=u9 C a;cases g:tail2 ops.toList&&jT (ops.toList.take n) (n-1)with
   | false=>
     rw [g]at c;refine yL ok hc hcode cx id ops l h l' o x mu w F d tmps dfs e k s n (by omega) (Bool.and_eq_true_iff.1 a).2 (fun t=>?_) c;rw [show ops.size-n=1 by omega];grind
   | true=>
     rw [g]at c;have b:jT (ops.toList.take n) (n-1)=true:=(Bool.and_eq_true_iff.1 g).2;have j:(ops.extract 0 n).toList=ops.toList.take n:=(by simp);have r:(ops.extract 0 n).size=n:=(by simp;omega);rw [<-j]at b;have I:0<n:=by
      rcases Nat.eq_zero_or_pos n with i|i
      . have:(ops.extract 0 n).toList=[]:=(by grind);rw [this]at b;cases b
      . exact i
     obtain⟨f,u⟩: ∃f,n=f+1:=⟨n-1,by omega⟩;have v:n-1=f:=(by omega);rw [v]at c b;have y:=u9 (r.trans u) b;have m:=(Bool.and_eq_true_iff.1 b).2;have J:(ops.extract 0 n).extract 0 f=ops.extract 0 f:=(by grind);have z:(ops.extract 0 n).toList.take f=ops.toList.take f:=(by rw [j,List.take_take,XA (by omega)]);rw [J]at y;rw [z]at m;refine yL ok hc hcode cx id ops l h l' o x mu w F d tmps dfs e k s f (by omega) m (fun t=>?_) c;rw [show ops.size-f=2 by omega,C,G,u];rw [u]at y;rw [y];simp [XK]
end

end Go.Ab

namespace Go.Ab

def befL(x y:Nat):List Nat->Prop
 | []=>False|p::r=>p=x\/(p≠y/\befL x y r)
theorem befL_or{x y:Nat}: ∀{l:List Nat},x∈l->befL x y l\/befL y x l
 | [],h=>by cases h
 | p::r,h=>by
   by_cases a:p=x
   . exact .inl (.inl a)
   by_cases b:p=y
   . exact .inr (.inl b)
   rcases List.mem_cons.1 h with e|h
   . exact absurd e.symm a
   rcases befL_or (y:=y) h with h|h
   . exact .inl (.inr ⟨b,h⟩)
   . exact .inr (.inr ⟨a,h⟩)
theorem BH{f:Nat->Nat}{x y:Nat}(a: ∀p,f p=f y->p=y): ∀{l:List Nat},befL x y l->befL (f x) (f y) (l.map f)
 | p::r,h=>by
   rcases h with h|⟨b,c⟩
   . exact .inl (by rw [h])
   . exact .inr ⟨fun e=>b (a _ e),BH a c⟩
theorem Bf{ops:Array Oper}{i:Nat}(a:i<ops.size): ∀{l:List Nat} {S:Nat->Bool},oy ops S l->S i=false->i∈l
 | [],S,h,b=>by have:=h i a;grind| p::r,S,h,b=>by
   by_cases e:p=i
   . grind
   . exact Xe _ (Bf a h.2.2.2 (by rw [bO S (Ne.symm e)];exact b))
theorem qu(os:List Oper)(k i:Nat):(mC os k)[i]? =(os[i]?).map (tie k i):=by unfold mC;grind
theorem AS(os:List Oper)(k:Nat):(mC os k).length=os.length:=by unfold mC;grind
theorem v7(k i:Nat)(o:Oper):(tie k i o).op=o.op/\(tie k i o).dst=o.dst/\(tie k i o).guard=o.guard:=by unfold tie;grind
theorem vf{ops:Array Oper}{k:Nat}: ∀{l:List Nat} {S:Nat->Bool},oy ops S l->(S k=true\/befL k (k+1) l)->oy (mC ops.toList k).toArray S l
 | [],S,h,_=>by intro i d;rw [List.size_toArray,AS]at d;exact h i (by simpa using d)| p ::r,S,h,a=>by
   obtain⟨m,n,q,s⟩:=h;refine⟨by rw [List.size_toArray,AS];simpa using m,n,fun o f=>?_,vf s ?_⟩
   . rw [XL,qu]at f;obtain⟨t,u,rfl⟩:=Option.map_eq_some_iff.1 f;have g:=q t (by grind);unfold tie;cases j:XB p (k+1)with
     |false=>exact g| true=>
       have j:=Xb j;intro e b c;simp only [cond_true,Array.toList_push,List.mem_append,List.mem_singleton]at b;rcases b with b|rfl
       . exact g e b c
       . rcases a with a|a|⟨a,_⟩
         . exact a
         . omega
         omega
   . by_cases e:k=p
     . subst e;exact .inl (fg S k)
     . rw [bO S e];rcases a with a|a|⟨_,a⟩
       . exact .inl a
       . omega
       . exact .inr a
theorem BF{ops b:Array Oper}{d f:Nat->Nat}(a:Ord b ops d f){M:List Nat}(g: ∀i,qF ops.toList M i): ∀{l:List Nat} {S:Nat->Bool},oy ops S l->oy b (fun p=>S (d p)) (l.map f)
 | [],S,h=>fun i u=>h _ (by rw [<-a.size];exact(a.lt i).1 u)
 | p ::r,S,h=>by
   obtain⟨v,w,x,y⟩:=h;refine⟨(a.lt _).2 (by rw [a.st,a.size];exact v),by show S (d (f p))=false;rw [a.st];exact w,fun o z e A c=>?_,?_⟩
   . obtain⟨k,n,_,_,_,B,_⟩:=a.op _ o z;rw [a.st]at n;obtain⟨j,s,C,D,G⟩:=B e A;rw [mE C]at c;have t:=x k n j s c;obtain⟨m,_,E,_⟩:=g p k (by grind);have hlt:j.on<b.size:=(by have:=E j s c;rw [a.size];omega);show S (d e.on)=true;rw [D hlt,a.st];exact t
   . have:=BF a g y;have t:(fun q=>kG S p (d q))=kG (fun q=>S (d q)) (f p):=by
      funext q;by_cases e:q=f p
      . subst e;rw [a.st,fg,fg]
      . rw [bO _ e,bO _ (by intro F;exact e (by rw [<-F,a.ts]))]
     grind
theorem jf.tie{ops b:Array Oper}{g:Nat->Nat}(s:jf ops b g)(k:Nat):jf (mC ops.toList k).toArray b g:=by
 have c: ∀(p:Nat) (o:Oper),(mC ops.toList k).toArray[p]? =some o-> ∃a,ops[p]? =some a/\o.op=a.op/\o.dst=a.dst/\o.guard=a.guard:=by intro p o d;rw [XL,qu]at d;obtain⟨a,m,rfl⟩:=Option.map_eq_some_iff.1 d;grind[v7]
 refine⟨fun p o d=>?_,fun p o j e d n q=>?_⟩
 . obtain⟨a,f,h,i,l⟩:=c p o d;rw [h,i,l];exact s.op p a f
 . obtain⟨a,f,h,i,l⟩:=c p o d;refine s.no p a j e f (by grind) ?_;grind[qu]
theorem jf.comp{ops a b:Array Oper}{k c f:Nat->Nat}(s:jf ops b k)(e:Ord a ops c f):jf a b (k∘c):=by
 refine⟨fun p o g=>?_,fun p o j d g m q=>?_⟩
 . obtain⟨h,i,r,t,l,_⟩:=e.op p o g;obtain⟨u,v,w,z,A⟩:=s.op _ h i;grind
 . obtain⟨h,i,_,_,l,_⟩:=e.op p o g;rcases l with⟨x,_⟩|⟨B,C,x,y⟩
   . grind
   . rw [m]at x;cases x;refine s.no _ h _ d i y (XJ ?_);have n: ¬j<a.size:=(by grind);have:=mt (e.lt j).2 n;rw [<-e.size];omega
theorem xZ(k i:Nat):swN k (swN k i)=i:=by grind[swN,cC]
theorem swN_lt{k n i:Nat}(a:k+1<n):swN k i<n↔i<n:=by grind[swN,cC]
theorem swN_ne{k i:Nat}(a:i≠k)(b:i≠k+1):swN k i=i:=by grind[swN,cC,decide_eq_false]
theorem swN_k(k:Nat):swN k k=k+1:=by unfold swN;simp_all
theorem swN_k1(k:Nat):swN k (k+1)=k:=by grind[swN,cC,decide_eq_false,Xi]
theorem wB(n k p:Nat):(iu n k)[p]? =if p<n then some (swN k p)else none:=by grind[iu,List.getElem?_range,List.getElem?_eq_none]
theorem An{n k:Nat}(b:k+1<n)(i:Nat):i∈iu n k↔i<n:=by
 unfold iu;simp only [XO,Xo];constructor
 . rintro⟨a,c,rfl⟩;exact(swN_lt b).2 c
 . intro h;exact⟨swN k i,(swN_lt b).2 h,xZ k i⟩
theorem Dl(n k:Nat):(iu n k).Nodup:=by unfold iu;rw [List.nodup_iff_pairwise_ne,List.pairwise_map];exact List.nodup_range.imp fun {a b} h e=>h (by rw [<-xZ k a,e,xZ])
theorem ord2_len(n k:Nat):(iu n k).length=n:=by unfold iu;simp

theorem s7{E:Env}{R:Rec}{q:Nat}{ops ops':List Oper}: ∀(os a:List Oper) (i:Nat) (l:Loc) (h:Hp) (c:List (Nat×Tch)),os.map (fun o=>(o.op,o.dst))=a.map (fun o=>(o.op,o.dst))->(∀o∈os,o.guard=none)->(∀o∈a,o.guard=none)->
 bN E R ops q os i l h c=bN E R ops' q a i l h c
 | [],[],_,_,_,_,_,_,_=>rfl| [],_::_,_,_,_,_,b,_,_=>by simp at b|_::_,[],_,_,_,_,b,_,_=>by simp at b| o::os,o'::a,i,l,h,c,b,e,f=>by simp only [XD,List.cons.injEq,Prod.mk.injEq]at b;obtain⟨⟨g,j⟩,k⟩:=b;have m:=e o Xl;have n:=f o' Xl;have p:=fun i l h c=>s7 (E:=E) (R:=R) (q:=q) (ops:=ops) (ops':=ops') os a i l h c k (fun o d=>e o (Xe _ d)) (fun o d=>f o (Xe _ d));simp only [bN,ct,m,n,rQ g,g,j,p]
theorem pR{E:Env}{R:Rec}{q:Nat}{ops:List Oper}: ∀(xs ys:List Oper) (i:Nat) (l:Loc) (h:Hp) (a:List (Nat×Tch)),
 bN E R ops q (xs++ys) i l h a=(bN E R ops q xs i l h a).bind fun r=>bN E R ops q ys (i+xs.length) r.1 r.2.1 r.2.2
 | [],ys,i,l,h,a=>rfl| o ::xs,ys,i,l,h,a=>by
   have e: ∀n,i+1+n=i+(n+1):=fun n=>(by omega);simp only [Xx,bN,List.length_cons];cases ct ops l.regs o with
   |none=>rfl| some b=>
     cases b with
     |false=>simp only [];rw [pR xs ys,e]| true=>
       simp only [];cases cI E R (l.evD (tmpsOf o.op.operands.toList)) (ey E q i o.op) o h with
       |none=>rfl|some r=>obtain⟨v,c⟩:=r;simp only [];rw [pR xs ys,e]

theorem yB{k:Value}(h:qt k=true):cd k k=some true:=by
 cases k<;>first|(cases h;done)|skip
 next a n=>
 have b:i6 a a=true:=by cases a<;>rfl
 have c:iI n n=true:=by cases n<;>exact Xi _
 simp only [cd,b,c,cond_true]
theorem zD{k b v:Value}{c:Nat}: ∀{a:List (Value×Value×Nat)},cd k b=some false->a9 k (a++[(b,v,c)])=a9 k a
 | [],h=>by simp only [XI,a9,h]|(d,e,n)::a,h=>by simp only [Xx,a9,zD h]
theorem tS{k v:Value}{c:Nat}(d:cd k k=some true): ∀{a:List (Value×Value×Nat)},a9 k a=some none->a9 k (a++[(k,v,c)])=some (some (v,c))
 | [],_=>by simp only [XI,a9,d]| (f,g,n)::a,h=>by
   simp only [Xx,a9]at h⊢;cases e:cd k f with
   |none=>rw [e]at h;cases h
   | some b=>
     rw [e]at h;cases b with
     |true=>cases h
     |false=>exact tS d h
theorem uh{k a v:Value}: ∀{c:List (Value×Value×Nat)},cd k a=some false->a9 k (jj a v c)=a9 k c
 | [],_=>rfl| (k',v',n)::c,h=>by
   unfold jj;cases d:cd a k' with
   |none=>simp only [a9,uh h]| some b=>
     cases b with
     |true=>have:=mW d;subst this;simp only [a9,h]|false=>simp only [a9,uh h]
theorem th{k v:Value}(c:cd k k=some true): ∀{a:List (Value×Value×Nat)} {u:Value×Nat},a9 k a=some (some u)-> ∃n,a9 k (jj k v a)=some (some (v,n))
 | [],_,h=>by cases h
 | (d,f,n)::a,u,h=>by
   simp only [a9]at h;unfold jj;cases e:cd k d with
   |none=>grind| some b=>
     rw [e]at h;cases b with
     |true=>exact⟨n,by simp only [a9,c]⟩| false=>simp_all[th,a9]
def mput(k v:Value)(a:List (Value×Value×Nat))(c:Nat):List (Value×Value×Nat)×Nat:=match a9 k a with
 |some (some _)=>(jj k v a,c)|_=>(a++[(k,v,c)],c+1)
theorem rA{k a v:Value}{b:List (Value×Value×Nat)}{c:Nat}(h:cd k a=some false):a9 k (mput a v b c).1=a9 k b:=by grind[mput,uh,zD]
theorem mput_eq{k v:Value}{a:List (Value×Value×Nat)}{c:Nat}(b:cd k k=some true)(h:a9 k a≠none):(a9 k (mput k v a c).1).map (XF XM)=some (some v):=by
 unfold mput;cases d:a9 k a with
 |none=>grind| some u=>
   cases u with
   |none=>grind[tS]|some u=>simp only [];obtain⟨n,e⟩:=th (v:=v) b d;rw [e];rfl
theorem pN{E:Env}{h b:Hp}{ty:TypeId}{m k v:Value}:dY E h ty m k v=some b↔ ∃r a c kt el,m=.map (some r)/\E.und ty=some (.map kt el)/\bE E kt k=true/\h.get r=some (.map a c)/\a9 k a≠none/\b=h.put r (.map (mput k v a c).1 (mput k v a c).2):=by unfold dY jy mput;grind
theorem Tr.set_set{a:Type}(t:Tr a)(i:Nat)(x y:a):(t.set i x).set i y=t.set i y:=by
 induction t generalizing i with
 |nil=>rfl| node z l r b c=>
   rw [Tr.set_node,Tr.set_node];cases i with
   |zero=>rfl| succ n=>
     simp only []
     split
     . simp_all[Tr.set_node,if_true]
     simp_all[Tr.set_node,if_false]
theorem uJ(h:Hp)(b:Nat)(x y:Blk):(h.put b x).put b y=h.put b y:=by unfold Hp.put;simp only [Tr.set_set];congr 1;unfold dk;grind
theorem jo{h:Hp}{b:Nat}{x y:Blk}(a:h.get b=some y):(h.put b x).get b=some x:=by rw [Hp.get_put,if_pos ⟨rfl,by rw [a];rfl⟩]
theorem put_swap{E:Env}{h u p:Hp}{ty:TypeId}{m d k2 l e:Value}(I:qt d=true)(J:qt k2=true)(x:cd d k2=some false)(y:cd k2 d=some false)(z:dY E h ty m d l=some u)(A:dY E u ty m k2 e=some p):
 ∃ v w r b c es' c',dY E h ty m k2 e=some v/\dY E v ty m d l=some w/\m=.map (some r)/\p.get r=some (.map b c)/\w=p.put r (.map es' c')/\
   ∀kt el k,E.und ty=some (.map kt el)->bE E kt k=true->(a9 k es').map (XF XM)=(a9 k b).map (XF XM):=by
 obtain⟨r,b,c,kt,el,rfl,n,f,o,q,rfl⟩:=pN.1 z;obtain⟨K,B,L,s,t,C,a,g,i,j,rfl⟩:=pN.1 A;cases C;rw [n]at a;cases a;rw [jo o]at i;cases i;rw [rA y]at j;refine⟨_,_,r,_,_,(mput d l (mput k2 e b c).1 (mput k2 e b c).2).1,(mput d l (mput k2 e b c).1 (mput k2 e b c).2).2,pN.2 ⟨r,b,c,kt,el,rfl,n,g,o,j,rfl⟩,
  pN.2 ⟨r,_,_,kt,el,rfl,n,f,jo o,by rw [rA x];exact q,rfl⟩,rfl,jo (jo o),by rw [uJ,uJ,uJ],?_⟩
 intro s t k a hf;rw [n]at a;cases a;obtain⟨D,F⟩:=rX hf f;obtain⟨G,H⟩:=rX hf g;cases D with
 | true=>grind[mW,mput_eq,yB,rA]| false=>
   cases G with
   | true=>grind[mW,rA,mput_eq,yB]|false=>grind[rA]
theorem vr{E:Env}{R:Rec}{ops os:List Oper}{q i:Nat}{a:Oper}{l:Loc}{h:Hp}{d:List (Nat×Tch)}{t:Tmp}{ty:TypeId}{k:Value}{x:Operand}(c:a.op=.insert ty (.tmp t) (.const k) x)(g:a.dst=none)(j:a.guard=none)(m:qt k=true):
 bN E R ops q (a::os) i l h d=(dY E h ty (l.ev (.tmp t)) k (l.ev x)).bind fun f=>bN E R ops q os (i+1) l f (ig i d (match l.ev (.tmp t)with
  | .map (some r)=>some (.blk r)|_=>none)):=by
 have o:l.evD (tmpsOf a.op.operands.toList) (.tmp t)=l.ev (.tmp t):=by grind[Loc.evD,Op.operands,tmpsOf,oe,Xi]
 have p:l.evD (tmpsOf a.op.operands.toList) (.const k)=k:=by unfold Loc.evD Loc.ev;simp only [];cases k<;>first|(cases m;done)|rfl
 have s:l.evD (tmpsOf a.op.operands.toList) x=l.ev x:=by rw [c];unfold Loc.evD;cases x<;>simp [Op.operands,tmpsOf,oe,Xi]
 have n:ey E q i a.op=false:=by unfold ey;rw [c];show(q.testBit i&&false)=false;simp
 simp only [bN,ct,j,n,cI,cond_false];rw [show aop E (l.evD (tmpsOf a.op.operands.toList)) h a.op=fj (dY E h ty (l.ev (.tmp t)) k (l.ev x)) by
  have: ∀b:Operand->Value,aop E b h (.insert ty (.tmp t) (.const k) x)=fj (dY E h ty (b (.tmp t)) (b (.const k)) (b x)):=fun _=>rfl;grind]
 cases dY E h ty (l.ev (.tmp t)) k (l.ev x)with
 |none=>rfl| some f=>
   simp only [fj,c6,Xv,g];congr 1;congr 1;unfold cH jK;have e: ∀b:Operand->Value,touch b a.op=(match b (.tmp t)with| .map r=>r|_=>none):=fun b=>(by rw [c];rfl);rw [show dG a.op=false by rw [c];rfl,show fe a.op=false by rw [c];rfl];grind
theorem note_read{E:Env}{ρ:Operand->Value}{b:Bool}{op:Op}{a c d e:Hp}(f:cls E op<=1):cH ρ b op a c=cH ρ b op d e:=by grind[cH,kM,pW]
theorem zk {E:Env} {R:Rec} {ops:List Oper} {q:Nat} {t:Tmp} {ty:TypeId} {r:Nat} {C es':List (Value×Value×Nat)} {c c':Nat} {g:Hp} (G:g.get r=some (.map C c))
 (H: ∀kt el k,E.und ty=some (.map kt el)->bE E kt k=true->(a9 k es').map (XF XM)=(a9 k C).map (XF XM)):
 ∀ (os:List Oper) (i:Nat) (l:Loc) (u:List (Nat×Tch)) (l':Loc) (n:Hp) (b:List (Nat×Tch)),(∀o∈os,xN E ty t o=true/\o.guard=none)->bN E R ops q os i l g u=some (l',n,b)->
   n=g/\l'.ev (.tmp t)=l.ev (.tmp t)/\bN E R ops q os i l (g.put r (.map es' c')) u=some (l',g.put r (.map es' c'),b)
 | [],i,l,u,l',n,b,_,j=>by cases j;exact⟨rfl,rfl,rfl⟩
 | o :: os, i,l,u,l',n,b,D,j=>by
   obtain⟨w,x⟩:=D o Xl;unfold xN at w;simp only [Xa,Xh,Bool.or_eq_true]at w;have y:cls E o.op<=1:=by
    rcases w.2 with h|h
    . simp_all
    . unfold yx at h
      split at h
      . next e=>rw [e];exact Xd 1
      . cases h
   obtain⟨f,F,I,_⟩:=vH (E:=E) (op:=o.op) (ρ:=l.evD (tmpsOf o.op.operands.toList)) (by omega);have hf: ∀v,f g=some v->f (g.put r (.map es' c'))=some v:=by
    intro v a;rcases w.2 with h|h
    . rw [I (Xb h) _ g];exact a
    . unfold yx at h
      split at h
      next p m k z e=>
       have:=Xb h;subst this;have J: ∀h,f h=dC E h p (l.evD (tmpsOf o.op.operands.toList) m) (l.evD (tmpsOf o.op.operands.toList) k) z:=(by intro h;have:=F h;rw [e]at this;rw [e];exact y9 this.symm);rw [J]at a⊢;generalize l.evD (tmpsOf o.op.operands.toList) m=Q at a⊢;generalize l.evD (tmpsOf o.op.operands.toList) k=K at a⊢;unfold dC at a⊢;cases L:E.und p with
       |none=>grind| some d=>
         rw [L]at a;cases d<;>(try (cases a;done))
         next kt el=>
          simp only []at a⊢;cases s:bE E kt K with
          |false=>grind| true=>rw [s]at a;simp only [cond_true]at a⊢;grind[jo,a9,dc]
      next=>cases h
   have M:ey E q i o.op=false:=tw y;simp only [bN,ct,x,M,cI,cond_false]at j⊢;rw [F]at j⊢;cases a:f g with
   |none=>rw [a]at j;cases j
   | some v=>
     rw [a]at j;rw [hf v a];simp only [cG,c6]at j⊢;have A:=zk (c':=c') G H os (i+1) (l.put o.dst v) _ l' n b (fun o B=>D o (Xe _ B)) j;obtain⟨N,O,S⟩:=A;refine⟨N,O.trans ?_,?_⟩
     . have P:o.dst≠some t:=(by grind[rY,Xi]);grind[Loc.ev,nK]
     grind[note_read]
theorem fork_swap {E:Env} {R:Rec} {os:List Oper} {f q:Nat} {t:Tmp} (j:ur E os f=some t) {l l':Loc} {h h' h2:Hp} {tr:List (Nat×Tch)} (he:bN E R os q os 0 l h []=some (l',h',tr)) (hk:pH (some t) l' h'=some h2):
 f+2<os.length/\(∀o∈os,o.guard=none)/\ ∀o2:List Oper,o2.map (fun o=>(o.op,o.dst))=(iu os.length (f+1)).filterMap (fun i=>(os[i]?).map fun o=>(o.op,o.dst))->(∀o∈o2,o.guard=none)->
  ∃B,bN E R o2 q o2 0 l h []=some (l',B,tr)/\pH (some t) l' B=some h2:=by
 unfold ur at j
 split at j
 next m a b hm ha L=>
  split at j
  next C hd=>
   split at j
   next ta x tb y M N=>
    cases O:(isMk m.op&&(XB ta tb&&(uE x y&&(uE y x&&((os.drop (f+3)).all (xN E ta C)&&os.all fun o=>o.guard.isNone)))))with
    |false=>grind| true =>
      rw [O]at j;simp only [cond_true,Option.some.injEq]at j;subst j;simp only [Xa,Xp]at O;obtain⟨_,w,P,Q,A,ak⟩:=O;have w:=Xb w;subst w;have n: ∀o∈os,o.guard=none:=fun o J=>(by simp_all);have D:f+2<os.length:=(List.getElem?_eq_some_iff.1 L).1;refine⟨D,n,fun o2 S T=>?_⟩
      -- the parts
      have s:os=os.take (f+1)++a::b::os.drop (f+3):=(by grind[List.drop_eq_getElem_cons,XE,List.take_append_drop]);have F: ∀{o:Oper} {U:TypeId} {k:Value},insK C o=some (U,k)-> ∃z,o.op=.insert U (.tmp C) (.const k) z/\o.dst=none/\qt k=true:=by
       intro o U k h;unfold insK at h
       split at h
       next aL V k' z W=>
        cases g:(XB V C&&(o.dst.isNone&&qt k'))with
        |false=>rw [g]at h;cases h
        | true=>
          rw [g]at h;cases h;simp only [Xa]at g;have:=Xb g.1;subst this;exact⟨z,W,by simpa using g.2.1,g.2.2⟩
       next=>cases h
      obtain⟨z1,p1,p2,p3⟩:=F M;obtain⟨z2,r1,r2,r3⟩:=F N;have G: ∀{u v:Value},uE u v=true->cd u v=some false:=by
       intro u v h;unfold uE at h
       split at h
       next bb a0=>grind
       next=>cases h
      have X:=n a (Xf ha);have Y:=n b (Xf L)
      -- the run
      have e:=he;rw [show bN E R os q os 0 l h []=bN E R os q (os.take (f+1)++a::b::os.drop (f+3)) 0 l h [] by rw [<-s]]at e;rw [pR]at e;obtain⟨⟨l1,h1,a1⟩,s1,e⟩:=Option.bind_eq_some_iff.1 e;simp only []at e;rw [vr p1 p2 X p3]at e;obtain⟨a2,s2,e⟩:=Option.bind_eq_some_iff.1 e;rw [vr r1 r2 Y r3]at e;obtain⟨a3,s3,e⟩:=Option.bind_eq_some_iff.1 e;obtain⟨h3,h4,r,es,c,es',c',w1,w2,w3,w4,w5,w6⟩:=put_swap p3 r3 (G P) (G Q) s2 s3;obtain⟨k1,k2,k3⟩:=zk (t:=C) (es':=es') (c':=c') w4 w6 _ _ _ _ _ _ _ (fun o J=>⟨A o J,n o (List.mem_of_mem_drop J)⟩) e;refine⟨h4,?_,?_⟩
      . -- the other list
        have Z:o2.map (fun o=>(o.op,o.dst))=(os.take (f+1)++b::a::os.drop (f+3)).map (fun o=>(o.op,o.dst)):=by
         rw [S];have H: ∀p:Nat,((iu os.length (f+1)).filterMap (fun i=>(os[i]?).map fun o=>(o.op,o.dst)))[p]? =((os.take (f+1)++b::a::os.drop (f+3)).map (fun o=>(o.op,o.dst)))[p]? :=by
          intro p;have I:(iu os.length (f+1)).filterMap (fun i=>(os[i]?).map fun o=>(o.op,o.dst))=(iu os.length (f+1)).map (fun i=>(os.map (fun o=>(o.op,o.dst))).getD i (m.op,m.dst)):=by
           have ad: ∀(l:List Nat),(∀i∈l,i<os.length)->l.filterMap (fun i=>(os[i]?).map fun o=>(o.op,o.dst))=l.map (fun i=>(os.map (fun o=>(o.op,o.dst))).getD i (m.op,m.dst)):=by
            intro l
            induction l with
            |nil=>intro _;rfl| cons x l ih=>
              intro hx;have af:=hx x Xl;rw [XD,<-ih (fun i hi=>hx i (Xe _ hi))];simp [af]
           exact ad _ fun i hi=>(An (by omega) i).1 hi
          rw [I,List.getElem?_map,wB,List.getElem?_map];by_cases hp:p<os.length
          . rw [if_pos hp];simp only [Xm];rcases Xn p (f+1)with K|K|K
            . rw [swN_ne (by omega) (by omega),List.getElem?_append_left (by grind),List.getElem?_take,if_pos K];simp [hp]
            . subst K;rw [swN_k,Xq (by grind),XG,XA (by omega),Nat.sub_self];simp [L]
            . by_cases ai:p=f+2
              . subst ai;rw [swN_k1,Xq (by grind),XG,XA (by omega),show f+2-(f+1)=1 by omega];simp [ha]
              . rw [swN_ne (by omega) (by omega),Xq (by grind),XG,XA (by omega)];obtain⟨d,rfl⟩: ∃d,p=f+3+d:=⟨p-(f+3),by omega⟩;rw [show f+3+d-(f+1)=d+2 by omega,Xt,Xt,List.getElem?_drop];simp [hp]
          grind
         exact List.ext_getElem? H
        rw [s7 (ops':=os) o2 _ _ _ _ _ Z T (fun o J=>by
         grind)]
        grind[pR,vr]
      grind[pH,jo,uJ]
   next=>cases j
  next=>cases j
 next=>cases j

theorem tieL_sh(os:List Oper)(k:Nat):(mC os k).map (fun o=>(o.op,o.dst))=os.map (fun o=>(o.op,o.dst)):=by refine List.ext_getElem? fun i=>?_;grind[qu,v7]
theorem wZ{os:List Oper}{k:Nat}(h: ∀o∈os,o.guard=none): ∀o∈mC os k,o.guard=none:=by intro o b;obtain⟨i,a⟩:=List.getElem?_of_mem b;rw [qu]at a;obtain⟨c,d,rfl⟩:=Option.map_eq_some_iff.1 a;grind[v7,Xf]
theorem wj(os:List Oper)(ord:List Nat): ∀(l:List Nat),(fk os ord l).map (fun o=>(o.op,o.dst))=l.filterMap fun i=>(os[i]?).map fun o=>(o.op,o.dst)
 | []=>rfl| i::l=>by
   unfold fk;rw [List.filterMap_cons];cases os[i]? with
   |none=>exact wj os ord l|some o=>simp only [XD,Xm,wj os ord l];rfl
theorem rt{os:List Oper}{ord:List Nat}(h: ∀o∈os,o.guard=none): ∀(l:List Nat),∀o∈fk os ord l,o.guard=none
 | [],o,a=>by cases a
 | i ::l,o,a=>by
   unfold fk at a;cases b:os[i]? with
   |none=>rw [b]at a;exact rt h l o a| some c=>
     rw [b]at a;rcases List.mem_cons.1 a with rfl|a
     . grind[Xf,reix]
     . exact rt h l o a
theorem yI{d:List (Nat×Tch)}: ∀{ps c:List (Nat×Nat)},cB d (ps++c)=true->cB d ps=true/\cB d c=true
 | [],_,h=>⟨rfl,h⟩| (i,j)::ps,c,h=>by simp only [Xx,cB,Xa]at h⊢;obtain⟨a,b⟩:=yI h.2;exact⟨⟨h.1,a⟩,b⟩
section
variable{E:Env}{P:Program}(ok:EOk E P){R:Rec}(hc:ic E P R.call)(hcode:jk P R.code)
theorem kill_sim{cx:Cx}{l:Loc}{h d:Hp}{mu:Mu}{w:World}{F:FC}{e:List Frame}{tmps:Array Value}{dfs:List Deferred}{f:Option (Value×Bool)}{t:Tmp}(s:SR P cx l h mu w F e tmps dfs f)(a:pH (some t) l h=some d):
 ∃g,SR P cx l d g w F e tmps dfs f/\Ext mu h w g d w:=by
 unfold pH at a;simp only []at a
 split at a
 next b i=>
  split at a
  next A c B=>
   cases a;have k: ∃m,ao mu (.map (some b)) m:=by
    unfold Loc.ev at i;simp only []at i;cases q:l.regs.get t with
    |none=>grind|some v=>rw [q]at i;simp only []at i;subst i;obtain⟨m,_,x⟩:=s.regs.get t _ q;grind
   obtain⟨m,k⟩:=k;cases k with
   | map u=>
     unfold dI at u;cases n:mu b with
     |none=>grind|dead=>have:=s.hr.dead b n;grind| blk r j p=>
       obtain⟨x,o,C,d,D⟩:=s.hr.blk b r j p n;obtain⟨y,z⟩:=oQ s.hr n (by grind) (⟨rfl,d,fun _ _=>rfl,rfl,rfl,rfl⟩:WSet w w r o);refine⟨_,s.step y (fun G _=>?_),z⟩;grind[upd_same,aO]
  next=>cases a
 next=>cases a

include ok hc hcode in
theorem forkD_sim(cx:Cx)(id:Nat)(ops:Array Oper)(l:Loc)(h:Hp)(l':Loc)(T:Hp)(x:Ex)(m:forkD E R ops.toList l h=some (x,l',T))(mu:Mu)(w:World)(F:FC)(g:List Frame)(tmps:Array Value)(dfs:List Deferred)(c:Option (Value×Bool))(k:List Item)(s:SR P cx l h mu w F g tmps dfs c):
 Sim P cx h mu w F g tmps dfs c (.code (.region id ops true)::k) k x l' T:=by
 unfold forkD at m;cases A:forkP E (bU ops.toList)with
 |none=>grind|some qp=>
 obtain⟨q,ps⟩:=qp;rw [A]at m;simp only []at m;cases U:bN E R (bU ops.toList) q (bU ops.toList) 0 l h []with
 |none=>grind|some r3=>
 obtain⟨l1,Z,tr⟩:=r3;rw [U]at m;simp only []at m;cases G:cB tr ps with
 |false=>grind|true=>
 rw [G]at m;simp only [cond_true]at m;obtain⟨a,v,V,hC,D⟩:=zE ops;rw [<-hC]at A U m;unfold forkP at A
 split at A
 next t ms q1 ad q2 af hT hB ai ak=>
  cases H:XB q1 q2 with
  |false=>grind|true=>
  rw [H]at A;cases A;have I:=Xb H;subst I;rw [hT]at m;cases hk:pH (some t) l1 Z with
  |none=>grind|some h2=>
  rw [hk]at m;cases m;obtain⟨J,u,aL⟩:=fork_swap hT U hk;obtain⟨a0,a1⟩:=yI G;obtain⟨_,_,g3⟩:=uA _ _ _ hB;simp only [List.length_nil,Xr]at g3;have z: ∀i,qF a.toList ms.reverse i:=fun i o ho=>g3 i o ho;generalize a8:p7 a.toList=b at*
  have hn:a.toList.length=a.size:=by simp
  rw [hn]at J;have W:Region.schedule (P.follows .mixedOrders) ops (w.tape w.drawn (.order F.fn id))=Region.linearise.go .any ops ops.size (w.tape w.drawn (.order F.fn id)) (zO ops.size false) []:=by rw [ok.mixed];rfl
  have K:(fun p=>bS (zO ops.size false) (v p))=fun _=>false:=by
   funext i;simp only [bS,zM,Xs]
   split<;>rfl
  have X:=v9 D z ops.size (w.tape w.drawn (.order F.fn id)) (zO ops.size false) (by simp [D.size]) (by rw [K,<-D.size];exact pO _);rw [K]at X;generalize a5:Region.linearise.go .any ops ops.size (w.tape w.drawn (.order F.fn id)) (zO ops.size false) []=j at*
  have L:(j.map V).map v=j:=by rw [XP,show(v∘V)=fun i=>i from funext D.st];simp_all
  have M: ∀(Y:Hp),pH (some t) l' Y=some T->(∃B N d,SR P cx l' Y B N F g d dfs c/\Ext mu h w B Y N/\
   Steps P (lone (F.mk' tmps dfs (.inRegion ops (j++[])::k)) (aN c g) {w with drawn:=w.drawn+1}) (lone (F.mk' d dfs (.inRegion ops []::k)) (aN c g) N))->
   Sim P cx h mu w F g tmps dfs c (.code (.region id ops true)::k) k .normal l' T:=by
   rintro Y a2 ⟨B,N,d,s',e',st⟩;obtain⟨a3,s2,e2⟩:=kill_sim s' a2;rw [XH]at st;refine⟨a3,N,d,dfs,c,s2,Ext.trans e' e2,Steps.trans (.one ?_) (Steps.trans st (.one pz))⟩;grind[rN]
  have O:b+1∈j.map V:=Bf (by omega) X rfl;rcases befL_or (y:=b+1+1) O with hb|hb
  . refine M Z hk ?_;have r:=tI ok hc hcode cx (mC a.toList (b+1)).toArray ops (D.same.tie (b+1)) _ (vf X (.inr hb)) [] l h l' Z q ad tr ai
     (by rw [<-U];exact s7 _ _ _ _ _ _ (tieL_sh _ _) (wZ u) u) a0 mu w F g tmps dfs c k s
    simp_all
  . have Q:b+1+1<a.toList.length:=(by rw [hn];omega);have C:=Dl a.toList.length (b+1);have n:=Be a (iu a.toList.length (b+1)) (An Q) C (ord2_len _ _) (List.all_eq_true.2 fun o ho=>by unfold iO;rw [u o ho]);have pa:gG (b+1) (iu a.toList.length (b+1))=b+1+1:=vh C (by rw [wB,if_pos Q,swN_k1]);have pb:gG (b+1+1) (iu a.toList.length (b+1))=b+1:=vh C (by rw [wB,if_pos (by omega),swN_k]);obtain⟨h3,e3,k3⟩:=aL (mC (fk a.toList (iu a.toList.length (b+1)) (iu a.toList.length (b+1))) (b+1)) (by rw [tieL_sh,wj]) (wZ (rt u _));refine M h3 k3 ?_;have g2:=BF n z X;generalize a6:(fun(p:Nat)=>((iu a.toList.length (b+1))[p]?).getD p)=σ2 at*
    generalize a7:(fun(i:Nat)=>if i<a.size then gG i (iu a.toList.length (b+1))else i)=τ2 at*
    have ta:τ2 (b+1)=b+1+1:=(by grind);have tb:τ2 (b+1+1)=b+1:=(by grind);have S:=BH (f:=τ2) (fun p e=>by rw [<-n.st p,e,n.st]) hb;rw [ta,tb]at S;have r:=tI ok hc hcode cx (mC (fk a.toList (iu a.toList.length (b+1)) (iu a.toList.length (b+1))) (b+1)).toArray ops ((D.same.comp n).tie (b+1)) _ (vf g2 (.inr S)) [] l h l' h3 q af tr ak e3 a1 mu w F g tmps dfs c k s;have a4:((j.map V).map τ2).map (v∘σ2)=j:=(by rw [XP,show((v∘σ2)∘τ2)=v from funext fun i=>by show v (σ2 (τ2 i))=v i;rw [n.st]];exact L);simp_all
 next=>cases A
include ok hc hcode in
theorem AW:vC E P R:=by intro f id b l h g i x j m w F c a d e k s;grind[cutD,hf,tR,forkD_sim,id,Cv]
end

end Go.Ab

namespace Go.Ab

def RLe(R b:Rec):Prop:=(∀f a d h o,R.call f a d h=some o->b.call f a d h=some o)/\(∀e c l h o,R.code e c l h=some o->b.code e c l h=some o)
def pY{b:Type}(F:Rec->Option b):Prop:= ∀R a,RLe R a-> ∀o,F R=some o->F a=some o
theorem pY.const{a:Type}(x:Option a):pY (fun _=>x):=fun _ _ _ _ h=>h
theorem pY.bind{c β:Type}{F:Rec->Option c}{G:c->Rec->Option β}(f:pY F)(g: ∀a,pY (G a)):pY (fun R=>(F R).bind fun a=>G a R):=by
 intro R d e o h;simp only []at h⊢;cases b:F R with
 |none=>rw [b]at h;cases h
 | some a=>rw [b]at h;rw [f R d e a b];exact g a R d e o h

theorem RLe.refl(R:Rec):RLe R R:=⟨fun _ _ _ _ _ h=>h,fun _ _ _ _ _ h=>h⟩
theorem RLe.trans{a b c:Rec}(h:RLe a b)(k:RLe b c):RLe a c:=⟨fun f x g d o e=>k.1 _ _ _ _ _ (h.1 _ _ _ _ _ e),fun i x l d o e=>k.2 _ _ _ _ _ (h.2 _ _ _ _ _ e)⟩

def MC(E:Env)(W:Rec){a:Type}(F:Rec->Option a):Prop:=pY F/\ ∀o,F W=some o-> ∃n,F (run E n)=some o

section
variable{E:Env}{W:Rec}
theorem MC.const{a:Type}(x:Option a):MC E W (fun _=>x):=⟨.const x,fun _ h=>⟨0,h⟩⟩
theorem MC.bind(e: ∀n m,n<=m->RLe (run E n) (run E m)){f β:Type}{F:Rec->Option f}{G:f->Rec->Option β}(b:MC E W F)(c: ∀a,MC E W (G a)):MC E W (fun R=>(F R).bind fun a=>G a R):=by
 refine⟨b.1.bind fun a=>(c a).1,fun o h=>?_⟩;simp only []at h;cases d:F W with
 |none=>rw [d]at h;cases h
 | some a=>
   rw [d]at h;obtain⟨n,g⟩:=b.2 a d;obtain⟨m,i⟩:=(c a).2 o h;refine⟨n+m,?_⟩;simp only [];rw [b.1 _ _ (e n (n+m) (by omega)) a g];exact(c a).1 _ _ (e m (n+m) (by omega)) o i
theorem MC.congr{a:Type}{F F':Rec->Option a}(e: ∀R,F' R=F R)(h:MC E W F):MC E W F':=by have:F'=F:=funext e;rw [this];exact h
end

section
variable(E:Env)
structure Closed(E:Env)(K: ∀{α:Type},(Rec->Option α)->Prop):Prop where
 const: ∀{α:Type} (x:Option α),K (fun _=>x)
 bind: ∀{α β:Type} {F:Rec->Option α} {G:α->Rec->Option β},K F->(∀a,K (G a))->K (fun R=>(F R).bind fun a=>G a R)
 congr: ∀{α:Type} {F F':Rec->Option α},(∀R,F' R=F R)->K F->K F'
 call: ∀f a rc h,K (fun R=>R.call f a rc h)
 code: ∀cx c l h,K (fun R=>R.code cx c l h)
end

section
variable{E:Env}{K: ∀{α:Type},(Rec->Option α)->Prop}(C:Closed E K)
include C

theorem k_round (b:Nat) (args:List Value) (h:Hp):K (fun R=>jt E R b args h):=by
 unfold jt;cases m:h.get b with
 |none=>exact C.const _| some x =>
   cases x<;>(try exact C.const _);rename_i r;simp only [];cases(E.fn r.fn).isSome with
   |false=>exact C.const _| true =>
     simp only [cond_true]
     split
     next l =>
      split
      next=>exact C.const _
      next c i=>
       refine C.congr (F:=fun R=>(R.code ⟨r.fn,r.nr,some b⟩ r.assign ⟨c,[],none⟩ h).bind fun q=>match q with
        | (.normal,g,d)=>match d.get b with
          | some (.loop e)=>match e.st with
            | 0 =>(R.code ⟨r.fn,r.nr,some b⟩ r.body g (d.put b (.loop {e with st:=1}))).bind fun q=>match q with
              | (.normal,_,a)=>match a.get b with
                |some (.loop f)=>some (.ret (.bool true),a.put b (.loop {f with st:=0,pending:=none}))
                |_=>none
              | (.exit id,_,a)=>match a.get b with
                |some (.loop f)=>some (.ret (.bool false),a.put b (.loop {f with st:=2,pending:=some (.exit id)}))
                |_=>none
              | (.ret,_,a)=>match a.get b with
                |some (.loop f)=>some (.ret (.bool false),a.put b (.loop {f with st:=2,pending:=some .ret}))
                |_=>none
              | (.pan v,j,a)=>match j.dfs with
                | []=>some (.pan v,a)|_=>none
            |_=>none
          |_=>none
        |_=>none) ?_ ?_
       . intro R;cases R.code ⟨r.fn,r.nr,some b⟩ r.assign ⟨c,[],none⟩ h with
         |none=>rfl| some q=>
           obtain⟨x,g,d⟩:=q;cases x<;>(try rfl);simp only [Xv];cases d.get b with
           |none=>rfl| some y=>
             cases y<;>(try rfl);rename_i e;simp only [];cases k:e.st with
             | zero=>
               simp only [];cases R.code ⟨r.fn,r.nr,some b⟩ r.body g (d.put b (.loop {e with st:=1}))with
               |none=>rfl|some q=>obtain⟨x,j,a⟩:=q;cases x<;>rfl
             |succ n=>rfl
       . refine C.bind (C.code _ _ _ _) fun q=>?_;obtain⟨x,g,d⟩:=q;cases x<;>(try exact C.const _);simp only [];cases d.get b with
         |none=>exact C.const _| some y=>
           cases y<;>(try exact C.const _);simp only []
           split
           . refine C.bind (C.code _ _ _ _) fun q=>?_;exact C.const _
           . exact C.const _
     next=>exact C.const _

theorem ym(x:Option (dw×Hp)):K (fun R=>c6 E R x):=by
 cases x with
 |none=>exact C.const _| some q=>
   obtain⟨e,h⟩:=q;cases e<;>(try exact C.const _)
   . rename_i f d;refine C.congr (F:=fun R=>(R.call f d none h).bind fun q=>some (q.1,q.2.2)) (fun R=>?_) (C.bind (C.call _ _ _ _) fun _=>C.const _);simp only [c6];cases R.call f d none h with
     |none=>rfl|some q=>obtain⟨a,b,c⟩:=q;rfl
   . exact k_round C _ _ _

theorem k_stepOp(cx:Cx)(o:Oper)(l:Loc)(h:Hp):K (fun R=>dW E R cx o l h):=by
 unfold dW;have a:K (fun R=>oD o l (c6 E R (aop E l.ev h o.op))):=by refine C.congr (F:=fun R=>(c6 E R (aop E l.ev h o.op)).bind fun q=>oD o l (some q)) (fun R=>?_) (C.bind (ym C _) fun _=>C.const _);cases c6 E R (aop E l.ev h o.op)<;>rfl
 cases b:aop E l.ev h o.op with
 |none=>exact C.const _| some q=>
   rw [b]at a;obtain⟨c,d⟩:=q;cases c<;>(try exact a)
   . cases cx.round<;>exact C.const _
   . cases cx.round<;>exact C.const _

theorem uu (cx:Cx) (ops:List Oper): ∀(os:List Oper) (l:Loc) (h:Hp),K (fun R=>iG E R cx ops os l h)
 | [],l,h=>C.const _| o :: os,l,h=>by
   simp only [iG];cases ct ops l.regs o with
   |none=>exact C.const _| some b=>
     cases b with
     |false=>exact uu cx ops os _ _| true=>
       refine C.congr (F:=fun R=>(dW E R cx o l h).bind fun q=>match q with
        |(.normal,l',a)=>iG E R cx ops os l' a|q=>some q) (fun R=>?_) (C.bind (k_stepOp C _ _ _ _) fun q=>?_)
       . cases dW E R cx o l h with
         |none=>rfl|some q=>obtain⟨x,l',a⟩:=q;cases x<;>rfl
       . obtain⟨x,l',a⟩:=q;cases x<;>first|exact uu cx ops os _ _|exact C.const _

theorem k_stepD(ρ:Operand->Value)(a:Bool)(o:Oper)(h:Hp):K (fun R=>cI E R ρ a o h):=by
 unfold cI;cases a with
 | true=>
   refine C.congr (F:=fun R=>(c6 E R (aop E ρ {h with lo:=h.n} o.op)).bind fun q=>match q with
    |(.ret v,b)=>bif Nat.ble h.n b.lo then some (v,{b with lo:=h.lo})else none
    |_=>none) (fun R=>?_) (C.bind (ym C _) fun _=>C.const _)
   simp only [cond_true];cases c6 E R (aop E ρ {h with lo:=h.n} o.op)with
   |none=>rfl|some q=>obtain⟨x,b⟩:=q;cases x<;>rfl
 | false=>
   refine C.congr (F:=fun R=>(c6 E R (aop E ρ h o.op)).bind fun q=>match q with
    |(.ret v,b)=>some (v,b)|_=>none) (fun R=>?_) (C.bind (ym C _) fun _=>C.const _)
   simp only [cond_false];cases c6 E R (aop E ρ h o.op)with
   |none=>rfl|some q=>obtain⟨x,b⟩:=q;cases x<;>rfl

theorem qs (ops:List Oper) (q:Nat): ∀(os:List Oper) (i:Nat) (l:Loc) (h:Hp) (c:List (Nat×Tch)),K (fun R=>bN E R ops q os i l h c)
 | [],i,l,h,c=>C.const _| o :: os,i,l,h,c=>by
   simp only [bN];cases ct ops l.regs o with
   |none=>exact C.const _| some b=>
     cases b with
     |false=>exact qs ops q os _ _ _ _| true=>
       refine C.congr (F:=fun R=>(cI E R (l.evD (tmpsOf o.op.operands.toList)) (ey E q i o.op) o h).bind fun p=>
        bN E R ops q os (i+1) (l.put o.dst p.1) p.2 (ig i c (cH (l.evD (tmpsOf o.op.operands.toList)) (ey E q i o.op) o.op h p.2))) (fun R=>?_) (C.bind (k_stepD C _ _ _ _) fun q=>qs ops _ os _ _ _ _)
       cases cI E R (l.evD (tmpsOf o.op.operands.toList)) (ey E q i o.op) o h with
       |none=>rfl|some p=>obtain⟨a,b⟩:=p;rfl

theorem k_range (cx:Cx) (f:Value) (params:Array Tmp) (assign body:Code) (l:Loc) (h:Hp):K (fun R=>iR R cx f params assign body l h):=by
 unfold iR;cases f<;>(try exact C.const _);rename_i t a b;cases t<;>(try exact C.const _);rename_i g;simp only []
 split
 . exact C.const _
 . rename_i e d c _;refine C.congr (F:=fun R=>(R.call g (a.toList++[.func (.yield e.n) #[] #[]]++b.toList) none
    (e.new (.loop {fn:=cx.fn,regs:=l.regs,nr:=cx.nr,params,assign,body,st:=0,pending:=none,defers:=d}))).bind fun q=>match q with
    |(.pan v,_,i)=>some (.pan v,{l with dfs:=c},i)
    | (.ret _,_,i)=>match i.get e.n with
      | some (.loop x)=>match x.st with
        |1=>none| _=>match x.pending with
          |none=>some (.normal,{l with dfs:=c},i.put e.n .dead)
          |some (.exit id)=>some (.exit id,{l with dfs:=c},i.put e.n .dead)
          |some .ret=>some (.ret,{l with dfs:=c},i.put e.n .dead)
          |_=>none
      |_=>none) (fun R=>?_) (C.bind (C.call _ _ _ _) fun _=>C.const _)
   cases R.call g (a.toList++[.func (.yield e.n) #[] #[]]++b.toList) none
         (e.new (.loop {fn:=cx.fn,regs:=l.regs,nr:=cx.nr,params,assign,body,st:=0,pending:=none,defers:=d}))with
   |none=>rfl|some q=>obtain⟨x,y,z⟩:=q;cases x<;>rfl

theorem k_code(cx:Cx): ∀(c:Code) (l:Loc) (h:Hp),K (fun R=>aG E R cx c l h):=by
 intro c
 induction c with
 |skip=>intro l h;exact C.const _|label n=>intro l h;exact C.const _| region id d r=>
   intro l h;simp only [aG];cases r with
   |false=>exact uu C _ _ _ _ _| true=>
     simp only [cond_true];cases E.cut cx.fn with
     | false=>
       simp only [cond_false];cases jh E (bU d.toList)with
       |none=>exact C.const _| some p=>
         obtain⟨q,o⟩:=p;simp only [];refine C.congr (F:=fun R=>(bN E R (bU d.toList) q (bU d.toList) 0 l h []).bind fun x=>bif cB x.2.2 o then some (.normal,x.1,x.2.1)else none) (fun R=>?_) (C.bind (qs C _ _ _ _ _ _ _) fun _=>C.const _);cases bN E R (bU d.toList) q (bU d.toList) 0 l h []with
         |none=>rfl|some x=>obtain⟨a,b,c⟩:=x;rfl
     | true =>
       simp only [cond_true,cutD];cases tR E d.toList with
       | true=>
         simp only [cond_true,forkD];cases forkP E (bU d.toList)with
         |none=>exact C.const _| some p=>
           obtain⟨q,o⟩:=p;simp only [];refine C.congr (F:=fun R=>(bN E R (bU d.toList) q (bU d.toList) 0 l h []).bind fun x=>bif cB x.2.2 o then(match pH (ur E (bU d.toList) (p7 (bU d.toList))) x.1 x.2.1 with
            |some y=>some (.normal,x.1,y)|none=>none)else none) (fun R=>?_) (C.bind (qs C _ _ _ _ _ _ _) fun _=>C.const _)
           cases bN E R (bU d.toList) q (bU d.toList) 0 l h []with
           |none=>rfl|some x=>obtain⟨a,b,c⟩:=x;rfl
       |false=>
       simp only [cond_false,tW];cases jT d.toList (d.toList.length-1)with
       |false=>exact C.const _| true=>
         simp only [cond_true];generalize bU (d.toList.take (cutN d.toList))=A;cases jh E A with
         |none=>exact C.const _| some p=>
           obtain⟨q,o⟩:=p;simp only [];refine C.congr (F:=fun R=>(bN E R A q A 0 l h []).bind fun x=>bif cB x.2.2 o then iG E R cx d.toList (d.toList.drop (cutN d.toList)) x.1 x.2.1 else none) (fun R=>?_) (C.bind (qs C _ _ _ _ _ _ _) fun x=>?_)
           . cases bN E R A q A 0 l h []with
             |none=>rfl|some x=>obtain⟨a,b,c⟩:=x;rfl
           . cases cB x.2.2 o with
             |false=>exact C.const _|true=>exact uu C _ _ _ _ _
 | seq a b j k=>
   intro l h;simp only [aG];refine C.congr (F:=fun R=>(aG E R cx a l h).bind fun q=>match q with
    |(.normal,e,g)=>aG E R cx b e g|q=>some q) (fun R=>?_) (C.bind (j _ _) fun q=>?_)
   . cases aG E R cx a l h with
     |none=>rfl|some q=>obtain⟨x,e,g⟩:=q;cases x<;>rfl
   . obtain⟨x,e,g⟩:=q;cases x<;>first|exact k _ _|exact C.const _
 | cond c a b j k=>
   intro l h;simp only [aG];cases l.ev c<;>(try exact C.const _);rename_i t;cases t
   . exact k _ _
   . exact j _ _
 | block id b s=>
   intro l h;simp only [aG];refine C.congr (F:=fun R=>(aG E R cx b l h).bind fun q=>match q with
    |(.exit i,e,g)=>bif XB i id then some (.normal,e,g)else some (.exit i,e,g)
    |q=>some q) (fun R=>?_) (C.bind (s _ _) fun _=>C.const _)
   cases aG E R cx b l h with
   |none=>rfl|some q=>obtain⟨x,e,g⟩:=q;cases x<;>rfl
 | loop b s=>
   intro l h;simp only [aG];refine C.congr (F:=fun R=>(aG E R cx b l h).bind fun q=>match q with
    |(.normal,e,g)=>R.code cx (.loop b) e g|q=>some q) (fun R=>?_) (C.bind (s _ _) fun q=>?_)
   . cases aG E R cx b l h with
     |none=>rfl|some q=>obtain⟨x,e,g⟩:=q;cases x<;>rfl
   . obtain⟨x,e,g⟩:=q;cases x<;>first|exact C.code _ _ _ _|exact C.const _
 |rangeFunc f u v w _ _=>intro l h;exact k_range C _ _ _ _ _ _ _|exit id=>intro l h;exact C.const _|scope b s=>intro l h;exact s _ _|goto n=>intro l h;exact C.const _|ret=>intro l h;exact C.const _|refuse m=>intro l h;exact C.const _

theorem qB : ∀(e:List Deferred) (m:Option Value) (h:Hp),K (fun R=>ck R e m h)
 | [],m,h=>C.const _| d :: e,m,h=>by
   simp only [ck];cases d.target with
   |nil=>exact C.const _|builtin a b c d=>exact C.const _|coroexit=>exact C.const _| collected b=>
     simp only [];cases h.get b with
     |none=>exact C.const _|some x=>cases x<;>first|exact qB e _ _|exact C.const _
   | fn t cap=>
     cases t<;>(try exact C.const _);rename_i f;simp only [];refine C.congr (F:=fun R=>(R.call f (d.args.toList++cap.toList) (match m with|none=>none|some v=>some (v,false)) h).bind fun q=>match q with
      | (.ret _,g,i)=>match m,g with
        |none,none=>ck R e none i|some _,some (_,true)=>ck R e none i|some _,some (v,false)=>ck R e (some v) i|_,_=>none
      |_=>none) (fun R=>?_) (C.bind (C.call _ _ _ _) fun q=>?_)
     . cases R.call f (d.args.toList++cap.toList) (match m with|none=>none|some v=>some (v,false)) h with
       |none=>rfl|some q=>obtain⟨x,y,z⟩:=q;cases x<;>rfl
     . obtain⟨x,g,i⟩:=q;cases x with
       |pan v=>exact C.const _| ret v=>
         simp only [];cases m with
         |none=>cases g<;>first|exact qB e _ _|exact C.const _
         | some j=>
           cases g with
           |none=>exact C.const _|some y=>obtain⟨k,b⟩:=y;cases b<;>exact qB e _ _

theorem k_body (f:FuncId) (args:List Value) (i:Option (Value×Bool)) (h:Hp):K (fun R=>kH E R f args i h):=by
 unfold kH;cases E.fn f with
 |none=>exact C.const _| some b =>
   simp only [];cases b.body with
   |none=>exact C.const _| some e=>
     simp only [];cases Nat.ble args.length b.ntmps with
     |false=>exact C.const _| true =>
       simp only [cond_true];have g: ∀(l:Loc) (c:Hp),K (fun R=>match ck R l.dfs none c with
        | some (none,a)=>match bH E l.regs a b.results.toList with
          |none=>none|some d=>some (Out.ret (ab d),l.rc,a)
        |_=>none):=by
        intro l c;refine C.congr (F:=fun R=>(ck R l.dfs none c).bind fun q=>match q with
         | (none,a)=>match bH E l.regs a b.results.toList with
           |none=>none|some d=>some (Out.ret (ab d),l.rc,a)
         |_=>none) (fun R=>?_) (C.bind (qB C _ _ _) fun _=>C.const _)
        cases ck R l.dfs none c with
        |none=>rfl|some q=>obtain⟨x,y⟩:=q;cases x<;>rfl
       refine C.congr (F:=fun R=>(R.code ⟨f,b.ntmps,none⟩ e ⟨(Tr.blank (.tuple #[]) b.ntmps b.ntmps).setAll 0 args,[],i⟩ h).bind fun q=>match q with
        |(.exit _,_,_)=>none| (.pan v,l,c)=>match ck R l.dfs (some v) c with
          |none=>none|some (some v,a)=>some (Out.pan v,l.rc,a)| some (none,a)=>match bH E l.regs a b.results.toList with
            |none=>none|some d=>some (Out.ret (ab d),l.rc,a)
        | (_,l,c)=>match ck R l.dfs none c with
          | some (none,a)=>match bH E l.regs a b.results.toList with
            |none=>none|some d=>some (Out.ret (ab d),l.rc,a)
          |_=>none) (fun R=>?_) (C.bind (C.code _ _ _ _) fun q=>?_)
       . cases R.code ⟨f,b.ntmps,none⟩ e ⟨(Tr.blank (.tuple #[]) b.ntmps b.ntmps).setAll 0 args,[],i⟩ h with
         |none=>rfl|some q=>obtain⟨x,y,z⟩:=q;cases x<;>rfl
       . obtain⟨x,l,c⟩:=q;cases x with
         |exit id=>exact C.const _|normal=>exact g l c|ret=>exact g l c| pan v=>
           simp only [];refine C.congr (F:=fun R=>(ck R l.dfs (some v) c).bind fun q=>match q with
            |(some v,a)=>some (Out.pan v,l.rc,a)| (none,a)=>match bH E l.regs a b.results.toList with
              |none=>none|some d=>some (Out.ret (ab d),l.rc,a)) (fun R=>?_) (C.bind (qB C _ _ _) fun _=>C.const _)
           cases ck R l.dfs (some v) c with
           |none=>rfl|some q=>obtain⟨x,y⟩:=q;cases x<;>rfl
theorem k_call(f:FuncId)(args:List Value)(a:Option (Value×Bool))(h:Hp):K (fun R=>iY E R f args a h):=by
 unfold iY;cases E.orc f args with
 |none=>exact k_body C f args a h|some v=>cases a<;>exact C.const _
end

theorem jU(E:Env):Closed E (fun F=>pY F)where
 const:=pY.const
 bind:=fun hF hG=>hF.bind hG
 congr:=fun e h=>by have:=funext e;rw [this];exact h
 call:=fun f a rc h R R' le o=>le.1 f a rc h o
 code:=fun cx c l h R R' le o=>le.2 cx c l h o

theorem next_mono{E:Env}{R b:Rec}(h:RLe R b):RLe (next E R) (next E b):=
 ⟨fun f a g d o e=>k_call (jU E) f a g d R b h o e,fun i c l d o e=>k_code (jU E) i c l d R b h o e⟩
theorem Br{E:Env}: ∀n,RLe (run E n) (run E (n+1))
 | 0=>by
   constructor
   . intro f a b h o e;cases e
   . intro d c l h o e;cases e
 |n+1=>next_mono (Br n)
theorem run_up{E:Env}(n m:Nat)(h:n<=m):RLe (run E n) (run E m):=by
 induction m with
 | zero => have:n=0:=by omega
           subst this;exact RLe.refl _
 | succ m a=>
   by_cases e:n=m+1
   . subst e;exact RLe.refl _
   . exact(a (by omega)).trans (Br m)

open Classical in
noncomputable def limOf{a:Type}(F:Nat->Option a):Option a:=if h: ∃n o,F n=some o then some (Classical.choose (Classical.choose_spec h))else none
theorem xj{d:Type}{F:Nat->Option d}(e: ∀n m,n<=m-> ∀o,F n=some o->F m=some o){o:d}:limOf F=some o↔ ∃n,F n=some o:=by
 constructor
 . intro h;unfold limOf at h
   split at h
   . rename_i c;cases h;exact⟨_,Classical.choose_spec (Classical.choose_spec c)⟩
   . cases h
 . intro⟨n,h⟩;unfold limOf;have c: ∃n o,F n=some o:=⟨n,o,h⟩;rw [dif_pos c];have f:=Classical.choose_spec (Classical.choose_spec c);have a:=e _ (n+Classical.choose c) (by omega) _ h;have b:=e _ (n+Classical.choose c) (by omega) _ f;rw [a]at b;cases b;rfl

noncomputable def lim(E:Env):Rec where
 call:=fun f a rc h=>limOf fun n=>(run E n).call f a rc h
 code:=fun cx c l h=>limOf fun n=>(run E n).code cx c l h
theorem qv{E:Env}{f:FuncId}{a:List Value}{c:Option (Value×Bool)}{h:Hp}{o:Out×Option (Value×Bool)×Hp}:(lim E).call f a c h=some o↔ ∃n,(run E n).call f a c h=some o:=
 xj fun n m b o e=>(run_up n m b).1 _ _ _ _ _ e
theorem rZ{E:Env}{cx:Cx}{c:Code}{l:Loc}{h:Hp}{o:Ex×Loc×Hp}:(lim E).code cx c l h=some o↔ ∃n,(run E n).code cx c l h=some o:=
 xj fun n m a o e=>(run_up n m a).2 _ _ _ _ _ e
theorem run_lim{E:Env}(n:Nat):RLe (run E n) (lim E):=⟨fun _ _ _ _ _ h=>qv.2 ⟨n,h⟩,fun _ _ _ _ _ h=>rZ.2 ⟨n,h⟩⟩

theorem xH(E:Env):Closed E (fun F=>MC E (lim E) F)where
 const:=MC.const
 bind:=fun hF hG=>MC.bind run_up hF hG
 congr:=fun e h=>MC.congr e h
 call:=fun f a rc h=>⟨(jU E).call f a rc h,fun _ e=>qv.1 e⟩
 code:=fun cx c l h=>⟨(jU E).code cx c l h,fun _ e=>rZ.1 e⟩

theorem w7{c:Type}{x y:Option c}(h: ∀o,x=some o↔y=some o):x=y:=by
 cases x with
 | none=>cases y with
   |none=>rfl|some b=>exact absurd ((h b).2 rfl) (by simp)
 |some a=>exact((h a).1 rfl).symm

theorem call_eq(E:Env)(f:FuncId)(a:List Value)(b:Option (Value×Bool))(h:Hp):(lim E).call f a b h=iY E (lim E) f a b h:=by
 refine w7 fun o=>⟨fun e=>?_,fun e=>?_⟩
 . obtain⟨n,c⟩:=qv.1 e;cases n with
   |zero=>cases c
   |succ n=>exact k_call (jU E) f a b h _ _ (run_lim n) o c
 . obtain⟨n,c⟩:=(k_call (xH E) f a b h).2 o e;exact qv.2 ⟨n+1,c⟩
theorem yg(E:Env)(cx:Cx)(c:Code)(l:Loc)(h:Hp):(lim E).code cx c l h=aG E (lim E) cx c l h:=by
 refine w7 fun o=>⟨fun e=>?_,fun e=>?_⟩
 . obtain⟨n,a⟩:=rZ.1 e;cases n with
   |zero=>cases a
   |succ n=>exact k_code (jU E) cx c l h _ _ (run_lim n) o a
 . obtain⟨n,a⟩:=(k_code (xH E) cx c l h).2 o e;exact rZ.2 ⟨n+1,a⟩

theorem lim_ok{E:Env}{P:Program}(a:EOk E P):ic E P (lim E).call:=by intro g b j h o e k f;obtain⟨n,i⟩:=qv.1 f;exact(run_ok a (fun _ c d=>⟨draw_ok a c d,AW a c d⟩) n).1 _ _ _ _ _ _ _ i
end Go.Ab
namespace Go.Ab
theorem Cc{E:Env}{P:Program}{R:Rec}(p:ic E P R.call){f:FuncId}{args:List Value}{v:Value}{q:Hp}(i:args.all cR=true)(l:cR v=true)
 (r:R.call f args none hp0=some (.ret v,none,q)):(∃m,E.fn f=some m/\m.body.isSome=true)/\OrcAt P f args v:=by
 obtain⟨s,t⟩:=p _ _ _ _ _ _ _ r;refine⟨s,i,l,fun w j d u=>?_⟩;obtain⟨y,z,e,A,J,g,B,K,C,D,F⟩:=t mu0 w ⟨args⟩ none j d (hrel0 w) glob0 (LR.refl fun a k=>ao.const mu0 (by simp only [Xp]at i;exact i a k)) trivial u;cases e with
 |some x=>exact B.elim| none=>
   obtain⟨L,n,G⟩:=D;rw [ao.const_eq l G]at n;exact⟨z,A,⟨fun c H=>g.frame c H (by intro b o I h;unfold mu0 at h;split at h<;>cases h),g.wsize,g.os,g.tape,g.output⟩,C,n,F⟩
theorem CZ{E:Env}{P:Program}(a:EOk E P){n:Nat}{f:FuncId}{args:List Value}{v:Value}{e:Hp}(g:args.all cR=true)(h:cR v=true)
 (i:(run E n).call f args none hp0=some (.ret v,none,e)):(∃b,E.fn f=some b/\b.body.isSome=true)/\OrcAt P f args v:=
 Cc (R:=run E n) (run_ok a (fun _ c d=>⟨draw_ok a c d,AW a c d⟩) n).1 g h i
end Go.Ab

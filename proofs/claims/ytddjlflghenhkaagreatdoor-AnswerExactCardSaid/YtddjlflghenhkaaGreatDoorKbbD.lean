/- A deterministic evaluator of the model's code, and that the model follows it (part 4). -/
import Derived.Test.YtddjlflghenhkaaGreatDoorKbbC
import Derived.Orders
import Derived.ChangeSame
import Derived.RowKit3
import Derived.JoinedOf
import Derived.KernelRfl
open Array renaming getElem?_eq_getElem->zM,getD_eq_getD_getElem?->zO,replicate->Xc,getElem?_toList->Xf,getElem?_push->Xj,all_eq_true'->Xz,getElem?_replicate->XD
open Nat renaming le_refl->Xa,lt_of_lt_of_le->Xb,eq_of_beq_eq_true->Xg,ble_eq_true_of_le->Xh,lt_trichotomy->Xn,zero_le->Xo,beq_refl->Xr,lt_or_ge->Xs,le_trans->Xt,zero_add->Xx,beq->Xy,ble->XF
open Bool renaming and_eq_true->Xd,not_eq_true'->Xi
open List renaming getElem?_eq_getElem->Xe,map_congr_left->Xk,mem_range->Xm,all_eq_true->Xp,mem_of_getElem?->Xu,mem_filter->Xv,getElem?_eq_some_iff->XA,drop_eq_getElem_cons->XB,range'->XE,mem_cons_of_mem->XG
open Iff renaming rfl->Xl
open Option renaming getD_some->Xq,map_some->Xw,bind_some->XC
set_option maxHeartbeats 400000
set_option linter.defProp false
set_option linter.unusedVariables false
set_option linter.unusedSimpArgs false
namespace Go.Ab
variable{b c i md n p q:Nat}
variable{args l:List Value}
variable{v:Value}
variable{o:Oper}
variable{S:Nat->Bool}
variable{mu:Mu}
variable{a os:List Oper}
variable{ρ:Operand->Value}
variable{h h':Hp}
variable{w:World}
variable{f:FuncId}
variable{ops:Array Oper}
variable{σ:Nat->Nat}
variable{E:Env}
variable{R:Rec}
variable{P:Program}
variable{ps:List (Nat×Nat)}
variable{op:Op}
section
variable(E:Env)(ops:Array Oper)(q:Nat)(L:Nat->Loc)(H:Nat->Hp)(X:Nat->Bool)(nr:Nat)(mu0:Mu)(w0:World)
def AtC(S:Nat->Bool)(c:Nat):Prop:=c<=ops.size/\(c=ops.size\/ ∃o,ops[c]? =some o/\isW E X q o c/\S c=false)/\ ∀(i:Nat) o,i<c->ops[i]? =some o->isW E X q o i->S i=true
def RegsAt(S:Nat->Bool)(mu:Mu)(tmps:Array Value):Prop:= ∀(i:Nat),i<=ops.size-> ∀(t:Tmp) v,(∀(p:Nat) (o:Oper),ops[p]? =some o->o.dst=some t->(p<i↔S p=true))->
 (L i).regs.get t=some v-> ∃a,tmps[t]? =some a/\az mu v a
structure Inv(S:Nat->Bool)(mu:Mu)(w:World)(tmps:Array Value):Prop where
 c: ∃c,AtC E ops q X S c/\aY mu (H c) w
 glob:nQ mu
 non: ∀p,p<ops.size->S p=false-> ∀b,(H p).n<=b->b<(H (p+1)).n->mu b=.none
 size:tmps.size=nr
 regs:RegsAt ops L S mu tmps
 ext:WExt mu0 (H 0) w0 mu w
 cov: ∀p,p<ops.size->S p=true-> ∀b,(H p).n<=b->b<(H (p+1)).n->mu b≠ .none
end
def nu(S:Nat->Bool)(p:Nat):Nat->Bool:=fun i=>if i=p then true else S i
theorem ja(S:Nat->Bool)(p:Nat):nu S p p=true:=by simp [nu]
theorem cD(S:Nat->Bool)(h:i≠p):nu S p i=S i:=by simp [nu,h]
section
variable{E:Env}{R:Rec}{ops:Array Oper}{q:Nat}{ps:List (Nat×Nat)}{M:List Nat}{L:Nat->Loc}{H:Nat->Hp}{T:Nat->Option Nat}{X:Nat->Bool}(D:DT E R ops q ps M L H T X)
theorem sT{l:Loc}{d:Option Tmp}{t:Tmp}(h:d≠some t):(l.put d v).regs.get t=l.regs.get t:=by
 cases d with
 |none=>rfl| some d=>show(l.regs.set d v).get t=_;simp_all[Tr.get_set,if_neg]
include D in
theorem tg{j:Nat}(b:ops[j]? =some o){t:Tmp}(h:o.dst≠some t):(L (j+1)).regs.get t=(L j).regs.get t:=by
 have a:=D.step j o b;generalize L (j+1)=e at a;generalize H (j+1)=f at a;generalize T j=g at a;generalize X j=i at a;cases a with
 |skip c=>exact sT h|exec c d=>exact sT h
include D in
theorem qc{e:Mu}{tmps:Array Value}{r:Nat}(z:Down ops S)(s:ops[p]? =some o)(A:Ready o S)(B:S p=false)(C:Le mu e)(k:tmps.size=r)(l:(L p).regs.Sized r)
 {v':Value} (Q:az e v v') (F:L (p+1)=(L p).put o.dst v) (f:RegsAt ops L S mu tmps):RegsAt ops L (nu S p) e (iJ tmps o.dst v'):=by
 intro i G t u g m;by_cases n:o.dst=some t
 . have I:p<i:=(g p o s n).2 (ja S p);have b:t∈lE ops.toList o:=(by unfold lE;rw [n];simp);have J:=yf D z s A B b;have h:(L i).regs.get t=(L (p+1)).regs.get t:=by
    have:=walk_eq (fun j=>(L j).regs.get t) (a:=p+1) (i-(p+1)) (fun j w x=>by
     have U:j<i:=(by omega);grind[zM,cD,tg])
    grind
   rw [h,F,n]at m;have c:((L p).regs.set t v).get t=some u:=m;rw [Tr.get_set]at c;cases y:(L p).regs.get t with
   |none=>grind| some V=>rw [y]at c;simp at c;subst c;have:t<tmps.size:=(by rw [k];exact(l t).1 (by rw [y];rfl));grind[iJ]
 . obtain⟨K,w,x⟩:=f i G t u (fun j W N O=>by
    grind[cD]) m
   refine⟨K,?_,x.mono C⟩;cases P:o.dst with
   |none=>exact w| some d=>show(tmps.setIfInBounds d v')[t]? =_;grind
theorem qi(tmps:Array Value)(d:Option Tmp)(v:Value):(iJ tmps d v).size=tmps.size:=by cases d<;>simp [iJ]
end
theorem next_W{E:Env}{ops:Array Oper}{q:Nat}{X:Nat->Bool}: ∀(d c:Nat),c+d=ops.size-> ∃a,c<=a/\a<=ops.size/\(a=ops.size\/ ∃o,ops[a]? =some o/\isW E X q o a)/\ ∀i o,c<=i->i<a->ops[i]? =some o-> ¬isW E X q o i
 |0,c,h=>⟨c,Xa _,by omega,.inl (by omega),fun i o e f=>by omega⟩
 | d +1,c,h=>by
   obtain⟨b,g⟩: ∃b,ops[c]? =some b:=⟨_,zM (xs:=ops) (i:=c) (by omega)⟩;by_cases j:isW E X q b c
   . exact⟨c,Xa _,by omega,.inr ⟨_,g,j⟩,fun i o e f=>by omega⟩
   . obtain⟨a,e,f,k,l⟩:=next_W (E:=E) (ops:=ops) (q:=q) (X:=X) d (c+1) (by omega);grind
section
variable{E:Env}{P:Program}(ok:EOk E P){R:Rec}(hc:iS E P R.call)(hcode:j7 P R.code)
variable{ops:Array Oper}{q:Nat}{ps:List (Nat×Nat)}{M:List Nat}{L:Nat->Loc}{H:Nat->Hp}{T:Nat->Option Nat}{X:Nat->Bool}(D:DT E R ops q ps M L H T X)
variable{nr:Nat}{mu0:Mu}{w0:World}
include D in
theorem Ed (dz: ∀j o,j<ops.size->ops[j]? =some o->Turn ops E X q H T j o)   (V:ops[n]? =some o) (W:cls E o.op=2) (F:qm ops.toList o n i=true)  (Y:touch ((L n).evD (tmpsOf o.op.operands.toList)) o.op=some b):(H (i+1)).n<=b:=by
 have hn:=(Array.getElem?_eq_some_iff.1 V).1;unfold qm at F;cases u:mapArg o.op with
 |none=>grind| some t=>
   rw [u]at F;simp only [List.any_eq_true,Xm,Xd,Xp,Bool.or_eq_true,Xi]at F;obtain⟨k,hk,w,f,y⟩:=F;have w:i<k:=(by simp_all);have l:ops[k]? =some ops[k]:=zM (by omega);unfold atIs at f;rw [Xf,l]at f;simp only [Xd]at f;have I: ∀{p:Oper},dstIs t p=true->p.dst=some t:=(by grind[dstIs,Xg]);have Z:=I f.2
   -- what the temporary holds at n
   have J:(L n).regs.get t=(L (k+1)).regs.get t:=by
    have:=walk_eq (fun j=>(L j).regs.get t) (a:=k+1) (n-(k+1)) (fun j h1 W=>by
     have K:ops[j]? =some ops[j]:=zM (by omega);refine tg D K fun hd=>?_;rcases y j (by omega)with x|x
     . have:=Nat.le_of_ble_eq_true x;omega
     grind[atIs,dstIs,Xr])
    grind
   -- what the touched block is
   have ht:touch ((L n).evD (tmpsOf o.op.operands.toList)) o.op=some b->(L n).ev (.tmp t)=.map (some b):=by
    intro h;have z: ∀(N:List Tmp) (v:Value),(L n).evD N (.tmp t)=.map (some b)->(L n).ev (.tmp t)=.map (some b):=by
     intro N v h;unfold Loc.evD at h;cases O:memb t N with
     |true=>grind|false=>simp only [O,cond_false]at h;cases h
    cases g:o.op<;>rw [g]at u<;>(try (cases u;done))
    all_goals
     rename_i ty m kk vv;cases m<;>(try (cases u;done));cases u;rw [g]at h;unfold touch at h;simp only []at h
     split at h
     next r hr=>subst h;exact z _ .nilIface hr
     next=>cases h
   have Q:=ht Y;have A:=D.step k ops[k] l;generalize hL:L (k+1)=L1 at A;generalize hH:H (k+1)=H1 at A;generalize T k=T1 at A;generalize hX:X k=X1 at A;have B: ∀v,L1=(L k).put ops[k].dst v-> ∀b,(L n).ev (.tmp t)=.map (some b)->v=.map (some b):=(by grind[Loc.ev,Loc.put,Tr.get_set]);cases A with
   |skip hg=>grind| exec hg c=>
     rename_i v;have hv:=B _ rfl b Q;subst hv;have d:=f.1;have h4:cls E ops[k].op=4:=by
      unfold isMk at d
      split at d
      . next h=>rw [h];rfl
      . cases d
     have hq:=qI (q:=q) (i:=k) (op:=ops[k].op) (E:=E) (by omega) (D.four k _ l h4);rw [hq]at c;have hle:=fQ dz (show i+1<=k from w) (by omega);have C: ∀(h:Hp) (G:dT) (S:Hp),aop E ((L k).evD (tmpsOf ops[k].op.operands.toList)) h ops[k].op=some (G,S)->G=.val (.map (some h.n)):=by
      intro h G S U;unfold isMk at d
      split at d
      . next ty sz g=>
        rw [g]at U;cases sz<;>cases U;rfl
      . cases d
     unfold du at c;simp only [cond_true]at c;cases s:aop E ((L k).evD (tmpsOf ops[k].op.operands.toList)) {H k with lo:=(H k).n} ops[k].op with
     |none=>rw [s]at c;cases c
     | some r=>
       obtain⟨G,S⟩:=r;have e:=C _ _ _ s;subst e;rw [s]at c;simp only [dH]at c;grind
include D in
theorem wr_new(d: ∀j,j<=ops.size->(H j).t.Sized (H j).n)(dz: ∀j o,j<ops.size->ops[j]? =some o->Turn ops E X q H T j o)(e:ops[n]? =some o)(h:isW E X q o n)(g:cls E o.op=2)(k:qm ops.toList o n i=true)(f:i<n)(p:b<(H (i+1)).n):(H (n+1)).get b=(H n).get b:=by
 have r:=(Array.getElem?_eq_some_iff.1 e).1;have l:=fun b=>Ed D dz e g k (b:=b);have a:=D.step n o e;generalize L (n+1)=s at a;generalize t:H (n+1)=u at a;generalize T n=v at a;generalize w:X n=x at a;cases a with
 |skip m=>rfl| exec m c=>
   rw [uJ h]at c;obtain⟨y,z⟩:=zk (.inl g) c;have hle:=fQ dz (show i+1<=n from f) (by omega);grind[w_only]
theorem stand(dz: ∀j o,j<ops.size->ops[j]? =some o->Turn ops E X q H T j o){a:Nat}(k:a<=c)(l:c<=ops.size)
 (e: ∀j o,a<=j->j<c->ops[j]? =some o->isR E X o j\/isQ E X q o j\/ ∀b,b<(H a).n->(H (j+1)).get b=(H j).get b)  (f:b<(H a).n):(H c).get b=(H a).get b:=by
 have:=walk_eq (fun j=>(H j).get b) (a:=a) (c-a) (fun j g m=>by
  have d:ops[j]? =some ops[j]:=zM (by omega);have i:=dz j _ (by omega) d;rcases e j _ g (by omega) d with h|h|h
  rotate_right
  . exact h b f
  . show(H (j+1)).get b=(H j).get b;rw [i.still h]
  . exact i.quiet h b (Xb f (fQ dz g (by omega))))
 grind
include D in
theorem after_c(g:Down ops S)(h:AtC E ops q X S c)(s:c<=i)(a:ops[i]? =some o)(j:isW E X q o i\/isQ E X q o i)(k:isQ E X q o i->c≠i):S i=false:=by
 have l:=(Array.getElem?_eq_some_iff.1 a).1;rcases h.2.1 with e|⟨t,b,d,n⟩
 . omega
 . by_cases p:c=i
   . grind
   . cases r:S i with
     |false=>rfl| true=>
       obtain⟨m,f⟩:=mask D a;have:=pk D g i o m c a f r (cmp D a f (by omega) b ⟨d,j⟩);grind
include D in
theorem read_at(dz: ∀j o,j<ops.size->ops[j]? =some o->Turn ops E X q H T j o)(k: ∀j,j<=ops.size->(H j).t.Sized (H j).n)(J:Down ops S)(y:AtC E ops q X S c)
   (l:ops[p]? =some o) (W:Ready o S) (Y:S p=false) (r:cls E o.op<=1)  (K:T p=touch ρ o.op)
 (s: ∀b,touch ρ o.op=some b->b<(H p).n) (t: ∀b,touch ρ o.op=some b->b<(H c).n)
 {f:Hp->Option Value} (N: ∀h,aop E ρ h o.op=cU h (f h)) (O:cls E o.op=0-> ∀h i,f h=f i) (C: ∀h i,(∀b,touch ρ o.op=some b->i.get b=h.get b)->f h=f i):
 f (H c)=f (H p):=by
 have Q:=(Array.getElem?_eq_some_iff.1 l).1;have U:=y.1;have u: ∀j,j<ops.size->(∀b,touch ρ o.op=some b->b<(H j).n)->(∀v,ops[j]? =some v->isW E X q v j->(p<j/\S j=true)\/(j<p/\S j=false))->f (H (j+1))=f (H j):=by
  intro j F hlt z;have d:ops[j]? =some ops[j]:=zM F;have G:=dz j _ F d;rcases kinds D d with h|h|h
  . rw [G.still h]
  . exact(C _ _ fun b w=>G.quiet h b (hlt b w)).symm
  . refine w_leaves D k l d h r K ?_ hlt N O C;rcases z _ d h with⟨g,i⟩|⟨g,i⟩
    . obtain⟨m,A⟩:=mask D d;refine .inl ⟨g,D.owe j _ m p o d A g l ?_⟩;grind[pk]
    . obtain⟨m,A⟩:=mask D l;refine .inr ⟨g,D.owe p o m j _ l A g d ?_⟩;grind[qq]
 rcases Nat.le_total p c with B|B
 . have:=walk_eq (fun j=>f (H j)) (a:=p) (c-p) (fun j g i=>u j (by omega) (fun b w=>Xb (s b w) (fQ dz g (by omega))) (fun v d n=>by
    have V:p≠j:=(by intro e;subst e;rw [l]at d;cases d;rcases n.2 with x|⟨x,_⟩<;>omega);exact .inl ⟨by omega,y.2.2 j v (by omega) d n⟩))
   simp_all
 . have:=walk_eq (fun j=>f (H j)) (a:=c) (p-c) (fun j g i=>u j (by omega) (fun b w=>Xb (t b w) (fQ dz g (by omega))) (fun v d n=>
    .inr ⟨by omega,after_c D J y g d (.inl n) (fun I=>by
     intro _;have:=n.2;have:=I.2.2;rcases n.2 with x|⟨_,x⟩
     . have:=I.2.1;omega
     grind)⟩))
   simp_all
end
section
variable{E:Env}{P:Program}(ok:EOk E P){R:Rec}(hc:iS E P R.call)(hcode:j7 P R.code)
variable{ops:Array Oper}{q:Nat}{ps:List (Nat×Nat)}{M:List Nat}{L:Nat->Loc}{H:Nat->Hp}{T:Nat->Option Nat}{X:Nat->Bool}(D:DT E R ops q ps M L H T X)
variable{nr:Nat}{mu0:Mu}{w0:World}
theorem Cj(h: ∀b,mu b≠ .none->b<n):cut mu n=mu:=by grind[fS,qs,absurd]
theorem uU(h:AtC E ops q X S c)(f:p≠c):AtC E ops q X (nu S p) c:=by
 refine⟨h.1,h.2.1.imp id fun⟨o,a,b,e⟩=>⟨o,a,b,by rw [cD S (Ne.symm f)];exact e⟩,fun i o g j k=>?_⟩;by_cases d:i=p
 . subst d;exact ja S i
 . rw [cD S d];exact h.2.2 i o g j k
theorem yn{e:Hp}(d:aY mu h w)(k:OZ e)(l:h.n<=e.n)(j: ∀b,b<h.n->e.get b=h.get b):aY mu e w:=by
 refine⟨k,fun b c f g a=>?_,fun b a=>?_,d.inj,fun b a=>Xb (d.lt b a) l⟩
 . obtain⟨x,o,m,i,n⟩:=d.blk b c f g a;exact⟨x,o,by rw [j b (d.lt b (by rw [a];simp))];exact m,i,n⟩
 . rw [j b (d.lt b (by rw [a];simp))];exact d.dead b a
theorem jY.cut{mu d:Mu}{n:Nat}(g: ∀b,d b≠ .none->b<n){t:Tr Value}{m:Nat}{ts e:Array Value}(h:jY mu t m ts)(j:jY d t m e):jY (cut mu n) t m ts:=by refine⟨h.size,h.sized,fun i v f=>?_⟩;obtain⟨k,a,b⟩:=h.get i v f;obtain⟨l,_,c⟩:=j.get i v f;exact⟨k,a,az.cut g c b⟩
theorem nJ.cut{mu f:Mu}{n:Nat}(z: ∀b,f b≠ .none->b<n){x:Blk}{base top d g:Nat}{o B:Obj}(h:nJ mu x base top o)(m:nJ f x d g B):nJ (cut mu n) x base top o:=by
 cases x with
 |dead=>exact h| cells t Q S U=>
   obtain⟨C,p,F,e,r⟩:=h;obtain⟨G,I,J,A,j⟩:=m;refine⟨C,p,F,e,r.whole,r.fits,r.sized,fun i v k=>?_,r.free⟩;obtain⟨s,a,b⟩:=r.get i v k;obtain⟨K,_,c⟩:=j.get i v k;exact⟨s,a,az.cut z c b⟩
 | map V c=>
   obtain⟨u,w,e,r⟩:=h;obtain⟨_,N,A,j⟩:=m;refine⟨u,w,e,r.1,fun i v s k y=>?_⟩;obtain⟨W,Y,Z,a4⟩:=r.2 i v s k y;obtain⟨K,b1,b2⟩:=j.get k;grind[az.cut]
 | loop l=>
   obtain⟨u,O,e,r⟩:=h;obtain⟨_,lT,A,j⟩:=m;exact⟨u,O,e,r.fn,r.regs.cut z j.regs,r.params,r.assign,r.body,r.st,r.pending⟩
 |dfr=>exact h
def glue(a mu:Mu)(n:Nat):Mu:=fun b=>if b<n then a b else mu b
theorem lH{a:Mu}(h:b<n):glue a mu n b=a b:=by simp [glue,h]
theorem mP{a:Mu}(h:n<=b):glue a mu n b=mu b:=by simp [glue,Nat.not_lt.2 h]
theorem glue_rel {e:Mu} {hc r f:Hp} {z:World} (l:aY mu hc w) (y:aY e f z) (k2:Ext (cut mu r.n) r w e f z)
 (K: ∀b,r.n<=b->b<f.n->mu b=.none) (U:f.n<=hc.n) (s: ∀b,b<f.n->hc.get b=f.get b):
 aY (glue e mu f.n) hc z/\Le mu (glue e mu f.n)/\Le e (glue e mu f.n):=by
 have N:=k2.n;have F:Le mu (glue e mu f.n):=by
  intro b t;by_cases h:b<f.n
  . rw [lH h];by_cases m:b<r.n
    . rcases k2.old b m with x|⟨_,x⟩
      . left;rw [x,fS m]
      grind
    grind
  . rw [mP (by omega)];exact .inl rfl
 have u:Le e (glue e mu f.n):=by intro b t;left;exact lH (y.lt b t)
 refine⟨⟨l.sized,fun b c a g j=>?_,fun b j=>?_,?_,fun b j=>?_⟩,F,u⟩
 . by_cases h:b<f.n
   . rw [lH h]at j;obtain⟨x,o,G,A,B⟩:=y.blk b c a g j;exact⟨x,o,by grind,A,B.mono u⟩
   . rw [mP (by omega)]at j;obtain⟨x,o,G,A,B⟩:=l.blk b c a g j;refine⟨x,o,G,?_,B.mono F⟩;rw [k2.frame c (l.clt j) (fun k d i v=>?_)]
     . exact A
     . by_cases m:k<r.n
       . rw [fS m]at v;have:=l.inj b k c a g d i j v;omega
       grind[qs]
 . by_cases h:b<f.n
   . rw [lH h]at j;rw [s b h];exact y.dead b j
   . rw [mP (by omega)]at j;exact l.dead b j
 . have O: ∀b k c a g d i,b<f.n->f.n<=k->e b=.blk c a g->mu k=.blk c d i->False:=by
    intro b k c a g d i h m n p;by_cases t:b<r.n
    . rcases k2.old b t with x|⟨_,x⟩
      . rw [x,fS t]at n;have:=l.inj b k c _ _ _ _ n p;omega
      grind
    . rcases k2.fresh b c a g (by omega) n with x|⟨Q,C,I,S,J,_⟩
      . have:=l.clt p;omega
      . rw [fS S]at J;have:=l.inj Q k c _ _ _ _ J p;omega
   intro b k c a g d i n p;by_cases h:b<f.n
   . rw [lH h]at n;by_cases m:k<f.n
     . rw [lH m]at p;exact y.inj b k c _ _ _ _ n p
     grind[mP]
   . rw [mP (by omega)]at n;by_cases m:k<f.n
     . grind[lH]
     . rw [mP (by omega)]at p;exact l.inj b k c _ _ _ _ n p
 . by_cases h:b<f.n
   . omega
   . rw [mP (by omega)]at j;exact l.lt b j
structure ru(ops opsM:Array Oper)(σ:Nat->Nat):Prop where
 op: ∀p o,ops[p]? =some o-> ∃oM,opsM[σ p]? =some oM/\oM.op=o.op/\oM.dst=o.dst/\((o.guard=none/\oM.guard=none)\/ ∃j want,o.guard=some (j,want)/\oM.guard=some (σ j,want))
 no: ∀(p:Nat) (o:Oper) (j:Nat) (want:Bool),ops[p]? =some o->o.guard=some (j,want)->ops[j]? =none->opsM[σ j]? =none
theorem Ec  {e:Array Oper}  (g:ru ops e σ) {t:Tr Value} {tmps:Array Value} {k:Oper} {b:Bool}  (l:ops[p]? =some o) (m:(o.guard=none/\k.guard=none)\/ ∃j a,o.guard=some (j,a)/\k.guard=some (σ j,a))
 (u: ∀j a o' d,o.guard=some (j,a)->ops[j]? =some o'->o'.dst=some d-> ∀v,t.get d=some v-> ∃v',tmps[d]? =some v'/\az mu v v')
 (c:cV ops.toList t o=some b):Region.wanted k (yielded e tmps)=b:=by
 unfold cV at c;unfold Region.wanted;rcases m with⟨h,w⟩|⟨j,a,h,w⟩
 . grind
 . rw [h]at c;rw [w];simp only []at c⊢;unfold yielded;cases f:ops[j]? with
   |none=>rw [Xf,f]at c;cases c;rw [g.no p o j a l h f];rfl
   | some o'=>
     obtain⟨A,y,_,z,_⟩:=g.op j o' f;rw [Xf,f]at c;rw [y];simp only [XC]at c⊢;cases i:o'.dst with
     |none=>grind| some d=>
       rw [i]at c;rw [z,i];simp only [XC]at c⊢
       split at c
       next B n=>
        obtain⟨v',r,s⟩:=u j a o' d h f i _ n;cases s;rw [r];cases c;grind
       next x n=>
        obtain⟨v',r,s⟩:=u j a o' d h f i _ n;rw [r];cases c;cases s;rfl
       next=>cases c
theorem wV{b:Bool}{a:Oper}(e:a.op=o.op):du E R ρ b a h=du E R ρ b o h:=by unfold du;rw [e]
theorem alloc_at{w':World}(g:aY mu h w)(J:mu b=.none)(K:b<h.n){x:Blk}{top:Nat}{o:Obj}(n:h.get b=some x)(B:WNew w w' o)(r:nJ mu x 0 top o):
 aY (upd mu b (.blk w.heap.size 0 top)) h w'/\Le mu (upd mu b (.blk w.heap.size 0 top)):=by
 have C: ∀j,w'.heap[j]? =if j=w.heap.size then some o else w.heap[j]? :=by intro j;rw [B.heap,Xj]
 have hle:Le mu (upd mu b (.blk w.heap.size 0 top)):=by intro f F;grind[a9]
 refine⟨⟨g.sized,?_,?_,?_,?_⟩,hle⟩
 . intro f c i p d;by_cases a:f=b
   . subst a;rw [upd_same]at d;cases d;exact⟨x,o,n,by rw [C];simp,r.mono hle⟩
   . rw [a9 _ _ a]at d;obtain⟨y,G,k,l,I⟩:=g.blk f c i p d;have:=g.clt d;exact⟨y,G,k,by grind,I.mono hle⟩
 . intro f d;by_cases a:f=b
   . grind[upd_same]
   . rw [a9 _ _ a]at d;exact g.dead f d
 . intro v s c t z u A k l;by_cases m:v=b
   . by_cases e:s=b
     . rw [m,e]
     . subst m;rw [upd_same]at k;rw [a9 _ _ e]at l;cases k;have:=g.clt l;omega
   . rw [a9 _ _ m]at k;by_cases e:s=b
     . subst e;rw [upd_same]at l;cases l;have:=g.clt k;omega
     . rw [a9 _ _ e]at l;exact g.inj v s c _ _ _ _ k l
 . intro f d;by_cases a:f=b
   . omega
   . rw [a9 _ _ a]at d;exact g.lt f d
theorem WExt.alloc{mu0:Mu}{h0:Hp}{w0 w':World}(W:WExt mu0 h0 w0 mu w)(n: ∀b,mu0 b≠ .none->b<h0.n)(l: ∀b c base top,mu0 b=.blk c base top->c<w0.heap.size){top:Nat}{o:Obj}(v:h0.n<=b)(h:WNew w w' o):WExt mu0 h0 w0 (upd mu b (.blk w.heap.size 0 top)) w':=by
 have p: ∀j,j<w.heap.size->w'.heap[j]? =w.heap[j]? :=by intro j A;rw [h.heap,Xj,if_neg (by omega)]
 refine⟨fun f d=>?_,fun f c base a d g=>?_,fun c hc r=>?_,fun f c base a t s u g i=>?_,?_,h.os.trans W.os,h.tape.trans W.tape,h.output.trans W.output⟩
 . rw [a9 _ _ (by omega)];exact W.old f d
 . by_cases e:f=b
   . subst e;rw [upd_same]at g;cases g;exact .inl W.wsize
   . rw [a9 _ _ e]at g;rcases W.fresh f c base a d g with x|⟨B,k,m,x,y,z⟩
     . exact .inl x
     grind[a9]
 . rw [p c (Xb hc W.wsize)];exact W.frame c hc r
 . obtain⟨x,y⟩:=W.ro f c base a t s u g i;grind[a9,Xs]
 . rw [h.heap];simp;have:=W.wsize;omega
include ok in
theorem DV{e:TypeId}{z:List Value}(j:E.zero e=some z)(k:aY mu h w)(l:mu b=.none)(m:b<h.n)(c:h.get b=some (.cells (Tr.ofList z) z.length e 1))(d:Operand->Value)(t:o.op=.alloc e):
 ∃w' top n,(execOp d o).run P w=.ok (.value (.pointer (some ⟨w.heap.size,0,none⟩))) w'/\WNew w w' n/\aY (upd mu b (.blk w.heap.size 0 top)) h w'/\Le mu (upd mu b (.blk w.heap.size 0 top)):=by
 obtain⟨a,u,x,y,A⟩:=oX ok j w;have p:VL mu z a.cells.toList:=by grind[LR.refl,az.const,Xp]
 have f:nJ mu (.cells (Tr.ofList z) z.length e 1) 0 a.cells.size (.cells a.cells e):=by
  refine⟨a.cells,e,(0,0),rfl,rfl,?_,Tr.sized_ofList z,?_,?_⟩
  . grind
  . intro i v g;rw [Tr.get_ofList]at g;obtain⟨B,C,F⟩:=p.get g;grind
  omega
 obtain⟨r,s⟩:=alloc_at k l m c (jb w (.cells a.cells e)) f;refine⟨_,_,_,?_,jb w (.cells a.cells e),r,s⟩;simp_all[guard,execOp,Instr.alloc,newVar,newRow]
include ok hc hcode D in
theorem inv_step (dz: ∀j o,j<ops.size->ops[j]? =some o->Turn ops E X q H T j o) (bd: ∀i,i<=ops.size->rG nr mu0 w0 L H i) (a1: ∀b,mu0 b≠ .none->b<(H 0).n) (bq: ∀b c base top,mu0 b=.blk c base top->c<w0.heap.size)
 {K:Array Oper}  (br:ru ops K σ)
    {tmps:Array Value} (l:Inv E ops q L H X nr mu0 w0 S mu w tmps) (hd:Down ops S)   (J:ops[p]? =some o) (hr:Ready o S) (hp:S p=false)
 {F:FC} {dfs:List Deferred} {k:List Item} {cs:List Frame} {rest:List Nat}:
 ∃ b4 w' an,Inv E ops q L H X nr mu0 w0 (nu S p) b4 w' an/\
   Steps P (lone (F.mk' tmps dfs (.inRegion K (σ p::rest)::k)) cs w) (lone (F.mk' an dfs (.inRegion K rest::k)) cs w'):=by
 obtain⟨oM,ax,e1,e2,e3⟩:=br.op p o J;have be:=(Array.getElem?_eq_some_iff.1 J).1;obtain⟨bf,wT,bh,t1,t2,t3,t4⟩:=bd p (by omega);obtain⟨c,N,Z⟩:=l.c;have ay: ∀t∈lE ops.toList o,∀v,(L p).regs.get t=some v-> ∃v',tmps[t]? =some v'/\az mu v v':=
  fun t ht v hv=>l.regs p (by omega) t v (yf D hd J hr hp ht) hv
 have a2: ∀{b:Bool},cV ops.toList (L p).regs o=some b->Region.wanted oM (yielded K tmps)=b:=by intro b hg;refine Ec (mu:=mu) br J e3 (fun j cl o' d cn hj cp v hv=>ay d ?_ v hv) hg;grind[lE]
 have a3: ∀x,az mu ((L p).evD (tmpsOf o.op.operands.toList) x) (dX tmps x):=
  fun x=>yX t3.sized l.size _ (fun t ht v hv=>ay t (by
   unfold lE;have:Operand.tmp t∈o.op.operands.toList:=(tH t _).1 ht;grind) v hv) l.glob x
 have a6: ∀x,az bf ((L p).evD (tmpsOf o.op.operands.toList) x) (dX bh x):=
  fun x=>yX t3.sized t3.size _ (fun t ht v hv=>t3.get t v hv) t2 x
 have U: ∀j,j<=ops.size->(H j).t.Sized (H j).n:=fun j hj=>by obtain⟨_,_,_,g,_⟩:=bd j hj;exact g.sized
 have tp:=dz p o be J;have hs:=D.step p o J;have bi: ∀j,j<=ops.size-> ∀b c base top t sz el,mu0 b=.blk c base top->(H 0).get b=some (.cells t sz el 0)->(H j).get b=some (.cells t sz el 0):=by intro j hj b c base top t sz el O hg;obtain⟨_,_,_,_,_,_,e⟩:=bd j hj;exact((e.ro b c base top t sz el O hg).2.1).trans hg
 have cW: ∀{i:Nat} {oi:Oper},ops[i]? =some oi->c=i->isW E X q oi i:=by
  intro i oi bs b5;subst b5;rcases N.2.1 with e|⟨oc,ak,al,_⟩
  . grind
  grind
 generalize hL:L (p+1)=L1 at hs;generalize hH:H (p+1)=H1 at hs;generalize bt:T p=T1 at hs;generalize b6:X p=X1 at hs;cases hs with
 | skip hg=>
   have ad:p≠c:=(by intro e;have:=(cW J e.symm).1;grind);have r:=xM (P:=P) (F:=F) (tmps:=tmps) (dfs:=dfs) (k:=k) (cs:=cs) (w:=w) (ops:=K) (i:=σ p) (rest:=rest) (by grind);rw [ax,show(some oM).bind (·.dst)=oM.dst from rfl,e2]at r;refine⟨mu,w,_,⟨⟨c,uU N ad,Z⟩,l.glob,fun A s n b I B=>?_,by rw [qi];exact l.size,?_,l.ext,?_⟩,.one r⟩
   . refine l.non A s ?_ b I B;grind[cD]
   . exact qc D hd J hr hp (Le.refl mu) l.size t3.sized (v:=.tuple #[]) (v':=undef) (.tuple rfl (by grind)) hL l.regs
   . intro A s n b I B;by_cases e:A=p
     . grind
     . rw [cD S e]at n;exact l.cov A s n b I B
 | exec hg r=>
   rename_i v;have V:=a2 hg;cases a4:gD o.op with
   | true =>
     obtain⟨e,bu⟩: ∃e,o.op=.alloc e:=(by unfold gD at a4;grind);have h4:=zP (E:=E) a4;have bv:=D.four p o J h4;have Y:isQ E X q o p:=⟨b6,by omega,bv⟩;rw [qI (by omega) bv]at r;obtain⟨z,hz,hv,bx⟩: ∃z,E.zero e=some z/\v=ptrTo (H p).n/\H1=(H p).new (.cells (Tr.ofList z) z.length e 1):=by
      unfold du at r;simp only [cond_true,bu,aop]at r;cases hz:E.zero e with
      |none=>rw [hz]at r;cases r
      | some z=>
        rw [hz]at r;simp only [dC,dH,sZ]at r;rw [show XF (H p).n (({H p with lo:=(H p).n}:Hp).new (.cells (Tr.ofList z) z.length e 1)).lo=true from Xh (Xa _)]at r;cases r;exact⟨z,rfl,rfl,rfl⟩
     have hT:T p=some (H p).n:=(by rw [bt];unfold lq;rw [a4];rfl);have b7:(H (p+1)).get (H p).n=some (.cells (Tr.ofList z) z.length e 1):=(by rw [hH,bx,Hp.get_new _ _ (U p (by omega)),if_pos rfl]);have cr:(H (p+1)).n=(H p).n+1:=(by rw [hH,bx];rfl);have ad:p<c:=by
      rcases Xn p c with h|h|h
      . exact h
      . exfalso;have hw:=cW J h.symm;rcases hw.2 with x|⟨_,x⟩
        . omega
        omega
      . exfalso;rcases N.2.1 with e|⟨oc,ak,al,bB⟩
        . omega
        . obtain⟨m,O⟩:=mask D J;have:=qq D hd J O hr (cmp D J O h ak ⟨al,.inr Y⟩);grind
     have a7:(H (p+1)).n<=(H c).n:=fQ dz (by omega) N.1;have bk:(H c).get (H p).n=some (.cells (Tr.ofList z) z.length e 1):=by
      have:=walk_eq (fun j=>(H j).get (H p).n) (a:=p+1) (c-(p+1)) (fun j I B=>by
       have hj:j<ops.size:=(by have:=N.1;omega);have C:ops[j]? =some ops[j]:=zM hj;have tj:=dz j _ hj C;show(H (j+1)).get (H p).n=(H j).get (H p).n;rcases kinds D C with x|x|x
       . rw [tj.still x]
       . refine tj.quiet x _ ?_;have:=fQ dz I (by omega);omega
       . obtain⟨m,O⟩:=mask D C;have cv:=N.2.2 j _ (by omega) C x;have G:m.testBit p=false:=(by grind[pk]);obtain⟨_,hu⟩:=D.owe j _ m p o C O (by omega) J G;have cx:=x.2;have h5:=cls_le (E:=E) ops[j].op;rcases hu with h|h|⟨_,h⟩|⟨_,h,_⟩|⟨_,h,_⟩|⟨_,h,_⟩|⟨_,h,_⟩|⟨a,b,c',d⟩|⟨_,h,_⟩|⟨_,h,_⟩|⟨_,_,bE,_,b8⟩|⟨_,h,_⟩
         . omega
         . omega
         . omega
         . omega
         . omega
         . omega
         . omega
         . grind
         . omega
         . omega
         . exact D.leave (.inl b8) J C (oe (E:=E) (by omega)) bE x.1 (uJ x) hT
         . omega)
      grind
     have b9:=l.non p be hp (H p).n (Xa _) (by omega);obtain⟨w',top,ob,r1,r2,r3,r4⟩:=DV (P:=P) ok hz Z b9 (by omega) bk (dX tmps) (o:=oM) (e1.trans bu);have a8:=Bo (P:=P) (F:=F) (dfs:=dfs) (k:=k) (cs:=cs) (rest:=rest) ax V (.inr fun cc cz=>by grind) r1;rw [e2]at a8;refine⟨upd mu (H p).n (.blk w.heap.size 0 top),w',_,⟨⟨c,uU N (by omega),r3⟩,l.glob.mono r4,fun A s n b I B=>?_,by rw [qi];exact l.size,?_,?_,?_⟩,.one a8⟩
     . have aL:A≠p:=(by grind[ja]);rw [cD S aL]at n;rw [a9 _ _ (by
        rcases Xs p A with x|x
        . have:=fQ dz (show p+1<=A from x) (by omega);omega
        . have:=fQ dz (show A+1<=p by omega) (by omega);omega)]
       exact l.non A s n b I B
     . refine qc D hd J hr hp r4 l.size t3.sized (v:=v) (v':=.pointer (some ⟨w.heap.size,0,none⟩)) ?_ hL l.regs;rw [hv];exact .ptr (zm mu (H p).n w.heap.size 0 _)
     . exact l.ext.alloc a1 bq (fQ dz (Xo p) (by omega)) r2
     . intro A s n b I B W;by_cases e:A=p
       . grind[upd_same]
       . rw [cD S e]at n;have Q:=l.cov A s n b I B;rcases r4 b Q with x|x
         . grind
         grind
   |false=>
   rcases kinds D J with Y|Y|Y
   . -- a read
     have ba:cls E o.op<=1:=by
      rcases Y with x|x
      . grind
      . exact x
     have ad:p≠c:=(by intro e;rcases(cW J e.symm).2 with x|⟨x,_⟩<;>omega);obtain⟨f,f1,f2,f3⟩:=AI (E:=E) (op:=o.op) (ρ:=(L p).evD (tmpsOf o.op.operands.toList)) (by omega);rw [Af ba]at r;have ca:f (H p)=some v:=by
      simp only [du,cond_false]at r;rw [f1 (H p)]at r;cases hf:f (H p)with
      |none=>rw [hf]at r;cases r
      |some u=>rw [hf]at r;cases r;rfl
     have cb:f (H c)=some v:=(by rw [<-ca];exact read_at D dz U hd N J hr hp ba (bt.trans (tQ (E:=E) (by omega) _ _)) (fun b G=>t1.lt b (BI a6 G)) (fun b G=>Z.lt b (BI a3 G)) f1 f2 f3);have bL:du E R ((L p).evD (tmpsOf o.op.operands.toList)) false o (H c)=some (v,H c):=(by simp only [du,cond_false];rw [f1 (H c),cb];rfl);obtain⟨af,w1,v',k1,k2,k3,_,k4⟩:=rY ok hc hcode Z l.glob a3 (F:=F) (ops:=K) (i:=σ p) (dfs:=dfs) (k:=k) (cs:=cs) (rest:=rest) ax V ((wV e1).trans bL);rw [e2]at k4;have le:=k2.le Z;have bl: ∀b,mu b=.none->af b=.none:=by
      intro b G;by_cases cf:b<(H c).n
      . rcases k2.old b cf with x|⟨x,_⟩
        . rw [x];exact G
        grind
      . exact k1.none_ge (by omega)
     refine⟨af,w1,_,⟨⟨c,uU N ad,k1⟩,l.glob.mono le,fun A s n b I B=>?_,by rw [qi];exact l.size,?_,?_,?_⟩,k4⟩
     . refine bl b (l.non A s ?_ b I B);grind[cD]
     . exact qc D hd J hr hp le l.size t3.sized k3 hL l.regs
     . refine l.ext.step a1 (fQ dz (Xo c) N.1) (by rw [Cj Z.lt];exact k2) (bi c N.1) (fun _ _=>rfl) (fun b G=>?_);rw [k1.none_ge G,Z.none_ge G]
     . intro A s n b I B W;by_cases e:A=p
       . subst e;rw [tp.still Y]at B;omega
       . rw [cD S e]at n;have Q:=l.cov A s n b I B;rcases le b Q with x|x
         . grind
         grind
   . -- a quiet one:it runs at p,below c
     have ad:p<c:=by
      rcases Xn p c with h|h|h
      . exact h
      . exfalso;have hw:=cW J h.symm;rcases hw.2 with x|⟨_,x⟩
        . have:=Y.2.1;omega
        . rw [Y.2.2]at x;cases x
      . exfalso;rcases N.2.1 with e|⟨oc,ak,al,bB⟩
        . omega
        . obtain⟨m,O⟩:=mask D J;have:=qq D hd J O hr (cmp D J O h ak ⟨al,.inr Y⟩);grind
     have bb: ∀j oj,p<=j->j<c->ops[j]? =some oj->isR E X oj j\/isQ E X q oj j\/ ∀b,b<(H (p+1)).n->(H (j+1)).get b=(H j).get b:=by
      intro j oj I B C;rcases kinds D C with x|x|x
      . exact .inl x
      . grind
      . refine .inr (.inr ?_);by_cases e:j=p
        . subst e;rw [J]at C;cases C;exfalso;rcases x.2 with y|⟨_,y⟩
          . have:=Y.2.1;omega
          . rw [Y.2.2]at y;cases y
        . obtain⟨m,O⟩:=mask D C;rcases cmpN D C O (by omega) J (.inr ⟨Y,x,a4⟩)with y|⟨_,y2,y3⟩
          . have:=pk D hd j oj m p C O (N.2.2 j oj B C x) y;grind
          grind[wr_new]
     have ai: ∀b,b<(H p).n->(H c).get b=(H p).get b:=fun b G=>stand dz (by omega) N.1 (fun j oj I B C=>(bb j oj I B C).imp id (.imp id fun f b G=>f b (by have:=tp.n;omega))) G;have a5: ∀b,b<(H (p+1)).n->(H c).get b=(H (p+1)).get b:=fun b G=>stand dz (by omega) N.1 (fun j oj I B=>bb j oj (by omega) B) G;have cA:(H p).n<=(H c).n:=fQ dz (by omega) N.1;have a7:(H (p+1)).n<=(H c).n:=fQ dz (by omega) N.1;have bP:aY (cut mu (H p).n) (H p) w:=by
      refine⟨U p (by omega),fun b c0 base top O=>?_,fun b O=>?_,fun b b' c0 base top bm bT I B=>?_,fun b O=>?_⟩
      . by_cases G:b<(H p).n
        . rw [fS G]at O;obtain⟨x,ob,g1,g2,g3⟩:=Z.blk b c0 base top O;refine⟨x,ob,by grind,g2,?_⟩;have cN:bf b≠ .none:=by
           by_cases W:b<(H 0).n
           . have cO:mu0 b≠ .none:=by
              rcases l.ext.old b W with y|⟨y,_⟩
              . grind
              . exact y
             rcases t4.old b W with y|⟨_,y⟩
             . grind
             . rw [y];simp
           . exact t4.cover b (by omega) G
          cases bX:bf b with
          |none=>grind| dead=>
            have:=t1.dead b bX;rw [<-ai b G,g1]at this;cases this;exact g3.elim
          | blk cT bn bY=>
            obtain⟨xT,oT,j1,j2,j3⟩:=t1.blk b cT bn bY bX;rw [<-ai b G,g1]at j1;cases j1;exact nJ.cut (fun b' bo=>t1.lt b' bo) g3 j3
        grind[qs]
      . by_cases G:b<(H p).n
        . rw [fS G]at O;rw [<-ai b G];exact Z.dead b O
        grind[qs]
      . exact Z.inj b b' c0 base top bm bT (by
         grind[fS,qs]) (by
         grind[fS,qs])
      . by_cases G:b<(H p).n
        . exact G
        . rw [qs (by omega)]at O;grind
     have b0: ∀x,az (cut mu (H p).n) ((L p).evD (tmpsOf o.op.operands.toList) x) (dX tmps x):=fun x=>az.cut (fun b' bo=>t1.lt b' bo) (a6 x) (a3 x);have ch:nQ (cut mu (H p).n):=fun g hg=>(l.glob g hg).cut (t1.lt _ (t2 g hg).in);have bc:=r;rw [qI Y.2.1 Y.2.2]at bc;obtain⟨af,w1,v',k1,k2,k3,_,k4⟩:=rY ok hc hcode bP ch b0 (F:=F) (ops:=K) (i:=σ p) (dfs:=dfs) (k:=k) (cs:=cs) (rest:=rest) ax V ((wV e1).trans bc);rw [e2]at k4;rw [<-hH]at k1 k2;obtain⟨gh,le,cj⟩:=glue_rel Z k1 k2 (fun b I B=>l.non p be hp b I B) a7 a5;refine⟨glue af mu (H (p+1)).n,w1,_,⟨⟨c,uU N (by omega),gh⟩,l.glob.mono le,fun A s n b I B=>?_,by rw [qi];exact l.size,?_,?_,?_⟩,k4⟩
     . have aL:A≠p:=(by grind[ja]);rw [cD S aL]at n;have Q:=l.non A s n b I B;rcases Xs p A with x|x
       . rw [mP (Xt (fQ dz (show p+1<=A from x) (by omega)) I)];exact Q
       . have a0:b<(H p).n:=Xb B (fQ dz (show A+1<=p by omega) (by omega));rw [lH (Xb a0 tp.n)];rcases k2.old b a0 with y|⟨y,_⟩
         . rw [y,fS a0];exact Q
         grind[fS,absurd]
     . exact qc D hd J hr hp le l.size t3.sized (k3.mono cj) hL l.regs
     . exact l.ext.step a1 (fQ dz (Xo p) (by omega)) k2 (bi p (by omega)) (fun b G=>lH G) (fun b G=>mP G)
     . intro A s n b I B W;by_cases e:A=p
       . subst e;rw [lH B]at W;exact k2.cover b I B W
       . rw [cD S e]at n;have Q:=l.cov A s n b I B;rcases le b Q with x|x
         . grind
         grind
   . -- a writer:it is the one at c
     have ad:p=c:=by
      rcases Xn p c with h|h|h
      . have:=N.2.2 p o h J Y;grind
      . exact h
      . rcases N.2.1 with e|⟨oc,ak,al,bB⟩
        . omega
        . obtain⟨m,O⟩:=mask D J;have:=qq D hd J O hr (cmp D J O h ak ⟨al,.inl Y⟩);grind
     subst ad;rw [uJ Y]at r;obtain⟨af,w1,v',k1,k2,k3,_,k4⟩:=rY ok hc hcode Z l.glob a3 (F:=F) (ops:=K) (i:=σ p) (dfs:=dfs) (k:=k) (cs:=cs) (rest:=rest) ax V ((wV e1).trans r);rw [e2]at k4;have le:=k2.le Z;rw [<-hH]at k1 k2;obtain⟨c',d1,d2,d3,d4⟩:=next_W (E:=E) (ops:=ops) (q:=q) (X:=X) (ops.size-(p+1)) (p+1) (by omega);have bp:aY af (H c') w1:=(by refine yn k1 (U c' d2) (fQ dz d1 d2) (fun b G=>stand dz d1 d2 (fun j oj I B C=>?_) G);grind[kinds,absurd]);refine⟨af,w1,_,⟨⟨c',⟨d2,?_,?_⟩,bp⟩,l.glob.mono le,fun A s n b I B=>?_,by rw [qi];exact l.size,?_,?_,?_⟩,k4⟩
     . rcases d3 with e|⟨o',b1,b2⟩
       . exact .inl e
       . refine .inr ⟨o',b1,b2,?_⟩;rw [cD S (by omega)];exact after_c D hd N (by omega) b1 (.inl b2) (fun _=>by omega)
     . intro i oi hi bs ck;by_cases b3:i=p
       . subst b3;exact ja S i
       . rw [cD S b3];rcases Xs i p with x|x
         . exact N.2.2 i oi x bs ck
         grind
     . have aL:A≠p:=(by grind[ja]);rw [cD S aL]at n;rcases Xs p A with x|x
       . exact k1.none_ge (Xt (fQ dz (show p+1<=A from x) (by omega)) I)
       . have a0:b<(H p).n:=Xb B (fQ dz (show A+1<=p by omega) (by omega));have Q:=l.non A s n b I B;rcases k2.old b a0 with y|⟨y,_⟩
         . grind
         grind
     . exact qc D hd J hr hp le l.size t3.sized k3 hL l.regs
     . refine l.ext.step a1 (fQ dz (Xo p) N.1) (by rw [Cj Z.lt];exact k2) (bi p N.1) (fun _ _=>rfl) (fun b G=>?_);rw [k1.none_ge G,Z.none_ge (Xt tp.n G)]
     . intro A s n b I B W;by_cases e:A=p
       . subst e;exact k2.cover b I B W
       . rw [cD S e]at n;have Q:=l.cov A s n b I B;rcases le b Q with x|x
         . grind
         grind
end
theorem rF{e a:Edge}(h:e.ground=a.ground):binds e=binds a:=by unfold binds Region.binds;rw [h]
structure Ord(ops opsM:Array Oper)(σ τ:Nat->Nat):Prop where
 size:ops.size=opsM.size
 lt: ∀p,p<ops.size↔σ p<ops.size
 st: ∀i,σ (τ i)=i
 ts: ∀p,τ (σ p)=p
 op: ∀p o,ops[p]? =some o-> ∃oM,opsM[σ p]? =some oM/\oM.op=o.op/\oM.dst=o.dst/\((o.guard=none/\oM.guard=none)\/ ∃j want,o.guard=some (j,want)/\oM.guard=some (σ j,want))/\
  (∀e∈o.after.toList,∃eM∈oM.after.toList,e.ground=eM.ground/\(eM.on<ops.size->e.on=τ eM.on)/\(ops.size<=eM.on->ops.size<=e.on))/\
  ∀eM∈oM.after.toList,∃e∈o.after.toList,e.ground=eM.ground/\(eM.on<ops.size->e.on=τ eM.on)/\(ops.size<=eM.on->ops.size<=e.on)
theorem Ord.same{e:Array Oper}{τ:Nat->Nat}(o:Ord ops e σ τ):ru ops e σ:=by
 refine⟨fun p x f=>?_,fun _ _ p _ _ _ h=>?_⟩
 . obtain⟨i,a,b,c,d,_⟩:=o.op p x f;grind
 . have g: ¬p<ops.size:=(by grind);refine Array.getElem?_eq_none ?_;rw [<-o.size];have:=mt (o.lt p).2 g;omega
theorem Ord.part{f g:Array Oper}{τ:Nat->Nat}(o:Ord ops f σ τ)(s: ∀(i:Nat),i<f.size->g[i]? =f[i]?)(n: ∀x∈f.toList,jV f.size x=true):ru ops g σ:=by
 refine⟨fun p x h=>?_,fun p x j m h k t=>?_⟩
 . obtain⟨l,a,b,c,d,_⟩:=o.op p x h;grind
 . exfalso;obtain⟨l,a,_,_,d,_⟩:=o.op p x h;rcases d with⟨d,_⟩|⟨u,v,d,e⟩
   . grind
   . rw [k]at d;cases d;have q:l∈f.toList:=(by grind);have:=n l q;unfold jV at this;rw [e]at this;have r:σ j<ops.size:=(by rw [o.size];simp_all);have w:=(o.lt j).2 r;grind
theorem Ord.id(ops:Array Oper):Ord ops ops (fun i=>i) (fun i=>i):=by
 refine⟨rfl,fun _=>Xl,fun _=>rfl,fun _=>rfl,fun p o b=>⟨o,b,rfl,rfl,?_,fun e a=>⟨e,a,rfl,fun _=>rfl,fun h=>h⟩,fun e a=>⟨e,a,rfl,fun _=>rfl,fun h=>h⟩⟩⟩;cases c:o.guard with
 |none=>grind|some q=>grind
theorem tT{i:Nat}: ∀{l:List Nat},i∈l->gK i l<l.length/\l[gK i l]? =some i
 | [],h=>by cases h
 | x ::l,h=>by
   unfold gK;cases d:Xy i x with
   | true=>simp_all| false=>
     have c:i≠x:=(by grind[Xr]);rcases List.mem_cons.1 h with e|h
     . omega
     . obtain⟨a,b⟩:=tT h;grind
theorem uE{i:Nat}: ∀{l:List Nat},i∉l->gK i l=l.length
 | [],_=>rfl| x::l,h=>by unfold gK;have a:Xy i x=false:=(by grind[Xy,absurd,Xg]);simp_all[cond_false,List.length_cons,uE,XG]
theorem ordL_mem(ops:List Oper)(i:Nat):i∈ordL ops↔i<ops.length:=by grind[ordL,xV,lateAt]
theorem Dw(ops:List Oper):(ordL ops).Nodup:=by
 unfold ordL;rw [List.nodup_append,List.nodup_append];refine⟨List.nodup_range.filter _,⟨List.nodup_range.filter _,List.nodup_range.filter _,fun a c b d e=>?_⟩,fun a c b d e=>?_⟩
 . grind
 grind
theorem ordL_len(ops:List Oper):(ordL ops).length=ops.length:=by
 unfold ordL;rw [List.length_append,List.length_append];have a: ∀(l:List Nat) (f g:Nat->Bool),(l.filter f).length+((l.filter fun i=>!f i&& !g i).length+(l.filter fun i=>!f i&&g i).length)=l.length:=by
  intro l f g
  induction l with
  |nil=>rfl| cons x l b=>grind
 simp_all
theorem zG(ops:List Oper)(ord:List Nat): ∀(l:List Nat),(∀i∈l,i<ops.length)-> ∀(p:Nat),(iv ops ord l)[p]? =(l[p]?).bind fun(i:Nat)=>(ops[i]?).map (qx ord)
 | [],_,p=>by simp [iv]| i ::l,h,p=>by
   have a:i<ops.length:=h i List.mem_cons_self;unfold iv;rw [Xe a];simp only [];cases p with
   |zero=>simp [a]| succ p=>
     simp only [List.getElem?_cons_succ];exact zG ops ord l (fun j b=>h j (XG _ b)) p
theorem posOf_at{ord:List Nat}(c:ord.Nodup)(d:ord[p]? =some i):gK i ord=p:=by have e:i∈ord:=Xu d;obtain⟨a,b⟩:=tT e;grind[XA,Xn,gK,absurd,List.pairwise_iff_getElem]
theorem pick_ord(ops:Array Oper)(ord:List Nat)(c: ∀i,i∈ord↔i<ops.toList.length)(m:ord.Nodup)(f:ord.length=ops.toList.length)(u:ops.toList.all (jV ops.toList.length)=true):
 Ord (iv ops.toList ord ord).toArray ops (fun p=>(ord[p]?).getD p) (fun i=>if i<ops.size then gK i ord else i):=by
 have v:ops.toList.length=ops.size:=by simp
 rw [v]at f c;have g:=zG ops.toList ord ord (fun i B=>by grind);have n:(iv ops.toList ord ord).length=ops.size:=by
  have j: ∀p,p<(iv ops.toList ord ord).length↔p<ops.size:=by intro p;have C:p<(iv ops.toList ord ord).length↔((iv ops.toList ord ord)[p]?).isSome=true:=(by simp);grind
  have a:=j (iv ops.toList ord ord).length;have b:=j ops.size;omega
 have D: ∀p,p<ops.size-> ∃i,ord[p]? =some i/\i<ops.size:=fun p q=>⟨ord[p]'(by omega),Xe _,(c _).1 (List.getElem_mem _)⟩;have w: ∀p i,ord[p]? =some i->gK i ord=p:=fun p i q=>posOf_at m q;have d:(iv ops.toList ord ord).toArray.size=ops.size:=by simp [n]
 refine⟨d,fun p=>?_,fun i=>?_,fun p=>?_,fun p o x=>?_⟩
 . grind
 . by_cases h:i<ops.size
   . simp_all[if_pos,tT]
   grind
 . grind
 . have k:(iv ops.toList ord ord)[p]? =some o:=(by simpa using x);rw [g]at k;obtain⟨i,E,y⟩:=Option.bind_eq_some_iff.1 k;obtain⟨r,z,rfl⟩:=Option.map_eq_some_iff.1 y;have A:ops[i]? =some r:=(by simpa using z);refine⟨r,by grind,rfl,rfl,?_,?_,?_⟩
   . grind[Xp,Xu,jV,qx,Nat.blt_eq,gK,tT]
   . intro e s;simp only [qx,Array.toList_map,List.mem_map]at s;obtain⟨l,t,rfl⟩:=s;refine⟨l,t,rfl,fun h=>?_,fun h=>?_⟩
     . grind
     simp_all[gK,uE,Xa]
   . intro l t;refine⟨{l with on:=gK l.on ord},by simp only [qx,Array.toList_map,List.mem_map];grind,rfl,fun h=>?_,fun h=>?_⟩
     . grind
     simp_all[gK,uE,Xa]
theorem hoist_ord(ops:Array Oper): ∃(a:Array Oper) (σ τ:Nat->Nat),a.toList=c8 ops.toList/\Ord a ops σ τ:=by
 unfold c8;cases b:(ops.toList.any uL||um ops.toList)&&ops.toList.all (jV ops.toList.length)with
 |false=>exact⟨ops,_,_,rfl,Ord.id ops⟩| true=>simp only [Xd]at b;exact⟨_,_,_,rfl,pick_ord ops _ (ordL_mem ops.toList) (Dw ops.toList) (ordL_len ops.toList) b.2⟩
def jQ(S:Nat->Bool):Nat->Nat
 |0=>0|n+1=>jQ S n+(if S n=true then 0 else 1)
theorem qO{S:Nat->Bool}: ∀{n:Nat},jQ S n=0-> ∀i,i<n->S i=true
 |0,_,i,a=>by omega| n +1,h,i,a=>by
   simp only [jQ]at h;by_cases b:S n=true
   . rw [if_pos b]at h;by_cases e:i=n
     . grind
     . exact qO (n:=n) (by omega) i (by omega)
   grind
theorem sa{S:Nat->Bool}: ∀{n:Nat},jQ S n≠0-> ∃i,i<n/\S i=false/\ ∀j,j<i->S j=true
 |0,h=>absurd rfl h| n +1,h=>by
   by_cases a:jQ S n=0
   . have b:=qO a;simp only [jQ,a]at h;grind
   . obtain⟨i,e,c,d⟩:=sa a;exact⟨i,by omega,c,d⟩
theorem Ch{S:Nat->Bool}{p:Nat}: ∀{n:Nat},n<=p->jQ (nu S p) n=jQ S n
 |0,_=>rfl| n+1,h=>by simp only [jQ];rw [Ch (by omega),cD S (by omega)]
theorem uO{S:Nat->Bool}{p:Nat}(a:S p=false): ∀{n:Nat},p<n->jQ (nu S p) n+1=jQ S n
 |0,h=>by omega| n +1,h=>by
   simp only [jQ];by_cases e:p=n
   . simp_all[Ch,Xa,ja]
   . have:=uO a (n:=n) (by omega);rw [cD S (by omega)];omega
theorem tO: ∀(n:Nat),jQ (fun _=>false) n=n
 |0=>rfl|n+1=>by simp [jQ,tO n]
def cm(listed:Array Bool):Nat->Bool:=fun i=>listed.getD i false
theorem we{listed:Array Bool}(a:p<listed.size):cm (listed.setIfInBounds p true)=nu (cm listed) p:=by funext i;simp only [cm,nu,zO,Array.getElem?_setIfInBounds];grind
theorem put_dfs(l:Loc)(d:Option Tmp)(v:Value):(l.put d v).dfs=l.dfs/\(l.put d v).rc=l.rc:=by cases d<;>exact⟨rfl,rfl⟩
def GoodL(ops:Array Oper):(Nat->Bool)->List Nat->Prop
 |S,[]=> ∀i,i<ops.size->S i=true|S,p::a=>p<ops.size/\S p=false/\(∀o,ops[p]? =some o->Ready o S)/\GoodL ops (nu S p) a
theorem Bd{ops a:Array Oper}{σ τ:Nat->Nat}(c:Ord ops a σ τ){M:List Nat}(f: ∀i,vt ops.toList M i): ∀(b t:Nat) (listed:Array Bool),listed.size=ops.size->jQ (fun p=>cm listed (σ p)) ops.size=b->
 GoodL ops (fun p=>cm listed (σ p)) ((Region.linearise.go .any a b t listed []).map τ)
 |0,t,listed,l,I=>qO I| b + 1,t,listed,l,I=>by
   have q: ∀i,i<ops.size->τ i<ops.size:=fun i h=>(c.lt (τ i)).2 (by rw [c.st];exact h);have r: ∀i,i∈Region.ready .any a listed->i<ops.size/\cm listed i=false/\ ∀o,ops[τ i]? =some o->Ready o (fun p=>cm listed (σ p)):=by
    intro i h;unfold Region.ready at h;simp only [Xv,Xm,Xd,Xi]at h;obtain⟨d,z,g⟩:=h;rw [<-c.size]at d;refine⟨d,?_,fun o A e w j=>?_⟩
    . grind[cm,zO,zM]
    . obtain⟨L,x,_,_,_,N,_⟩:=c.op (τ i) o A;rw [c.st]at x;rw [x]at g;simp only [Xw,Xq]at g;obtain⟨k,B,y,C,O⟩:=N e w;have:=(Array.all_eq_true'.1 g) k (by simpa using B);rw [rF y]at j;unfold binds at j;rw [j]at this;obtain⟨m,_,s,_⟩:=f (τ i) o (by grind);have u:=s e w (by rw [rF y];unfold binds;exact j);have:=q i d;have hlt:k.on<ops.size:=(by omega);show cm listed (σ e.on)=true;rw [C hlt,c.st];grind[cm,Xz]
   have D:Region.ready .any a listed≠ []:=by
    obtain⟨p,d,z,g⟩:=sa (S:=fun p=>cm listed (σ p)) (n:=ops.size) (by omega);intro e;have A:ops[p]? =some ops[p]:=zM d;obtain⟨m,_,j,_⟩:=f p ops[p] (by grind);obtain⟨L,x,_,_,_,_,P⟩:=c.op p _ A;have J:=(c.lt p).1 d;have :σ p∈Region.ready .any a listed:=by
     unfold Region.ready;simp only [Xv,Xm,Xd,Xi];refine⟨by grind,?_,?_⟩
     . grind[cm,zO,zM]
     . rw [x];simp only [Xw,Xq];refine Array.all_eq_true'.2 fun k w=>?_;cases E:Region.binds .any k with
       |false=>rfl| true=>
         obtain⟨K,B,y,C,O⟩:=P k (by simpa using w);have u:=j K B (by rw [rF y];unfold binds;exact E);have hlt:k.on<ops.size:=(by omega);have:=g K.on u;rw [C hlt,c.st]at this;simpa [cm]using this
    grind
   simp only [Region.linearise.go];change GoodL ops (fun p=>cm listed (σ p)) (List.map τ (match(Region.ready .any a listed)[t%(Region.ready .any a listed).length]? with
    |some i=>Region.linearise.go .any a b (t/(Region.ready .any a listed).length) (listed.setIfInBounds i true) [i]|none=>[].reverse))
   have v:0<(Region.ready .any a listed).length:=List.length_pos_iff.2 D;have hlt:=Nat.mod_lt t v;rw [Xe hlt];simp only [];generalize h:(Region.ready .any a listed)[t%(Region.ready .any a listed).length]=i;have F:i∈Region.ready .any a listed:=(by grind);obtain⟨d,z,g⟩:=r i F;have G:=q i d;have H:(fun p=>cm listed (σ p)) (τ i)=false:=(by show cm listed (σ (τ i))=false;rw [c.st];exact z);rw [linearise_go_acc,List.reverse_singleton,List.singleton_append,List.map_cons];have Q:(fun p=>cm (listed.setIfInBounds i true) (σ p))=nu (fun p=>cm listed (σ p)) (τ i):=by
    funext p;rw [we (listed:=listed) (p:=i) (by omega)];by_cases e:p=τ i
    . subst e;rw [c.st,ja,ja]
    . rw [cD _ e,cD _ (by intro R;exact e (by rw [<-R,c.ts]))]
   refine⟨G,H,g,?_⟩;rw [<-Q];exact Bd c f b _ _ (by simpa using l) (by grind[uO,cm])
section
variable{E:Env}{P:Program}(ok:EOk E P){R:Rec}(hc:iS E P R.call)(hcode:j7 P R.code)
variable{ops:Array Oper}{q:Nat}{ps:List (Nat×Nat)}{M:List Nat}{L:Nat->Loc}{H:Nat->Hp}{T:Nat->Option Nat}{X:Nat->Bool}(D:DT E R ops q ps M L H T X)
variable{nr:Nat}{mu0:Mu}{w0:World}
include D in
theorem down_add(g:Down ops S)(h:ops[p]? =some o)(j:Ready o S):Down ops (nu S p):=by
 intro i k a f e c d;by_cases b:i=p
 . subst b;rw [h]at a;cases a;obtain⟨m,_,l,_⟩:=D.bef i o (by grind);have:=l e c d;rw [cD S (by omega)];exact j e c d
 . rw [cD S b]at f;have:=g i k a f e c d;grind[ja,cD]
include ok hc hcode D in
theorem go_list(dz: ∀j o,j<ops.size->ops[j]? =some o->Turn ops E X q H T j o)(l: ∀i,i<=ops.size->rG nr mu0 w0 L H i)(m: ∀b,mu0 b≠ .none->b<(H 0).n)(e: ∀b c base top,mu0 b=.blk c base top->c<w0.heap.size)
 {d:Array Oper} {σ:Nat->Nat} (z:ru ops d σ) {tl:List Nat} {F:FC} {dfs:List Deferred} {k:List Item} {cs:List Frame}: ∀(n:List Nat) (S:Nat->Bool) (mu:Mu) (w:World) (tmps:Array Value),GoodL ops S n->Down ops S->
  Inv E ops q L H X nr mu0 w0 S mu w tmps->
  ∃ s f w' a,Inv E ops q L H X nr mu0 w0 s f w' a/\(∀i,i<ops.size->s i=true)/\
    Steps P (lone (F.mk' tmps dfs (.inRegion d (n.map σ++tl)::k)) cs w) (lone (F.mk' a dfs (.inRegion d tl::k)) cs w')
 | [],S,mu,w,tmps,t,u,g=>⟨S,mu,w,tmps,g,t,Steps.refl _ _⟩| p::n,S,mu,w,tmps,t,u,g=>by obtain⟨B,C,G,I⟩:=t;have v:ops[p]? =some ops[p]:=zM B;have A:=G _ v;obtain⟨x,J,h,r,y⟩:=inv_step ok hc hcode D dz l m e z g u v A C (F:=F) (dfs:=dfs) (k:=k) (cs:=cs) (rest:=n.map σ++tl);obtain⟨s,f,w',a,K,N,O⟩:=go_list dz l m e z n _ x J h I (down_add D u v A) r;exact⟨s,f,w',a,K,N,Steps.trans y O⟩
include ok hc hcode in
theorem draw_list(cx:Cx)(ops z:Array Oper)(sm:ru ops z σ)(ls:List Nat)(hg:GoodL ops (fun _=>false) ls)(tl:List Nat)(l:Loc)(h:Hp)(l':Loc)(h':Hp)(q:Nat)(ps:List (Nat×Nat))(tr:List (Nat×Tch))
 (hp:lS E ops.toList=some (q,ps)) (he:dI E R ops.toList q ops.toList 0 l h []=some (l',h',tr)) (O:dQ tr ps=true)
 (mu:Mu) (w:World) (F:FC) (A:List Frame) (tmps:Array Value) (dfs:List Deferred) (B:Option (Value×Bool)) (k:List Item) (s:SR P cx l h mu w F A tmps dfs B):
 ∃ r w' d,SR P cx l' h' r w' F A d dfs B/\Ext mu h w r h' w'/\
   Steps P (lone (F.mk' tmps dfs (.inRegion z (ls.map σ++tl)::k)) (bw B A) {w with drawn:=w.drawn+1})
    (lone (F.mk' d dfs (.inRegion z tl::k)) (bw B A) w'):=by
 obtain⟨M,aL,a5⟩:=plan_ok hp;obtain⟨_,L,H,T,X,ai,K,Q,S,a0,U,ak⟩:=A7 _ _ _ _ _ _ _ _ he;rw [Xx,Array.length_toList]at Q S;have D:DT E R ops q ps M L H T X:=by
  refine⟨aL,fun n o I h4=>?_,fun n o m i p I hm V a6 Y=>?_,fun i o I=>?_,fun {i j a b o p} u I hp ro rp ha Y=>?_,fun {i j a o p} u I hp ro rp hx hh ha=>?_⟩
  . grind
  . grind
  . grind
  . have e1:=U i o a (by grind) ro (by grind);have e2:=U j p b (by grind) rp (by grind);rw [Xx]at e1 e2;have:=tP O u;grind[jx,Xr]
  . have e1:=U i o a (by grind) ro (by grind);have e2:=ak j p (by grind) rp (by grind) (by grind);rw [Xx]at e1 e2;rcases u with u|u
    . have:=tP O u;rw [e1,e2]at this;exact Aj this
    . have:=tP O u;rw [e1,e2]at this;exact Aj this
 let w0:World:={w with drawn:=w.drawn+1}
 have N:aY mu h w0:=uB s.hr rfl;have e0:Ext mu h w mu h w0:=w6 s.hr rfl rfl rfl rfl;have al:rG cx.nr mu w0 L H 0:=⟨mu,w0,tmps,by grind,s.glob,by rw [ai];exact s.regs,by rw [K];exact Ext.refl mu h w0 N⟩;have Z: ∀i,i<=ops.size->rG cx.nr mu w0 L H i:=fun i V=>(shadow ok hc hcode D i V al).1;have dz: ∀j o,j<ops.size->ops[j]? =some o->Turn ops E X q H T j o:=fun j o hj I=>(shadow ok hc hcode D ops.size (Xa _) al).2 j o hj I;have an: ∀b,mu b≠ .none->b<(H 0).n:=by rw [K];exact s.hr.lt
 have ax: ∀b c f C,mu b=.blk c f C->c<w0.heap.size:=fun b c f C hm=>N.clt hm;have ad: ∀j,j<=ops.size->(H j).t.Sized (H j).n:=fun j hj=>by obtain⟨_,_,_,g,_⟩:=Z j hj;exact g.sized
 have ay:Inv E ops q L H X cx.nr mu w0 (fun _=>false) mu w0 tmps:=by
  obtain⟨c',d1,d2,d3,d4⟩:=next_W (E:=E) (ops:=ops) (q:=q) (X:=X) ops.size 0 (by omega);refine⟨⟨c',⟨d2,?_,fun i o V I hw=>absurd hw (d4 i o (Xo _) V I)⟩,?_⟩,s.glob,fun p a7 _ b h1 h2=>?_,s.regs.size,fun i V t v a1 hv=>?_,by rw [K];exact WExt.refl N,fun p _ J=>by cases J⟩
  . grind
  . refine yn (h:=H 0) (by grind) (ad c' d2) (fQ dz d1 d2) (fun b Y=>stand dz d1 d2 (fun j oj h1 h2 a2=>?_) Y);grind[kinds,absurd]
  . exact N.none_ge (by
     have:=fQ dz (Xo p) (by omega);grind)
  . have G:(L (0+i)).regs.get t=(L 0).regs.get t:=(by refine walk_eq (fun j=>(L j).regs.get t) (a:=0) i (fun j h1 h2=>?_);have a2:ops[j]? =some ops[j]:=zM (by omega);grind[tg]);rw [Xx]at G;rw [G,ai]at hv;exact s.regs.get t v hv
 obtain⟨S',r,w',d,g1,g2,g3⟩:=go_list ok hc hcode D dz Z an ax sm (tl:=tl) (F:=F) (dfs:=dfs) (k:=k) (cs:=bw B A) ls _ mu w0 tmps hg (fun i o _ J=>by cases J) ay;obtain⟨c,hC,hh⟩:=g1.c;have a3:c=ops.size:=by
  rcases hC.2.1 with e|⟨o,I,_,J⟩
  . exact e
  grind
 subst a3;rw [S]at hh;obtain⟨a8,wT,a4,t1,t2,t3,t4⟩:=Z ops.size (Xa _);rw [Q]at t3;rw [S]at t1 t4;have le:Le mu r:=by
  intro b Y;rcases g1.ext.old b (an b Y)with x|⟨_,x⟩
  . exact .inl x
  . exact .inr x
 have af: ∀i,i<=ops.size->(L i).dfs=l.dfs/\(L i).rc=l.rc:=by
  intro i
  induction i with
  |zero=>grind| succ i ih=>
    intro V;have:=ih (by omega);have J:=D.step i ops[i] (zM (by omega));generalize L (i+1)=L1 at J⊢;generalize H (i+1)=H1 at J;generalize T i=T1 at J;generalize X i=X1 at J;cases J with
    |skip hg=>grind[put_dfs,trans]|exec hg ba=>grind[put_dfs,trans]
 have hk:=af ops.size (Xa _);rw [Q]at hk;have ext:Ext mu h w0 r h' w':=by
  have W:=g1.ext;rw [K]at W t4;refine⟨t4.n,W.old,W.fresh,t4.lo,t4.same,W.frame,fun b c f C t sz el hm hg=>?_,W.wsize,W.os,W.tape,W.output,fun b h1 h2=>?_⟩
  . obtain⟨x,y⟩:=W.ro b c f C t sz el hm hg;exact⟨x,(t4.ro b c f C t sz el hm hg).2.1,y⟩
  . have bb: ∀i,i<=ops.size->b<(H i).n->r b≠ .none:=by
     intro i
     induction i with
     |zero=>grind| succ i ih=>
       intro V Y;by_cases bc:b<(H i).n
       . grind
       . exact g1.cov i (by omega) (g2 i (by omega)) b (by omega) Y
    grind
 refine⟨r,w',d,⟨hh,g1.glob,⟨g1.size,t3.sized,fun i v hv=>?_⟩,?_,?_,s.ko,s.fn,s.rd.mono le,s.rn,s.fs⟩,Ext.trans e0 ext,g3⟩
 . refine g1.regs ops.size (Xa _) i v (fun p o I _=>?_) (by grind);grind
 . rw [hk.1];exact LR.mono s.dfs fun _ _=>oJ.mono le
 . rw [hk.2];exact s.rc.mono le
include ok hc hcode in
theorem At(cx:Cx)(a b:Array Oper)(A:b=a\/(∀(i:Nat),i<a.size->b[i]? =a[i]?)/\ ∀x∈a.toList,jV a.size x=true)(tl:List Nat)(l:Loc)(h:Hp)(l':Loc)(h':Hp)(q:Nat)(ps:List (Nat×Nat))(m:List (Nat×Tch))
 (n:lS E (c8 a.toList)=some (q,ps)) (y:dI E R (c8 a.toList) q (c8 a.toList) 0 l h []=some (l',h',m)) (o:dQ m ps=true)
 (mu:Mu) (w:World) (F:FC) (c:List Frame) (tmps:Array Value) (dfs:List Deferred) (d:Option (Value×Bool)) (k:List Item) (s:SR P cx l h mu w F c tmps dfs d) (t:Nat):
 ∃ g w' e,SR P cx l' h' g w' F c e dfs d/\Ext mu h w g h' w'/\
   Steps P (lone (F.mk' tmps dfs (.inRegion b (Region.linearise.go .any a a.size t (Xc a.size false) []++tl)::k)) (bw d c) {w with drawn:=w.drawn+1})
    (lone (F.mk' e dfs (.inRegion b tl::k)) (bw d c) w'):=by
 obtain⟨ops,u,B,C,f⟩:=hoist_ord a;have G:ru ops b u:=by
  rcases A with rfl|⟨I,J⟩
  . exact f.same
  . exact f.part I J
 rw [<-C]at n y;have j:(fun p=>cm (Xc a.size false) (u p))=fun _=>false:=by
  funext i;simp only [cm,zO,XD]
  split<;>rfl
 obtain⟨M,v,_⟩:=plan_ok n;have z:=Bd f v a.size t (Xc a.size false) (by simp [f.size]) (by rw [j,<-f.size];exact tO _);rw [j]at z;have r:=draw_list ok hc hcode cx ops b G _ z tl l h l' h' q ps m n y o mu w F c tmps dfs d k s;rw [List.map_map,show(u∘B)=id from funext f.st,List.map_id]at r;exact r
include ok hc hcode in
theorem draw_ok:DrawOk E P R:=by
 intro n id a l h o p q ps r t u g v w F i d e f k s;have b:Region.schedule (P.follows .mixedOrders) a (w.tape w.drawn (.order F.fn id))=Region.linearise.go .any a a.size (w.tape w.drawn (.order F.fn id)) (Xc a.size false) []:=by rw [ok.mixed];rfl
 obtain⟨j,x,c,y,z,m⟩:=At ok hc hcode n a a (.inl rfl) [] l h o p q ps r t u g v w F i d e f k s (w.tape w.drawn (.order F.fn id));rw [List.append_nil]at m;refine⟨j,x,c,e,f,y,z,Steps.trans (.one ?_) (Steps.trans m (.one uf))⟩;rw [<-b];rfl
theorem bef_bit{M:List Nat}(p: ∀i,vt ops.toList M i){N:Nat}(r: ∀(i:Nat) o,i<N->ops[i]? =some o->S i=true-> ∀e∈o.after.toList,binds e=true->S e.on=true): ∀(n:Nat) (o:Oper) (m i:Nat),n<=N->ops[n]? =some o->M[n]? =some m->Ready o S->m.testBit i=true->S i=true:=by
 intro n
 induction n using Nat.strongRecOn with
 | _ n s=>
   intro o m i B t u v f;obtain⟨C,k,w,y⟩:=p n o (by grind);rw [u]at k;cases k;obtain⟨e,l,a,x⟩:=y i f;have b:=v e l a;rcases x with rfl|⟨m2,g,h⟩
   . exact b
   . have hlt:=w e l a;have z:n<ops.size:=(Array.getElem?_eq_some_iff.1 t).1;have c:ops[e.on]? =some ops[e.on]:=zM (by omega);exact s e.on hlt ops[e.on] m2 i (by omega) c g (fun A j d=>r e.on _ (by omega) c b A j d) h
theorem zF(l:Array Bool)(i:Nat):(l.push false).getD i false=l.getD i false:=by simp only [zO,Xj];grind
theorem xG{A:Array Oper}(c:A.size=n)(d:ops.size=n+1)(a: ∀i,i<n->ops[i]? =A[i]?)(l:Array Bool)(g:l.size=n):
 Region.ready .any ops (l.push false)=Region.ready .any A l++(if((ops[n]?).map (·.after.all fun e=>!Region.binds .any e||l.getD e.on false)).getD false=true then [n]else []):=by
 unfold Region.ready;rw [d,c,List.range_succ,List.filter_append];congr 1
 . refine List.filter_congr fun i f=>?_;have b:i<n:=List.mem_range.1 f;rw [a i b];simp only [zF];congr 2;simp only [zO,Xj];grind
 . simp only [zF];simp_all[zO,Xj,if_pos,List.filter_cons,List.filter_nil,Bool.not_false,Bool.true_and]
theorem lin_pop{A:Array Oper}(v:A.size=n)(O:ops.size=n+1)(b: ∀i,i<n->ops[i]? =A[i]?){M:List Nat}(w: ∀i,vt ops.toList M i){x:Nat}(y:M[n]? =some x)(f: ∀i,i<n->x.testBit i=true):
 ∀ (a t:Nat) (l:Array Bool),l.size=n->(∀(i:Nat) o,i<n->ops[i]? =some o->cm l i=true-> ∀e∈o.after.toList,binds e=true->cm l e.on=true)->jQ (cm l) n=a->
   Region.linearise.go .any ops (a+1) t (l.push false) []=Region.linearise.go .any A a t l []++[n]:=by
 have z:ops[n]? =some (ops[n]'(by omega)):=zM _;obtain⟨m0,k1,W,_⟩:=w n _ (by rw [Xf];exact z);have g: ∀(B:Array Oper) (a t:Nat) (l:Array Bool),Region.linearise.go .any B (a+1) t l []=(match(Region.ready .any B l)[t%(Region.ready .any B l).length]? with
  |some i=>Region.linearise.go .any B a (t/(Region.ready .any B l).length) (l.setIfInBounds i true) [i]|none=>[]):=fun _ _ _ _=>rfl
 intro a
 induction a with
 | zero=>
   intro t l s Q h;have U:=qO h;have C:Region.ready .any A l=[]:=(by grind[Region.ready,List.filter_eq_nil_iff,cm,zO,zM]);have F:Region.ready .any ops (l.push false)=[n]:=by
    rw [xG v O b l s,C,z];simp only [Xw,Xq,List.nil_append];rw [if_pos];refine Array.all_eq_true'.2 fun e u=>?_;cases d:Region.binds .any e with
    |false=>rfl| true=>have:=W e (by simpa using u) d;grind[cm]
   rw [g,F];simp [Region.linearise.go,Nat.mod_one]
 | succ a Y=>
   intro t l s Q h;have G:Region.ready .any ops (l.push false)=Region.ready .any A l:=(by rw [xG v O b l s,if_neg,List.append_nil];intro hc;obtain⟨p,I,Z,_⟩:=sa (S:=cm l) (n:=n) (by omega);have:cm l p=true:=(by refine bef_bit w Q n _ x p (Xa _) z y (fun e u d=>?_) (f p I);grind[Xz,binds,cm]);grind);rw [g,g,G];have J:Region.ready .any A l≠ []:=by
    obtain⟨p,I,Z,p3⟩:=sa (S:=cm l) (n:=n) (by omega);have V:ops[p]? =some (ops[p]'(by omega)):=zM _;obtain⟨m,_,K,_⟩:=w p _ (by rw [Xf];exact V);have :p∈Region.ready .any A l:=by
     unfold Region.ready;simp only [Xv,Xm,Xd,Xi];refine⟨by omega,?_,?_⟩
     . grind[cm,zO,zM]
     . rw [<-b p I,V];simp only [Xw,Xq];refine Array.all_eq_true'.2 fun e u=>?_;cases d:Region.binds .any e with
       |false=>rfl| true=>have:=p3 e.on (K e (by simpa using u) d);simpa [cm]using this
    grind
   have j:0<(Region.ready .any A l).length:=List.length_pos_iff.2 J;have hlt:=Nat.mod_lt t j;rw [Xe hlt];simp only [];generalize hi:(Region.ready .any A l)[t%(Region.ready .any A l).length]=i;have N:i∈Region.ready .any A l:=(by grind);have c:=N;unfold Region.ready at c;simp only [Xv,Xm,Xd,Xi]at c;obtain⟨h1,h2,h3⟩:=c;rw [v]at h1;have ad:cm l i=false:=(by grind[cm,zO,zM]);have k:(l.push false).setIfInBounds i true=(l.setIfInBounds i true).push false:=(by grind);have r:=we (listed:=l) (p:=i) (by omega);rw [linearise_go_acc,linearise_go_acc (acc:=[i]),List.append_assoc,k];rw [Y _ (l.setIfInBounds i true) (by simpa using s) ?_ ?_]
   . rw [r];grind[Xz,binds,cm,nu,cD]
   grind[uO,cm]
theorem vZ(w:ops.size=n+1)(a:lI ops.toList n=true)(t:Nat):Region.linearise.go .any ops (n+1) t (Xc (n+1) false) []=Region.linearise.go .any (ops.extract 0 n) n t (Xc n false) []++[n]:=by
 unfold lI at a;simp only [Xd]at a;obtain⟨b,j⟩:=a;unfold fullM at b;have e:ops.toList.length=ops.size:=by simp
 split at b
 next m f c=>
  obtain⟨k,_,g⟩:=zo _ _ _ c;simp only [List.length_nil,Xx]at k g;have l: ∀i,vt ops.toList (m::f).reverse i:=fun i o p=>g i o p;have r:(m::f).reverse[n]? =some m:=by grind
  have d: ∀i,i<n->m.testBit i=true:=fun i s=>List.all_eq_true.1 b i (List.mem_range.2 s);have u:(ops.extract 0 n).size=n:=by simp;omega
  have h: ∀i,i<n->ops[i]? =(ops.extract 0 n)[i]? :=by grind
  generalize ops.extract 0 n=A at*
  have v:cm (Xc n false)=fun _=>false:=by
   funext i;simp only [cm,zO,XD]
   split<;>rfl
  rw [Array.replicate_succ];grind[lin_pop,tO]
 grind
include ok hc hcode in
theorem Ao (cx:Cx) (id:Nat) (ops:Array Oper) (l:Loc) (h:Hp) (l':Loc) (h':Hp) (x:Ex) (mu:Mu) (w:World) (F:FC) (c:List Frame) (tmps:Array Value) (dfs:List Deferred) (d:Option (Value×Bool)) (k:List Item) (s:SR P cx l h mu w F c tmps dfs d) (n:Nat) (Q:n<=ops.size) (m:(ops.toList.take n).all (jV n)=true)
 (a: ∀t,Region.linearise.go .any ops ops.size t (Xc ops.size false) []=Region.linearise.go .any (ops.extract 0 n) n t (Xc n false) []++XE n (ops.size-n))
 (b :(match lS E (c8 (ops.toList.take n))with
   |none=>none| some (q,ps)=>match dI E R (c8 (ops.toList.take n)) q (c8 (ops.toList.take n)) 0 l h []with
     |none=>none|some (l',h',j)=>bif dQ j ps then jn E R cx ops.toList (ops.toList.drop n) l' h' else none)=some (x,l',h')):
 Sim P cx h mu w F c tmps dfs d (.code (.region id ops true)::k) k x l' h':=by
 have o:(ops.extract 0 n).toList=ops.toList.take n:=by simp
 have p:(ops.extract 0 n).size=n:=by simp;omega
 have e: ∀i,i<n->ops[i]? =(ops.extract 0 n)[i]? :=by grind
 rw [<-o]at b m;generalize ops.extract 0 n=A at*
 cases y:lS E (c8 A.toList)with
 |none=>grind| some B=>
   obtain⟨q,ps⟩:=B;rw [y]at b;simp only []at b;cases z:dI E R (c8 A.toList) q (c8 A.toList) 0 l h []with
   |none=>grind| some C=>
     obtain⟨G,I,j⟩:=C;rw [z]at b;simp only []at b;cases f:dQ j ps with
     |false=>grind| true=>
       rw [f]at b;simp only [cond_true]at b;have J:Region.schedule (P.follows .mixedOrders) ops (w.tape w.drawn (.order F.fn id))=Region.linearise.go .any A A.size (w.tape w.drawn (.order F.fn id)) (Xc A.size false) []++XE n (ops.size-n):=(by rw [ok.mixed,p];exact a _);obtain⟨K,S,u,N,O,g⟩:=At ok hc hcode cx A ops (.inr ⟨fun i U=>e i (by omega),fun x V=>by grind⟩) (XE n (ops.size-n)) l h G I q ps j y z f mu w F c tmps dfs d k s (w.tape w.drawn (.order F.fn id));have r:=Aa ok hc hcode (ops:=ops) (k:=k) (ops.toList.drop n) n _ _ _ _ _ _ _ _ _ _ rfl N b;have v:(ops.toList.drop n).length=ops.size-n:=(by grind);rw [v]at r;refine Sim.pre (Steps.trans (.one ?_) g) O r;grind[yV]
include ok hc hcode in
theorem EB (cx:Cx) (id:Nat) (ops:Array Oper) (l:Loc) (h:Hp) (l':Loc) (h':Hp) (x:Ex) (c:uq E R cx ops.toList l h=some (x,l',h')) (mu:Mu) (w:World) (F:FC) (d:List Frame) (tmps:Array Value) (dfs:List Deferred) (e:Option (Value×Bool)) (k:List Item) (s:SR P cx l h mu w F d tmps dfs e):
 Sim P cx h mu w F d tmps dfs e (.code (.region id ops true)::k) k x l' h':=by
 unfold uq at c;have z:ops.toList.length=ops.size:=by simp
 cases a:lI ops.toList (ops.toList.length-1)with
 |false=>grind| true =>
   rw [a]at c;simp only [cond_true]at c;have A:0<ops.size:=by
    rcases Nat.eq_zero_or_pos ops.size with i|i
    . have:ops.toList=[]:=(by grind);rw [this]at a;cases a
    . exact i
   obtain⟨n,B⟩: ∃n,ops.size=n+1:=⟨ops.size-1,by omega⟩;have o:ops.toList.length-1=n:=(by omega);unfold cutN at c;rw [o]at c a;have C:=vZ B a;cases g:tail2 ops.toList&&lI (ops.toList.take n) (n-1)with
   | false=>
     rw [g]at c;refine Ao ok hc hcode cx id ops l h l' h' x mu w F d tmps dfs e k s n (by omega) (Bool.and_eq_true_iff.1 a).2 (fun t=>?_) c;rw [show ops.size-n=1 by omega];grind
   | true=>
     rw [g]at c;have b:lI (ops.toList.take n) (n-1)=true:=(Bool.and_eq_true_iff.1 g).2;have j:(ops.extract 0 n).toList=ops.toList.take n:=(by simp);have p:(ops.extract 0 n).size=n:=(by simp;omega);rw [<-j]at b;have G:0<n:=by
      rcases Nat.eq_zero_or_pos n with i|i
      . have:(ops.extract 0 n).toList=[]:=(by grind);rw [this]at b;cases b
      . exact i
     obtain⟨f,r⟩: ∃f,n=f+1:=⟨n-1,by omega⟩;have u:n-1=f:=(by omega);rw [u]at c b;have v:=vZ (p.trans r) b;have m:=(Bool.and_eq_true_iff.1 b).2;have I:(ops.extract 0 n).extract 0 f=ops.extract 0 f:=(by grind);have y:(ops.extract 0 n).toList.take f=ops.toList.take f:=(by rw [j,List.take_take,Nat.min_eq_left (by omega)]);rw [I]at v;rw [y]at m;refine Ao ok hc hcode cx id ops l h l' h' x mu w F d tmps dfs e k s f (by omega) m (fun t=>?_) c;rw [show ops.size-f=2 by omega,B,C,r];rw [r]at v;rw [v];simp [XE]
end
section
variable{E:Env}{P:Program}(ok:EOk E P){R:Rec}(hc:iS E P R.call)(hcode:j7 P R.code)
include ok hc hcode in
theorem AJ:wY E P R:=fun f id b l h g i x j m w F c a d e k s=>EB ok hc hcode f id b l h g i x j m w F c a d e k s
end
def RLe(R b:Rec):Prop:=(∀f a d h o,R.call f a d h=some o->b.call f a d h=some o)/\(∀e c l h o,R.code e c l h=some o->b.code e c l h=some o)
def qL{b:Type}(F:Rec->Option b):Prop:= ∀R a,RLe R a-> ∀o,F R=some o->F a=some o
theorem qL.const{a:Type}(x:Option a):qL (fun _=>x):=fun _ _ _ _ h=>h
theorem qL.bind{c f:Type}{F:Rec->Option c}{G:c->Rec->Option f}(g:qL F)(i: ∀a,qL (G a)):qL (fun R=>(F R).bind fun a=>G a R):=by
 intro R d e o h;simp only []at h⊢;cases b:F R with
 |none=>rw [b]at h;cases h
 | some a=>rw [b]at h;rw [g R d e a b];exact i a R d e o h
theorem RLe.refl(R:Rec):RLe R R:=⟨fun _ _ _ _ _ h=>h,fun _ _ _ _ _ h=>h⟩
theorem RLe.trans{a b c:Rec}(h:RLe a b)(k:RLe b c):RLe a c:=⟨fun f x g d o e=>k.1 _ _ _ _ _ (h.1 _ _ _ _ _ e),fun i x l d o e=>k.2 _ _ _ _ _ (h.2 _ _ _ _ _ e)⟩
def MC(E:Env)(W:Rec){a:Type}(F:Rec->Option a):Prop:=qL F/\ ∀o,F W=some o-> ∃n,F (run E n)=some o
section
variable{E:Env}{W:Rec}
theorem MC.const{a:Type}(x:Option a):MC E W (fun _=>x):=⟨.const x,fun _ h=>⟨0,h⟩⟩
theorem MC.bind(e: ∀n m,n<=m->RLe (run E n) (run E m)){f g:Type}{F:Rec->Option f}{G:f->Rec->Option g}(b:MC E W F)(c: ∀a,MC E W (G a)):MC E W (fun R=>(F R).bind fun a=>G a R):=by
 refine⟨b.1.bind fun a=>(c a).1,fun o h=>?_⟩;simp only []at h;cases d:F W with
 |none=>rw [d]at h;cases h
 | some a=>
   rw [d]at h;obtain⟨n,i⟩:=b.2 a d;obtain⟨m,j⟩:=(c a).2 o h;refine⟨n+m,?_⟩;simp only [];rw [b.1 _ _ (e n (n+m) (by omega)) a i];exact(c a).1 _ _ (e m (n+m) (by omega)) o j
theorem MC.congr{a:Type}{F F':Rec->Option a}(e: ∀R,F' R=F R)(h:MC E W F):MC E W F':=by have:F'=F:=funext e;rw [this];exact h
end
section
variable(E:Env)
structure Closed(E:Env)(K: ∀{α:Type},(Rec->Option α)->Prop):Prop where
 const: ∀{α:Type} (x:Option α),K (fun _=>x)
 bind: ∀{α β:Type} {F:Rec->Option α} {G:α->Rec->Option β},K F->(∀a,K (G a))->K (fun R=>(F R).bind fun a=>G a R)
 congr: ∀{α:Type} {F F':Rec->Option α},(∀R,F' R=F R)->K F->K F'
 call: ∀f a rc h,K (fun R=>R.call f a rc h)
 code: ∀cx c l h,K (fun R=>R.code cx c l h)
end
section
variable{E:Env}{K: ∀{α:Type},(Rec->Option α)->Prop}(C:Closed E K)
include C
theorem k_round (b:Nat) (args:List Value) (h:Hp):K (fun R=>kC E R b args h):=by
 unfold kC;cases m:h.get b with
 |none=>exact C.const _| some x =>
   cases x<;>(try exact C.const _);rename_i r;simp only [];cases(E.fn r.fn).isSome with
   |false=>exact C.const _| true =>
     simp only [cond_true]
     split
     next l =>
      split
      next=>exact C.const _
      next c i=>
       refine C.congr (F:=fun R=>(R.code ⟨r.fn,r.nr,some b⟩ r.assign ⟨c,[],none⟩ h).bind fun q=>match q with
        | (.normal,g,d)=>match d.get b with
          | some (.loop e)=>match e.st with
            | 0 =>(R.code ⟨r.fn,r.nr,some b⟩ r.body g (d.put b (.loop {e with st:=1}))).bind fun q=>match q with
              | (.normal,_,a)=>match a.get b with
                |some (.loop f)=>some (.ret (.bool true),a.put b (.loop {f with st:=0,pending:=none}))
                |_=>none
              | (.exit id,_,a)=>match a.get b with
                |some (.loop f)=>some (.ret (.bool false),a.put b (.loop {f with st:=2,pending:=some (.exit id)}))
                |_=>none
              | (.ret,_,a)=>match a.get b with
                |some (.loop f)=>some (.ret (.bool false),a.put b (.loop {f with st:=2,pending:=some .ret}))
                |_=>none
              | (.pan v,j,a)=>match j.dfs with
                | []=>some (.pan v,a)|_=>none
            |_=>none
          |_=>none
        |_=>none) ?_ ?_
       . intro R;cases R.code ⟨r.fn,r.nr,some b⟩ r.assign ⟨c,[],none⟩ h with
         |none=>rfl| some q=>
           obtain⟨x,g,d⟩:=q;cases x<;>(try rfl);simp only [XC];cases d.get b with
           |none=>rfl| some y=>
             cases y<;>(try rfl);rename_i e;simp only [];cases k:e.st with
             | zero=>
               simp only [];cases R.code ⟨r.fn,r.nr,some b⟩ r.body g (d.put b (.loop {e with st:=1}))with
               |none=>rfl|some q=>obtain⟨x,j,a⟩:=q;cases x<;>rfl
             |succ n=>rfl
       . refine C.bind (C.code _ _ _ _) fun q=>?_;obtain⟨x,g,d⟩:=q;cases x<;>(try exact C.const _);simp only [];cases d.get b with
         |none=>exact C.const _| some y=>
           cases y<;>(try exact C.const _);simp only []
           split
           . refine C.bind (C.code _ _ _ _) fun q=>?_;exact C.const _
           . exact C.const _
     next=>exact C.const _
theorem zh(x:Option (dT×Hp)):K (fun R=>dH E R x):=by
 cases x with
 |none=>exact C.const _| some q=>
   obtain⟨e,h⟩:=q;cases e<;>(try exact C.const _)
   . rename_i f d;refine C.congr (F:=fun R=>(R.call f d none h).bind fun q=>some (q.1,q.2.2)) (fun R=>?_) (C.bind (C.call _ _ _ _) fun _=>C.const _);simp only [dH];cases R.call f d none h with
     |none=>rfl|some q=>obtain⟨a,b,c⟩:=q;rfl
   . exact k_round C _ _ _
theorem k_stepOp(cx:Cx)(o:Oper)(l:Loc)(h:Hp):K (fun R=>fu E R cx o l h):=by
 unfold fu;have a:K (fun R=>pU o l (dH E R (aop E l.ev h o.op))):=by refine C.congr (F:=fun R=>(dH E R (aop E l.ev h o.op)).bind fun q=>pU o l (some q)) (fun R=>?_) (C.bind (zh C _) fun _=>C.const _);cases dH E R (aop E l.ev h o.op)<;>rfl
 cases b:aop E l.ev h o.op with
 |none=>exact C.const _| some q=>
   rw [b]at a;obtain⟨c,d⟩:=q;cases c<;>(try exact a)
   . cases cx.round<;>exact C.const _
   . cases cx.round<;>exact C.const _
theorem vp (cx:Cx) (ops:List Oper): ∀(os:List Oper) (l:Loc) (h:Hp),K (fun R=>jn E R cx ops os l h)
 | [],l,h=>C.const _| o :: os,l,h=>by
   simp only [jn];cases cV ops l.regs o with
   |none=>exact C.const _| some b=>
     cases b with
     |false=>exact vp cx ops os _ _| true=>
       refine C.congr (F:=fun R=>(fu E R cx o l h).bind fun q=>match q with
        |(.normal,l',h')=>jn E R cx ops os l' h'|q=>some q) (fun R=>?_) (C.bind (k_stepOp C _ _ _ _) fun q=>?_)
       . cases fu E R cx o l h with
         |none=>rfl|some q=>obtain⟨x,l',h'⟩:=q;cases x<;>rfl
       . obtain⟨x,l',h'⟩:=q;cases x<;>first|exact vp cx ops os _ _|exact C.const _
theorem k_stepD(ρ:Operand->Value)(a:Bool)(o:Oper)(h:Hp):K (fun R=>du E R ρ a o h):=by
 unfold du;cases a with
 | true=>
   refine C.congr (F:=fun R=>(dH E R (aop E ρ {h with lo:=h.n} o.op)).bind fun q=>match q with
    |(.ret v,b)=>bif XF h.n b.lo then some (v,{b with lo:=h.lo})else none
    |_=>none) (fun R=>?_) (C.bind (zh C _) fun _=>C.const _)
   simp only [cond_true];cases dH E R (aop E ρ {h with lo:=h.n} o.op)with
   |none=>rfl|some q=>obtain⟨x,b⟩:=q;cases x<;>rfl
 | false=>
   refine C.congr (F:=fun R=>(dH E R (aop E ρ h o.op)).bind fun q=>match q with
    |(.ret v,b)=>some (v,b)|_=>none) (fun R=>?_) (C.bind (zh C _) fun _=>C.const _)
   simp only [cond_false];cases dH E R (aop E ρ h o.op)with
   |none=>rfl|some q=>obtain⟨x,b⟩:=q;cases x<;>rfl
theorem tM (ops:List Oper) (q:Nat): ∀(os:List Oper) (i:Nat) (l:Loc) (h:Hp) (c:List (Nat×Tch)),K (fun R=>dI E R ops q os i l h c)
 | [],i,l,h,c=>C.const _| o :: os,i,l,h,c=>by
   simp only [dI];cases cV ops l.regs o with
   |none=>exact C.const _| some b=>
     cases b with
     |false=>exact tM ops q os _ _ _ _| true=>
       refine C.congr (F:=fun R=>(du E R (l.evD (tmpsOf o.op.operands.toList)) (gQ E q i o.op) o h).bind fun p=>
        dI E R ops q os (i+1) (l.put o.dst p.1) p.2 (jm i c (df (l.evD (tmpsOf o.op.operands.toList)) (gQ E q i o.op) o.op h p.2))) (fun R=>?_) (C.bind (k_stepD C _ _ _ _) fun q=>tM ops _ os _ _ _ _)
       cases du E R (l.evD (tmpsOf o.op.operands.toList)) (gQ E q i o.op) o h with
       |none=>rfl|some p=>obtain⟨a,b⟩:=p;rfl
theorem k_range (cx:Cx) (f:Value) (params:Array Tmp) (assign body:Code) (l:Loc) (h:Hp):K (fun R=>jz R cx f params assign body l h):=by
 unfold jz;cases f<;>(try exact C.const _);rename_i t a b;cases t<;>(try exact C.const _);rename_i g;simp only []
 split
 . exact C.const _
 . rename_i e d c _;refine C.congr (F:=fun R=>(R.call g (a.toList++[.func (.yield e.n) #[] #[]]++b.toList) none
    (e.new (.loop {fn:=cx.fn,regs:=l.regs,nr:=cx.nr,params,assign,body,st:=0,pending:=none,defers:=d}))).bind fun q=>match q with
    |(.pan v,_,i)=>some (.pan v,{l with dfs:=c},i)
    | (.ret _,_,i)=>match i.get e.n with
      | some (.loop x)=>match x.st with
        |1=>none| _=>match x.pending with
          |none=>some (.normal,{l with dfs:=c},i.put e.n .dead)
          |some (.exit id)=>some (.exit id,{l with dfs:=c},i.put e.n .dead)
          |some .ret=>some (.ret,{l with dfs:=c},i.put e.n .dead)
          |_=>none
      |_=>none) (fun R=>?_) (C.bind (C.call _ _ _ _) fun _=>C.const _)
   cases R.call g (a.toList++[.func (.yield e.n) #[] #[]]++b.toList) none
         (e.new (.loop {fn:=cx.fn,regs:=l.regs,nr:=cx.nr,params,assign,body,st:=0,pending:=none,defers:=d}))with
   |none=>rfl|some q=>obtain⟨x,y,z⟩:=q;cases x<;>rfl
theorem k_code(cx:Cx): ∀(c:Code) (l:Loc) (h:Hp),K (fun R=>aR E R cx c l h):=by
 intro c
 induction c with
 |skip=>intro l h;exact C.const _|label n=>intro l h;exact C.const _| region id d o=>
   intro l h;simp only [aR];cases o with
   |false=>exact vp C _ _ _ _ _| true=>
     simp only [cond_true];cases E.cut cx.fn with
     | false=>
       simp only [cond_false];cases lS E (c8 d.toList)with
       |none=>exact C.const _| some p=>
         obtain⟨q,s⟩:=p;simp only [];refine C.congr (F:=fun R=>(dI E R (c8 d.toList) q (c8 d.toList) 0 l h []).bind fun x=>bif dQ x.2.2 s then some (.normal,x.1,x.2.1)else none) (fun R=>?_) (C.bind (tM C _ _ _ _ _ _ _) fun _=>C.const _);cases dI E R (c8 d.toList) q (c8 d.toList) 0 l h []with
         |none=>rfl|some x=>obtain⟨a,b,c⟩:=x;rfl
     | true=>
       simp only [cond_true,cutD];simp only [uq];cases lI d.toList (d.toList.length-1)with
       |false=>exact C.const _| true=>
         simp only [cond_true];generalize c8 (d.toList.take (cutN d.toList))=A;cases lS E A with
         |none=>exact C.const _| some p=>
           obtain⟨q,s⟩:=p;simp only [];refine C.congr (F:=fun R=>(dI E R A q A 0 l h []).bind fun x=>bif dQ x.2.2 s then jn E R cx d.toList (d.toList.drop (cutN d.toList)) x.1 x.2.1 else none) (fun R=>?_) (C.bind (tM C _ _ _ _ _ _ _) fun x=>?_)
           . cases dI E R A q A 0 l h []with
             |none=>rfl|some x=>obtain⟨a,b,c⟩:=x;rfl
           . cases dQ x.2.2 s with
             |false=>exact C.const _|true=>exact vp C _ _ _ _ _
 | seq a b j k=>
   intro l h;simp only [aR];refine C.congr (F:=fun R=>(aR E R cx a l h).bind fun q=>match q with
    |(.normal,e,g)=>aR E R cx b e g|q=>some q) (fun R=>?_) (C.bind (j _ _) fun q=>?_)
   . cases aR E R cx a l h with
     |none=>rfl|some q=>obtain⟨x,e,g⟩:=q;cases x<;>rfl
   . obtain⟨x,e,g⟩:=q;cases x<;>first|exact k _ _|exact C.const _
 | cond c a b j k=>
   intro l h;simp only [aR];cases l.ev c<;>(try exact C.const _);rename_i t;cases t
   . exact k _ _
   . exact j _ _
 | block id b r=>
   intro l h;simp only [aR];refine C.congr (F:=fun R=>(aR E R cx b l h).bind fun q=>match q with
    |(.exit i,e,g)=>bif Xy i id then some (.normal,e,g)else some (.exit i,e,g)
    |q=>some q) (fun R=>?_) (C.bind (r _ _) fun _=>C.const _)
   cases aR E R cx b l h with
   |none=>rfl|some q=>obtain⟨x,e,g⟩:=q;cases x<;>rfl
 | loop b r=>
   intro l h;simp only [aR];refine C.congr (F:=fun R=>(aR E R cx b l h).bind fun q=>match q with
    |(.normal,e,g)=>R.code cx (.loop b) e g|q=>some q) (fun R=>?_) (C.bind (r _ _) fun q=>?_)
   . cases aR E R cx b l h with
     |none=>rfl|some q=>obtain⟨x,e,g⟩:=q;cases x<;>rfl
   . obtain⟨x,e,g⟩:=q;cases x<;>first|exact C.code _ _ _ _|exact C.const _
 |rangeFunc f u v w _ _=>intro l h;exact k_range C _ _ _ _ _ _ _|exit id=>intro l h;exact C.const _|scope b r=>intro l h;exact r _ _|goto n=>intro l h;exact C.const _|ret=>intro l h;exact C.const _|refuse m=>intro l h;exact C.const _
theorem rz : ∀(e:List Deferred) (m:Option Value) (h:Hp),K (fun R=>cF R e m h)
 | [],m,h=>C.const _| d :: e,m,h=>by
   simp only [cF];cases d.target with
   |nil=>exact C.const _|builtin a b c d=>exact C.const _|coroexit=>exact C.const _| collected b=>
     simp only [];cases h.get b with
     |none=>exact C.const _|some x=>cases x<;>first|exact rz e _ _|exact C.const _
   | fn t cap=>
     cases t<;>(try exact C.const _);rename_i f;simp only [];refine C.congr (F:=fun R=>(R.call f (d.args.toList++cap.toList) (match m with|none=>none|some v=>some (v,false)) h).bind fun q=>match q with
      | (.ret _,g,h')=>match m,g with
        |none,none=>cF R e none h'|some _,some (_,true)=>cF R e none h'|some _,some (v,false)=>cF R e (some v) h'|_,_=>none
      |_=>none) (fun R=>?_) (C.bind (C.call _ _ _ _) fun q=>?_)
     . cases R.call f (d.args.toList++cap.toList) (match m with|none=>none|some v=>some (v,false)) h with
       |none=>rfl|some q=>obtain⟨x,y,z⟩:=q;cases x<;>rfl
     . obtain⟨x,g,h'⟩:=q;cases x with
       |pan v=>exact C.const _| ret v=>
         simp only [];cases m with
         |none=>cases g<;>first|exact rz e _ _|exact C.const _
         | some i=>
           cases g with
           |none=>exact C.const _|some y=>obtain⟨j,b⟩:=y;cases b<;>exact rz e _ _
theorem k_body (f:FuncId) (args:List Value) (i:Option (Value×Bool)) (h:Hp):K (fun R=>mg E R f args i h):=by
 unfold mg;cases E.fn f with
 |none=>exact C.const _| some b =>
   simp only [];cases b.body with
   |none=>exact C.const _| some e=>
     simp only [];cases XF args.length b.ntmps with
     |false=>exact C.const _| true =>
       simp only [cond_true];have g: ∀(l:Loc) (c:Hp),K (fun R=>match cF R l.dfs none c with
        | some (none,a)=>match bU E l.regs a b.results.toList with
          |none=>none|some d=>some (Out.ret (ab d),l.rc,a)
        |_=>none):=by
        intro l c;refine C.congr (F:=fun R=>(cF R l.dfs none c).bind fun q=>match q with
         | (none,a)=>match bU E l.regs a b.results.toList with
           |none=>none|some d=>some (Out.ret (ab d),l.rc,a)
         |_=>none) (fun R=>?_) (C.bind (rz C _ _ _) fun _=>C.const _)
        cases cF R l.dfs none c with
        |none=>rfl|some q=>obtain⟨x,y⟩:=q;cases x<;>rfl
       refine C.congr (F:=fun R=>(R.code ⟨f,b.ntmps,none⟩ e ⟨(Tr.blank (.tuple #[]) b.ntmps b.ntmps).setAll 0 args,[],i⟩ h).bind fun q=>match q with
        |(.exit _,_,_)=>none| (.pan v,l,c)=>match cF R l.dfs (some v) c with
          |none=>none|some (some v,a)=>some (Out.pan v,l.rc,a)| some (none,a)=>match bU E l.regs a b.results.toList with
            |none=>none|some d=>some (Out.ret (ab d),l.rc,a)
        | (_,l,c)=>match cF R l.dfs none c with
          | some (none,a)=>match bU E l.regs a b.results.toList with
            |none=>none|some d=>some (Out.ret (ab d),l.rc,a)
          |_=>none) (fun R=>?_) (C.bind (C.code _ _ _ _) fun q=>?_)
       . cases R.code ⟨f,b.ntmps,none⟩ e ⟨(Tr.blank (.tuple #[]) b.ntmps b.ntmps).setAll 0 args,[],i⟩ h with
         |none=>rfl|some q=>obtain⟨x,y,z⟩:=q;cases x<;>rfl
       . obtain⟨x,l,c⟩:=q;cases x with
         |exit id=>exact C.const _|normal=>exact g l c|ret=>exact g l c| pan v=>
           simp only [];refine C.congr (F:=fun R=>(cF R l.dfs (some v) c).bind fun q=>match q with
            |(some v,a)=>some (Out.pan v,l.rc,a)| (none,a)=>match bU E l.regs a b.results.toList with
              |none=>none|some d=>some (Out.ret (ab d),l.rc,a)) (fun R=>?_) (C.bind (rz C _ _ _) fun _=>C.const _)
           cases cF R l.dfs (some v) c with
           |none=>rfl|some q=>obtain⟨x,y⟩:=q;cases x<;>rfl
theorem k_call(f:FuncId)(args:List Value)(a:Option (Value×Bool))(h:Hp):K (fun R=>jK E R f args a h):=by
 unfold jK;cases E.orc f args with
 |none=>exact k_body C f args a h|some v=>cases a<;>exact C.const _
end
theorem lu(E:Env):Closed E (fun F=>qL F)where
 const:=qL.const
 bind:=fun hF hG=>hF.bind hG
 congr:=fun e h=>by have:=funext e;rw [this];exact h
 call:=fun f a rc h R R' le o=>le.1 f a rc h o
 code:=fun cx c l h R R' le o=>le.2 cx c l h o
theorem next_mono{b:Rec}(h:RLe R b):RLe (next E R) (next E b):=
 ⟨fun f a g d o e=>k_call (lu E) f a g d R b h o e,fun i c l d o e=>k_code (lu E) i c l d R b h o e⟩
theorem BE{E:Env}: ∀n,RLe (run E n) (run E (n+1))
 | 0=>by
   constructor
   . intro f a b h o e;cases e
   . intro d c l h o e;cases e
 |n+1=>next_mono (BE n)
theorem run_up(n m:Nat)(h:n<=m):RLe (run E n) (run E m):=by
 induction m with
 | zero => have:n=0:=by omega
           subst this;exact RLe.refl _
 | succ m a=>
   by_cases e:n=m+1
   . subst e;exact RLe.refl _
   . exact(a (by omega)).trans (BE m)
open Classical in
noncomputable def limOf{a:Type}(F:Nat->Option a):Option a:=if h: ∃n o,F n=some o then some (Classical.choose (Classical.choose_spec h))else none
theorem xS{d:Type}{F:Nat->Option d}(e: ∀n m,n<=m-> ∀o,F n=some o->F m=some o){o:d}:limOf F=some o↔ ∃n,F n=some o:=by
 constructor
 . intro h;unfold limOf at h
   split at h
   . rename_i c;cases h;exact⟨_,Classical.choose_spec (Classical.choose_spec c)⟩
   . cases h
 . intro⟨n,h⟩;unfold limOf;have c: ∃n o,F n=some o:=⟨n,o,h⟩;rw [dif_pos c];have f:=Classical.choose_spec (Classical.choose_spec c);have a:=e _ (n+Classical.choose c) (by omega) _ h;have b:=e _ (n+Classical.choose c) (by omega) _ f;rw [a]at b;cases b;rfl
noncomputable def lim(E:Env):Rec where
 call:=fun f a rc h=>limOf fun n=>(run E n).call f a rc h
 code:=fun cx c l h=>limOf fun n=>(run E n).code cx c l h
theorem rH{a:List Value}{c:Option (Value×Bool)}{o:Out×Option (Value×Bool)×Hp}:(lim E).call f a c h=some o↔ ∃n,(run E n).call f a c h=some o:=
 xS fun n m b o e=>(run_up n m b).1 _ _ _ _ _ e
theorem ua{cx:Cx}{c:Code}{l:Loc}{o:Ex×Loc×Hp}:(lim E).code cx c l h=some o↔ ∃n,(run E n).code cx c l h=some o:=
 xS fun n m a o e=>(run_up n m a).2 _ _ _ _ _ e
theorem run_lim(n:Nat):RLe (run E n) (lim E):=⟨fun _ _ _ _ _ h=>rH.2 ⟨n,h⟩,fun _ _ _ _ _ h=>ua.2 ⟨n,h⟩⟩
theorem yu(E:Env):Closed E (fun F=>MC E (lim E) F)where
 const:=MC.const
 bind:=fun hF hG=>MC.bind run_up hF hG
 congr:=fun e h=>MC.congr e h
 call:=fun f a rc h=>⟨(lu E).call f a rc h,fun _ e=>rH.1 e⟩
 code:=fun cx c l h=>⟨(lu E).code cx c l h,fun _ e=>ua.1 e⟩
theorem xK{c:Type}{x y:Option c}(h: ∀o,x=some o↔y=some o):x=y:=by
 cases x with
 | none=>cases y with
   |none=>rfl|some b=>exact absurd ((h b).2 rfl) (by simp)
 |some a=>exact((h a).1 rfl).symm
theorem call_eq(E:Env)(f:FuncId)(a:List Value)(b:Option (Value×Bool))(h:Hp):(lim E).call f a b h=jK E (lim E) f a b h:=by
 refine xK fun o=>⟨fun e=>?_,fun e=>?_⟩
 . obtain⟨n,c⟩:=rH.1 e;cases n with
   |zero=>cases c
   |succ n=>exact k_call (lu E) f a b h _ _ (run_lim n) o c
 . obtain⟨n,c⟩:=(k_call (yu E) f a b h).2 o e;exact rH.2 ⟨n+1,c⟩
theorem y8(E:Env)(cx:Cx)(c:Code)(l:Loc)(h:Hp):(lim E).code cx c l h=aR E (lim E) cx c l h:=by
 refine xK fun o=>⟨fun e=>?_,fun e=>?_⟩
 . obtain⟨n,a⟩:=ua.1 e;cases n with
   |zero=>cases a
   |succ n=>exact k_code (lu E) cx c l h _ _ (run_lim n) o a
 . obtain⟨n,a⟩:=(k_code (yu E) cx c l h).2 o e;exact ua.2 ⟨n+1,a⟩
theorem lim_ok(a:EOk E P):iS E P (lim E).call:=by intro g b j h o e k f;obtain⟨n,i⟩:=rH.1 f;exact(run_ok a (fun _ c d=>⟨draw_ok a c d,AJ a c d⟩) n).1 _ _ _ _ _ _ _ i
theorem Do(p:iS E P R.call)(i:args.all dp=true)(l:dp v=true)
 (q:R.call f args none hp0=some (.ret v,none,h')):(∃m,E.fn f=some m/\m.body.isSome=true)/\OrcAt P f args v:=by
 obtain⟨r,s⟩:=p _ _ _ _ _ _ _ q;refine⟨r,i,l,fun w j d t=>?_⟩;obtain⟨u,y,e,z,I,g,A,J,B,C,D⟩:=s mu0 w ⟨args⟩ none j d (hrel0 w) glob0 (LR.refl fun a k=>az.const mu0 (by simp only [Xp]at i;exact i a k)) trivial t;cases e with
 |some x=>exact A.elim| none=>
   obtain⟨K,n,F⟩:=C;rw [az.const_eq l F]at n;exact⟨y,z,⟨fun c G=>g.frame c G (by intro b o H h;unfold mu0 at h;split at h<;>cases h),g.wsize,g.os,g.tape,g.output⟩,B,n,D⟩
theorem ED(a:EOk E P)(e:args.all dp=true)(g:dp v=true)
 (h:(run E n).call f args none hp0=some (.ret v,none,h')):(∃b,E.fn f=some b/\b.body.isSome=true)/\OrcAt P f args v:=
 Do (R:=run E n) (run_ok a (fun _ c d=>⟨draw_ok a c d,AJ a c d⟩) n).1 e g h
def tabF:Nat->Nat->(Nat->Value)->Tr Value
 |0,_,_=>.nil| f+1,n,a=>match n with
   |0=>.nil|k+1=>.node (a 0) (tabF f ((k+1)/2) fun i=>a (2*i+1)) (tabF f (k/2) fun i=>a (2*i+2))
def tab(n:Nat)(ρ:Nat->Value):Tr Value:=tabF n n ρ
theorem get_tabF(f n:Nat)(ρ:Nat->Value)(h:n<=f)(j:Nat):(tabF f n ρ).get j=if j<n then some (ρ j)else none:=by
 induction f generalizing n j ρ with
 |zero=>grind[tabF,Tr.get_nil]| succ f a=>
   cases n with
   |zero=>rfl| succ k=>simp only [tabF];rw [Tr.get_node];grind
theorem oD(n:Nat)(ρ:Nat->Value)(j:Nat):(tab n ρ).get j=if j<n then some (ρ j)else none:=get_tabF n n ρ (Xa _) j
theorem Tr.ext{d:Type}{t t':Tr d}(h: ∀i,t.get i=t'.get i):t=t':=by
 induction t generalizing t' with
 | nil=>
   cases t' with
   |nil=>rfl|node y l r=>have:=h 0;simp [Tr.get_nil,Tr.get_node]at this
 | node x l r a b=>
   cases t' with
   |nil=>have:=h 0;simp [Tr.get_nil,Tr.get_node]at this| node y e f=>
     have c:=h 0;simp [Tr.get_node]at c;subst c;rw [a (t':=e) (fun i=>by have:=h (2*i+1);simp_all[Tr.get_node,if_pos]),
      b (t':=f) (fun i=>by have:=h (2*i+2);simp only [Tr.get_node]at this;grind)]
def aG(ρ:Nat->Value)(t:Nat)(v:Value):Nat->Value:=fun i=>if i=t then v else ρ i
theorem aF(ρ:Nat->Value)(t:Nat)(v:Value)(i:Nat):aG ρ t v i=if i=t then v else ρ i:=rfl
theorem tab_set(n:Nat)(ρ:Nat->Value)(t:Nat)(v:Value):(tab n ρ).set t v=tab n (aG ρ t v):=by
 apply Tr.ext;intro i;rw [Tr.get_set,oD,oD];by_cases a:i<n
 . by_cases e:t=i
   . subst e;simp [a,aG]
   . simp [a,e,aG,Ne.symm e]
 . simp [a]
def cZ:List Value->Nat->Value
 | [],_=>.tuple #[]| v::l,i=>match i with
   |0=>v|i+1=>cZ l i
theorem argR_eq(l:List Value)(i:Nat):cZ l i=(l[i]?).getD (.tuple #[]):=by
 induction l generalizing i with
 |nil=>rfl| cons v l a=>cases i with
   |zero=>rfl|succ i=>simp [cZ,a]
theorem args_tab(h:args.length<=n):(Tr.blank (.tuple #[]) n n:Tr Value).setAll 0 args=tab n (cZ args):=by apply Tr.ext;intro i;rw [Tr.get_setAll _ 0 args n (Tr.sized_blank _ _ _ (Xa _)) (by omega),oD,Tr.get_blank _ _ _ (Xa _),argR_eq];grind
def LL(n:Nat)(ρ:Nat->Value)(d:List Deferred)(a:Option (Value×Bool)):Loc:=⟨tab n ρ,d,a⟩
theorem ce(n:Nat)(ρ:Nat->Value)(d:List Deferred)(a:Option (Value×Bool))(t:Nat)(v:Value):(LL n ρ d a).put (some t) v=LL n (aG ρ t v) d a:=by simp only [LL,Loc.put,tab_set]
theorem ll_put0(l:Loc)(v:Value):l.put none v=l:=rfl
theorem bI(n:Nat)(ρ:Nat->Value)(d:List Deferred)(a:Option (Value×Bool))(t:Nat)(h:t<n):(LL n ρ d a).ev (.tmp t)=ρ t:=by simp only [LL,Loc.ev,oD,if_pos h]
theorem ll_func(l:Loc)(f:Nat):l.ev (.func f)=.func (.func f) #[] #[]:=rfl
theorem ll_regs(n:Nat)(ρ:Nat->Value)(d:List Deferred)(a:Option (Value×Bool)):(LL n ρ d a).regs=tab n ρ:=rfl
def Then(x:Option (Ex×Loc×Hp))(K:Ex->Loc->Hp->Prop):Prop:= ∃e l h,x=some (e,l,h)/\K e l h
theorem i9{e:Ex}{l:Loc}{K:Ex->Loc->Hp->Prop}:Then (some (e,l,h)) K↔K e l h:=by
 constructor
 . intro⟨_,_,_,h1,a⟩;grind
 . intro a;exact⟨_,_,_,rfl,a⟩
abbrev gJ:=Ex->Loc->Hp->Prop
inductive Fr where
 |code (c:Code)
 |blk (id:Nat)
 |ops (all os:List Oper)
 |opsD (all:List Oper) (q:Nat) (ps:List (Nat×Nat)) (os:List Oper) (i:Nat) (tr:List (Nat×Tch))
 |kill (t:Tmp)
section
variable(E:Env)(R:Rec)(cx:Cx)(Q:gJ)
def Run:List Fr->Ex->Loc->Hp->Prop
 | [],e,l,h=>Q e l h| .code c::k,.normal,l,h=> ∃g d f,aR E R cx c l h=some (g,d,f)/\Run k g d f| .ops a m::k,.normal,l,h=> ∃g d f,jn E R cx a m l h=some (g,d,f)/\Run k g d f| .opsD a q n m i o::k,.normal,l,h=> ∃d f j,dI E R a q m i l h o=some (d,f,j)/\dQ j n=true/\Run k .normal d f| .kill t::k,.normal,l,h=> ∃b p c,l.ev (.tmp t)=.map (some b)/\h.get b=some (.map p c)/\Run k .normal l (h.put b .dead)| .blk _::k,.normal,l,h=>Run k .normal l h| .blk id::k,.exit i,l,h=>if i=id then Run k .normal l h else Run k (.exit i) l h
 |_::k,.exit i,l,h=>Run k (.exit i) l h|_::k,.ret,l,h=>Run k .ret l h|_::k,.pan v,l,h=>Run k (.pan v) l h
end
section
variable{E:Env}{R:Rec}{cx:Cx}{Q:gJ}{k:List Fr}{l:Loc}{h:Hp}
theorem run_nil{e:Ex}:Run E R cx Q [] e l h↔Q e l h:=Xl
theorem run_skip:Run E R cx Q (.code .skip::k) .normal l h↔Run E R cx Q k .normal l h:=by simp only [Run,aR];exact i9
theorem run_label:Run E R cx Q (.code (.label n)::k) .normal l h↔Run E R cx Q k .normal l h:=by simp only [Run,aR];exact i9
theorem run_seq{a b:Code}:Run E R cx Q (.code (.seq a b)::k) .normal l h↔Run E R cx Q (.code a:: .code b::k) .normal l h:=by
 simp only [Run,aR];constructor
 . intro⟨e',l',h',c,h2⟩;cases e:aR E R cx a l h with
   |none=>grind| some q=>
     obtain⟨x,f,d⟩:=q;rw [e]at c;refine⟨x,f,d,rfl,?_⟩;cases x with
     |normal=>exact⟨e',l',h',c,h2⟩|exit i=>cases c;exact h2
     |ret=>cases c;exact h2
     |pan v=>cases c;exact h2
 . intro⟨x,f,d,e,h2⟩;rw [e];cases x with
   |normal=>exact h2|exit i=>exact⟨_,_,_,rfl,h2⟩|ret=>exact⟨_,_,_,rfl,h2⟩|pan v=>exact⟨_,_,_,rfl,h2⟩
theorem run_block {id:Nat} {b:Code}:Run E R cx Q (.code (.block id b)::k) .normal l h↔Run E R cx Q (.code b:: .blk id::k) .normal l h:=by
 simp only [Run,aR];constructor
 . intro ⟨e',l',h',a,h2⟩;cases e:aR E R cx b l h with
   |none=>grind| some q=>
     obtain⟨x,f,c⟩:=q;rw [e]at a;refine⟨x,f,c,rfl,?_⟩;cases x with
     |normal=>cases a;exact h2
     | exit i=>
       simp only []at a;cases d:Xy i id with
       |true=>simp_all[Xg,Run,if_true]| false=>
         rw [d]at a;cases a;simp only [Run];rw [if_neg (by grind[Xr])];exact h2
     |ret=>cases a;exact h2
     |pan v=>cases a;exact h2
 . intro⟨x,f,c,e,h2⟩;rw [e];cases x with
   |normal=>exact⟨_,_,_,rfl,h2⟩| exit i=>
     simp only [Run]at h2;simp only [];by_cases d:i=id
     . subst d;rw [if_pos rfl]at h2;rw [Xr];grind
     . rw [if_neg d]at h2;have:Xy i id=false:=(by grind[Xy,id,absurd,Xg]);grind
   |ret=>exact⟨_,_,_,rfl,h2⟩|pan v=>exact⟨_,_,_,rfl,h2⟩
theorem run_scope{b:Code}:Run E R cx Q (.code (.scope b)::k) .normal l h↔Run E R cx Q (.code b::k) .normal l h:=Xl
theorem run_blk{id:Nat}:Run E R cx Q (.blk id::k) .normal l h↔Run E R cx Q k .normal l h:=Xl
theorem run_exit{id:Nat}:Run E R cx Q (.code (.exit id)::k) .normal l h↔Run E R cx Q k (.exit id) l h:=by simp only [Run,aR];exact i9
theorem run_ret:Run E R cx Q (.code .ret::k) .normal l h↔Run E R cx Q k .ret l h:=by simp only [Run,aR];exact i9
theorem CE{id:Nat}:Run E R cx Q (.blk id::k) (.exit i) l h↔if i=id then Run E R cx Q k .normal l h else Run E R cx Q k (.exit i) l h:=Xl
theorem AE{c:Code}:Run E R cx Q (.code c::k) (.exit i) l h↔Run E R cx Q k (.exit i) l h:=Xl
theorem Bj:Run E R cx Q (.ops a os::k) (.exit i) l h↔Run E R cx Q k (.exit i) l h:=Xl
theorem Er{f:Fr}:Run E R cx Q (f::k) .ret l h↔Run E R cx Q k .ret l h:=by cases f<;>exact Xl
theorem El{f:Fr}:Run E R cx Q (f::k) (.pan v) l h↔Run E R cx Q k (.pan v) l h:=by cases f<;>exact Xl
theorem run_cond{c:Operand}{a b:Code}:Run E R cx Q (.code (.cond c a b)::k) .normal l h↔ ∃t,l.ev c=.bool t/\if t=true then Run E R cx Q (.code a::k) .normal l h else Run E R cx Q (.code b::k) .normal l h:=by simp only [Run,aR];grind
theorem Eu{id:Nat}:Run E R cx Q (.code (.region id ops false)::k) .normal l h↔Run E R cx Q (.ops ops.toList ops.toList::k) .normal l h:=by rfl
theorem C8:Run E R cx Q (.ops a []::k) .normal l h↔Run E R cx Q k .normal l h:=by simp only [Run,jn];exact i9
theorem Ci:Run E R cx Q (.ops a (o::os)::k) .normal l h↔ ∃b,cV a l.regs o=some b/\
 (if b=true then Then (fu E R cx o l h) fun e l' h'=>Run E R cx Q (.ops a os::k) e l' h' else Run E R cx Q (.ops a os::k) .normal (l.put o.dst (.tuple #[])) h):=by
 simp only [Run,jn];constructor
 . intro ⟨e',l',h',d,c⟩;cases g:cV a l.regs o with
   |none=>grind| some b=>
     rw [g]at d;refine⟨b,rfl,?_⟩;cases b with
     |false=>grind| true=>
       rw [if_pos rfl];simp only []at d;cases j:fu E R cx o l h with
       |none=>grind| some q=>
         obtain⟨x,m,f⟩:=q;rw [j]at d;refine⟨x,m,f,rfl,?_⟩;cases x with
         |normal=>exact⟨e',l',h',d,c⟩|exit i=>cases d;exact c
         |ret=>cases d;exact c
         |pan v=>cases d;exact c
 . intro⟨b,g,c⟩;rw [g];cases b with
   |false=>grind| true=>
     rw [if_pos rfl]at c;obtain⟨x,m,f,j,c⟩:=c;simp only [j];cases x with
     |normal=>exact c|exit i=>exact⟨_,_,_,rfl,c⟩|ret=>exact⟨_,_,_,rfl,c⟩|pan v=>exact⟨_,_,_,rfl,c⟩
theorem run_draw{id:Nat}(a:E.cut cx.fn=false)(b:c8 ops.toList=os)(c:lS E os=some (q,ps)):Run E R cx Q (.code (.region id ops true)::k) .normal l h↔Run E R cx Q (.opsD os q ps os 0 []::k) .normal l h:=by simp only [Run,aR,cond_true,a,cond_false,b,c];grind
theorem run_split{id:Nat}(a:E.cut cx.fn=true)(b:lI ops.toList (ops.toList.length-1)=true)(hf:forkOk E ops.toList=false)(c:cutN ops.toList=n)(d:c8 (ops.toList.take n)=os)(e:lS E os=some (q,ps))
 (f:Run E R cx Q (.opsD os q ps os 0 []:: .ops ops.toList (ops.toList.drop n)::k) .normal l h):Run E R cx Q (.code (.region id ops true)::k) .normal l h:=by
 obtain⟨o,p,g,i,j,r,s,t,m,u⟩:=f;simp only [Run,aR,cond_true,a,cutD,uq,b,c,d,e,i,j];grind
theorem BU{b:List (Nat×Tch)}:Run E R cx Q (.opsD a q ps [] i b::k) .normal l h↔dQ b ps=true/\Run E R cx Q k .normal l h:=by simp only [Run,dI];grind
theorem AF{c:List (Nat×Tch)}:Run E R cx Q (.opsD a q ps (o::os) i c::k) .normal l h↔ ∃b,cV a l.regs o=some b/\
 (if b=true then∃v h',du E R (l.evD (tmpsOf o.op.operands.toList)) (gQ E q i o.op) o h=some (v,h')/\
     Run E R cx Q (.opsD a q ps os (i+1) (jm i c (df (l.evD (tmpsOf o.op.operands.toList)) (gQ E q i o.op) o.op h h'))::k) .normal (l.put o.dst v) h'
   else Run E R cx Q (.opsD a q ps os (i+1) c::k) .normal (l.put o.dst (.tuple #[])) h):=by
 simp only [Run,dI];grind
end
noncomputable def envOf(a:Tr Func)(b:Tr TypeInfo)(c:List Nat):Env:={fn:=fun f=>a.get f,ty:=fun t=>b.get t,eqok:=fun t=>memb t c}
theorem AK{b:Func}(hf:P.funcs[f]? =some b)(e:b.body.isSome=true)(c:(b.name== "runtime.NumGoroutine")=false)(args:Array Value)(w:World):
 (callFunc f args).run P w=.ok (.enter f args) w:=by
 have a:b.body.isNone=false:=by cases h:b.body<;>simp_all
 unfold callFunc;have d:program.run P w=.ok P w:=rfl;simp only [Sem.run_bind,d,Result.andThen_ok,hf,c,a,Bool.false_eq_true,if_false,Sem.run_pure]
theorem eok_of{fns:Tr Func}{tys:Tr TypeInfo}{eqs:List Nat}(h1:fns=Tr.ofList P.funcs.toList)(h2:tys=Tr.ofList P.types.toList)
 (h3:(P.funcs.toList.all fun fn=>fn.body.isNone|| !(fn.name== "runtime.NumGoroutine"))=true) (h4:(eqs.all fun t=>!P.stoodInHeld t&& !P.eqGuardType P.depth t)=true)
 (h5:P.follows .mixedOrders=true):EOk (envOf fns tys eqs) P where
 fn:=by intro f fn h;have h':fns.get f=some fn:=h;rw [h1,Tr.get_ofList]at h';simpa using h'
 call:=by
  intro f fn args w h hb;have h':fns.get f=some fn:=h;rw [h1,Tr.get_ofList]at h';have hm:=Xu h';have:=(List.all_eq_true.1 h3) fn hm;refine AK (by simpa using h') hb ?_ args w;cases hn:(fn.name== "runtime.NumGoroutine")with
  |false=>rfl|true=>rw [hn]at this;cases hx:fn.body<;>simp_all
 ty:=by
  intro t i h;have h':tys.get t=some i:=h;rw [h2,Tr.get_ofList]at h';show P.toTables.info? t=some i;have hk:P.types[t]? =some i:=by simpa using h'
  unfold Tables.info?;rw [if_pos (Array.getElem?_eq_some_iff.1 hk).1];exact hk
 eq:=by intro t h;have hm:t∈eqs:=(pK t eqs).1 h;have:=(List.all_eq_true.1 h4) t hm;simp only [Xd,Xi]at this;exact this
 mixed:=h5
 orc:=by intro g args v h;cases h
noncomputable def yU(E:Env)(o:Nat->List Value->Option Value):Env:={E with orc:=o}
noncomputable def withCut(E:Env)(c:Nat->Bool):Env:={E with cut:=c}
theorem eok_cut(ok:EOk E P)(c:Nat->Bool):EOk (withCut E c) P where
 fn:=ok.fn
 call:=ok.call
 ty:=ok.ty
 eq:=ok.eq
 mixed:=ok.mixed
 orc:=ok.orc
theorem eok_with(ok:EOk E P){o:Nat->List Value->Option Value}(ho: ∀g args v,o g args=some v->(∃fn,E.fn g=some fn/\fn.body.isSome=true)/\OrcAt P g args v):EOk (yU E o) P where
 fn:=ok.fn
 call:=ok.call
 ty:=ok.ty
 eq:=ok.eq
 mixed:=ok.mixed
 orc:=ho
section
open Go.ChangeShapes Go.WideShapes
variable{H:Type}{enc:TypeId×Value->H}{P:Program}
end
def eS(E:Env)(f:FuncId)(args:List Value)(c:Option (Value×Bool))(h:Hp)(Q:Out->Option (Value×Bool)->Hp->Prop):Prop:= ∃o a b,(lim E).call f args c h=some (o,a,b)/\Q o a b
def Ret(E:Env)(f:FuncId)(args:List Value)(h:Hp)(Q:Value->Hp->Prop):Prop:= ∃v a,(lim E).call f args none h=some (.ret v,none,a)/\Q v a
theorem Ret.mono{Q c:Value->Hp->Prop}(k: ∀v h',Q v h'->c v h')(r:Ret E f args h Q):Ret E f args h c:=by obtain⟨v,h',a,b⟩:=r;exact⟨v,h',a,k v h' b⟩
def m8(E:Env)(b:Nat)(args:List Value)(h:Hp)(Q:Out->Hp->Prop):Prop:= ∃o a,kC E (lim E) b args h=some (o,a)/\Q o a
section
variable(E:Env)(cx:Cx)(o:Oper)(l:Loc)(K:Ex->Loc->Hp->Prop)
def hZ:Option (dT×Hp)->Prop
 |some (.val v,a)=>K .normal (l.put o.dst v) a|some (.skip,a)=>K .normal (l.put o.dst (.tuple #[])) a| some (.call f c,a)=>eS E f c none a fun x _ e=>match x with
   | .ret v=>K .normal (l.put o.dst v) e| .pan v=>K (.pan v) l e
 | some (.yield b c,a)=>m8 E b c a fun x e=>match x with
   | .ret v=>K .normal (l.put o.dst v) e| .pan v=>K (.pan v) l e
 |some (.panic v,a)=>K (.pan v) l a| some (.recov,a)=>cx.round=none/\match l.rc with
   |some (v,false)=>K .normal (({l with rc:=some (v,true)}:Loc).put o.dst v) a
   |_=>K .normal (l.put o.dst .nilIface) a
 |some (.defer d,a)=>cx.round=none/\K .normal (({l with dfs:=d::l.dfs}:Loc).put o.dst (.tuple #[])) a
 |none=>False
end
section
variable{E:Env}{cx:Cx}{o:Oper}{l:Loc}{K:Ex->Loc->Hp->Prop}{h:Hp}
theorem then_step:Then (fu E (lim E) cx o l h) K↔hZ E cx o l K (aop E l.ev h o.op):=by
 unfold fu;cases p:aop E l.ev h o.op with
 | none=>
   simp only [hZ,dH,pU];exact⟨fun⟨_,_,_,i,_⟩=>(by cases i),fun h=>h.elim⟩
 | some q=>
   obtain⟨m,i⟩:=q;cases m with
   |val v=>exact i9|skip=>exact i9|panic v=>exact i9| call f g=>
     simp only [hZ,dH,eS];constructor
     . intro⟨e,l',h',a,b⟩;cases j:(lim E).call f g none i with
       |none=>rw [j]at a;cases a
       | some q=>
         obtain⟨x,n,k⟩:=q;rw [j]at a;cases x<;>(cases a;grind)
     . intro⟨x,n,k,a,b⟩;rw [a];cases x<;>exact⟨_,_,_,rfl,b⟩
   | yield b g=>
     simp only [hZ,dH,m8];constructor
     . intro⟨e,l',h',a,c⟩;cases j:kC E (lim E) b g i with
       |none=>rw [j]at a;cases a
       | some q=>
         obtain⟨x,k⟩:=q;rw [j]at a;cases x<;>(cases a;grind)
     . intro⟨x,k,a,c⟩;rw [a];cases x<;>exact⟨_,_,_,rfl,c⟩
   | recov=>
     simp only [hZ];cases cx.round with
     |some r=>simp only [];exact⟨fun⟨_,_,_,i,_⟩=>(by cases i),fun h=>(by cases h.1)⟩
     | none=>simp only [true_and];grind[i9]
   | defer d=>
     simp only [hZ];cases cx.round with
     |some r=>simp only [];exact⟨fun⟨_,_,_,i,_⟩=>(by cases i),fun h=>(by cases h.1)⟩
     |none=>simp only [true_and];exact i9
theorem AB:hZ E cx o l K (some (.val v,h))↔K .normal (l.put o.dst v) h:=Xl
theorem zi:hZ E cx o l K (some (.skip,h))↔K .normal (l.put o.dst (.tuple #[])) h:=Xl
theorem yB:hZ E cx o l K (some (.panic v,h))↔K (.pan v) l h:=Xl
theorem step_ret{Q:Value->Hp->Prop}(c:Ret E f args h Q)(d: ∀v h',Q v h'->K .normal (l.put o.dst v) h'):hZ E cx o l K (some (.call f args,h)):=by obtain⟨v,h',a,b⟩:=c;exact⟨.ret v,none,h',a,d v h' b⟩
end
def qz(E:Env)(rs:List ResultVar)(Q:Out->Option (Value×Bool)->Hp->Prop):gJ
 | .exit _,_,_=>False| .pan v,l,h=> ∃m a,cF (lim E) l.dfs (some v) h=some (m,a)/\match m with
   |some v=>Q (.pan v) l.rc a|none=> ∃b,bU E l.regs a rs=some b/\Q (.ret (ab b)) l.rc a
 | .normal,l,h=> ∃a,cF (lim E) l.dfs none h=some (none,a)/\ ∃b,bU E l.regs a rs=some b/\Q (.ret (ab b)) l.rc a| .ret,l,h=> ∃a,cF (lim E) l.dfs none h=some (none,a)/\ ∃b,bU E l.regs a rs=some b/\Q (.ret (ab b)) l.rc a
theorem enter{k:Func}{body:Code}{rs:List ResultVar}{o:Option (Value×Bool)}{Q:Out->Option (Value×Bool)->Hp->Prop}
 (r:E.orc f args=none) (hf:E.fn f=some k) (s:k.body=some body) (t:k.ntmps=n) (p:k.results.toList=rs) (hle:args.length<=n)
 (u:Run E (lim E) ⟨f,n,none⟩ (qz E rs Q) [.code body] .normal (LL n (cZ args) [] o) h):eS E f args o h Q:=by
 obtain⟨e,l,w,x,j⟩:=u;simp only [Run]at j;unfold eS;rw [call_eq];unfold jK;rw [r];simp only [];unfold mg;rw [hf];simp only [];rw [s];simp only [];rw [t,Xh hle];simp only [cond_true];rw [args_tab hle];have g:(lim E).code ⟨f,n,none⟩ body ⟨tab n (cZ args),[],o⟩ h=some (e,l,w):=by rw [y8];exact x
 rw [g,p];cases e with
 |exit i=>exact j.elim| pan v=>
   obtain⟨m,q,a,b⟩:=j;grind
 |normal=>obtain⟨q,a,y,c,d⟩:=j;grind
 |ret=>obtain⟨q,a,y,c,d⟩:=j;grind
def RetQ(Q:Value->Hp->Prop):Out->Option (Value×Bool)->Hp->Prop
 | .ret v,none,h=>Q v h|_,_,_=>False
theorem ret_of{Q:Value->Hp->Prop}(hq:eS E f args none h (RetQ Q)):Ret E f args h Q:=by
 obtain⟨o,c,d,a,b⟩:=hq;cases o with
 |pan v=>exact b.elim| ret v=>cases c with
   |none=>exact⟨v,d,a,b⟩|some y=>exact b.elim
theorem aa{a:Func}{body:Code}{rs:List ResultVar}{Q:Value->Hp->Prop}
 (c:E.orc f args=none) (hf:E.fn f=some a) (d:a.body=some body) (e:a.ntmps=n) (b:a.results.toList=rs) (hle:args.length<=n)
 (g:Run E (lim E) ⟨f,n,none⟩ (qz E rs (RetQ Q)) [.code body] .normal (LL n (cZ args) [] none) h):Ret E f args h Q:=ret_of (enter c hf d e b hle g)
theorem ret_orc{Q:Value->Hp->Prop}(a:E.orc f args=some v)(hq:Q v h):Ret E f args h Q:=by refine⟨v,h,?_,hq⟩;rw [call_eq];unfold jK;rw [a]
section
variable{E:Env}{rs:List ResultVar}{Q:Value->Hp->Prop}{n:Nat}{ρ:Nat->Value}{h:Hp}
theorem zR:qz E rs (RetQ Q) .ret (LL n ρ [] none) h↔ ∃vs,bU E (tab n ρ) h rs=some vs/\Q (ab vs) h:=by
 simp only [qz,LL,cF];constructor
 . intro⟨h',a,b⟩;cases a;exact b
 . intro b;exact⟨h,rfl,b⟩
theorem BX:qz E rs (RetQ Q) .normal (LL n ρ [] none) h↔ ∃vs,bU E (tab n ρ) h rs=some vs/\Q (ab vs) h:=zR
theorem bQ{P:List Value->Prop}:(∃vs,bU E (tab n ρ) h []=some vs/\P vs)↔P []:=by simp only [bU];grind
theorem dK{t:Tmp}{P:List Value->Prop}(a:t<n):(∃vs,bU E (tab n ρ) h (.tmp t::rs)=some vs/\P vs)↔ ∃vs,bU E (tab n ρ) h rs=some vs/\P (ρ t::vs):=by simp only [bU,oD,if_pos a];grind
theorem aZ{t:Tmp}{ty:TypeId}{P:List Value->Prop}(a:t<n)(b:gw E h ty (ρ t)=some v):(∃vs,bU E (tab n ρ) h (.cell t ty::rs)=some vs/\P vs)↔ ∃vs,bU E (tab n ρ) h rs=some vs/\P (v::vs):=by simp only [bU,oD,if_pos a,b];grind
end
structure Gr(h h':Hp):Prop where
 ok0:OZ h
 ok:OZ h'
 n:h.n<=h'.n
 get: ∀b,b<h.n->h'.get b=h.get b
 lo: ∀x,x<=h.n->x<=h.lo->x<=h'.lo
theorem Gr.refl(a:OZ h):Gr h h:=⟨a,a,Xa _,fun _ _=>rfl,fun _ _ h=>h⟩
theorem Gr.trans{a b c:Hp}(x:Gr a b)(y:Gr b c):Gr a c:=
 ⟨x.ok0,y.ok,Xt x.n y.n,fun i d=>(y.get i (Xb d x.n)).trans (x.get i d),fun i e f=>y.lo i (Xt e x.n) (x.lo i e f)⟩
theorem new_ok(a:OZ h)(x:Blk):(h.new x).t.Sized (h.new x).n:=Tr.sized_push x a
theorem put_ok(a:OZ h)(b:Nat)(x:Blk):(h.put b x).t.Sized (h.put b x).n:=Tr.sized_set b x a
theorem Gr.new{h:Hp}(a:OZ h)(x:Blk):Gr h (h.new x):=
 ⟨a,new_ok a x,Nat.le_succ _,fun b c=>by rw [h.get_new x a,if_neg (by omega)],fun _ _ h=>h⟩
theorem iF(a:OZ h){x:Blk}(e:h.get b=some x):b<h.n:=(a b).1 (by show(h.get b).isSome=true;rw [e];rfl)
theorem Gr.at(g:Gr h h'){x:Blk}(e:h.get b=some x):h'.get b=some x:=by rw [g.get b (iF g.ok0 e)];exact e
theorem bD(a:OZ h){o:Nat}(e:h.load b o n=some l):b<h.n:=by
 unfold Hp.load at e
 split at e
 next c=>exact iF a c
 next=>cases e
theorem Gr.load{h h':Hp}(g:Gr h h'){b o n:Nat}{l:List Value}(e:h.load b o n=some l):h'.load b o n=some l:=by have:=g.get b (bD g.ok0 e);grind[Hp.load]
theorem Gr.hlo(g:Gr {h with lo:=h.n} h'):XF h.n h'.lo=true:=Xh (g.lo h.n (Xa _) (Xa _))
def Row(h:Hp)(b:Nat)(l:List Value)(md:Nat):Prop:= ∃t a,h.get b=some (.cells t l.length a md)/\t.Sized l.length/\ ∀i:Nat,t.get i=l[i]?
theorem Row.gr(g:Gr h h')(r:Row h b l md):Row h' b l md:=by obtain⟨t,d,a,b,c⟩:=r;exact⟨t,d,g.at a,b,c⟩
theorem Row.lt(c:OZ h)(r:Row h b l md):b<h.n:=by obtain⟨t,d,a,_,_⟩:=r;exact iF c a
theorem Cw{a:Type}{t:Tr a}{l:List a}(b: ∀i:Nat,t.get i=l[i]?): ∀(n o:Nat),o+n<=l.length->t.slice o n=some ((l.drop o).take n)
 |0,o,_=>by simp [Tr.slice]| n+1,o,h=>by simp only [Tr.slice];have:l[o]? =some l[o]:=Xe (by omega);rw [b o,this,Cw b n (o+1) (by omega)];simp only [];congr 1;rw [show List.drop o l=l[o]::List.drop (o+1) l from XB (by omega)];rfl
theorem Row.load{h:Hp}{b:Nat}{l:List Value}{md:Nat}(r:Row h b l md){o n:Nat}(d:o+n<=l.length):h.load b o n=some ((l.drop o).take n):=by obtain⟨t,e,a,_,c⟩:=r;grind[Hp.load,Xh,Cw]
theorem Row.load1(r:Row h b l md){o:Nat}(a:l[o]? =some v):h.load b o 1=some [v]:=by have hlt:=(List.getElem?_eq_some_iff.1 a).1;rw [r.load (by omega)];grind[XB,XA]
theorem qY(a:OZ h)(l:List Value)(el md:Nat):Row (h.new (.cells (Tr.ofList l) l.length el md)) h.n l md:=
 ⟨Tr.ofList l,el,by rw [h.get_new _ a,if_pos rfl],Tr.sized_ofList l,fun i=>Tr.get_ofList l i⟩
def lay(l:List Value)(o:Nat)(vs:List Value):List Value:=l.take o++vs++l.drop (o+vs.length)
theorem qN{o:Nat}{vs:List Value}(h:o+vs.length<=l.length):(lay l o vs).length=l.length:=by simp [lay];omega
theorem lz{o:Nat}{vs:List Value}(h:o+vs.length<=l.length)(i:Nat):(lay l o vs)[i]? =if o<=i/\i<o+vs.length then vs[i-o]? else l[i]? :=by
 unfold lay;by_cases a:i<o
 . grind
 grind
theorem Row.store{h:Hp}(j:OZ h){b:Nat}{l:List Value}{md:Nat}(r:Row h b l md)(g:md≠0){o:Nat}{vs:List Value}(e:o+vs.length<=l.length)(k:vs.all mN=true):
 ∃x,h.store b o vs=some (h.put b x)/\Row (h.put b x) b (lay l o vs) md:=by
 obtain⟨t,f,a,d,c⟩:=r;refine⟨.cells (t.setAll o vs) l.length f md,?_,?_⟩
 . grind[Hp.store,Xy,absurd,Xg,Xh]
 . refine⟨t.setAll o vs,f,?_,?_,fun i=>?_⟩
   . rw [Hp.get_put,if_pos ⟨rfl,by rw [a];rfl⟩,qN e]
   . rw [qN e];exact Tr.sized_setAll o vs d
   grind[Tr.get_setAll,lz]
theorem pop_ext{d:Operand->Value}(e: ∀x∈op.operands.toList,ρ x=d x):pop E ρ op=pop E d op:=by
 cases op
 case build t g=>grind[pop,Xk,Op.operands]
 case makeFunc f a b=>
  cases f<;>(try rfl);grind[pop,Array.map_congr_left,Op.operands]
 case slice t x l h m=>
  simp only [pop];have i:=e x (by simp [Op.operands]);have j:l.map ρ=l.map d:=by cases l with|none=>rfl|some y=>simp [e y (by simp [Op.operands])]
  have k:h.map ρ=h.map d:=by cases h with|none=>rfl|some y=>simp [e y (by simp [Op.operands])]
  have n:m.map ρ=m.map d:=by cases m with|none=>rfl|some y=>simp [e y (by simp [Op.operands])]
  grind
 case call c=>
  have o:c.args.toList.map ρ=c.args.toList.map d:=by grind[Xk,Op.operands,Call.operands]
  grind[pop,invoke,builtin,List.mem_cons_self,Op.operands,Call.operands]
 all_goals (try rfl)
 all_goals first
  |(unfold Op.operands at e;simp at e;simp only [pop];simp [e];done)
  |(simp only [pop];done)
  |(cases ‹Fn› <;>simp only [pop];done)
theorem uV{a:Operand->Value}(e: ∀x∈op.operands.toList,ρ x=a x):aop E ρ h op=aop E a h op:=by
 have d:=pop_ext (E:=E) e;cases op
 case buildSlice t n j=>grind[aop,Xk,Op.operands]
 case makeMap t r=>cases r<;>simp only [aop,d]
 case call c=>
  have i:c.args.toList.map ρ=c.args.toList.map a:=by grind[Xk,Op.operands,Call.operands]
  have k: ∀x∈c.args.toList,ρ x=a x:=by simp_all
  cases g:c.callee with
  | value f=>grind[hf,Op.operands,Call.operands,aop]|invoke r n=>simp only [aop,g]| builtin b=>
    cases b<;>simp only [aop,g,d]<;>(try rfl)
    all_goals grind
 case defer c=>
  have i:c.args.toList.map ρ=c.args.toList.map a:=by grind[Xk,Op.operands,Call.operands]
  grind[hf,Op.operands,Call.operands,aop,invoke,builtin]
 all_goals first
  |(simp only [aop];done)
  |(simp only [aop,d];done)
  |(unfold Op.operands at e;simp at e;simp only [aop,e];done)
theorem touch_ext{a:Operand->Value}(e: ∀x∈op.operands.toList,ρ x=a x):touch ρ op=touch a op:=by
 cases op
 case call c=>grind[touch,Op.operands,Call.operands]
 all_goals first
  |rfl
  |(unfold Op.operands at e;simp at e;simp only [touch,e];done)
  |(simp only [touch];done)
theorem vq(l:Loc)(op:Op): ∀x∈op.operands.toList,l.evD (tmpsOf op.operands.toList) x=l.ev x:=by
 intro x a;cases x with
 | tmp t=>grind[Loc.evD,pK,tH]|_=>rfl
def l9(E:Env)(K:Value->Hp->Prop):Option (dT×Hp)->Prop
 |some (.val v,c)=>K v c|some (.skip,c)=>K (.tuple #[]) c| some (.call f a,c)=>eS E f a none c fun x _ d=>match x with
   | .ret v=>K v d| .pan _=>False
 | some (.yield b a,c)=>m8 E b a c fun x d=>match x with
   | .ret v=>K v d| .pan _=>False
 |_=>False
theorem opVal_n{x:Option (dT×Hp)}{K:Value->Hp->Prop}:(∃v h',dH E (lim E) x=some (.ret v,h')/\K v h')↔l9 E K x:=by
 cases x with
 |none=>exact⟨fun⟨_,_,a,_⟩=>(by cases a),fun h=>h.elim⟩
 | some q=>
   obtain⟨e,g⟩:=q;cases e with
   |val v=>exact⟨fun⟨_,_,a,b⟩=>(by cases a;exact b),fun h=>⟨_,_,rfl,h⟩⟩
   |skip=>exact⟨fun⟨_,_,a,b⟩=>(by cases a;exact b),fun h=>⟨_,_,rfl,h⟩⟩
   |panic v=>exact⟨fun⟨_,_,a,_⟩=>(by cases a),fun h=>h.elim⟩
   |recov=>exact⟨fun⟨_,_,a,_⟩=>(by cases a),fun h=>h.elim⟩
   |defer d=>exact⟨fun⟨_,_,a,_⟩=>(by cases a),fun h=>h.elim⟩
   | call f c=>simp only [l9,dH,eS];grind| yield b c=>grind[l9,dH,m8]
theorem stepD_iff{l:Loc}{a:Bool}{K:Value->Hp->Prop}:(∃v h',du E (lim E) (l.evD (tmpsOf o.op.operands.toList)) a o h=some (v,h')/\K v h')↔
 (if a=true then l9 E (fun v h'=>XF h.n h'.lo=true/\K v {h' with lo:=h.lo}) (aop E l.ev {h with lo:=h.n} o.op)else l9 E K (aop E l.ev h o.op)):=by
 have e:=vq l o.op;unfold du;cases a with
 | false=>rw [if_neg (by simp)];simp only [cond_false];rw [uV e,<-opVal_n];grind| true=>rw [if_pos rfl];simp only [cond_true];rw [uV e,<-opVal_n];grind
theorem DI{a:Operand->Value}{b:Bool}(e: ∀x∈op.operands.toList,ρ x=a x):df ρ b op h h'=df a b op h h':=by unfold df lq;rw [touch_ext e]
theorem run_opsD{cx:Cx}{Q:gJ}{k:List Fr}{l:Loc}{c:List (Nat×Tch)}:Run E (lim E) cx Q (.opsD a q ps (o::os) i c::k) .normal l h↔ ∃b,cV a l.regs o=some b/\
 (if b =true then(if gQ E q i o.op=true then
       l9 E (fun v h'=>XF h.n h'.lo=true/\Run E (lim E) cx Q (.opsD a q ps os (i+1) (jm i c (df l.ev true o.op h h))::k) .normal (l.put o.dst v) {h' with lo:=h.lo}) (aop E l.ev {h with lo:=h.n} o.op)
     else l9 E (fun v h'=>Run E (lim E) cx Q (.opsD a q ps os (i+1) (jm i c (df l.ev false o.op h h'))::k) .normal (l.put o.dst v) h') (aop E l.ev h o.op))
   else Run E (lim E) cx Q (.opsD a q ps os (i+1) c::k) .normal (l.put o.dst (.tuple #[])) h):=by
 rw [AF];simp only [DI (vq l o.op),stepD_iff];cases gQ E q i o.op with
 | true=>rfl|false=>exact Xl
theorem uu{K:Value->Hp->Prop}{Q:Value->Hp->Prop}(c:Ret E f args h Q)(d: ∀v h',Q v h'->K v h'):l9 E K (some (.call f args,h)):=by obtain⟨v,h',a,b⟩:=c;exact⟨.ret v,none,h',a,d v h' b⟩
end Go.Ab

/- A deterministic evaluator of the model's code, and that the model follows it (part 4). -/
import Derived.Test.YtddjlflghenhkaaGreatDoorKabC
import Derived.Orders
open Array renaming getElem?_eq_getElem->zM,getD_eq_getD_getElem?->zO,replicate->Xa,getElem?_toList->Xh,getElem?_push->Xl,getElem?_replicate->Xt,all_eq_true'->XD,getElem?_eq_none->XK
open Bool renaming and_eq_true->Xb,not_eq_true'->Xi
open Nat renaming eq_of_beq_eq_true->Xc,lt_of_lt_of_le->Xd,le_refl->Xe,beq_refl->Xj,lt_trichotomy->Xo,zero_add->Xs,zero_le->Xv,lt_or_ge->Xz,min_eq_left->XB,beq->XC,le_trans->XO
open List renaming mem_cons_of_mem->Xf,mem_of_getElem?->Xg,getElem?_eq_getElem->Xk,mem_cons_self->Xm,mem_range->Xp,all_eq_true->Xq,getElem?_append_right->Xr,getElem?_cons_succ->Xu,cons_append->Xy,mem_filter->XA,map_cons->XE,getElem?_eq_some_iff->XF,length_take->XH,append_nil->XI,nil_append->XJ,range'->XL,getElem?_toArray->XM,mem_map->XP,map_map->XQ
open Option renaming map_some->Xn,bind_some->Xw,getD_some->Xx,map->XG
open Prod renaming fst->XN
set_option maxHeartbeats 400000
set_option linter.defProp false
set_option linter.unusedVariables false
set_option linter.unusedSimpArgs false
namespace Go.Ab
variable{b c i n p:Nat}
variable{l:Loc}
variable{k v:Value}
variable{o:Oper}
variable{S:Nat->Bool}
variable{mu:Mu}
variable{ρ:Operand->Value}
variable{h h':Hp}
variable{w:World}
variable{f:FuncId}
variable{ops:Array Oper}
variable{σ:Nat->Nat}
variable{E:Env}
variable{R:Rec}
variable{ty:TypeId}
variable{os:List Oper}
variable{P:Program}
section
variable(E:Env)(ops:Array Oper)(q:Nat)(L:Nat->Loc)(H:Nat->Hp)(X:Nat->Bool)(nr:Nat)(mu0:Mu)(w0:World)
def AtC(S:Nat->Bool)(c:Nat):Prop:=c<=ops.size/\(c=ops.size\/ ∃o,ops[c]? =some o/\isW E X q o c/\S c=false)/\ ∀(i:Nat) o,i<c->ops[i]? =some o->isW E X q o i->S i=true
def RegsAt(S:Nat->Bool)(mu:Mu)(tmps:Array Value):Prop:= ∀(i:Nat),i<=ops.size-> ∀(t:Tmp) v,(∀(p:Nat) (o:Oper),ops[p]? =some o->o.dst=some t->(p<i↔S p=true))->
 (L i).regs.get t=some v-> ∃a,tmps[t]? =some a/\aw mu v a
structure Inv(S:Nat->Bool)(mu:Mu)(w:World)(tmps:Array Value):Prop where
 c: ∃c,AtC E ops q X S c/\bg mu (H c) w
 glob:ni mu
 non: ∀p,p<ops.size->S p=false-> ∀b,(H p).n<=b->b<(H (p+1)).n->mu b=.none
 size:tmps.size=nr
 regs:RegsAt ops L S mu tmps
 ext:WExt mu0 (H 0) w0 mu w
 cov: ∀p,p<ops.size->S p=true-> ∀b,(H p).n<=b->b<(H (p+1)).n->mu b≠ .none
end
def me(S:Nat->Bool)(p:Nat):Nat->Bool:=fun i=>if i=p then true else S i
theorem gb(S:Nat->Bool)(p:Nat):me S p p=true:=by simp [me]
theorem cq(S:Nat->Bool)(h:i≠p):me S p i=S i:=by simp [me,h]
section
variable{E:Env}{R:Rec}{ops:Array Oper}{q:Nat}{ps:List (Nat×Nat)}{M:List Nat}{L:Nat->Loc}{H:Nat->Hp}{T:Nat->Option Nat}{X:Nat->Bool}(D:DT E R ops q ps M L H T X)
theorem pj{d:Option Tmp}{t:Tmp}(h:d≠some t):(l.put d v).regs.get t=l.regs.get t:=by
 cases d with
 |none=>rfl| some d=>show(l.regs.set d v).get t=_;simp_all[Tr.get_set,if_neg]
include D in
theorem tM{j:Nat}(b:ops[j]? =some o){t:Tmp}(h:o.dst≠some t):(L (j+1)).regs.get t=(L j).regs.get t:=by
 have a:=D.step j o b;generalize L (j+1)=e at a;generalize H (j+1)=f at a;generalize T j=g at a;generalize X j=i at a;cases a with
 |skip c=>exact pj h|exec c d=>exact pj h
include D in
theorem pW{e:Mu}{tmps:Array Value}{r:Nat}(z:Down ops S)(s:ops[p]? =some o)(A:Ready o S)(B:S p=false)(C:Le mu e)(k:tmps.size=r)(l:(L p).regs.Sized r)
 {v':Value} (Q:aw e v v') (F:L (p+1)=(L p).put o.dst v) (f:RegsAt ops L S mu tmps):RegsAt ops L (me S p) e (iA tmps o.dst v'):=by
 intro i G t u g m;by_cases n:o.dst=some t
 . have I:p<i:=(g p o s n).2 (gb S p);have b:t∈lG ops.toList o:=(by unfold lG;rw [n];simp);have J:=xQ D z s A B b;have h:(L i).regs.get t=(L (p+1)).regs.get t:=by
    have:=walk_eq (fun j=>(L j).regs.get t) (a:=p+1) (i-(p+1)) (fun j w x=>by
     have U:j<i:=(by omega);grind[zM,cq,tM])
    grind
   rw [h,F,n]at m;have c:((L p).regs.set t v).get t=some u:=m;rw [Tr.get_set]at c;cases y:(L p).regs.get t with
   |none=>grind| some V=>rw [y]at c;simp at c;subst c;have:t<tmps.size:=(by rw [k];exact(l t).1 (by rw [y];rfl));grind[iA]
 . obtain⟨K,w,x⟩:=f i G t u (fun j W N O=>by
    grind[cq]) m
   refine⟨K,?_,x.mono C⟩;cases P:o.dst with
   |none=>exact w| some d=>show(tmps.setIfInBounds d v')[t]? =_;grind
theorem qj(tmps:Array Value)(d:Option Tmp)(v:Value):(iA tmps d v).size=tmps.size:=by cases d<;>simp [iA]
end
theorem next_W{E:Env}{ops:Array Oper}{q:Nat}{X:Nat->Bool}: ∀(d c:Nat),c+d=ops.size-> ∃c',c<=c'/\c'<=ops.size/\(c'=ops.size\/ ∃o,ops[c']? =some o/\isW E X q o c')/\ ∀i o,c<=i->i<c'->ops[i]? =some o-> ¬isW E X q o i
 |0,c,h=>⟨c,Xe _,by omega,.inl (by omega),fun i o b e=>by omega⟩
 | d +1,c,h=>by
   obtain⟨a,f⟩: ∃a,ops[c]? =some a:=⟨_,zM (xs:=ops) (i:=c) (by omega)⟩;by_cases g:isW E X q a c
   . exact⟨c,Xe _,by omega,.inr ⟨_,f,g⟩,fun i o b e=>by omega⟩
   . obtain⟨c',b,e,j,k⟩:=next_W (E:=E) (ops:=ops) (q:=q) (X:=X) d (c+1) (by omega);grind
section
variable{E:Env}{P:Program}(ok:EOk E P){R:Rec}(hc:iM E P R.call)(hcode:jW P R.code)
variable{ops:Array Oper}{q:Nat}{ps:List (Nat×Nat)}{M:List Nat}{L:Nat->Loc}{H:Nat->Hp}{T:Nat->Option Nat}{X:Nat->Bool}(D:DT E R ops q ps M L H T X)
variable{nr:Nat}{mu0:Mu}{w0:World}
include D in
theorem DJ (dz: ∀j o,j<ops.size->ops[j]? =some o->Turn ops E X q H T j o)   (V:ops[n]? =some o) (W:cls E o.op=2) (F:qg ops.toList o n i=true)  (Y:touch ((L n).evD (tmpsOf o.op.operands.toList)) o.op=some b):(H (i+1)).n<=b:=by
 have hn:=(Array.getElem?_eq_some_iff.1 V).1;unfold qg at F;cases u:mapArg o.op with
 |none=>grind| some t=>
   rw [u]at F;simp only [List.any_eq_true,Xp,Xb,Xq,Bool.or_eq_true,Xi]at F;obtain⟨k,hk,w,f,y⟩:=F;have w:i<k:=(by simp_all);have l:ops[k]? =some ops[k]:=zM (by omega);unfold atIs at f;rw [Xh,l]at f;simp only [Xb]at f;have I: ∀{p:Oper},tZ t p=true->p.dst=some t:=(by grind[tZ,Xc]);have Z:=I f.2
   -- what the temporary holds at n
   have J:(L n).regs.get t=(L (k+1)).regs.get t:=by
    have:=walk_eq (fun j=>(L j).regs.get t) (a:=k+1) (n-(k+1)) (fun j h1 W=>by
     have K:ops[j]? =some ops[j]:=zM (by omega);refine tM D K fun hd=>?_;rcases y j (by omega)with x|x
     . have:=Nat.le_of_ble_eq_true x;omega
     grind[atIs,tZ,Xj])
    grind
   -- what the touched block is
   have ht:touch ((L n).evD (tmpsOf o.op.operands.toList)) o.op=some b->(L n).ev (.tmp t)=.map (some b):=by
    intro h;have z: ∀(N:List Tmp) (v:Value),(L n).evD N (.tmp t)=.map (some b)->(L n).ev (.tmp t)=.map (some b):=by
     intro N v h;unfold Loc.evD at h;cases O:oS t N with
     |true=>grind|false=>simp only [O,cond_false]at h;cases h
    cases g:o.op<;>rw [g]at u<;>(try (cases u;done))
    all_goals
     rename_i ty m kk vv;cases m<;>(try (cases u;done));cases u;rw [g]at h;unfold touch at h;simp only []at h
     split at h
     next r hr=>subst h;exact z _ .nilIface hr
     next=>cases h
   have Q:=ht Y;have A:=D.step k ops[k] l;generalize hL:L (k+1)=L1 at A;generalize hH:H (k+1)=H1 at A;generalize T k=T1 at A;generalize hX:X k=X1 at A;have B: ∀v,L1=(L k).put ops[k].dst v-> ∀b,(L n).ev (.tmp t)=.map (some b)->v=.map (some b):=(by grind[Loc.ev,Loc.put,Tr.get_set]);cases A with
   |skip hg=>grind| exec hg c=>
     rename_i v;have hv:=B _ rfl b Q;subst hv;have d:=f.1;have h4:cls E ops[k].op=4:=by
      unfold isMk at d
      split at d
      . next h=>rw [h];rfl
      . cases d
     have hq:=qE (q:=q) (i:=k) (op:=ops[k].op) (E:=E) (by omega) (D.four k _ l h4);rw [hq]at c;have hle:=fm dz (show i+1<=k from w) (by omega);have C: ∀(h:Hp) (G:dM) (S:Hp),aop E ((L k).evD (tmpsOf ops[k].op.operands.toList)) h ops[k].op=some (G,S)->G=.val (.map (some h.n)):=by
      intro h G S U;unfold isMk at d
      split at d
      . next ty sz g=>
        rw [g]at U;cases sz<;>cases U;rfl
      . cases d
     unfold di at c;simp only [cond_true]at c;cases s:aop E ((L k).evD (tmpsOf ops[k].op.operands.toList)) {H k with lo:=(H k).n} ops[k].op with
     |none=>rw [s]at c;cases c
     | some r=>
       obtain⟨G,S⟩:=r;have e:=C _ _ _ s;subst e;rw [s]at c;simp only [dB]at c;grind
include D in
theorem wr_new(d: ∀j,j<=ops.size->(H j).t.Sized (H j).n)(dz: ∀j o,j<ops.size->ops[j]? =some o->Turn ops E X q H T j o)(e:ops[n]? =some o)(h:isW E X q o n)(g:cls E o.op=2)(k:qg ops.toList o n i=true)(f:i<n)(p:b<(H (i+1)).n):(H (n+1)).get b=(H n).get b:=by
 have r:=(Array.getElem?_eq_some_iff.1 e).1;have l:=fun b=>DJ D dz e g k (b:=b);have a:=D.step n o e;generalize L (n+1)=s at a;generalize t:H (n+1)=u at a;generalize T n=v at a;generalize w:X n=x at a;cases a with
 |skip m=>rfl| exec m c=>
   rw [um h]at c;obtain⟨y,z⟩:=zk (.inl g) c;have hle:=fm dz (show i+1<=n from f) (by omega);grind[w_only]
theorem stand(dz: ∀j o,j<ops.size->ops[j]? =some o->Turn ops E X q H T j o){a:Nat}(k:a<=c)(l:c<=ops.size)
 (e: ∀j o,a<=j->j<c->ops[j]? =some o->isR E X o j\/isQ E X q o j\/ ∀b,b<(H a).n->(H (j+1)).get b=(H j).get b)  (f:b<(H a).n):(H c).get b=(H a).get b:=by
 have:=walk_eq (fun j=>(H j).get b) (a:=a) (c-a) (fun j g m=>by
  have d:ops[j]? =some ops[j]:=zM (by omega);have i:=dz j _ (by omega) d;rcases e j _ g (by omega) d with h|h|h
  rotate_right
  . exact h b f
  . show(H (j+1)).get b=(H j).get b;rw [i.still h]
  . exact i.quiet h b (Xd f (fm dz g (by omega))))
 grind
include D in
theorem after_c(g:Down ops S)(h:AtC E ops q X S c)(s:c<=i)(a:ops[i]? =some o)(j:isW E X q o i\/isQ E X q o i)(k:isQ E X q o i->c≠i):S i=false:=by
 have l:=(Array.getElem?_eq_some_iff.1 a).1;rcases h.2.1 with e|⟨t,b,d,n⟩
 . omega
 . by_cases p:c=i
   . grind
   . cases r:S i with
     |false=>rfl| true=>
       obtain⟨m,f⟩:=mask D a;have:=pk D g i o m c a f r (cmp D a f (by omega) b ⟨d,j⟩);grind
include D in
theorem read_at(dz: ∀j o,j<ops.size->ops[j]? =some o->Turn ops E X q H T j o)(k: ∀j,j<=ops.size->(H j).t.Sized (H j).n)(J:Down ops S)(y:AtC E ops q X S c)
   (l:ops[p]? =some o) (W:Ready o S) (Y:S p=false) (r:cls E o.op<=1)  (K:T p=touch ρ o.op)
 (s: ∀b,touch ρ o.op=some b->b<(H p).n) (t: ∀b,touch ρ o.op=some b->b<(H c).n)
 {f:Hp->Option Value} (N: ∀h,aop E ρ h o.op=cV h (f h)) (O:cls E o.op=0-> ∀h i,f h=f i) (C: ∀h i,(∀b,touch ρ o.op=some b->i.get b=h.get b)->f h=f i):
 f (H c)=f (H p):=by
 have Q:=(Array.getElem?_eq_some_iff.1 l).1;have U:=y.1;have u: ∀j,j<ops.size->(∀b,touch ρ o.op=some b->b<(H j).n)->(∀v,ops[j]? =some v->isW E X q v j->(p<j/\S j=true)\/(j<p/\S j=false))->f (H (j+1))=f (H j):=by
  intro j F hlt z;have d:ops[j]? =some ops[j]:=zM F;have G:=dz j _ F d;rcases kinds D d with h|h|h
  . rw [G.still h]
  . exact(C _ _ fun b w=>G.quiet h b (hlt b w)).symm
  . refine w_leaves D k l d h r K ?_ hlt N O C;rcases z _ d h with⟨g,i⟩|⟨g,i⟩
    . obtain⟨m,A⟩:=mask D d;refine .inl ⟨g,D.owe j _ m p o d A g l ?_⟩;grind[pk]
    . obtain⟨m,A⟩:=mask D l;refine .inr ⟨g,D.owe p o m j _ l A g d ?_⟩;grind[pY]
 rcases Nat.le_total p c with B|B
 . have:=walk_eq (fun j=>f (H j)) (a:=p) (c-p) (fun j g i=>u j (by omega) (fun b w=>Xd (s b w) (fm dz g (by omega))) (fun v d n=>by
    have V:p≠j:=(by intro e;subst e;rw [l]at d;cases d;rcases n.2 with x|⟨x,_⟩<;>omega);exact .inl ⟨by omega,y.2.2 j v (by omega) d n⟩))
   simp_all
 . have:=walk_eq (fun j=>f (H j)) (a:=c) (p-c) (fun j g i=>u j (by omega) (fun b w=>Xd (t b w) (fm dz g (by omega))) (fun v d n=>
    .inr ⟨by omega,after_c D J y g d (.inl n) (fun I=>by
     intro _;have:=n.2;have:=I.2.2;rcases n.2 with x|⟨_,x⟩
     . have:=I.2.1;omega
     grind)⟩))
   simp_all
end
section
variable{E:Env}{P:Program}(ok:EOk E P){R:Rec}(hc:iM E P R.call)(hcode:jW P R.code)
variable{ops:Array Oper}{q:Nat}{ps:List (Nat×Nat)}{M:List Nat}{L:Nat->Loc}{H:Nat->Hp}{T:Nat->Option Nat}{X:Nat->Bool}(D:DT E R ops q ps M L H T X)
variable{nr:Nat}{mu0:Mu}{w0:World}
theorem AV(h: ∀b,mu b≠ .none->b<n):cut mu n=mu:=by grind[fD,qc,absurd]
theorem vq(h:AtC E ops q X S c)(f:p≠c):AtC E ops q X (me S p) c:=by
 refine⟨h.1,h.2.1.imp id fun⟨o,a,b,e⟩=>⟨o,a,b,by rw [cq S (Ne.symm f)];exact e⟩,fun i o g j k=>?_⟩;by_cases d:i=p
 . subst d;exact gb S i
 . rw [cq S d];exact h.2.2 i o g j k
theorem yQ{e:Hp}(d:bg mu h w)(k:OZ e)(l:h.n<=e.n)(j: ∀b,b<h.n->e.get b=h.get b):bg mu e w:=by
 refine⟨k,fun b c f g a=>?_,fun b a=>?_,d.inj,fun b a=>Xd (d.lt b a) l⟩
 . obtain⟨x,o,m,i,n⟩:=d.blk b c f g a;exact⟨x,o,by rw [j b (d.lt b (by rw [a];simp))];exact m,i,n⟩
 . rw [j b (d.lt b (by rw [a];simp))];exact d.dead b a
theorem jZ.cut{mu d:Mu}{n:Nat}(g: ∀b,d b≠ .none->b<n){t:Tr Value}{m:Nat}{ts e:Array Value}(h:jZ mu t m ts)(j:jZ d t m e):jZ (cut mu n) t m ts:=by refine⟨h.size,h.sized,fun i v f=>?_⟩;obtain⟨k,a,b⟩:=h.get i v f;obtain⟨l,_,c⟩:=j.get i v f;exact⟨k,a,aw.cut g c b⟩
theorem ng.cut{mu f:Mu}{n:Nat}(z: ∀b,f b≠ .none->b<n){x:Blk}{base top d g:Nat}{o B:Obj}(h:ng mu x base top o)(m:ng f x d g B):ng (cut mu n) x base top o:=by
 cases x with
 |dead=>exact h| cells t Q S U=>
   obtain⟨C,p,F,e,r⟩:=h;obtain⟨G,I,J,A,j⟩:=m;refine⟨C,p,F,e,r.whole,r.fits,r.sized,fun i v k=>?_,r.free⟩;obtain⟨s,a,b⟩:=r.get i v k;obtain⟨K,_,c⟩:=j.get i v k;exact⟨s,a,aw.cut z c b⟩
 | map V c=>
   obtain⟨u,w,e,r⟩:=h;obtain⟨_,N,A,j⟩:=m;refine⟨u,w,e,r.1,fun i v s k y=>?_⟩;obtain⟨W,Y,Z,a4⟩:=r.2 i v s k y;obtain⟨K,b1,b2⟩:=j.get k;grind[aw.cut]
 | loop l=>
   obtain⟨u,O,e,r⟩:=h;obtain⟨_,lT,A,j⟩:=m;exact⟨u,O,e,r.fn,r.regs.cut z j.regs,r.params,r.assign,r.body,r.st,r.pending⟩
 |dfr=>exact h
def glue(a mu:Mu)(n:Nat):Mu:=fun b=>if b<n then a b else mu b
theorem lz{a:Mu}(h:b<n):glue a mu n b=a b:=by simp [glue,h]
theorem mK{a:Mu}(h:n<=b):glue a mu n b=mu b:=by simp [glue,Nat.not_lt.2 h]
theorem glue_rel {e:Mu} {hc r f:Hp} {z:World} (l:bg mu hc w) (y:bg e f z) (k2:Ext (cut mu r.n) r w e f z)
 (K: ∀b,r.n<=b->b<f.n->mu b=.none) (U:f.n<=hc.n) (s: ∀b,b<f.n->hc.get b=f.get b):
 bg (glue e mu f.n) hc z/\Le mu (glue e mu f.n)/\Le e (glue e mu f.n):=by
 have N:=k2.n;have F:Le mu (glue e mu f.n):=by
  intro b t;by_cases h:b<f.n
  . rw [lz h];by_cases m:b<r.n
    . rcases k2.old b m with x|⟨_,x⟩
      . left;rw [x,fD m]
      grind
    grind
  . rw [mK (by omega)];exact .inl rfl
 have u:Le e (glue e mu f.n):=by intro b t;left;exact lz (y.lt b t)
 refine⟨⟨l.sized,fun b c a g j=>?_,fun b j=>?_,?_,fun b j=>?_⟩,F,u⟩
 . by_cases h:b<f.n
   . rw [lz h]at j;obtain⟨x,o,G,A,B⟩:=y.blk b c a g j;exact⟨x,o,by grind,A,B.mono u⟩
   . rw [mK (by omega)]at j;obtain⟨x,o,G,A,B⟩:=l.blk b c a g j;refine⟨x,o,G,?_,B.mono F⟩;rw [k2.frame c (l.clt j) (fun k d i v=>?_)]
     . exact A
     . by_cases m:k<r.n
       . rw [fD m]at v;have:=l.inj b k c a g d i j v;omega
       grind[qc]
 . by_cases h:b<f.n
   . rw [lz h]at j;rw [s b h];exact y.dead b j
   . rw [mK (by omega)]at j;exact l.dead b j
 . have O: ∀b k c a g d i,b<f.n->f.n<=k->e b=.blk c a g->mu k=.blk c d i->False:=by
    intro b k c a g d i h m n p;by_cases t:b<r.n
    . rcases k2.old b t with x|⟨_,x⟩
      . rw [x,fD t]at n;have:=l.inj b k c _ _ _ _ n p;omega
      grind
    . rcases k2.fresh b c a g (by omega) n with x|⟨Q,C,I,S,J,_⟩
      . have:=l.clt p;omega
      . rw [fD S]at J;have:=l.inj Q k c _ _ _ _ J p;omega
   intro b k c a g d i n p;by_cases h:b<f.n
   . rw [lz h]at n;by_cases m:k<f.n
     . rw [lz m]at p;exact y.inj b k c _ _ _ _ n p
     grind[mK]
   . rw [mK (by omega)]at n;by_cases m:k<f.n
     . grind[lz]
     . rw [mK (by omega)]at p;exact l.inj b k c _ _ _ _ n p
 . by_cases h:b<f.n
   . omega
   . rw [mK (by omega)]at j;exact l.lt b j
structure jU(ops opsM:Array Oper)(σ:Nat->Nat):Prop where
 op: ∀p o,ops[p]? =some o-> ∃oM,opsM[σ p]? =some oM/\oM.op=o.op/\oM.dst=o.dst/\((o.guard=none/\oM.guard=none)\/ ∃j want,o.guard=some (j,want)/\oM.guard=some (σ j,want))
 no: ∀(p:Nat) (o:Oper) (j:Nat) (want:Bool),ops[p]? =some o->o.guard=some (j,want)->ops[j]? =none->opsM[σ j]? =none
theorem Dt  {e:Array Oper}  (g:jU ops e σ) {t:Tr Value} {tmps:Array Value} {k:Oper} {b:Bool}  (l:ops[p]? =some o) (m:(o.guard=none/\k.guard=none)\/ ∃j a,o.guard=some (j,a)/\k.guard=some (σ j,a))
 (u: ∀j a o' d,o.guard=some (j,a)->ops[j]? =some o'->o'.dst=some d-> ∀v,t.get d=some v-> ∃v',tmps[d]? =some v'/\aw mu v v')
 (c:cJ ops.toList t o=some b):Region.wanted k (yielded e tmps)=b:=by
 unfold cJ at c;unfold Region.wanted;rcases m with⟨h,w⟩|⟨j,a,h,w⟩
 . grind
 . rw [h]at c;rw [w];simp only []at c⊢;unfold yielded;cases f:ops[j]? with
   |none=>rw [Xh,f]at c;cases c;rw [g.no p o j a l h f];rfl
   | some o'=>
     obtain⟨A,y,_,z,_⟩:=g.op j o' f;rw [Xh,f]at c;rw [y];simp only [Xw]at c⊢;cases i:o'.dst with
     |none=>grind| some d=>
       rw [i]at c;rw [z,i];simp only [Xw]at c⊢
       split at c
       next B n=>
        obtain⟨v',r,s⟩:=u j a o' d h f i _ n;cases s;rw [r];cases c;grind
       next x n=>
        obtain⟨v',r,s⟩:=u j a o' d h f i _ n;rw [r];cases c;cases s;rfl
       next=>cases c
theorem sZ{b:Bool}{a:Oper}(e:a.op=o.op):di E R ρ b a h=di E R ρ b o h:=by unfold di;rw [e]
theorem alloc_at{w':World}(g:bg mu h w)(J:mu b=.none)(K:b<h.n){x:Blk}{top:Nat}{o:Obj}(n:h.get b=some x)(B:WNew w w' o)(r:ng mu x 0 top o):
 bg (upd mu b (.blk w.heap.size 0 top)) h w'/\Le mu (upd mu b (.blk w.heap.size 0 top)):=by
 have C: ∀j,w'.heap[j]? =if j=w.heap.size then some o else w.heap[j]? :=by intro j;rw [B.heap,Xl]
 have hle:Le mu (upd mu b (.blk w.heap.size 0 top)):=by intro f F;grind[a9]
 refine⟨⟨g.sized,?_,?_,?_,?_⟩,hle⟩
 . intro f c i p d;by_cases a:f=b
   . subst a;rw [upd_same]at d;cases d;exact⟨x,o,n,by rw [C];simp,r.mono hle⟩
   . rw [a9 _ _ a]at d;obtain⟨y,G,k,l,I⟩:=g.blk f c i p d;have:=g.clt d;exact⟨y,G,k,by grind,I.mono hle⟩
 . intro f d;by_cases a:f=b
   . grind[upd_same]
   . rw [a9 _ _ a]at d;exact g.dead f d
 . intro v s c t z u A k l;by_cases m:v=b
   . by_cases e:s=b
     . rw [m,e]
     . subst m;rw [upd_same]at k;rw [a9 _ _ e]at l;cases k;have:=g.clt l;omega
   . rw [a9 _ _ m]at k;by_cases e:s=b
     . subst e;rw [upd_same]at l;cases l;have:=g.clt k;omega
     . rw [a9 _ _ e]at l;exact g.inj v s c _ _ _ _ k l
 . intro f d;by_cases a:f=b
   . omega
   . rw [a9 _ _ a]at d;exact g.lt f d
theorem WExt.alloc{mu0:Mu}{h0:Hp}{w0 w':World}(W:WExt mu0 h0 w0 mu w)(n: ∀b,mu0 b≠ .none->b<h0.n)(l: ∀b c base top,mu0 b=.blk c base top->c<w0.heap.size){top:Nat}{o:Obj}(v:h0.n<=b)(h:WNew w w' o):WExt mu0 h0 w0 (upd mu b (.blk w.heap.size 0 top)) w':=by
 have p: ∀j,j<w.heap.size->w'.heap[j]? =w.heap[j]? :=by intro j A;rw [h.heap,Xl,if_neg (by omega)]
 refine⟨fun f d=>?_,fun f c base a d g=>?_,fun c hc r=>?_,fun f c base a t s u g i=>?_,?_,h.os.trans W.os,h.tape.trans W.tape,h.output.trans W.output⟩
 . rw [a9 _ _ (by omega)];exact W.old f d
 . by_cases e:f=b
   . subst e;rw [upd_same]at g;cases g;exact .inl W.wsize
   . rw [a9 _ _ e]at g;rcases W.fresh f c base a d g with x|⟨B,k,m,x,y,z⟩
     . exact .inl x
     grind[a9]
 . rw [p c (Xd hc W.wsize)];exact W.frame c hc r
 . obtain⟨x,y⟩:=W.ro f c base a t s u g i;grind[a9,Xz]
 . rw [h.heap];simp;have:=W.wsize;omega
include ok in
theorem Dz{e:TypeId}{z:List Value}(j:E.zero e=some z)(k:bg mu h w)(l:mu b=.none)(m:b<h.n)(c:h.get b=some (.cells (Tr.ofList z) z.length e 1))(d:Operand->Value)(t:o.op=.alloc e):
 ∃w' top n,(execOp d o).run P w=.ok (.value (.pointer (some ⟨w.heap.size,0,none⟩))) w'/\WNew w w' n/\bg (upd mu b (.blk w.heap.size 0 top)) h w'/\Le mu (upd mu b (.blk w.heap.size 0 top)):=by
 obtain⟨a,u,x,y,A⟩:=po ok j w;have p:VL mu z a.cells.toList:=by grind[LR.refl,aw.const,Xq]
 have f:ng mu (.cells (Tr.ofList z) z.length e 1) 0 a.cells.size (.cells a.cells e):=by
  refine⟨a.cells,e,(0,0),rfl,rfl,?_,Tr.sized_ofList z,?_,?_⟩
  . grind
  . intro i v g;rw [Tr.get_ofList]at g;obtain⟨B,C,F⟩:=p.get g;grind
  omega
 obtain⟨r,s⟩:=alloc_at k l m c (iT w (.cells a.cells e)) f;refine⟨_,_,_,?_,iT w (.cells a.cells e),r,s⟩;simp_all[guard,execOp,Instr.alloc,newVar,newRow]
include ok hc hcode D in
theorem inv_step (dz: ∀j o,j<ops.size->ops[j]? =some o->Turn ops E X q H T j o) (be: ∀i,i<=ops.size->qZ nr mu0 w0 L H i) (a2: ∀b,mu0 b≠ .none->b<(H 0).n) (br: ∀b c base top,mu0 b=.blk c base top->c<w0.heap.size)
 {K:Array Oper}  (bs:jU ops K σ)
    {tmps:Array Value} (l:Inv E ops q L H X nr mu0 w0 S mu w tmps) (hd:Down ops S)   (J:ops[p]? =some o) (hr:Ready o S) (hp:S p=false)
 {F:FC} {dfs:List Deferred} {k:List Item} {cs:List Frame} {rest:List Nat}:
 ∃ b5 w' ax,Inv E ops q L H X nr mu0 w0 (me S p) b5 w' ax/\
   Steps P (lone (F.mk' tmps dfs (.inRegion K (σ p::rest)::k)) cs w) (lone (F.mk' ax dfs (.inRegion K rest::k)) cs w'):=by
 obtain⟨oM,ay,e1,e2,e3⟩:=bs.op p o J;have bf:=(Array.getElem?_eq_some_iff.1 J).1;obtain⟨bh,wT,bi,t1,t2,t3,t4⟩:=be p (by omega);obtain⟨c,N,Z⟩:=l.c;have aL: ∀t∈lG ops.toList o,∀v,(L p).regs.get t=some v-> ∃v',tmps[t]? =some v'/\aw mu v v':=
  fun t ht v hv=>l.regs p (by omega) t v (xQ D hd J hr hp ht) hv
 have a3: ∀{b:Bool},cJ ops.toList (L p).regs o=some b->Region.wanted oM (yielded K tmps)=b:=by intro b hg;refine Dt (mu:=mu) bs J e3 (fun j cm o' d cn hj cp v hv=>aL d ?_ v hv) hg;grind[lG]
 have a4: ∀x,aw mu ((L p).evD (tmpsOf o.op.operands.toList) x) (dT tmps x):=
  fun x=>zw t3.sized l.size _ (fun t ht v hv=>aL t (by
   unfold lG;have:Operand.tmp t∈o.op.operands.toList:=(tN t _).1 ht;grind) v hv) l.glob x
 have a7: ∀x,aw bh ((L p).evD (tmpsOf o.op.operands.toList) x) (dT bi x):=
  fun x=>zw t3.sized t3.size _ (fun t ht v hv=>t3.get t v hv) t2 x
 have U: ∀j,j<=ops.size->(H j).t.Sized (H j).n:=fun j hj=>by obtain⟨_,_,_,g,_⟩:=be j hj;exact g.sized
 have tp:=dz p o bf J;have hs:=D.step p o J;have bk: ∀j,j<=ops.size-> ∀b c base top t sz el,mu0 b=.blk c base top->(H 0).get b=some (.cells t sz el 0)->(H j).get b=some (.cells t sz el 0):=by intro j hj b c base top t sz el O hg;obtain⟨_,_,_,_,_,_,e⟩:=be j hj;exact((e.ro b c base top t sz el O hg).2.1).trans hg
 have cW: ∀{i:Nat} {oi:Oper},ops[i]? =some oi->c=i->isW E X q oi i:=by
  intro i oi bt b6;subst b6;rcases N.2.1 with e|⟨oc,ak,al,_⟩
  . grind
  grind
 generalize hL:L (p+1)=L1 at hs;generalize hH:H (p+1)=H1 at hs;generalize bu:T p=T1 at hs;generalize b7:X p=X1 at hs;cases hs with
 | skip hg=>
   have ad:p≠c:=(by intro e;have:=(cW J e.symm).1;grind);have r:=yk (P:=P) (F:=F) (tmps:=tmps) (dfs:=dfs) (k:=k) (cs:=cs) (w:=w) (ops:=K) (i:=σ p) (rest:=rest) (by grind);rw [ay,show(some oM).bind (·.dst)=oM.dst from rfl,e2]at r;refine⟨mu,w,_,⟨⟨c,vq N ad,Z⟩,l.glob,fun A s n b I B=>?_,by rw [qj];exact l.size,?_,l.ext,?_⟩,.one r⟩
   . refine l.non A s ?_ b I B;grind[cq]
   . exact pW D hd J hr hp (Le.refl mu) l.size t3.sized (v:=.tuple #[]) (v':=undef) (.tuple rfl (by grind)) hL l.regs
   . intro A s n b I B;by_cases e:A=p
     . grind
     . rw [cq S e]at n;exact l.cov A s n b I B
 | exec hg r=>
   rename_i v;have V:=a3 hg;cases a5:fJ o.op with
   | true =>
     obtain⟨e,bv⟩: ∃e,o.op=.alloc e:=(by unfold fJ at a5;grind);have h4:=zW (E:=E) a5;have bx:=D.four p o J h4;have Y:isQ E X q o p:=⟨b7,by omega,bx⟩;rw [qE (by omega) bx]at r;obtain⟨z,hz,hv,bB⟩: ∃z,E.zero e=some z/\v=ptrTo (H p).n/\H1=(H p).new (.cells (Tr.ofList z) z.length e 1):=by
      unfold di at r;simp only [cond_true,bv,aop]at r;cases hz:E.zero e with
      |none=>rw [hz]at r;cases r
      | some z=>
        rw [hz]at r;simp only [dD,dB,s7]at r;rw [show Nat.ble (H p).n (({H p with lo:=(H p).n}:Hp).new (.cells (Tr.ofList z) z.length e 1)).lo=true from Nat.ble_eq_true_of_le (Xe _)]at r;cases r;exact⟨z,rfl,rfl,rfl⟩
     have hT:T p=some (H p).n:=(by rw [bu];unfold jR;rw [a5];rfl);have b8:(H (p+1)).get (H p).n=some (.cells (Tr.ofList z) z.length e 1):=(by rw [hH,bB,Hp.get_new _ _ (U p (by omega)),if_pos rfl]);have cr:(H (p+1)).n=(H p).n+1:=(by rw [hH,bB];rfl);have ad:p<c:=by
      rcases Xo p c with h|h|h
      . exact h
      . exfalso;have hw:=cW J h.symm;rcases hw.2 with x|⟨_,x⟩
        . omega
        omega
      . exfalso;rcases N.2.1 with e|⟨oc,ak,al,bE⟩
        . omega
        . obtain⟨m,O⟩:=mask D J;have:=pY D hd J O hr (cmp D J O h ak ⟨al,.inr Y⟩);grind
     have a8:(H (p+1)).n<=(H c).n:=fm dz (by omega) N.1;have bl:(H c).get (H p).n=some (.cells (Tr.ofList z) z.length e 1):=by
      have:=walk_eq (fun j=>(H j).get (H p).n) (a:=p+1) (c-(p+1)) (fun j I B=>by
       have hj:j<ops.size:=(by have:=N.1;omega);have C:ops[j]? =some ops[j]:=zM hj;have tj:=dz j _ hj C;show(H (j+1)).get (H p).n=(H j).get (H p).n;rcases kinds D C with x|x|x
       . rw [tj.still x]
       . refine tj.quiet x _ ?_;have:=fm dz I (by omega);omega
       . obtain⟨m,O⟩:=mask D C;have cv:=N.2.2 j _ (by omega) C x;have G:m.testBit p=false:=(by grind[pk]);obtain⟨_,hu⟩:=D.owe j _ m p o C O (by omega) J G;have cx:=x.2;have h5:=cls_le (E:=E) ops[j].op;rcases hu with h|h|⟨_,h⟩|⟨_,h,_⟩|⟨_,h,_⟩|⟨_,h,_⟩|⟨_,h,_⟩|⟨a,b,c',d⟩|⟨_,h,_⟩|⟨_,h,_⟩|⟨_,_,bL,_,b9⟩|⟨_,h,_⟩
         . omega
         . omega
         . omega
         . omega
         . omega
         . omega
         . omega
         . grind
         . omega
         . omega
         . exact D.leave (.inl b9) J C (lU (E:=E) (by omega)) bL x.1 (um x) hT
         . omega)
      grind
     have ca:=l.non p bf hp (H p).n (Xe _) (by omega);obtain⟨w',top,ob,r1,r2,r3,r4⟩:=Dz (P:=P) ok hz Z ca (by omega) bl (dT tmps) (o:=oM) (e1.trans bv);have ba:=Bp (P:=P) (F:=F) (dfs:=dfs) (k:=k) (cs:=cs) (rest:=rest) ay V (.inr fun cc cz=>by grind) r1;rw [e2]at ba;refine⟨upd mu (H p).n (.blk w.heap.size 0 top),w',_,⟨⟨c,vq N (by omega),r3⟩,l.glob.mono r4,fun A s n b I B=>?_,by rw [qj];exact l.size,?_,?_,?_⟩,.one ba⟩
     . have a0:A≠p:=(by grind[gb]);rw [cq S a0]at n;rw [a9 _ _ (by
        rcases Xz p A with x|x
        . have:=fm dz (show p+1<=A from x) (by omega);omega
        . have:=fm dz (show A+1<=p by omega) (by omega);omega)]
       exact l.non A s n b I B
     . refine pW D hd J hr hp r4 l.size t3.sized (v:=v) (v':=.pointer (some ⟨w.heap.size,0,none⟩)) ?_ hL l.regs;rw [hv];exact .ptr (zi mu (H p).n w.heap.size 0 _)
     . exact l.ext.alloc a2 br (fm dz (Xv p) (by omega)) r2
     . intro A s n b I B W;by_cases e:A=p
       . grind[upd_same]
       . rw [cq S e]at n;have Q:=l.cov A s n b I B;rcases r4 b Q with x|x
         . grind
         grind
   |false=>
   rcases kinds D J with Y|Y|Y
   . -- a read
     have bb:cls E o.op<=1:=by
      rcases Y with x|x
      . grind
      . exact x
     have ad:p≠c:=(by intro e;rcases(cW J e.symm).2 with x|⟨x,_⟩<;>omega);obtain⟨f,f1,f2,f3⟩:=wY (E:=E) (op:=o.op) (ρ:=(L p).evD (tmpsOf o.op.operands.toList)) (by omega);rw [uP bb]at r;have cb:f (H p)=some v:=by
      simp only [di,cond_false]at r;rw [f1 (H p)]at r;cases hf:f (H p)with
      |none=>rw [hf]at r;cases r
      |some u=>rw [hf]at r;cases r;rfl
     have cf:f (H c)=some v:=(by rw [<-cb];exact read_at D dz U hd N J hr hp bb (bu.trans (qI (E:=E) (by omega) _ _)) (fun b G=>t1.lt b (CA a7 G)) (fun b G=>Z.lt b (CA a4 G)) f1 f2 f3);have bP:di E R ((L p).evD (tmpsOf o.op.operands.toList)) false o (H c)=some (v,H c):=(by simp only [di,cond_false];rw [f1 (H c),cf];rfl);obtain⟨af,w1,v',k1,k2,k3,_,k4⟩:=rR ok hc hcode Z l.glob a4 (F:=F) (ops:=K) (i:=σ p) (dfs:=dfs) (k:=k) (cs:=cs) (rest:=rest) ay V ((sZ e1).trans bP);rw [e2]at k4;have le:=k2.le Z;have bm: ∀b,mu b=.none->af b=.none:=by
      intro b G;by_cases ch:b<(H c).n
      . rcases k2.old b ch with x|⟨x,_⟩
        . rw [x];exact G
        grind
      . exact k1.none_ge (by omega)
     refine⟨af,w1,_,⟨⟨c,vq N ad,k1⟩,l.glob.mono le,fun A s n b I B=>?_,by rw [qj];exact l.size,?_,?_,?_⟩,k4⟩
     . refine bm b (l.non A s ?_ b I B);grind[cq]
     . exact pW D hd J hr hp le l.size t3.sized k3 hL l.regs
     . refine l.ext.step a2 (fm dz (Xv c) N.1) (by rw [AV Z.lt];exact k2) (bk c N.1) (fun _ _=>rfl) (fun b G=>?_);rw [k1.none_ge G,Z.none_ge G]
     . intro A s n b I B W;by_cases e:A=p
       . subst e;rw [tp.still Y]at B;omega
       . rw [cq S e]at n;have Q:=l.cov A s n b I B;rcases le b Q with x|x
         . grind
         grind
   . -- a quiet one:it runs at p,below c
     have ad:p<c:=by
      rcases Xo p c with h|h|h
      . exact h
      . exfalso;have hw:=cW J h.symm;rcases hw.2 with x|⟨_,x⟩
        . have:=Y.2.1;omega
        . rw [Y.2.2]at x;cases x
      . exfalso;rcases N.2.1 with e|⟨oc,ak,al,bE⟩
        . omega
        . obtain⟨m,O⟩:=mask D J;have:=pY D hd J O hr (cmp D J O h ak ⟨al,.inr Y⟩);grind
     have bc: ∀j oj,p<=j->j<c->ops[j]? =some oj->isR E X oj j\/isQ E X q oj j\/ ∀b,b<(H (p+1)).n->(H (j+1)).get b=(H j).get b:=by
      intro j oj I B C;rcases kinds D C with x|x|x
      . exact .inl x
      . grind
      . refine .inr (.inr ?_);by_cases e:j=p
        . subst e;rw [J]at C;cases C;exfalso;rcases x.2 with y|⟨_,y⟩
          . have:=Y.2.1;omega
          . rw [Y.2.2]at y;cases y
        . obtain⟨m,O⟩:=mask D C;rcases cmpN D C O (by omega) J (.inr ⟨Y,x,a5⟩)with y|⟨_,y2,y3⟩
          . have:=pk D hd j oj m p C O (N.2.2 j oj B C x) y;grind
          grind[wr_new]
     have ai: ∀b,b<(H p).n->(H c).get b=(H p).get b:=fun b G=>stand dz (by omega) N.1 (fun j oj I B C=>(bc j oj I B C).imp id (.imp id fun f b G=>f b (by have:=tp.n;omega))) G;have a6: ∀b,b<(H (p+1)).n->(H c).get b=(H (p+1)).get b:=fun b G=>stand dz (by omega) N.1 (fun j oj I B=>bc j oj (by omega) B) G;have cA:(H p).n<=(H c).n:=fm dz (by omega) N.1;have a8:(H (p+1)).n<=(H c).n:=fm dz (by omega) N.1;have bT:bg (cut mu (H p).n) (H p) w:=by
      refine⟨U p (by omega),fun b c0 base top O=>?_,fun b O=>?_,fun b b' c0 base top bn bX I B=>?_,fun b O=>?_⟩
      . by_cases G:b<(H p).n
        . rw [fD G]at O;obtain⟨x,ob,g1,g2,g3⟩:=Z.blk b c0 base top O;refine⟨x,ob,by grind,g2,?_⟩;have cN:bh b≠ .none:=by
           by_cases W:b<(H 0).n
           . have cO:mu0 b≠ .none:=by
              rcases l.ext.old b W with y|⟨y,_⟩
              . grind
              . exact y
             rcases t4.old b W with y|⟨_,y⟩
             . grind
             . rw [y];simp
           . exact t4.cover b (by omega) G
          cases bY:bh b with
          |none=>grind| dead=>
            have:=t1.dead b bY;rw [<-ai b G,g1]at this;cases this;exact g3.elim
          | blk cT bo b0=>
            obtain⟨xT,oT,j1,j2,j3⟩:=t1.blk b cT bo b0 bY;rw [<-ai b G,g1]at j1;cases j1;exact ng.cut (fun b' bp=>t1.lt b' bp) g3 j3
        grind[qc]
      . by_cases G:b<(H p).n
        . rw [fD G]at O;rw [<-ai b G];exact Z.dead b O
        grind[qc]
      . exact Z.inj b b' c0 base top bn bX (by
         grind[fD,qc]) (by
         grind[fD,qc])
      . by_cases G:b<(H p).n
        . exact G
        . rw [qc (by omega)]at O;grind
     have b1: ∀x,aw (cut mu (H p).n) ((L p).evD (tmpsOf o.op.operands.toList) x) (dT tmps x):=fun x=>aw.cut (fun b' bp=>t1.lt b' bp) (a7 x) (a4 x);have cj:ni (cut mu (H p).n):=fun g hg=>(l.glob g hg).cut (t1.lt _ (t2 g hg).in);have bd:=r;rw [qE Y.2.1 Y.2.2]at bd;obtain⟨af,w1,v',k1,k2,k3,_,k4⟩:=rR ok hc hcode bT cj b1 (F:=F) (ops:=K) (i:=σ p) (dfs:=dfs) (k:=k) (cs:=cs) (rest:=rest) ay V ((sZ e1).trans bd);rw [e2]at k4;rw [<-hH]at k1 k2;obtain⟨gh,le,ck⟩:=glue_rel Z k1 k2 (fun b I B=>l.non p bf hp b I B) a8 a6;refine⟨glue af mu (H (p+1)).n,w1,_,⟨⟨c,vq N (by omega),gh⟩,l.glob.mono le,fun A s n b I B=>?_,by rw [qj];exact l.size,?_,?_,?_⟩,k4⟩
     . have a0:A≠p:=(by grind[gb]);rw [cq S a0]at n;have Q:=l.non A s n b I B;rcases Xz p A with x|x
       . rw [mK (XO (fm dz (show p+1<=A from x) (by omega)) I)];exact Q
       . have a1:b<(H p).n:=Xd B (fm dz (show A+1<=p by omega) (by omega));rw [lz (Xd a1 tp.n)];rcases k2.old b a1 with y|⟨y,_⟩
         . rw [y,fD a1];exact Q
         grind[fD,absurd]
     . exact pW D hd J hr hp le l.size t3.sized (k3.mono ck) hL l.regs
     . exact l.ext.step a2 (fm dz (Xv p) (by omega)) k2 (bk p (by omega)) (fun b G=>lz G) (fun b G=>mK G)
     . intro A s n b I B W;by_cases e:A=p
       . subst e;rw [lz B]at W;exact k2.cover b I B W
       . rw [cq S e]at n;have Q:=l.cov A s n b I B;rcases le b Q with x|x
         . grind
         grind
   . -- a writer:it is the one at c
     have ad:p=c:=by
      rcases Xo p c with h|h|h
      . have:=N.2.2 p o h J Y;grind
      . exact h
      . rcases N.2.1 with e|⟨oc,ak,al,bE⟩
        . omega
        . obtain⟨m,O⟩:=mask D J;have:=pY D hd J O hr (cmp D J O h ak ⟨al,.inl Y⟩);grind
     subst ad;rw [um Y]at r;obtain⟨af,w1,v',k1,k2,k3,_,k4⟩:=rR ok hc hcode Z l.glob a4 (F:=F) (ops:=K) (i:=σ p) (dfs:=dfs) (k:=k) (cs:=cs) (rest:=rest) ay V ((sZ e1).trans r);rw [e2]at k4;have le:=k2.le Z;rw [<-hH]at k1 k2;obtain⟨c',d1,d2,d3,d4⟩:=next_W (E:=E) (ops:=ops) (q:=q) (X:=X) (ops.size-(p+1)) (p+1) (by omega);have bq:bg af (H c') w1:=(by refine yQ k1 (U c' d2) (fm dz d1 d2) (fun b G=>stand dz d1 d2 (fun j oj I B C=>?_) G);grind[kinds,absurd]);refine⟨af,w1,_,⟨⟨c',⟨d2,?_,?_⟩,bq⟩,l.glob.mono le,fun A s n b I B=>?_,by rw [qj];exact l.size,?_,?_,?_⟩,k4⟩
     . rcases d3 with e|⟨o',b2,b3⟩
       . exact .inl e
       . refine .inr ⟨o',b2,b3,?_⟩;rw [cq S (by omega)];exact after_c D hd N (by omega) b2 (.inl b3) (fun _=>by omega)
     . intro i oi hi bt cl;by_cases b4:i=p
       . subst b4;exact gb S i
       . rw [cq S b4];rcases Xz i p with x|x
         . exact N.2.2 i oi x bt cl
         grind
     . have a0:A≠p:=(by grind[gb]);rw [cq S a0]at n;rcases Xz p A with x|x
       . exact k1.none_ge (XO (fm dz (show p+1<=A from x) (by omega)) I)
       . have a1:b<(H p).n:=Xd B (fm dz (show A+1<=p by omega) (by omega));have Q:=l.non A s n b I B;rcases k2.old b a1 with y|⟨y,_⟩
         . grind
         grind
     . exact pW D hd J hr hp le l.size t3.sized k3 hL l.regs
     . refine l.ext.step a2 (fm dz (Xv p) N.1) (by rw [AV Z.lt];exact k2) (bk p N.1) (fun _ _=>rfl) (fun b G=>?_);rw [k1.none_ge G,Z.none_ge (XO tp.n G)]
     . intro A s n b I B W;by_cases e:A=p
       . subst e;exact k2.cover b I B W
       . rw [cq S e]at n;have Q:=l.cov A s n b I B;rcases le b Q with x|x
         . grind
         grind
end
theorem oE{e a:Edge}(h:e.ground=a.ground):binds e=binds a:=by unfold binds Region.binds;rw [h]
structure Ord(ops opsM:Array Oper)(σ τ:Nat->Nat):Prop where
 size:ops.size=opsM.size
 lt: ∀p,p<ops.size↔σ p<ops.size
 st: ∀i,σ (τ i)=i
 ts: ∀p,τ (σ p)=p
 op: ∀p o,ops[p]? =some o-> ∃oM,opsM[σ p]? =some oM/\oM.op=o.op/\oM.dst=o.dst/\((o.guard=none/\oM.guard=none)\/ ∃j want,o.guard=some (j,want)/\oM.guard=some (σ j,want))/\
  (∀e∈o.after.toList,∃eM∈oM.after.toList,e.ground=eM.ground/\(eM.on<ops.size->e.on=τ eM.on)/\(ops.size<=eM.on->ops.size<=e.on))/\
  ∀eM∈oM.after.toList,∃e∈o.after.toList,e.ground=eM.ground/\(eM.on<ops.size->e.on=τ eM.on)/\(ops.size<=eM.on->ops.size<=e.on)
theorem Ord.same{e:Array Oper}{τ:Nat->Nat}(o:Ord ops e σ τ):jU ops e σ:=by
 refine⟨fun p x f=>?_,fun _ _ p _ _ _ h=>?_⟩
 . obtain⟨i,a,b,c,d,_⟩:=o.op p x f;grind
 . have g: ¬p<ops.size:=(by grind);refine XK ?_;rw [<-o.size];have:=mt (o.lt p).2 g;omega
theorem Ord.part{f g:Array Oper}{τ:Nat->Nat}(o:Ord ops f σ τ)(s: ∀(i:Nat),i<f.size->g[i]? =f[i]?)(n: ∀x∈f.toList,jn f.size x=true):jU ops g σ:=by
 refine⟨fun p x h=>?_,fun p x j m h k t=>?_⟩
 . obtain⟨l,a,b,c,d,_⟩:=o.op p x h;grind
 . exfalso;obtain⟨l,a,_,_,d,_⟩:=o.op p x h;rcases d with⟨d,_⟩|⟨u,v,d,e⟩
   . grind
   . rw [k]at d;cases d;have q:l∈f.toList:=(by grind);have:=n l q;unfold jn at this;rw [e]at this;have r:σ j<ops.size:=(by rw [o.size];simp_all);have w:=(o.lt j).2 r;grind
theorem Ord.id(ops:Array Oper):Ord ops ops (fun i=>i) (fun i=>i):=by
 refine⟨rfl,fun _=>Iff.rfl,fun _=>rfl,fun _=>rfl,fun p o b=>⟨o,b,rfl,rfl,?_,fun e a=>⟨e,a,rfl,fun _=>rfl,fun h=>h⟩,fun e a=>⟨e,a,rfl,fun _=>rfl,fun h=>h⟩⟩⟩;cases c:o.guard with
 |none=>grind|some q=>grind
theorem tt{i:Nat}: ∀{l:List Nat},i∈l->fI i l<l.length/\l[fI i l]? =some i
 | [],h=>by cases h
 | x ::l,h=>by
   unfold fI;cases d:XC i x with
   | true=>simp_all| false=>
     have c:i≠x:=(by grind[Xj]);rcases List.mem_cons.1 h with e|h
     . omega
     . obtain⟨a,b⟩:=tt h;grind
theorem uo{i:Nat}: ∀{l:List Nat},i∉l->fI i l=l.length
 | [],_=>rfl| x::l,h=>by unfold fI;have a:XC i x=false:=(by grind[XC,absurd,Xc]);simp_all[cond_false,List.length_cons,uo,Xf]
theorem ordL_mem(ops:List Oper)(i:Nat):i∈ordL ops↔i<ops.length:=by grind[ordL,yi,lateAt]
theorem DO(ops:List Oper):(ordL ops).Nodup:=by
 unfold ordL;rw [List.nodup_append,List.nodup_append];refine⟨List.nodup_range.filter _,⟨List.nodup_range.filter _,List.nodup_range.filter _,fun a c b d e=>?_⟩,fun a c b d e=>?_⟩
 . grind
 grind
theorem ordL_len(ops:List Oper):(ordL ops).length=ops.length:=by
 unfold ordL;rw [List.length_append,List.length_append];have a: ∀(l:List Nat) (f g:Nat->Bool),(l.filter f).length+((l.filter fun i=>!f i&& !g i).length+(l.filter fun i=>!f i&&g i).length)=l.length:=by
  intro l f g
  induction l with
  |nil=>rfl| cons x l b=>grind
 simp_all
theorem z8(ops:List Oper)(ord:List Nat): ∀(l:List Nat),(∀i∈l,i<ops.length)-> ∀(p:Nat),(eh ops ord l)[p]? =(l[p]?).bind fun(i:Nat)=>(ops[i]?).map (pE ord)
 | [],_,p=>by simp [eh]| i ::l,h,p=>by
   have a:i<ops.length:=h i Xm;unfold eh;rw [Xk a];simp only [];cases p with
   |zero=>simp [a]| succ p=>
     simp only [Xu];exact z8 ops ord l (fun j b=>h j (Xf _ b)) p
theorem xL{ord:List Nat}(c:ord.Nodup)(d:ord[p]? =some i):fI i ord=p:=by have e:i∈ord:=Xg d;obtain⟨a,b⟩:=tt e;grind[XF,Xo,fI,absurd,List.pairwise_iff_getElem]
theorem AW(ops:Array Oper)(ord:List Nat)(c: ∀i,i∈ord↔i<ops.toList.length)(m:ord.Nodup)(f:ord.length=ops.toList.length)(u:ops.toList.all (jn ops.toList.length)=true):
 Ord (eh ops.toList ord ord).toArray ops (fun p=>(ord[p]?).getD p) (fun i=>if i<ops.size then fI i ord else i):=by
 have v:ops.toList.length=ops.size:=by simp
 rw [v]at f c;have g:=z8 ops.toList ord ord (fun i B=>by grind);have n:(eh ops.toList ord ord).length=ops.size:=by
  have j: ∀p,p<(eh ops.toList ord ord).length↔p<ops.size:=by intro p;have C:p<(eh ops.toList ord ord).length↔((eh ops.toList ord ord)[p]?).isSome=true:=(by simp);grind
  have a:=j (eh ops.toList ord ord).length;have b:=j ops.size;omega
 have D: ∀p,p<ops.size-> ∃i,ord[p]? =some i/\i<ops.size:=fun p q=>⟨ord[p]'(by omega),Xk _,(c _).1 (List.getElem_mem _)⟩;have w: ∀p i,ord[p]? =some i->fI i ord=p:=fun p i q=>xL m q;have d:(eh ops.toList ord ord).toArray.size=ops.size:=by simp [n]
 refine⟨d,fun p=>?_,fun i=>?_,fun p=>?_,fun p o x=>?_⟩
 . grind
 . by_cases h:i<ops.size
   . simp_all[if_pos,tt]
   grind
 . grind
 . have k:(eh ops.toList ord ord)[p]? =some o:=(by simpa using x);rw [g]at k;obtain⟨i,E,y⟩:=Option.bind_eq_some_iff.1 k;obtain⟨r,z,rfl⟩:=Option.map_eq_some_iff.1 y;have A:ops[i]? =some r:=(by simpa using z);refine⟨r,by grind,rfl,rfl,?_,?_,?_⟩
   . grind[Xq,Xg,jn,pE,Nat.blt_eq,fI,tt]
   . intro e s;simp only [pE,Array.toList_map,XP]at s;obtain⟨l,t,rfl⟩:=s;refine⟨l,t,rfl,fun h=>?_,fun h=>?_⟩
     . grind
     simp_all[fI,uo,Xe]
   . intro l t;refine⟨{l with on:=fI l.on ord},by simp only [pE,Array.toList_map,XP];grind,rfl,fun h=>?_,fun h=>?_⟩
     . grind
     simp_all[fI,uo,Xe]
theorem z9(ops:Array Oper): ∃(a:Array Oper) (σ τ:Nat->Nat),a.toList=cu ops.toList/\Ord a ops σ τ:=by
 unfold cu;cases b:(ops.toList.any uv||uz ops.toList)&&ops.toList.all (jn ops.toList.length)with
 |false=>exact⟨ops,_,_,rfl,Ord.id ops⟩| true=>simp only [Xb]at b;exact⟨_,_,_,rfl,AW ops _ (ordL_mem ops.toList) (DO ops.toList) (ordL_len ops.toList) b.2⟩
def jK(S:Nat->Bool):Nat->Nat
 |0=>0|n+1=>jK S n+(if S n=true then 0 else 1)
theorem qz{S:Nat->Bool}: ∀{n:Nat},jK S n=0-> ∀i,i<n->S i=true
 |0,_,i,a=>by omega| n +1,h,i,a=>by
   simp only [jK]at h;by_cases b:S n=true
   . rw [if_pos b]at h;by_cases e:i=n
     . grind
     . exact qz (n:=n) (by omega) i (by omega)
   grind
theorem rX{S:Nat->Bool}: ∀{n:Nat},jK S n≠0-> ∃i,i<n/\S i=false/\ ∀j,j<i->S j=true
 |0,h=>absurd rfl h| n +1,h=>by
   by_cases a:jK S n=0
   . have b:=qz a;simp only [jK,a]at h;grind
   . obtain⟨i,e,c,d⟩:=rX a;exact⟨i,by omega,c,d⟩
theorem Ch{S:Nat->Bool}{p:Nat}: ∀{n:Nat},n<=p->jK (me S p) n=jK S n
 |0,_=>rfl| n+1,h=>by simp only [jK];rw [Ch (by omega),cq S (by omega)]
theorem uF{S:Nat->Bool}{p:Nat}(a:S p=false): ∀{n:Nat},p<n->jK (me S p) n+1=jK S n
 |0,h=>by omega| n +1,h=>by
   simp only [jK];by_cases e:p=n
   . simp_all[Ch,Xe,gb]
   . have:=uF a (n:=n) (by omega);rw [cq S (by omega)];omega
theorem qK: ∀(n:Nat),jK (fun _=>false) n=n
 |0=>rfl|n+1=>by simp [jK,qK n]
def ct(listed:Array Bool):Nat->Bool:=fun i=>listed.getD i false
theorem wC{listed:Array Bool}(a:p<listed.size):ct (listed.setIfInBounds p true)=me (ct listed) p:=by funext i;simp only [ct,me,zO,Array.getElem?_setIfInBounds];grind
theorem put_dfs(l:Loc)(d:Option Tmp)(v:Value):(l.put d v).dfs=l.dfs/\(l.put d v).rc=l.rc:=by cases d<;>exact⟨rfl,rfl⟩
def pU(ops:Array Oper):(Nat->Bool)->List Nat->Prop
 |S,[]=> ∀i,i<ops.size->S i=true|S,p::a=>p<ops.size/\S p=false/\(∀o,ops[p]? =some o->Ready o S)/\pU ops (me S p) a
theorem xg{ops a:Array Oper}{σ τ:Nat->Nat}(c:Ord ops a σ τ){M:List Nat}(f: ∀i,rE ops.toList M i): ∀(b t:Nat) (listed:Array Bool),listed.size=ops.size->jK (fun p=>ct listed (σ p)) ops.size=b->
 pU ops (fun p=>ct listed (σ p)) ((Region.linearise.go .any a b t listed []).map τ)
 |0,t,listed,l,I=>qz I| b + 1,t,listed,l,I=>by
   have q: ∀i,i<ops.size->τ i<ops.size:=fun i h=>(c.lt (τ i)).2 (by rw [c.st];exact h);have r: ∀i,i∈Region.ready .any a listed->i<ops.size/\ct listed i=false/\ ∀o,ops[τ i]? =some o->Ready o (fun p=>ct listed (σ p)):=by
    intro i h;unfold Region.ready at h;simp only [XA,Xp,Xb,Xi]at h;obtain⟨d,z,g⟩:=h;rw [<-c.size]at d;refine⟨d,?_,fun o A e w j=>?_⟩
    . grind[ct,zO,zM]
    . obtain⟨L,x,_,_,_,N,_⟩:=c.op (τ i) o A;rw [c.st]at x;rw [x]at g;simp only [Xn,Xx]at g;obtain⟨k,B,y,C,O⟩:=N e w;have:=(Array.all_eq_true'.1 g) k (by simpa using B);rw [oE y]at j;unfold binds at j;rw [j]at this;obtain⟨m,_,s,_⟩:=f (τ i) o (by grind);have u:=s e w (by rw [oE y];unfold binds;exact j);have:=q i d;have hlt:k.on<ops.size:=(by omega);show ct listed (σ e.on)=true;rw [C hlt,c.st];grind[ct,XD]
   have D:Region.ready .any a listed≠ []:=by
    obtain⟨p,d,z,g⟩:=rX (S:=fun p=>ct listed (σ p)) (n:=ops.size) (by omega);intro e;have A:ops[p]? =some ops[p]:=zM d;obtain⟨m,_,j,_⟩:=f p ops[p] (by grind);obtain⟨L,x,_,_,_,_,P⟩:=c.op p _ A;have J:=(c.lt p).1 d;have :σ p∈Region.ready .any a listed:=by
     unfold Region.ready;simp only [XA,Xp,Xb,Xi];refine⟨by grind,?_,?_⟩
     . grind[ct,zO,zM]
     . rw [x];simp only [Xn,Xx];refine Array.all_eq_true'.2 fun k w=>?_;cases E:Region.binds .any k with
       |false=>rfl| true=>
         obtain⟨K,B,y,C,O⟩:=P k (by simpa using w);have u:=j K B (by rw [oE y];unfold binds;exact E);have hlt:k.on<ops.size:=(by omega);have:=g K.on u;rw [C hlt,c.st]at this;simpa [ct]using this
    grind
   simp only [Region.linearise.go];change pU ops (fun p=>ct listed (σ p)) (List.map τ (match(Region.ready .any a listed)[t%(Region.ready .any a listed).length]? with
    |some i=>Region.linearise.go .any a b (t/(Region.ready .any a listed).length) (listed.setIfInBounds i true) [i]|none=>[].reverse))
   have v:0<(Region.ready .any a listed).length:=List.length_pos_iff.2 D;have hlt:=Nat.mod_lt t v;rw [Xk hlt];simp only [];generalize h:(Region.ready .any a listed)[t%(Region.ready .any a listed).length]=i;have F:i∈Region.ready .any a listed:=(by grind);obtain⟨d,z,g⟩:=r i F;have G:=q i d;have H:(fun p=>ct listed (σ p)) (τ i)=false:=(by show ct listed (σ (τ i))=false;rw [c.st];exact z);rw [linearise_go_acc,List.reverse_singleton,List.singleton_append,XE];have Q:(fun p=>ct (listed.setIfInBounds i true) (σ p))=me (fun p=>ct listed (σ p)) (τ i):=by
    funext p;rw [wC (listed:=listed) (p:=i) (by omega)];by_cases e:p=τ i
    . subst e;rw [c.st,gb,gb]
    . rw [cq _ e,cq _ (by intro R;exact e (by rw [<-R,c.ts]))]
   refine⟨G,H,g,?_⟩;rw [<-Q];exact xg c f b _ _ (by simpa using l) (by grind[uF,ct])
section
variable{E:Env}{P:Program}(ok:EOk E P){R:Rec}(hc:iM E P R.call)(hcode:jW P R.code)
variable{ops:Array Oper}{q:Nat}{ps:List (Nat×Nat)}{M:List Nat}{L:Nat->Loc}{H:Nat->Hp}{T:Nat->Option Nat}{X:Nat->Bool}(D:DT E R ops q ps M L H T X)
variable{nr:Nat}{mu0:Mu}{w0:World}
include D in
theorem down_add(g:Down ops S)(h:ops[p]? =some o)(j:Ready o S):Down ops (me S p):=by
 intro i k a f e c d;by_cases b:i=p
 . subst b;rw [h]at a;cases a;obtain⟨m,_,l,_⟩:=D.bef i o (by grind);have:=l e c d;rw [cq S (by omega)];exact j e c d
 . rw [cq S b]at f;have:=g i k a f e c d;grind[gb,cq]
include ok hc hcode D in
theorem go_list(dz: ∀j o,j<ops.size->ops[j]? =some o->Turn ops E X q H T j o)(l: ∀i,i<=ops.size->qZ nr mu0 w0 L H i)(m: ∀b,mu0 b≠ .none->b<(H 0).n)(e: ∀b c base top,mu0 b=.blk c base top->c<w0.heap.size)
 {d:Array Oper} {σ:Nat->Nat} (z:jU ops d σ) {tl:List Nat} {F:FC} {dfs:List Deferred} {k:List Item} {cs:List Frame}: ∀(n:List Nat) (S:Nat->Bool) (mu:Mu) (w:World) (tmps:Array Value),pU ops S n->Down ops S->
  Inv E ops q L H X nr mu0 w0 S mu w tmps->
  ∃ s f w' a,Inv E ops q L H X nr mu0 w0 s f w' a/\(∀i,i<ops.size->s i=true)/\
    Steps P (lone (F.mk' tmps dfs (.inRegion d (n.map σ++tl)::k)) cs w) (lone (F.mk' a dfs (.inRegion d tl::k)) cs w')
 | [],S,mu,w,tmps,t,u,g=>⟨S,mu,w,tmps,g,t,Steps.refl _ _⟩| p::n,S,mu,w,tmps,t,u,g=>by obtain⟨B,C,G,I⟩:=t;have v:ops[p]? =some ops[p]:=zM B;have A:=G _ v;obtain⟨x,J,h,r,y⟩:=inv_step ok hc hcode D dz l m e z g u v A C (F:=F) (dfs:=dfs) (k:=k) (cs:=cs) (rest:=n.map σ++tl);obtain⟨s,f,w',a,K,N,O⟩:=go_list dz l m e z n _ x J h I (down_add D u v A) r;exact⟨s,f,w',a,K,N,Steps.trans y O⟩
include ok hc hcode in
theorem uW(cx:Cx)(ops z:Array Oper)(sm:jU ops z σ)(ls:List Nat)(hg:pU ops (fun _=>false) ls)(tl:List Nat)(l:Loc)(h:Hp)(l':Loc)(h':Hp)(q:Nat)(ps:List (Nat×Nat))(tr:List (Nat×Tch))
 (hp:jT E ops.toList=some (q,ps)) (he:bZ E R ops.toList q ops.toList 0 l h []=some (l',h',tr)) (O:cR tr ps=true)
 (mu:Mu) (w:World) (F:FC) (A:List Frame) (tmps:Array Value) (dfs:List Deferred) (B:Option (Value×Bool)) (k:List Item) (s:SR P cx l h mu w F A tmps dfs B):
 ∃ r w' d,SR P cx l' h' r w' F A d dfs B/\Ext mu h w r h' w'/\
   Steps P (lone (F.mk' tmps dfs (.inRegion z (ls.map σ++tl)::k)) (aX B A) {w with drawn:=w.drawn+1})
    (lone (F.mk' d dfs (.inRegion z tl::k)) (aX B A) w'):=by
 obtain⟨M,a0,a6⟩:=plan_ok hp;obtain⟨_,L,H,T,X,ai,K,Q,S,a1,U,ak⟩:=Ct _ _ _ _ _ _ _ _ he;rw [Xs,Array.length_toList]at Q S;have D:DT E R ops q ps M L H T X:=by
  refine⟨a0,fun n o I h4=>?_,fun n o m i p I hm V a7 Y=>?_,fun i o I=>?_,fun {i j a b o p} u I hp ro rp ha Y=>?_,fun {i j a o p} u I hp ro rp hx hh ha=>?_⟩
  . grind
  . grind
  . grind
  . have e1:=U i o a (by grind) ro (by grind);have e2:=U j p b (by grind) rp (by grind);rw [Xs]at e1 e2;have:=tE O u;grind[jt,Xj]
  . have e1:=U i o a (by grind) ro (by grind);have e2:=ak j p (by grind) rp (by grind) (by grind);rw [Xs]at e1 e2;rcases u with u|u
    . have:=tE O u;rw [e1,e2]at this;exact Aw this
    . have:=tE O u;rw [e1,e2]at this;exact Aw this
 let w0:World:={w with drawn:=w.drawn+1}
 have N:bg mu h w0:=uX s.hr rfl;have e0:Ext mu h w mu h w0:=xI s.hr rfl rfl rfl rfl;have al:qZ cx.nr mu w0 L H 0:=⟨mu,w0,tmps,by grind,s.glob,by rw [ai];exact s.regs,by rw [K];exact Ext.refl mu h w0 N⟩;have Z: ∀i,i<=ops.size->qZ cx.nr mu w0 L H i:=fun i V=>(shadow ok hc hcode D i V al).1;have dz: ∀j o,j<ops.size->ops[j]? =some o->Turn ops E X q H T j o:=fun j o hj I=>(shadow ok hc hcode D ops.size (Xe _) al).2 j o hj I;have ax: ∀b,mu b≠ .none->b<(H 0).n:=by rw [K];exact s.hr.lt
 have ay: ∀b c f C,mu b=.blk c f C->c<w0.heap.size:=fun b c f C hm=>N.clt hm;have ad: ∀j,j<=ops.size->(H j).t.Sized (H j).n:=fun j hj=>by obtain⟨_,_,_,g,_⟩:=Z j hj;exact g.sized
 have aL:Inv E ops q L H X cx.nr mu w0 (fun _=>false) mu w0 tmps:=by
  obtain⟨c',d1,d2,d3,d4⟩:=next_W (E:=E) (ops:=ops) (q:=q) (X:=X) ops.size 0 (by omega);refine⟨⟨c',⟨d2,?_,fun i o V I hw=>absurd hw (d4 i o (Xv _) V I)⟩,?_⟩,s.glob,fun p a8 _ b h1 h2=>?_,s.regs.size,fun i V t v a2 hv=>?_,by rw [K];exact WExt.refl N,fun p _ J=>by cases J⟩
  . grind
  . refine yQ (h:=H 0) (by grind) (ad c' d2) (fm dz d1 d2) (fun b Y=>stand dz d1 d2 (fun j oj h1 h2 a3=>?_) Y);grind[kinds,absurd]
  . exact N.none_ge (by
     have:=fm dz (Xv p) (by omega);grind)
  . have G:(L (0+i)).regs.get t=(L 0).regs.get t:=(by refine walk_eq (fun j=>(L j).regs.get t) (a:=0) i (fun j h1 h2=>?_);have a3:ops[j]? =some ops[j]:=zM (by omega);grind[tM]);rw [Xs]at G;rw [G,ai]at hv;exact s.regs.get t v hv
 obtain⟨S',r,w',d,g1,g2,g3⟩:=go_list ok hc hcode D dz Z ax ay sm (tl:=tl) (F:=F) (dfs:=dfs) (k:=k) (cs:=aX B A) ls _ mu w0 tmps hg (fun i o _ J=>by cases J) aL;obtain⟨c,hC,hh⟩:=g1.c;have a4:c=ops.size:=by
  rcases hC.2.1 with e|⟨o,I,_,J⟩
  . exact e
  grind
 subst a4;rw [S]at hh;obtain⟨ba,wT,a5,t1,t2,t3,t4⟩:=Z ops.size (Xe _);rw [Q]at t3;rw [S]at t1 t4;have le:Le mu r:=by
  intro b Y;rcases g1.ext.old b (ax b Y)with x|⟨_,x⟩
  . exact .inl x
  . exact .inr x
 have af: ∀i,i<=ops.size->(L i).dfs=l.dfs/\(L i).rc=l.rc:=by
  intro i
  induction i with
  |zero=>grind| succ i ih=>
    intro V;have:=ih (by omega);have J:=D.step i ops[i] (zM (by omega));generalize L (i+1)=L1 at J⊢;generalize H (i+1)=H1 at J;generalize T i=T1 at J;generalize X i=X1 at J;cases J with
    |skip hg=>grind[put_dfs,trans]|exec hg bb=>grind[put_dfs,trans]
 have hk:=af ops.size (Xe _);rw [Q]at hk;have ext:Ext mu h w0 r h' w':=by
  have W:=g1.ext;rw [K]at W t4;refine⟨t4.n,W.old,W.fresh,t4.lo,t4.same,W.frame,fun b c f C t sz el hm hg=>?_,W.wsize,W.os,W.tape,W.output,fun b h1 h2=>?_⟩
  . obtain⟨x,y⟩:=W.ro b c f C t sz el hm hg;exact⟨x,(t4.ro b c f C t sz el hm hg).2.1,y⟩
  . have bc: ∀i,i<=ops.size->b<(H i).n->r b≠ .none:=by
     intro i
     induction i with
     |zero=>grind| succ i ih=>
       intro V Y;by_cases bd:b<(H i).n
       . grind
       . exact g1.cov i (by omega) (g2 i (by omega)) b (by omega) Y
    grind
 refine⟨r,w',d,⟨hh,g1.glob,⟨g1.size,t3.sized,fun i v hv=>?_⟩,?_,?_,s.ko,s.fn,s.rd.mono le,s.rn,s.fs⟩,Ext.trans e0 ext,g3⟩
 . refine g1.regs ops.size (Xe _) i v (fun p o I _=>?_) (by grind);grind
 . rw [hk.1];exact LR.mono s.dfs fun _ _=>oP.mono le
 . rw [hk.2];exact s.rc.mono le
include ok hc hcode in
theorem zL(cx:Cx)(a b:Array Oper)(A:b=a\/(∀(i:Nat),i<a.size->b[i]? =a[i]?)/\ ∀x∈a.toList,jn a.size x=true)(tl:List Nat)(l:Loc)(h:Hp)(l':Loc)(h':Hp)(q:Nat)(ps:List (Nat×Nat))(m:List (Nat×Tch))
 (n:jT E (cu a.toList)=some (q,ps)) (y:bZ E R (cu a.toList) q (cu a.toList) 0 l h []=some (l',h',m)) (o:cR m ps=true)
 (mu:Mu) (w:World) (F:FC) (c:List Frame) (tmps:Array Value) (dfs:List Deferred) (d:Option (Value×Bool)) (k:List Item) (s:SR P cx l h mu w F c tmps dfs d) (t:Nat):
 ∃ g w' e,SR P cx l' h' g w' F c e dfs d/\Ext mu h w g h' w'/\
   Steps P (lone (F.mk' tmps dfs (.inRegion b (Region.linearise.go .any a a.size t (Xa a.size false) []++tl)::k)) (aX d c) {w with drawn:=w.drawn+1})
    (lone (F.mk' e dfs (.inRegion b tl::k)) (aX d c) w'):=by
 obtain⟨ops,u,B,C,f⟩:=z9 a;have G:jU ops b u:=by
  rcases A with rfl|⟨I,J⟩
  . exact f.same
  . exact f.part I J
 rw [<-C]at n y;have j:(fun p=>ct (Xa a.size false) (u p))=fun _=>false:=by
  funext i;simp only [ct,zO,Xt]
  split<;>rfl
 obtain⟨M,v,_⟩:=plan_ok n;have z:=xg f v a.size t (Xa a.size false) (by simp [f.size]) (by rw [j,<-f.size];exact qK _);rw [j]at z;have r:=uW ok hc hcode cx ops b G _ z tl l h l' h' q ps m n y o mu w F c tmps dfs d k s;rw [XQ,show(u∘B)=id from funext f.st,List.map_id]at r;exact r
include ok hc hcode in
theorem draw_ok:DrawOk E P R:=by
 intro n id a l h o p q ps r t u g v w F i d e f k s;have b:Region.schedule (P.follows .mixedOrders) a (w.tape w.drawn (.order F.fn id))=Region.linearise.go .any a a.size (w.tape w.drawn (.order F.fn id)) (Xa a.size false) []:=by rw [ok.mixed];rfl
 obtain⟨j,x,c,y,z,m⟩:=zL ok hc hcode n a a (.inl rfl) [] l h o p q ps r t u g v w F i d e f k s (w.tape w.drawn (.order F.fn id));rw [XI]at m;refine⟨j,x,c,e,f,y,z,Steps.trans (.one ?_) (Steps.trans m (.one qo))⟩;rw [<-b];rfl
theorem bef_bit{M:List Nat}(p: ∀i,rE ops.toList M i){N:Nat}(r: ∀(i:Nat) o,i<N->ops[i]? =some o->S i=true-> ∀e∈o.after.toList,binds e=true->S e.on=true): ∀(n:Nat) (o:Oper) (m i:Nat),n<=N->ops[n]? =some o->M[n]? =some m->Ready o S->m.testBit i=true->S i=true:=by
 intro n
 induction n using Nat.strongRecOn with
 | _ n s=>
   intro o m i B t u v f;obtain⟨C,k,w,y⟩:=p n o (by grind);rw [u]at k;cases k;obtain⟨e,l,a,x⟩:=y i f;have b:=v e l a;rcases x with rfl|⟨m2,g,h⟩
   . exact b
   . have hlt:=w e l a;have z:n<ops.size:=(Array.getElem?_eq_some_iff.1 t).1;have c:ops[e.on]? =some ops[e.on]:=zM (by omega);exact s e.on hlt ops[e.on] m2 i (by omega) c g (fun A j d=>r e.on _ (by omega) c b A j d) h
theorem zK(l:Array Bool)(i:Nat):(l.push false).getD i false=l.getD i false:=by simp only [zO,Xl];grind
theorem xY{A:Array Oper}(c:A.size=n)(d:ops.size=n+1)(a: ∀i,i<n->ops[i]? =A[i]?)(l:Array Bool)(g:l.size=n):
 Region.ready .any ops (l.push false)=Region.ready .any A l++(if((ops[n]?).map (·.after.all fun e=>!Region.binds .any e||l.getD e.on false)).getD false=true then [n]else []):=by
 unfold Region.ready;rw [d,c,List.range_succ,List.filter_append];congr 1
 . refine List.filter_congr fun i f=>?_;have b:i<n:=List.mem_range.1 f;rw [a i b];simp only [zK];congr 2;simp only [zO,Xl];grind
 . simp only [zK];simp_all[zO,Xl,if_pos,List.filter_cons,List.filter_nil,Bool.not_false,Bool.true_and]
theorem lin_pop{A:Array Oper}(v:A.size=n)(O:ops.size=n+1)(b: ∀i,i<n->ops[i]? =A[i]?){M:List Nat}(w: ∀i,rE ops.toList M i){x:Nat}(y:M[n]? =some x)(f: ∀i,i<n->x.testBit i=true):
 ∀ (a t:Nat) (l:Array Bool),l.size=n->(∀(i:Nat) o,i<n->ops[i]? =some o->ct l i=true-> ∀e∈o.after.toList,binds e=true->ct l e.on=true)->jK (ct l) n=a->
   Region.linearise.go .any ops (a+1) t (l.push false) []=Region.linearise.go .any A a t l []++[n]:=by
 have z:ops[n]? =some (ops[n]'(by omega)):=zM _;obtain⟨m0,k1,W,_⟩:=w n _ (by rw [Xh];exact z);have g: ∀(B:Array Oper) (a t:Nat) (l:Array Bool),Region.linearise.go .any B (a+1) t l []=(match(Region.ready .any B l)[t%(Region.ready .any B l).length]? with
  |some i=>Region.linearise.go .any B a (t/(Region.ready .any B l).length) (l.setIfInBounds i true) [i]|none=>[]):=fun _ _ _ _=>rfl
 intro a
 induction a with
 | zero=>
   intro t l s Q h;have U:=qz h;have C:Region.ready .any A l=[]:=(by grind[Region.ready,List.filter_eq_nil_iff,ct,zO,zM]);have F:Region.ready .any ops (l.push false)=[n]:=by
    rw [xY v O b l s,C,z];simp only [Xn,Xx,XJ];rw [if_pos];refine Array.all_eq_true'.2 fun e u=>?_;cases d:Region.binds .any e with
    |false=>rfl| true=>have:=W e (by simpa using u) d;grind[ct]
   rw [g,F];simp [Region.linearise.go,Nat.mod_one]
 | succ a Y=>
   intro t l s Q h;have G:Region.ready .any ops (l.push false)=Region.ready .any A l:=(by rw [xY v O b l s,if_neg,XI];intro hc;obtain⟨p,I,Z,_⟩:=rX (S:=ct l) (n:=n) (by omega);have:ct l p=true:=(by refine bef_bit w Q n _ x p (Xe _) z y (fun e u d=>?_) (f p I);grind[XD,binds,ct]);grind);rw [g,g,G];have J:Region.ready .any A l≠ []:=by
    obtain⟨p,I,Z,p3⟩:=rX (S:=ct l) (n:=n) (by omega);have V:ops[p]? =some (ops[p]'(by omega)):=zM _;obtain⟨m,_,K,_⟩:=w p _ (by rw [Xh];exact V);have :p∈Region.ready .any A l:=by
     unfold Region.ready;simp only [XA,Xp,Xb,Xi];refine⟨by omega,?_,?_⟩
     . grind[ct,zO,zM]
     . rw [<-b p I,V];simp only [Xn,Xx];refine Array.all_eq_true'.2 fun e u=>?_;cases d:Region.binds .any e with
       |false=>rfl| true=>have:=p3 e.on (K e (by simpa using u) d);simpa [ct]using this
    grind
   have j:0<(Region.ready .any A l).length:=List.length_pos_iff.2 J;have hlt:=Nat.mod_lt t j;rw [Xk hlt];simp only [];generalize hi:(Region.ready .any A l)[t%(Region.ready .any A l).length]=i;have N:i∈Region.ready .any A l:=(by grind);have c:=N;unfold Region.ready at c;simp only [XA,Xp,Xb,Xi]at c;obtain⟨h1,h2,h3⟩:=c;rw [v]at h1;have ad:ct l i=false:=(by grind[ct,zO,zM]);have k:(l.push false).setIfInBounds i true=(l.setIfInBounds i true).push false:=(by grind);have r:=wC (listed:=l) (p:=i) (by omega);rw [linearise_go_acc,linearise_go_acc (acc:=[i]),List.append_assoc,k];rw [Y _ (l.setIfInBounds i true) (by simpa using s) ?_ ?_]
   . rw [r];grind[XD,binds,ct,me,cq]
   grind[uF,ct]
theorem wG(w:ops.size=n+1)(a:lu ops.toList n=true)(t:Nat):Region.linearise.go .any ops (n+1) t (Xa (n+1) false) []=Region.linearise.go .any (ops.extract 0 n) n t (Xa n false) []++[n]:=by
 unfold lu at a;simp only [Xb]at a;obtain⟨b,j⟩:=a;unfold fullM at b;have e:ops.toList.length=ops.size:=by simp
 split at b
 next m f c=>
  obtain⟨k,_,g⟩:=wh _ _ _ c;simp only [List.length_nil,Xs]at k g;have l: ∀i,rE ops.toList (m::f).reverse i:=fun i o p=>g i o p;have r:(m::f).reverse[n]? =some m:=by grind
  have d: ∀i,i<n->m.testBit i=true:=fun i s=>List.all_eq_true.1 b i (List.mem_range.2 s);have u:(ops.extract 0 n).size=n:=by simp;omega
  have h: ∀i,i<n->ops[i]? =(ops.extract 0 n)[i]? :=by grind
  generalize ops.extract 0 n=A at*
  have v:ct (Xa n false)=fun _=>false:=by
   funext i;simp only [ct,zO,Xt]
   split<;>rfl
  rw [Array.replicate_succ];grind[lin_pop,qK]
 grind
include ok hc hcode in
theorem Ax (cx:Cx) (id:Nat) (ops:Array Oper) (l:Loc) (h:Hp) (l':Loc) (h':Hp) (x:Ex) (mu:Mu) (w:World) (F:FC) (c:List Frame) (tmps:Array Value) (dfs:List Deferred) (d:Option (Value×Bool)) (k:List Item) (s:SR P cx l h mu w F c tmps dfs d) (n:Nat) (Q:n<=ops.size) (m:(ops.toList.take n).all (jn n)=true)
 (a: ∀t,Region.linearise.go .any ops ops.size t (Xa ops.size false) []=Region.linearise.go .any (ops.extract 0 n) n t (Xa n false) []++XL n (ops.size-n))
 (b :(match jT E (cu (ops.toList.take n))with
   |none=>none| some (q,ps)=>match bZ E R (cu (ops.toList.take n)) q (cu (ops.toList.take n)) 0 l h []with
     |none=>none|some (l',h',j)=>bif cR j ps then je E R cx ops.toList (ops.toList.drop n) l' h' else none)=some (x,l',h')):
 Sim P cx h mu w F c tmps dfs d (.code (.region id ops true)::k) k x l' h':=by
 have o:(ops.extract 0 n).toList=ops.toList.take n:=by simp
 have p:(ops.extract 0 n).size=n:=by simp;omega
 have e: ∀i,i<n->ops[i]? =(ops.extract 0 n)[i]? :=by grind
 rw [<-o]at b m;generalize ops.extract 0 n=A at*
 cases y:jT E (cu A.toList)with
 |none=>grind| some B=>
   obtain⟨q,ps⟩:=B;rw [y]at b;simp only []at b;cases z:bZ E R (cu A.toList) q (cu A.toList) 0 l h []with
   |none=>grind| some C=>
     obtain⟨G,I,j⟩:=C;rw [z]at b;simp only []at b;cases f:cR j ps with
     |false=>grind| true=>
       rw [f]at b;simp only [cond_true]at b;have J:Region.schedule (P.follows .mixedOrders) ops (w.tape w.drawn (.order F.fn id))=Region.linearise.go .any A A.size (w.tape w.drawn (.order F.fn id)) (Xa A.size false) []++XL n (ops.size-n):=(by rw [ok.mixed,p];exact a _);obtain⟨K,S,u,N,O,g⟩:=zL ok hc hcode cx A ops (.inr ⟨fun i U=>e i (by omega),fun x V=>by grind⟩) (XL n (ops.size-n)) l h G I q ps j y z f mu w F c tmps dfs d k s (w.tape w.drawn (.order F.fn id));have r:=Av ok hc hcode (ops:=ops) (k:=k) (ops.toList.drop n) n _ _ _ _ _ _ _ _ _ _ rfl N b;have v:(ops.toList.drop n).length=ops.size-n:=(by grind);rw [v]at r;refine Sim.pre (Steps.trans (.one ?_) g) O r;grind[sH]
include ok hc hcode in
theorem En (cx:Cx) (id:Nat) (ops:Array Oper) (l:Loc) (h:Hp) (l':Loc) (h':Hp) (x:Ex) (c:uI E R cx ops.toList l h=some (x,l',h')) (mu:Mu) (w:World) (F:FC) (d:List Frame) (tmps:Array Value) (dfs:List Deferred) (e:Option (Value×Bool)) (k:List Item) (s:SR P cx l h mu w F d tmps dfs e):
 Sim P cx h mu w F d tmps dfs e (.code (.region id ops true)::k) k x l' h':=by
 unfold uI at c;have z:ops.toList.length=ops.size:=by simp
 cases a:lu ops.toList (ops.toList.length-1)with
 |false=>grind| true =>
   rw [a]at c;simp only [cond_true]at c;have A:0<ops.size:=by
    rcases Nat.eq_zero_or_pos ops.size with i|i
    . have:ops.toList=[]:=(by grind);rw [this]at a;cases a
    . exact i
   obtain⟨n,B⟩: ∃n,ops.size=n+1:=⟨ops.size-1,by omega⟩;have o:ops.toList.length-1=n:=(by omega);unfold cutN at c;rw [o]at c a;have C:=wG B a;cases g:tail2 ops.toList&&lu (ops.toList.take n) (n-1)with
   | false=>
     rw [g]at c;refine Ax ok hc hcode cx id ops l h l' h' x mu w F d tmps dfs e k s n (by omega) (Bool.and_eq_true_iff.1 a).2 (fun t=>?_) c;rw [show ops.size-n=1 by omega];grind
   | true=>
     rw [g]at c;have b:lu (ops.toList.take n) (n-1)=true:=(Bool.and_eq_true_iff.1 g).2;have j:(ops.extract 0 n).toList=ops.toList.take n:=(by simp);have p:(ops.extract 0 n).size=n:=(by simp;omega);rw [<-j]at b;have G:0<n:=by
      rcases Nat.eq_zero_or_pos n with i|i
      . have:(ops.extract 0 n).toList=[]:=(by grind);rw [this]at b;cases b
      . exact i
     obtain⟨f,r⟩: ∃f,n=f+1:=⟨n-1,by omega⟩;have u:n-1=f:=(by omega);rw [u]at c b;have v:=wG (p.trans r) b;have m:=(Bool.and_eq_true_iff.1 b).2;have I:(ops.extract 0 n).extract 0 f=ops.extract 0 f:=(by grind);have y:(ops.extract 0 n).toList.take f=ops.toList.take f:=(by rw [j,List.take_take,XB (by omega)]);rw [I]at v;rw [y]at m;refine Ax ok hc hcode cx id ops l h l' h' x mu w F d tmps dfs e k s f (by omega) m (fun t=>?_) c;rw [show ops.size-f=2 by omega,B,C,r];rw [r]at v;rw [v];simp [XL]
end
def befL(x y:Nat):List Nat->Prop
 | []=>False|p::r=>p=x\/(p≠y/\befL x y r)
theorem befL_or{x y:Nat}: ∀{l:List Nat},x∈l->befL x y l\/befL y x l
 | [],h=>by cases h
 | p::r,h=>by
   by_cases a:p=x
   . exact .inl (.inl a)
   by_cases b:p=y
   . exact .inr (.inl b)
   rcases List.mem_cons.1 h with e|h
   . exact absurd e.symm a
   rcases befL_or (y:=y) h with h|h
   . exact .inl (.inr ⟨b,h⟩)
   . exact .inr (.inr ⟨a,h⟩)
theorem BG{f:Nat->Nat}{x y:Nat}(a: ∀p,f p=f y->p=y): ∀{l:List Nat},befL x y l->befL (f x) (f y) (l.map f)
 | p::r,h=>by
   rcases h with h|⟨b,c⟩
   . exact .inl (by rw [h])
   . exact .inr ⟨fun e=>b (a _ e),BG a c⟩
theorem Cf{ops:Array Oper}{i:Nat}(a:i<ops.size): ∀{l:List Nat} {S:Nat->Bool},pU ops S l->S i=false->i∈l
 | [],S,h,b=>by have:=h i a;grind| p::r,S,h,b=>by
   by_cases e:p=i
   . grind
   . exact Xf _ (Cf a h.2.2.2 (by rw [cq S (Ne.symm e)];exact b))
theorem ra(os:List Oper)(k i:Nat):(oh os k)[i]? =(os[i]?).map (tie k i):=by unfold oh;grind
theorem CC(os:List Oper)(k:Nat):(oh os k).length=os.length:=by unfold oh;grind
theorem w7(k i:Nat)(o:Oper):(tie k i o).op=o.op/\(tie k i o).dst=o.dst/\(tie k i o).guard=o.guard:=by unfold tie;grind
theorem xf{ops:Array Oper}{k:Nat}: ∀{l:List Nat} {S:Nat->Bool},pU ops S l->(S k=true\/befL k (k+1) l)->pU (oh ops.toList k).toArray S l
 | [],S,h,_=>by intro i d;rw [List.size_toArray,CC]at d;exact h i (by simpa using d)| p ::r,S,h,a=>by
   obtain⟨m,n,q,s⟩:=h;refine⟨by rw [List.size_toArray,CC];simpa using m,n,fun o f=>?_,xf s ?_⟩
   . rw [XM,ra]at f;obtain⟨t,u,rfl⟩:=Option.map_eq_some_iff.1 f;have g:=q t (by grind);unfold tie;cases j:XC p (k+1)with
     |false=>exact g| true=>
       have j:=Xc j;intro e b c;simp only [cond_true,Array.toList_push,List.mem_append,List.mem_singleton]at b;rcases b with b|rfl
       . exact g e b c
       . rcases a with a|a|⟨a,_⟩
         . exact a
         . omega
         omega
   . by_cases e:k=p
     . subst e;exact .inl (gb S k)
     . rw [cq S e];rcases a with a|a|⟨_,a⟩
       . exact .inl a
       . omega
       . exact .inr a
theorem BP{ops b:Array Oper}{σ τ:Nat->Nat}(a:Ord b ops σ τ){M:List Nat}(d: ∀i,rE ops.toList M i): ∀{l:List Nat} {S:Nat->Bool},pU ops S l->pU b (fun p=>S (σ p)) (l.map τ)
 | [],S,h=>fun i s=>h _ (by rw [<-a.size];exact(a.lt i).1 s)
 | p ::r,S,h=>by
   obtain⟨t,u,v,w⟩:=h;refine⟨(a.lt _).2 (by rw [a.st,a.size];exact t),by show S (σ (τ p))=false;rw [a.st];exact u,fun o x e y c=>?_,?_⟩
   . obtain⟨g,j,_,_,_,z,_⟩:=a.op _ o x;rw [a.st]at j;obtain⟨f,k,A,B,E⟩:=z e y;rw [oE A]at c;have n:=v g j f k c;obtain⟨m,_,C,_⟩:=d p g (by grind);have hlt:f.on<b.size:=(by have:=C f k c;rw [a.size];omega);show S (σ e.on)=true;rw [B hlt,a.st];exact n
   . have:=BP a d w;have n:(fun q=>me S p (σ q))=me (fun q=>S (σ q)) (τ p):=by
      funext q;by_cases e:q=τ p
      . subst e;rw [a.st,gb,gb]
      . rw [cq _ e,cq _ (by intro D;exact e (by rw [<-D,a.ts]))]
     grind
theorem jU.tie{b:Array Oper}(s:jU ops b σ)(k:Nat):jU (oh ops.toList k).toArray b σ:=by
 have c: ∀(p:Nat) (o:Oper),(oh ops.toList k).toArray[p]? =some o-> ∃a,ops[p]? =some a/\o.op=a.op/\o.dst=a.dst/\o.guard=a.guard:=by intro p o d;rw [XM,ra]at d;obtain⟨a,l,rfl⟩:=Option.map_eq_some_iff.1 d;grind[w7]
 refine⟨fun p o d=>?_,fun p o j e d m n=>?_⟩
 . obtain⟨a,f,g,h,i⟩:=c p o d;rw [g,h,i];exact s.op p a f
 . obtain⟨a,f,g,h,i⟩:=c p o d;refine s.no p a j e f (by grind) ?_;grind[ra]
theorem jU.comp{a b:Array Oper}{c f:Nat->Nat}(s:jU ops b σ)(e:Ord a ops c f):jU a b (σ∘c):=by
 refine⟨fun p o g=>?_,fun p o j d g l n=>?_⟩
 . obtain⟨h,i,q,r,k,_⟩:=e.op p o g;obtain⟨t,u,v,w,z⟩:=s.op _ h i;grind
 . obtain⟨h,i,_,_,k,_⟩:=e.op p o g;rcases k with⟨x,_⟩|⟨A,B,x,y⟩
   . grind
   . rw [l]at x;cases x;refine s.no _ h _ d i y (XK ?_);have m: ¬j<a.size:=(by grind);have:=mt (e.lt j).2 m;rw [<-e.size];omega
theorem zx(k i:Nat):swN k (swN k i)=i:=by grind[swN,cS]
theorem swN_lt{k:Nat}(a:k+1<n):swN k i<n↔i<n:=by grind[swN,cS]
theorem swN_ne{k:Nat}(a:i≠k)(b:i≠k+1):swN k i=i:=by grind[swN,cS,decide_eq_false]
theorem swN_k(k:Nat):swN k k=k+1:=by unfold swN;simp_all
theorem swN_k1(k:Nat):swN k (k+1)=k:=by grind[swN,cS,decide_eq_false,Xj]
theorem xt(n k p:Nat):(jb n k)[p]? =if p<n then some (swN k p)else none:=by grind[jb,List.getElem?_range,List.getElem?_eq_none]
theorem Ci{k:Nat}(b:k+1<n)(i:Nat):i∈jb n k↔i<n:=by
 unfold jb;simp only [XP,Xp];constructor
 . rintro⟨a,c,rfl⟩;exact(swN_lt b).2 c
 . intro h;exact⟨swN k i,(swN_lt b).2 h,zx k i⟩
theorem Dx(n k:Nat):(jb n k).Nodup:=by unfold jb;rw [List.nodup_iff_pairwise_ne,List.pairwise_map];exact List.nodup_range.imp fun {a b} h e=>h (by rw [<-zx k a,e,zx])
theorem ord2_len(n k:Nat):(jb n k).length=n:=by unfold jb;simp
theorem uA{E:Env}{R:Rec}{q:Nat}{ops ops':List Oper}: ∀(os a:List Oper) (i:Nat) (l:Loc) (h:Hp) (c:List (Nat×Tch)),os.map (fun o=>(o.op,o.dst))=a.map (fun o=>(o.op,o.dst))->(∀o∈os,o.guard=none)->(∀o∈a,o.guard=none)->
 bZ E R ops q os i l h c=bZ E R ops' q a i l h c
 | [],[],_,_,_,_,_,_,_=>rfl| [],_::_,_,_,_,_,b,_,_=>by simp at b|_::_,[],_,_,_,_,b,_,_=>by simp at b| o::os,o'::a,i,l,h,c,b,e,f=>by simp only [XE,List.cons.injEq,Prod.mk.injEq]at b;obtain⟨⟨g,j⟩,k⟩:=b;have m:=e o Xm;have n:=f o' Xm;have p:=fun i l h c=>uA (E:=E) (R:=R) (q:=q) (ops:=ops) (ops':=ops') os a i l h c k (fun o d=>e o (Xf _ d)) (fun o d=>f o (Xf _ d));simp only [bZ,cJ,m,n,sZ g,g,j,p]
theorem qF{E:Env}{R:Rec}{q:Nat}{ops:List Oper}: ∀(xs ys:List Oper) (i:Nat) (l:Loc) (h:Hp) (a:List (Nat×Tch)),
 bZ E R ops q (xs++ys) i l h a=(bZ E R ops q xs i l h a).bind fun r=>bZ E R ops q ys (i+xs.length) r.1 r.2.1 r.2.2
 | [],ys,i,l,h,a=>rfl| o ::xs,ys,i,l,h,a=>by
   have e: ∀n,i+1+n=i+(n+1):=fun n=>(by omega);simp only [Xy,bZ,List.length_cons];cases cJ ops l.regs o with
   |none=>rfl| some b=>
     cases b with
     |false=>simp only [];rw [qF xs ys,e]| true=>
       simp only [];cases di E R (l.evD (tmpsOf o.op.operands.toList)) (fF E q i o.op) o h with
       |none=>rfl|some r=>obtain⟨v,c⟩:=r;simp only [];rw [qF xs ys,e]
theorem zV(h:rj k=true):cF k k=some true:=by
 cases k<;>first|(cases h;done)|skip
 next a n=>
 have b:jO a a=true:=by cases a<;>rfl
 have c:jg n n=true:=by cases n<;>exact Xj _
 simp only [cF,b,c,cond_true]
theorem zP{k b v:Value}{c:Nat}: ∀{a:List (Value×Value×Nat)},cF k b=some false->bI k (a++[(b,v,c)])=bI k a
 | [],h=>by simp only [XJ,bI,h]|(d,e,n)::a,h=>by simp only [Xy,bI,zP h]
theorem uB{k v:Value}{c:Nat}(d:cF k k=some true): ∀{a:List (Value×Value×Nat)},bI k a=some none->bI k (a++[(k,v,c)])=some (some (v,c))
 | [],_=>by simp only [XJ,bI,d]| (f,g,n)::a,h=>by
   simp only [Xy,bI]at h⊢;cases e:cF k f with
   |none=>rw [e]at h;cases h
   | some b=>
     rw [e]at h;cases b with
     |true=>cases h
     |false=>exact uB d h
theorem ur{k a v:Value}: ∀{c:List (Value×Value×Nat)},cF k a=some false->bI k (jS a v c)=bI k c
 | [],_=>rfl| (k',v',n)::c,h=>by
   unfold jS;cases d:cF a k' with
   |none=>simp only [bI,ur h]| some b=>
     cases b with
     |true=>have:=oN d;subst this;simp only [bI,h]|false=>simp only [bI,ur h]
theorem ux{k v:Value}(c:cF k k=some true): ∀{a:List (Value×Value×Nat)} {u:Value×Nat},bI k a=some (some u)-> ∃n,bI k (jS k v a)=some (some (v,n))
 | [],_,h=>by cases h
 | (d,f,n)::a,u,h=>by
   simp only [bI]at h;unfold jS;cases e:cF k d with
   |none=>grind| some b=>
     rw [e]at h;cases b with
     |true=>exact⟨n,by simp only [bI,c]⟩| false=>simp_all[ux,bI]
def mput(k v:Value)(a:List (Value×Value×Nat))(c:Nat):List (Value×Value×Nat)×Nat:=match bI k a with
 |some (some _)=>(jS k v a,c)|_=>(a++[(k,v,c)],c+1)
theorem su{a:Value}{b:List (Value×Value×Nat)}(h:cF k a=some false):bI k (mput a v b c).1=bI k b:=by grind[mput,ur,zP]
theorem mput_eq{a:List (Value×Value×Nat)}(b:cF k k=some true)(h:bI k a≠none):(bI k (mput k v a c).1).map (XG XN)=some (some v):=by
 unfold mput;cases d:bI k a with
 |none=>grind| some u=>
   cases u with
   |none=>grind[uB]|some u=>simp only [];obtain⟨n,e⟩:=ux (v:=v) b d;rw [e];rfl
theorem qu{m:Value}:d6 E h ty m k v=some h'↔ ∃r a c kt el,m=.map (some r)/\E.und ty=some (.map kt el)/\bQ E kt k=true/\h.get r=some (.map a c)/\bI k a≠none/\h'=h.put r (.map (mput k v a c).1 (mput k v a c).2):=by unfold d6 kP mput;grind
theorem Tr.set_set{a:Type}(t:Tr a)(i:Nat)(x y:a):(t.set i x).set i y=t.set i y:=by
 induction t generalizing i with
 |nil=>rfl| node z l r b c=>
   rw [Tr.set_node,Tr.set_node];cases i with
   |zero=>rfl| succ n=>
     simp only []
     split
     . simp_all[Tr.set_node,if_true]
     simp_all[Tr.set_node,if_false]
theorem vU(h:Hp)(b:Nat)(x y:Blk):(h.put b x).put b y=h.put b y:=by unfold Hp.put;simp only [Tr.set_set];congr 1;unfold dR;grind
theorem jM{x y:Blk}(a:h.get b=some y):(h.put b x).get b=some x:=by rw [Hp.get_put,if_pos ⟨rfl,by rw [a];rfl⟩]
theorem put_swap{u p:Hp}{m d k2 l e:Value}(I:rj d=true)(J:rj k2=true)(x:cF d k2=some false)(y:cF k2 d=some false)(z:d6 E h ty m d l=some u)(A:d6 E u ty m k2 e=some p):
 ∃ v w r b c es' c',d6 E h ty m k2 e=some v/\d6 E v ty m d l=some w/\m=.map (some r)/\p.get r=some (.map b c)/\w=p.put r (.map es' c')/\
   ∀kt el k,E.und ty=some (.map kt el)->bQ E kt k=true->(bI k es').map (XG XN)=(bI k b).map (XG XN):=by
 obtain⟨r,b,c,kt,el,rfl,n,f,o,q,rfl⟩:=qu.1 z;obtain⟨K,B,L,s,t,C,a,g,i,j,rfl⟩:=qu.1 A;cases C;rw [n]at a;cases a;rw [jM o]at i;cases i;rw [su y]at j;refine⟨_,_,r,_,_,(mput d l (mput k2 e b c).1 (mput k2 e b c).2).1,(mput d l (mput k2 e b c).1 (mput k2 e b c).2).2,qu.2 ⟨r,b,c,kt,el,rfl,n,g,o,j,rfl⟩,
  qu.2 ⟨r,_,_,kt,el,rfl,n,f,jM o,by rw [su x];exact q,rfl⟩,rfl,jM (jM o),by rw [vU,vU,vU],?_⟩
 intro s t k a hf;rw [n]at a;cases a;obtain⟨D,F⟩:=tC hf f;obtain⟨G,H⟩:=tC hf g;cases D with
 | true=>grind[oN,mput_eq,zV,su]| false=>
   cases G with
   | true=>grind[oN,su,mput_eq,zV]|false=>grind[su]
theorem wV{ops:List Oper}{q:Nat}{a:Oper}{d:List (Nat×Tch)}{t:Tmp}{x:Operand}(c:a.op=.insert ty (.tmp t) (.const k) x)(f:a.dst=none)(g:a.guard=none)(j:rj k=true):
 bZ E R ops q (a::os) i l h d=(d6 E h ty (l.ev (.tmp t)) k (l.ev x)).bind fun h'=>bZ E R ops q os (i+1) l h' (iR i d (match l.ev (.tmp t)with
  | .map (some r)=>some (.blk r)|_=>none)):=by
 have n:l.evD (tmpsOf a.op.operands.toList) (.tmp t)=l.ev (.tmp t):=by grind[Loc.evD,Op.operands,tmpsOf,oS,Xj]
 have o:l.evD (tmpsOf a.op.operands.toList) (.const k)=k:=by unfold Loc.evD Loc.ev;simp only [];cases k<;>first|(cases j;done)|rfl
 have p:l.evD (tmpsOf a.op.operands.toList) x=l.ev x:=by rw [c];unfold Loc.evD;cases x<;>simp [Op.operands,tmpsOf,oS,Xj]
 have m:fF E q i a.op=false:=by unfold fF;rw [c];show(q.testBit i&&false)=false;simp
 simp only [bZ,cJ,g,m,di,cond_false];rw [show aop E (l.evD (tmpsOf a.op.operands.toList)) h a.op=fU (d6 E h ty (l.ev (.tmp t)) k (l.ev x)) by
  have: ∀b:Operand->Value,aop E b h (.insert ty (.tmp t) (.const k) x)=fU (d6 E h ty (b (.tmp t)) (b (.const k)) (b x)):=fun _=>rfl;grind]
 cases d6 E h ty (l.ev (.tmp t)) k (l.ev x)with
 |none=>rfl| some h'=>
   simp only [fU,dB,Xw,f];congr 1;congr 1;unfold cQ jR;have e: ∀b:Operand->Value,touch b a.op=(match b (.tmp t)with| .map r=>r|_=>none):=fun b=>(by rw [c];rfl);rw [show dN a.op=false by rw [c];rfl,show fJ a.op=false by rw [c];rfl];grind
theorem note_read{b:Bool}{op:Op}{a c d e:Hp}(f:cls E op<=1):cQ ρ b op a c=cQ ρ b op d e:=by grind[cQ,lU,qI]
theorem zX {E:Env} {R:Rec} {ops:List Oper} {q:Nat} {t:Tmp} {ty:TypeId} {r:Nat} {B es':List (Value×Value×Nat)} {c c':Nat} {g:Hp} (F:g.get r=some (.map B c))
 (G: ∀kt el k,E.und ty=some (.map kt el)->bQ E kt k=true->(bI k es').map (XG XN)=(bI k B).map (XG XN)):
 ∀ (os:List Oper) (i:Nat) (l:Loc) (s:List (Nat×Tch)) (l':Loc) (h':Hp) (b:List (Nat×Tch)),(∀o∈os,yu E ty t o=true/\o.guard=none)->bZ E R ops q os i l g s=some (l',h',b)->
   h'=g/\l'.ev (.tmp t)=l.ev (.tmp t)/\bZ E R ops q os i l (g.put r (.map es' c')) s=some (l',g.put r (.map es' c'),b)
 | [],i,l,s,l',h',b,_,j=>by cases j;exact⟨rfl,rfl,rfl⟩
 | o :: os, i,l,s,l',h',b,C,j=>by
   obtain⟨u,w⟩:=C o Xm;unfold yu at u;simp only [Xb,Xi,Bool.or_eq_true]at u;have x:cls E o.op<=1:=by
    rcases u.2 with h|h
    . simp_all
    . unfold zz at h
      split at h
      . next e=>rw [e];exact Xe 1
      . cases h
   obtain⟨f,D,H,_⟩:=wY (E:=E) (op:=o.op) (ρ:=l.evD (tmpsOf o.op.operands.toList)) (by omega);have hf: ∀v,f g=some v->f (g.put r (.map es' c'))=some v:=by
    intro v a;rcases u.2 with h|h
    . rw [H (Xc h) _ g];exact a
    . unfold zz at h
      split at h
      next n m k y e=>
       have:=Xc h;subst this;have I: ∀h,f h=dw E h n (l.evD (tmpsOf o.op.operands.toList) m) (l.evD (tmpsOf o.op.operands.toList) k) y:=(by intro h;have:=D h;rw [e]at this;rw [e];exact zJ this.symm);rw [I]at a⊢;generalize l.evD (tmpsOf o.op.operands.toList) m=P at a⊢;generalize l.evD (tmpsOf o.op.operands.toList) k=J at a⊢;unfold dw at a⊢;cases K:E.und n with
       |none=>grind| some d=>
         rw [K]at a;cases d<;>(try (cases a;done))
         next kt el=>
          simp only []at a⊢;cases p:bQ E kt J with
          |false=>grind| true=>rw [p]at a;simp only [cond_true]at a⊢;grind[jM,bI,dA]
      next=>cases h
   have L:fF E q i o.op=false:=uP x;simp only [bZ,cJ,w,L,di,cond_false]at j⊢;rw [D]at j⊢;cases a:f g with
   |none=>rw [a]at j;cases j
   | some v=>
     rw [a]at j;rw [hf v a];simp only [cV,dB]at j⊢;have z:=zX (c':=c') F G os (i+1) (l.put o.dst v) _ l' h' b (fun o A=>C o (Xf _ A)) j;obtain⟨M,N,Q⟩:=z;refine⟨M,N.trans ?_,?_⟩
     . have O:o.dst≠some t:=(by grind[tZ,Xj]);grind[Loc.ev,pj]
     grind[note_read]
theorem fork_swap    {f q:Nat} {t:Tmp} (j:vJ E os f=some t) {l':Loc} {h2:Hp} {tr:List (Nat×Tch)} (he:bZ E R os q os 0 l h []=some (l',h',tr)) (hk:qx (some t) l' h'=some h2):
 f+2<os.length/\(∀o∈os,o.guard=none)/\ ∀o2:List Oper,o2.map (fun o=>(o.op,o.dst))=(jb os.length (f+1)).filterMap (fun i=>(os[i]?).map fun o=>(o.op,o.dst))->(∀o∈o2,o.guard=none)->
  ∃B,bZ E R o2 q o2 0 l h []=some (l',B,tr)/\qx (some t) l' B=some h2:=by
 unfold vJ at j
 split at j
 next m a b hm ha L=>
  split at j
  next C hd=>
   split at j
   next ta x tb y M N=>
    cases O:(isMk m.op&&(XC ta tb&&(vC x y&&(vC y x&&((os.drop (f+3)).all (yu E ta C)&&os.all fun o=>o.guard.isNone)))))with
    |false=>grind| true =>
      rw [O]at j;simp only [cond_true,Option.some.injEq]at j;subst j;simp only [Xb,Xq]at O;obtain⟨_,w,P,Q,A,ak⟩:=O;have w:=Xc w;subst w;have n: ∀o∈os,o.guard=none:=fun o J=>(by simp_all);have D:f+2<os.length:=(List.getElem?_eq_some_iff.1 L).1;refine⟨D,n,fun o2 S T=>?_⟩
      -- the parts
      have s:os=os.take (f+1)++a::b::os.drop (f+3):=(by grind[List.drop_eq_getElem_cons,XF,List.take_append_drop]);have F: ∀{o:Oper} {U:TypeId} {k:Value},insK C o=some (U,k)-> ∃z,o.op=.insert U (.tmp C) (.const k) z/\o.dst=none/\rj k=true:=by
       intro o U k h;unfold insK at h
       split at h
       next al V k' z W=>
        cases g:(XC V C&&(o.dst.isNone&&rj k'))with
        |false=>rw [g]at h;cases h
        | true=>
          rw [g]at h;cases h;simp only [Xb]at g;have:=Xc g.1;subst this;exact⟨z,W,by simpa using g.2.1,g.2.2⟩
       next=>cases h
      obtain⟨z1,p1,p2,p3⟩:=F M;obtain⟨z2,r1,r2,r3⟩:=F N;have G: ∀{u v:Value},vC u v=true->cF u v=some false:=by
       intro u v h;unfold vC at h
       split at h
       next bb ax=>grind
       next=>cases h
      have X:=n a (Xg ha);have Y:=n b (Xg L)
      -- the run
      have e:=he;rw [show bZ E R os q os 0 l h []=bZ E R os q (os.take (f+1)++a::b::os.drop (f+3)) 0 l h [] by rw [<-s]]at e;rw [qF]at e;obtain⟨⟨l1,h1,ay⟩,s1,e⟩:=Option.bind_eq_some_iff.1 e;simp only []at e;rw [wV p1 p2 X p3]at e;obtain⟨aL,s2,e⟩:=Option.bind_eq_some_iff.1 e;rw [wV r1 r2 Y r3]at e;obtain⟨a0,s3,e⟩:=Option.bind_eq_some_iff.1 e;obtain⟨h3,h4,r,es,c,es',c',w1,w2,w3,w4,w5,w6⟩:=put_swap p3 r3 (G P) (G Q) s2 s3;obtain⟨k1,k2,k3⟩:=zX (t:=C) (es':=es') (c':=c') w4 w6 _ _ _ _ _ _ _ (fun o J=>⟨A o J,n o (List.mem_of_mem_drop J)⟩) e;refine⟨h4,?_,?_⟩
      . -- the other list
        have Z:o2.map (fun o=>(o.op,o.dst))=(os.take (f+1)++b::a::os.drop (f+3)).map (fun o=>(o.op,o.dst)):=by
         rw [S];have H: ∀p:Nat,((jb os.length (f+1)).filterMap (fun i=>(os[i]?).map fun o=>(o.op,o.dst)))[p]? =((os.take (f+1)++b::a::os.drop (f+3)).map (fun o=>(o.op,o.dst)))[p]? :=by
          intro p;have I:(jb os.length (f+1)).filterMap (fun i=>(os[i]?).map fun o=>(o.op,o.dst))=(jb os.length (f+1)).map (fun i=>(os.map (fun o=>(o.op,o.dst))).getD i (m.op,m.dst)):=by
           have ad: ∀(l:List Nat),(∀i∈l,i<os.length)->l.filterMap (fun i=>(os[i]?).map fun o=>(o.op,o.dst))=l.map (fun i=>(os.map (fun o=>(o.op,o.dst))).getD i (m.op,m.dst)):=by
            intro l
            induction l with
            |nil=>intro _;rfl| cons x l ih=>
              intro hx;have af:=hx x Xm;rw [XE,<-ih (fun i hi=>hx i (Xf _ hi))];simp [af]
           exact ad _ fun i hi=>(Ci (by omega) i).1 hi
          rw [I,List.getElem?_map,xt,List.getElem?_map];by_cases hp:p<os.length
          . rw [if_pos hp];simp only [Xn];rcases Xo p (f+1)with K|K|K
            . rw [swN_ne (by omega) (by omega),List.getElem?_append_left (by grind),List.getElem?_take,if_pos K];simp [hp]
            . subst K;rw [swN_k,Xr (by grind),XH,XB (by omega),Nat.sub_self];simp [L]
            . by_cases ai:p=f+2
              . subst ai;rw [swN_k1,Xr (by grind),XH,XB (by omega),show f+2-(f+1)=1 by omega];simp [ha]
              . rw [swN_ne (by omega) (by omega),Xr (by grind),XH,XB (by omega)];obtain⟨d,rfl⟩: ∃d,p=f+3+d:=⟨p-(f+3),by omega⟩;rw [show f+3+d-(f+1)=d+2 by omega,Xu,Xu,List.getElem?_drop];simp [hp]
          grind
         exact List.ext_getElem? H
        rw [uA (ops':=os) o2 _ _ _ _ _ Z T (fun o J=>by
         grind)]
        grind[qF,wV]
      grind[qx,jM,vU]
   next=>cases j
  next=>cases j
 next=>cases j
theorem tieL_sh(os:List Oper)(k:Nat):(oh os k).map (fun o=>(o.op,o.dst))=os.map (fun o=>(o.op,o.dst)):=by refine List.ext_getElem? fun i=>?_;grind[ra,w7]
theorem yx{k:Nat}(h: ∀o∈os,o.guard=none): ∀o∈oh os k,o.guard=none:=by intro o b;obtain⟨i,a⟩:=List.getElem?_of_mem b;rw [ra]at a;obtain⟨c,d,rfl⟩:=Option.map_eq_some_iff.1 a;grind[w7,Xg]
theorem xx(os:List Oper)(ord:List Nat): ∀(l:List Nat),(eh os ord l).map (fun o=>(o.op,o.dst))=l.filterMap fun i=>(os[i]?).map fun o=>(o.op,o.dst)
 | []=>rfl| i::l=>by
   unfold eh;rw [List.filterMap_cons];cases os[i]? with
   |none=>exact xx os ord l|some o=>simp only [XE,Xn,xx os ord l];rfl
theorem sk{os:List Oper}{ord:List Nat}(h: ∀o∈os,o.guard=none): ∀(l:List Nat),∀o∈eh os ord l,o.guard=none
 | [],o,a=>by cases a
 | i ::l,o,a=>by
   unfold eh at a;cases b:os[i]? with
   |none=>rw [b]at a;exact sk h l o a| some c=>
     rw [b]at a;rcases List.mem_cons.1 a with rfl|a
     . grind[Xg,pE]
     . exact sk h l o a
theorem zF{d:List (Nat×Tch)}: ∀{ps c:List (Nat×Nat)},cR d (ps++c)=true->cR d ps=true/\cR d c=true
 | [],_,h=>⟨rfl,h⟩| (i,j)::ps,c,h=>by simp only [Xy,cR,Xb]at h⊢;obtain⟨a,b⟩:=zF h.2;exact⟨⟨h.1,a⟩,b⟩
section
variable{E:Env}{P:Program}(ok:EOk E P){R:Rec}(hc:iM E P R.call)(hcode:jW P R.code)
theorem kill_sim{cx:Cx}{d:Hp}{F:FC}{e:List Frame}{tmps:Array Value}{dfs:List Deferred}{f:Option (Value×Bool)}{t:Tmp}(s:SR P cx l h mu w F e tmps dfs f)(a:qx (some t) l h=some d):
 ∃g,SR P cx l d g w F e tmps dfs f/\Ext mu h w g d w:=by
 unfold qx at a;simp only []at a
 split at a
 next b i=>
  split at a
  next A c B=>
   cases a;have k: ∃m,aw mu (.map (some b)) m:=by
    unfold Loc.ev at i;simp only []at i;cases q:l.regs.get t with
    |none=>grind|some v=>rw [q]at i;simp only []at i;subst i;obtain⟨m,_,x⟩:=s.regs.get t _ q;grind
   obtain⟨m,k⟩:=k;cases k with
   | map u=>
     unfold dW at u;cases n:mu b with
     |none=>grind|dead=>have:=s.hr.dead b n;grind| blk r j p=>
       obtain⟨x,o,C,d,D⟩:=s.hr.blk b r j p n;obtain⟨y,z⟩:=qi s.hr n (by grind) (⟨rfl,d,fun _ _=>rfl,rfl,rfl,rfl⟩:WSet w w r o);refine⟨_,s.step y (fun G _=>?_),z⟩;grind[upd_same,a9]
  next=>cases a
 next=>cases a
include ok hc hcode in
theorem forkD_sim(cx:Cx)(id:Nat)(ops:Array Oper)(l:Loc)(h:Hp)(l':Loc)(h':Hp)(x:Ex)(m:forkD E R ops.toList l h=some (x,l',h'))(mu:Mu)(w:World)(F:FC)(g:List Frame)(tmps:Array Value)(dfs:List Deferred)(c:Option (Value×Bool))(k:List Item)(s:SR P cx l h mu w F g tmps dfs c):
 Sim P cx h mu w F g tmps dfs c (.code (.region id ops true)::k) k x l' h':=by
 unfold forkD at m;cases A:forkP E (cu ops.toList)with
 |none=>grind|some qp=>
 obtain⟨q,ps⟩:=qp;rw [A]at m;simp only []at m;cases T:bZ E R (cu ops.toList) q (cu ops.toList) 0 l h []with
 |none=>grind|some r3=>
 obtain⟨l1,Y,Z⟩:=r3;rw [T]at m;simp only []at m;cases G:cR Z ps with
 |false=>grind|true=>
 rw [G]at m;simp only [cond_true]at m;obtain⟨a,v,U,hC,D⟩:=z9 ops;rw [<-hC]at A T m;unfold forkP at A
 split at A
 next t ms q1 ad q2 af hT hB ai ak=>
  cases H:XC q1 q2 with
  |false=>grind|true=>
  rw [H]at A;cases A;have I:=Xc H;subst I;rw [hT]at m;cases hk:qx (some t) l1 Y with
  |none=>grind|some h2=>
  rw [hk]at m;cases m;obtain⟨J,u,al⟩:=fork_swap hT T hk;obtain⟨ax,ay⟩:=zF G;obtain⟨_,_,g3⟩:=wh _ _ _ hB;simp only [List.length_nil,Xs]at g3;have z: ∀i,rE a.toList ms.reverse i:=fun i o ho=>g3 i o ho;generalize a5:qs a.toList=b at*
  have hn:a.toList.length=a.size:=by simp
  rw [hn]at J;have V:Region.schedule (P.follows .mixedOrders) ops (w.tape w.drawn (.order F.fn id))=Region.linearise.go .any ops ops.size (w.tape w.drawn (.order F.fn id)) (Xa ops.size false) []:=by rw [ok.mixed];rfl
  have K:(fun p=>ct (Xa ops.size false) (v p))=fun _=>false:=by
   funext i;simp only [ct,zO,Xt]
   split<;>rfl
  have W:=xg D z ops.size (w.tape w.drawn (.order F.fn id)) (Xa ops.size false) (by simp [D.size]) (by rw [K,<-D.size];exact qK _);rw [K]at W;generalize a2:Region.linearise.go .any ops ops.size (w.tape w.drawn (.order F.fn id)) (Xa ops.size false) []=j at*
  have L:(j.map U).map v=j:=by rw [XQ,show(v∘U)=fun i=>i from funext D.st];simp_all
  have M: ∀(X:Hp),qx (some t) l' X=some h'->(∃B N d,SR P cx l' X B N F g d dfs c/\Ext mu h w B X N/\
   Steps P (lone (F.mk' tmps dfs (.inRegion ops (j++[])::k)) (aX c g) {w with drawn:=w.drawn+1}) (lone (F.mk' d dfs (.inRegion ops []::k)) (aX c g) N))->
   Sim P cx h mu w F g tmps dfs c (.code (.region id ops true)::k) k .normal l' h':=by
   rintro X aL ⟨B,N,d,s',e',st⟩;obtain⟨a0,s2,e2⟩:=kill_sim s' aL;rw [XI]at st;refine⟨a0,N,d,dfs,c,s2,Ext.trans e' e2,Steps.trans (.one ?_) (Steps.trans st (.one qo))⟩;grind[sH]
  have O:b+1∈j.map U:=Cf (by omega) W rfl;rcases befL_or (y:=b+1+1) O with hb|hb
  . refine M Y hk ?_;have r:=uW ok hc hcode cx (oh a.toList (b+1)).toArray ops (D.same.tie (b+1)) _ (xf W (.inr hb)) [] l h l' Y q ad Z ai
     (by rw [<-T];exact uA _ _ _ _ _ _ (tieL_sh _ _) (yx u) u) ax mu w F g tmps dfs c k s
    simp_all
  . have Q:b+1+1<a.toList.length:=(by rw [hn];omega);have C:=Dx a.toList.length (b+1);have n:=AW a (jb a.toList.length (b+1)) (Ci Q) C (ord2_len _ _) (List.all_eq_true.2 fun o ho=>by unfold jn;rw [u o ho]);have pa:fI (b+1) (jb a.toList.length (b+1))=b+1+1:=xL C (by rw [xt,if_pos Q,swN_k1]);have pb:fI (b+1+1) (jb a.toList.length (b+1))=b+1:=xL C (by rw [xt,if_pos (by omega),swN_k]);obtain⟨h3,e3,k3⟩:=al (oh (eh a.toList (jb a.toList.length (b+1)) (jb a.toList.length (b+1))) (b+1)) (by rw [tieL_sh,xx]) (yx (sk u _));refine M h3 k3 ?_;have g2:=BP n z W;generalize a3:(fun(p:Nat)=>((jb a.toList.length (b+1))[p]?).getD p)=σ2 at*
    generalize a4:(fun(i:Nat)=>if i<a.size then fI i (jb a.toList.length (b+1))else i)=τ2 at*
    have ta:τ2 (b+1)=b+1+1:=(by grind);have tb:τ2 (b+1+1)=b+1:=(by grind);have S:=BG (f:=τ2) (fun p e=>by rw [<-n.st p,e,n.st]) hb;rw [ta,tb]at S;have r:=uW ok hc hcode cx (oh (eh a.toList (jb a.toList.length (b+1)) (jb a.toList.length (b+1))) (b+1)).toArray ops ((D.same.comp n).tie (b+1)) _ (xf g2 (.inr S)) [] l h l' h3 q af Z ak e3 ay mu w F g tmps dfs c k s;have a1:((j.map U).map τ2).map (v∘σ2)=j:=(by rw [XQ,show((v∘σ2)∘τ2)=v from funext fun i=>by show v (σ2 (τ2 i))=v i;rw [n.st]];exact L);simp_all
 next=>cases A
include ok hc hcode in
theorem Cr:xn E P R:=by intro f id b l h g i x j m w F c a d e k s;grind[cutD,hf,uH,forkD_sim,id,En]
end
def RLe(R b:Rec):Prop:=(∀f a d h o,R.call f a d h=some o->b.call f a d h=some o)/\(∀e c l h o,R.code e c l h=some o->b.code e c l h=some o)
def qr{b:Type}(F:Rec->Option b):Prop:= ∀R a,RLe R a-> ∀o,F R=some o->F a=some o
theorem qr.const{a:Type}(x:Option a):qr (fun _=>x):=fun _ _ _ _ h=>h
theorem qr.bind{c f:Type}{F:Rec->Option c}{G:c->Rec->Option f}(g:qr F)(i: ∀a,qr (G a)):qr (fun R=>(F R).bind fun a=>G a R):=by
 intro R d e o h;simp only []at h⊢;cases b:F R with
 |none=>rw [b]at h;cases h
 | some a=>rw [b]at h;rw [g R d e a b];exact i a R d e o h
theorem RLe.refl(R:Rec):RLe R R:=⟨fun _ _ _ _ _ h=>h,fun _ _ _ _ _ h=>h⟩
theorem RLe.trans{a b c:Rec}(h:RLe a b)(k:RLe b c):RLe a c:=⟨fun f x g d o e=>k.1 _ _ _ _ _ (h.1 _ _ _ _ _ e),fun i x l d o e=>k.2 _ _ _ _ _ (h.2 _ _ _ _ _ e)⟩
def MC(E:Env)(W:Rec){a:Type}(F:Rec->Option a):Prop:=qr F/\ ∀o,F W=some o-> ∃n,F (run E n)=some o
section
variable{E:Env}{W:Rec}
theorem MC.const{a:Type}(x:Option a):MC E W (fun _=>x):=⟨.const x,fun _ h=>⟨0,h⟩⟩
theorem MC.bind(e: ∀n m,n<=m->RLe (run E n) (run E m)){f g:Type}{F:Rec->Option f}{G:f->Rec->Option g}(b:MC E W F)(c: ∀a,MC E W (G a)):MC E W (fun R=>(F R).bind fun a=>G a R):=by
 refine⟨b.1.bind fun a=>(c a).1,fun o h=>?_⟩;simp only []at h;cases d:F W with
 |none=>rw [d]at h;cases h
 | some a=>
   rw [d]at h;obtain⟨n,i⟩:=b.2 a d;obtain⟨m,j⟩:=(c a).2 o h;refine⟨n+m,?_⟩;simp only [];rw [b.1 _ _ (e n (n+m) (by omega)) a i];exact(c a).1 _ _ (e m (n+m) (by omega)) o j
theorem MC.congr{a:Type}{F F':Rec->Option a}(e: ∀R,F' R=F R)(h:MC E W F):MC E W F':=by have:F'=F:=funext e;rw [this];exact h
end
section
variable(E:Env)
structure Closed(E:Env)(K: ∀{α:Type},(Rec->Option α)->Prop):Prop where
 const: ∀{α:Type} (x:Option α),K (fun _=>x)
 bind: ∀{α β:Type} {F:Rec->Option α} {G:α->Rec->Option β},K F->(∀a,K (G a))->K (fun R=>(F R).bind fun a=>G a R)
 congr: ∀{α:Type} {F F':Rec->Option α},(∀R,F' R=F R)->K F->K F'
 call: ∀f a rc h,K (fun R=>R.call f a rc h)
 code: ∀cx c l h,K (fun R=>R.code cx c l h)
end
section
variable{E:Env}{K: ∀{α:Type},(Rec->Option α)->Prop}(C:Closed E K)
include C
theorem k_round (b:Nat) (args:List Value) (h:Hp):K (fun R=>kj E R b args h):=by
 unfold kj;cases m:h.get b with
 |none=>exact C.const _| some x =>
   cases x<;>(try exact C.const _);rename_i r;simp only [];cases(E.fn r.fn).isSome with
   |false=>exact C.const _| true =>
     simp only [cond_true]
     split
     next l =>
      split
      next=>exact C.const _
      next c i=>
       refine C.congr (F:=fun R=>(R.code ⟨r.fn,r.nr,some b⟩ r.assign ⟨c,[],none⟩ h).bind fun q=>match q with
        | (.normal,g,d)=>match d.get b with
          | some (.loop e)=>match e.st with
            | 0 =>(R.code ⟨r.fn,r.nr,some b⟩ r.body g (d.put b (.loop {e with st:=1}))).bind fun q=>match q with
              | (.normal,_,a)=>match a.get b with
                |some (.loop f)=>some (.ret (.bool true),a.put b (.loop {f with st:=0,pending:=none}))
                |_=>none
              | (.exit id,_,a)=>match a.get b with
                |some (.loop f)=>some (.ret (.bool false),a.put b (.loop {f with st:=2,pending:=some (.exit id)}))
                |_=>none
              | (.ret,_,a)=>match a.get b with
                |some (.loop f)=>some (.ret (.bool false),a.put b (.loop {f with st:=2,pending:=some .ret}))
                |_=>none
              | (.pan v,j,a)=>match j.dfs with
                | []=>some (.pan v,a)|_=>none
            |_=>none
          |_=>none
        |_=>none) ?_ ?_
       . intro R;cases R.code ⟨r.fn,r.nr,some b⟩ r.assign ⟨c,[],none⟩ h with
         |none=>rfl| some q=>
           obtain⟨x,g,d⟩:=q;cases x<;>(try rfl);simp only [Xw];cases d.get b with
           |none=>rfl| some y=>
             cases y<;>(try rfl);rename_i e;simp only [];cases k:e.st with
             | zero=>
               simp only [];cases R.code ⟨r.fn,r.nr,some b⟩ r.body g (d.put b (.loop {e with st:=1}))with
               |none=>rfl|some q=>obtain⟨x,j,a⟩:=q;cases x<;>rfl
             |succ n=>rfl
       . refine C.bind (C.code _ _ _ _) fun q=>?_;obtain⟨x,g,d⟩:=q;cases x<;>(try exact C.const _);simp only [];cases d.get b with
         |none=>exact C.const _| some y=>
           cases y<;>(try exact C.const _);simp only []
           split
           . refine C.bind (C.code _ _ _ _) fun q=>?_;exact C.const _
           . exact C.const _
     next=>exact C.const _
theorem zo(x:Option (dM×Hp)):K (fun R=>dB E R x):=by
 cases x with
 |none=>exact C.const _| some q=>
   obtain⟨e,h⟩:=q;cases e<;>(try exact C.const _)
   . rename_i f d;refine C.congr (F:=fun R=>(R.call f d none h).bind fun q=>some (q.1,q.2.2)) (fun R=>?_) (C.bind (C.call _ _ _ _) fun _=>C.const _);simp only [dB];cases R.call f d none h with
     |none=>rfl|some q=>obtain⟨a,b,c⟩:=q;rfl
   . exact k_round C _ _ _
theorem k_stepOp(cx:Cx)(o:Oper)(l:Loc)(h:Hp):K (fun R=>eY E R cx o l h):=by
 unfold eY;have a:K (fun R=>pQ o l (dB E R (aop E l.ev h o.op))):=by refine C.congr (F:=fun R=>(dB E R (aop E l.ev h o.op)).bind fun q=>pQ o l (some q)) (fun R=>?_) (C.bind (zo C _) fun _=>C.const _);cases dB E R (aop E l.ev h o.op)<;>rfl
 cases b:aop E l.ev h o.op with
 |none=>exact C.const _| some q=>
   rw [b]at a;obtain⟨c,d⟩:=q;cases c<;>(try exact a)
   . cases cx.round<;>exact C.const _
   . cases cx.round<;>exact C.const _
theorem vk (cx:Cx) (ops:List Oper): ∀(os:List Oper) (l:Loc) (h:Hp),K (fun R=>je E R cx ops os l h)
 | [],l,h=>C.const _| o :: os,l,h=>by
   simp only [je];cases cJ ops l.regs o with
   |none=>exact C.const _| some b=>
     cases b with
     |false=>exact vk cx ops os _ _| true=>
       refine C.congr (F:=fun R=>(eY E R cx o l h).bind fun q=>match q with
        |(.normal,l',h')=>je E R cx ops os l' h'|q=>some q) (fun R=>?_) (C.bind (k_stepOp C _ _ _ _) fun q=>?_)
       . cases eY E R cx o l h with
         |none=>rfl|some q=>obtain⟨x,l',h'⟩:=q;cases x<;>rfl
       . obtain⟨x,l',h'⟩:=q;cases x<;>first|exact vk cx ops os _ _|exact C.const _
theorem k_stepD(ρ:Operand->Value)(a:Bool)(o:Oper)(h:Hp):K (fun R=>di E R ρ a o h):=by
 unfold di;cases a with
 | true=>
   refine C.congr (F:=fun R=>(dB E R (aop E ρ {h with lo:=h.n} o.op)).bind fun q=>match q with
    |(.ret v,b)=>bif Nat.ble h.n b.lo then some (v,{b with lo:=h.lo})else none
    |_=>none) (fun R=>?_) (C.bind (zo C _) fun _=>C.const _)
   simp only [cond_true];cases dB E R (aop E ρ {h with lo:=h.n} o.op)with
   |none=>rfl|some q=>obtain⟨x,b⟩:=q;cases x<;>rfl
 | false=>
   refine C.congr (F:=fun R=>(dB E R (aop E ρ h o.op)).bind fun q=>match q with
    |(.ret v,b)=>some (v,b)|_=>none) (fun R=>?_) (C.bind (zo C _) fun _=>C.const _)
   simp only [cond_false];cases dB E R (aop E ρ h o.op)with
   |none=>rfl|some q=>obtain⟨x,b⟩:=q;cases x<;>rfl
theorem qV (ops:List Oper) (q:Nat): ∀(os:List Oper) (i:Nat) (l:Loc) (h:Hp) (c:List (Nat×Tch)),K (fun R=>bZ E R ops q os i l h c)
 | [],i,l,h,c=>C.const _| o :: os,i,l,h,c=>by
   simp only [bZ];cases cJ ops l.regs o with
   |none=>exact C.const _| some b=>
     cases b with
     |false=>exact qV ops q os _ _ _ _| true=>
       refine C.congr (F:=fun R=>(di E R (l.evD (tmpsOf o.op.operands.toList)) (fF E q i o.op) o h).bind fun p=>
        bZ E R ops q os (i+1) (l.put o.dst p.1) p.2 (iR i c (cQ (l.evD (tmpsOf o.op.operands.toList)) (fF E q i o.op) o.op h p.2))) (fun R=>?_) (C.bind (k_stepD C _ _ _ _) fun q=>qV ops _ os _ _ _ _)
       cases di E R (l.evD (tmpsOf o.op.operands.toList)) (fF E q i o.op) o h with
       |none=>rfl|some p=>obtain⟨a,b⟩:=p;rfl
theorem k_range (cx:Cx) (f:Value) (params:Array Tmp) (assign body:Code) (l:Loc) (h:Hp):K (fun R=>js R cx f params assign body l h):=by
 unfold js;cases f<;>(try exact C.const _);rename_i t a b;cases t<;>(try exact C.const _);rename_i g;simp only []
 split
 . exact C.const _
 . rename_i e d c _;refine C.congr (F:=fun R=>(R.call g (a.toList++[.func (.yield e.n) #[] #[]]++b.toList) none
    (e.new (.loop {fn:=cx.fn,regs:=l.regs,nr:=cx.nr,params,assign,body,st:=0,pending:=none,defers:=d}))).bind fun q=>match q with
    |(.pan v,_,i)=>some (.pan v,{l with dfs:=c},i)
    | (.ret _,_,i)=>match i.get e.n with
      | some (.loop x)=>match x.st with
        |1=>none| _=>match x.pending with
          |none=>some (.normal,{l with dfs:=c},i.put e.n .dead)
          |some (.exit id)=>some (.exit id,{l with dfs:=c},i.put e.n .dead)
          |some .ret=>some (.ret,{l with dfs:=c},i.put e.n .dead)
          |_=>none
      |_=>none) (fun R=>?_) (C.bind (C.call _ _ _ _) fun _=>C.const _)
   cases R.call g (a.toList++[.func (.yield e.n) #[] #[]]++b.toList) none
         (e.new (.loop {fn:=cx.fn,regs:=l.regs,nr:=cx.nr,params,assign,body,st:=0,pending:=none,defers:=d}))with
   |none=>rfl|some q=>obtain⟨x,y,z⟩:=q;cases x<;>rfl
theorem k_code(cx:Cx): ∀(c:Code) (l:Loc) (h:Hp),K (fun R=>aP E R cx c l h):=by
 intro c
 induction c with
 |skip=>intro l h;exact C.const _|label n=>intro l h;exact C.const _| region id d r=>
   intro l h;simp only [aP];cases r with
   |false=>exact vk C _ _ _ _ _| true=>
     simp only [cond_true];cases E.cut cx.fn with
     | false=>
       simp only [cond_false];cases jT E (cu d.toList)with
       |none=>exact C.const _| some p=>
         obtain⟨q,o⟩:=p;simp only [];refine C.congr (F:=fun R=>(bZ E R (cu d.toList) q (cu d.toList) 0 l h []).bind fun x=>bif cR x.2.2 o then some (.normal,x.1,x.2.1)else none) (fun R=>?_) (C.bind (qV C _ _ _ _ _ _ _) fun _=>C.const _);cases bZ E R (cu d.toList) q (cu d.toList) 0 l h []with
         |none=>rfl|some x=>obtain⟨a,b,c⟩:=x;rfl
     | true =>
       simp only [cond_true,cutD];cases uH E d.toList with
       | true=>
         simp only [cond_true,forkD];cases forkP E (cu d.toList)with
         |none=>exact C.const _| some p=>
           obtain⟨q,o⟩:=p;simp only [];refine C.congr (F:=fun R=>(bZ E R (cu d.toList) q (cu d.toList) 0 l h []).bind fun x=>bif cR x.2.2 o then(match qx (vJ E (cu d.toList) (qs (cu d.toList))) x.1 x.2.1 with
            |some y=>some (.normal,x.1,y)|none=>none)else none) (fun R=>?_) (C.bind (qV C _ _ _ _ _ _ _) fun _=>C.const _)
           cases bZ E R (cu d.toList) q (cu d.toList) 0 l h []with
           |none=>rfl|some x=>obtain⟨a,b,c⟩:=x;rfl
       |false=>
       simp only [cond_false,uI];cases lu d.toList (d.toList.length-1)with
       |false=>exact C.const _| true=>
         simp only [cond_true];generalize cu (d.toList.take (cutN d.toList))=A;cases jT E A with
         |none=>exact C.const _| some p=>
           obtain⟨q,o⟩:=p;simp only [];refine C.congr (F:=fun R=>(bZ E R A q A 0 l h []).bind fun x=>bif cR x.2.2 o then je E R cx d.toList (d.toList.drop (cutN d.toList)) x.1 x.2.1 else none) (fun R=>?_) (C.bind (qV C _ _ _ _ _ _ _) fun x=>?_)
           . cases bZ E R A q A 0 l h []with
             |none=>rfl|some x=>obtain⟨a,b,c⟩:=x;rfl
           . cases cR x.2.2 o with
             |false=>exact C.const _|true=>exact vk C _ _ _ _ _
 | seq a b j k=>
   intro l h;simp only [aP];refine C.congr (F:=fun R=>(aP E R cx a l h).bind fun q=>match q with
    |(.normal,e,g)=>aP E R cx b e g|q=>some q) (fun R=>?_) (C.bind (j _ _) fun q=>?_)
   . cases aP E R cx a l h with
     |none=>rfl|some q=>obtain⟨x,e,g⟩:=q;cases x<;>rfl
   . obtain⟨x,e,g⟩:=q;cases x<;>first|exact k _ _|exact C.const _
 | cond c a b j k=>
   intro l h;simp only [aP];cases l.ev c<;>(try exact C.const _);rename_i t;cases t
   . exact k _ _
   . exact j _ _
 | block id b s=>
   intro l h;simp only [aP];refine C.congr (F:=fun R=>(aP E R cx b l h).bind fun q=>match q with
    |(.exit i,e,g)=>bif XC i id then some (.normal,e,g)else some (.exit i,e,g)
    |q=>some q) (fun R=>?_) (C.bind (s _ _) fun _=>C.const _)
   cases aP E R cx b l h with
   |none=>rfl|some q=>obtain⟨x,e,g⟩:=q;cases x<;>rfl
 | loop b s=>
   intro l h;simp only [aP];refine C.congr (F:=fun R=>(aP E R cx b l h).bind fun q=>match q with
    |(.normal,e,g)=>R.code cx (.loop b) e g|q=>some q) (fun R=>?_) (C.bind (s _ _) fun q=>?_)
   . cases aP E R cx b l h with
     |none=>rfl|some q=>obtain⟨x,e,g⟩:=q;cases x<;>rfl
   . obtain⟨x,e,g⟩:=q;cases x<;>first|exact C.code _ _ _ _|exact C.const _
 |rangeFunc f u v w _ _=>intro l h;exact k_range C _ _ _ _ _ _ _|exit id=>intro l h;exact C.const _|scope b s=>intro l h;exact s _ _|goto n=>intro l h;exact C.const _|ret=>intro l h;exact C.const _|refuse m=>intro l h;exact C.const _
theorem qR : ∀(e:List Deferred) (m:Option Value) (h:Hp),K (fun R=>cI R e m h)
 | [],m,h=>C.const _| d :: e,m,h=>by
   simp only [cI];cases d.target with
   |nil=>exact C.const _|builtin a b c d=>exact C.const _|coroexit=>exact C.const _| collected b=>
     simp only [];cases h.get b with
     |none=>exact C.const _|some x=>cases x<;>first|exact qR e _ _|exact C.const _
   | fn t cap=>
     cases t<;>(try exact C.const _);rename_i f;simp only [];refine C.congr (F:=fun R=>(R.call f (d.args.toList++cap.toList) (match m with|none=>none|some v=>some (v,false)) h).bind fun q=>match q with
      | (.ret _,rc,h')=>match m,rc with
        |none,none=>cI R e none h'|some _,some (_,true)=>cI R e none h'|some _,some (v,false)=>cI R e (some v) h'|_,_=>none
      |_=>none) (fun R=>?_) (C.bind (C.call _ _ _ _) fun q=>?_)
     . cases R.call f (d.args.toList++cap.toList) (match m with|none=>none|some v=>some (v,false)) h with
       |none=>rfl|some q=>obtain⟨x,y,z⟩:=q;cases x<;>rfl
     . obtain⟨x,rc,h'⟩:=q;cases x with
       |pan v=>exact C.const _| ret v=>
         simp only [];cases m with
         |none=>cases rc<;>first|exact qR e _ _|exact C.const _
         | some g=>
           cases rc with
           |none=>exact C.const _|some y=>obtain⟨i,b⟩:=y;cases b<;>exact qR e _ _
theorem k_body (f:FuncId) (args:List Value) (rc:Option (Value×Bool)) (h:Hp):K (fun R=>mE E R f args rc h):=by
 unfold mE;cases E.fn f with
 |none=>exact C.const _| some b =>
   simp only [];cases b.body with
   |none=>exact C.const _| some e=>
     simp only [];cases Nat.ble args.length b.ntmps with
     |false=>exact C.const _| true =>
       simp only [cond_true];have g: ∀(l:Loc) (c:Hp),K (fun R=>match cI R l.dfs none c with
        | some (none,a)=>match bR E l.regs a b.results.toList with
          |none=>none|some d=>some (Out.ret (ab d),l.rc,a)
        |_=>none):=by
        intro l c;refine C.congr (F:=fun R=>(cI R l.dfs none c).bind fun q=>match q with
         | (none,a)=>match bR E l.regs a b.results.toList with
           |none=>none|some d=>some (Out.ret (ab d),l.rc,a)
         |_=>none) (fun R=>?_) (C.bind (qR C _ _ _) fun _=>C.const _)
        cases cI R l.dfs none c with
        |none=>rfl|some q=>obtain⟨x,y⟩:=q;cases x<;>rfl
       refine C.congr (F:=fun R=>(R.code ⟨f,b.ntmps,none⟩ e ⟨(Tr.blank (.tuple #[]) b.ntmps b.ntmps).setAll 0 args,[],rc⟩ h).bind fun q=>match q with
        |(.exit _,_,_)=>none| (.pan v,l,c)=>match cI R l.dfs (some v) c with
          |none=>none|some (some v,a)=>some (Out.pan v,l.rc,a)| some (none,a)=>match bR E l.regs a b.results.toList with
            |none=>none|some d=>some (Out.ret (ab d),l.rc,a)
        | (_,l,c)=>match cI R l.dfs none c with
          | some (none,a)=>match bR E l.regs a b.results.toList with
            |none=>none|some d=>some (Out.ret (ab d),l.rc,a)
          |_=>none) (fun R=>?_) (C.bind (C.code _ _ _ _) fun q=>?_)
       . cases R.code ⟨f,b.ntmps,none⟩ e ⟨(Tr.blank (.tuple #[]) b.ntmps b.ntmps).setAll 0 args,[],rc⟩ h with
         |none=>rfl|some q=>obtain⟨x,y,z⟩:=q;cases x<;>rfl
       . obtain⟨x,l,c⟩:=q;cases x with
         |exit id=>exact C.const _|normal=>exact g l c|ret=>exact g l c| pan v=>
           simp only [];refine C.congr (F:=fun R=>(cI R l.dfs (some v) c).bind fun q=>match q with
            |(some v,a)=>some (Out.pan v,l.rc,a)| (none,a)=>match bR E l.regs a b.results.toList with
              |none=>none|some d=>some (Out.ret (ab d),l.rc,a)) (fun R=>?_) (C.bind (qR C _ _ _) fun _=>C.const _)
           cases cI R l.dfs (some v) c with
           |none=>rfl|some q=>obtain⟨x,y⟩:=q;cases x<;>rfl
theorem k_call(f:FuncId)(args:List Value)(rc:Option (Value×Bool))(h:Hp):K (fun R=>jB E R f args rc h):=by
 unfold jB;cases E.orc f args with
 |none=>exact k_body C f args rc h|some v=>cases rc<;>exact C.const _
end
theorem lg(E:Env):Closed E (fun F=>qr F)where
 const:=qr.const
 bind:=fun hF hG=>hF.bind hG
 congr:=fun e h=>by have:=funext e;rw [this];exact h
 call:=fun f a rc h R R' le o=>le.1 f a rc h o
 code:=fun cx c l h R R' le o=>le.2 cx c l h o
theorem next_mono{b:Rec}(h:RLe R b):RLe (next E R) (next E b):=
 ⟨fun f a g d o e=>k_call (lg E) f a g d R b h o e,fun i c l d o e=>k_code (lg E) i c l d R b h o e⟩
theorem Bw{E:Env}: ∀n,RLe (run E n) (run E (n+1))
 | 0=>by
   constructor
   . intro f a b h o e;cases e
   . intro d c l h o e;cases e
 |n+1=>next_mono (Bw n)
theorem run_up(n m:Nat)(h:n<=m):RLe (run E n) (run E m):=by
 induction m with
 | zero => have:n=0:=by omega
           subst this;exact RLe.refl _
 | succ m a=>
   by_cases e:n=m+1
   . subst e;exact RLe.refl _
   . exact(a (by omega)).trans (Bw m)
open Classical in
noncomputable def limOf{a:Type}(F:Nat->Option a):Option a:=if h: ∃n o,F n=some o then some (Classical.choose (Classical.choose_spec h))else none
theorem xP{d:Type}{F:Nat->Option d}(e: ∀n m,n<=m-> ∀o,F n=some o->F m=some o){o:d}:limOf F=some o↔ ∃n,F n=some o:=by
 constructor
 . intro h;unfold limOf at h
   split at h
   . rename_i c;cases h;exact⟨_,Classical.choose_spec (Classical.choose_spec c)⟩
   . cases h
 . intro⟨n,h⟩;unfold limOf;have c: ∃n o,F n=some o:=⟨n,o,h⟩;rw [dif_pos c];have f:=Classical.choose_spec (Classical.choose_spec c);have a:=e _ (n+Classical.choose c) (by omega) _ h;have b:=e _ (n+Classical.choose c) (by omega) _ f;rw [a]at b;cases b;rfl
noncomputable def lim(E:Env):Rec where
 call:=fun f a rc h=>limOf fun n=>(run E n).call f a rc h
 code:=fun cx c l h=>limOf fun n=>(run E n).code cx c l h
theorem rA{a:List Value}{rc:Option (Value×Bool)}{o:Out×Option (Value×Bool)×Hp}:(lim E).call f a rc h=some o↔ ∃n,(run E n).call f a rc h=some o:=
 xP fun n m b o e=>(run_up n m b).1 _ _ _ _ _ e
theorem te{cx:Cx}{c:Code}{o:Ex×Loc×Hp}:(lim E).code cx c l h=some o↔ ∃n,(run E n).code cx c l h=some o:=
 xP fun n m a o e=>(run_up n m a).2 _ _ _ _ _ e
theorem run_lim(n:Nat):RLe (run E n) (lim E):=⟨fun _ _ _ _ _ h=>rA.2 ⟨n,h⟩,fun _ _ _ _ _ h=>te.2 ⟨n,h⟩⟩
theorem yF(E:Env):Closed E (fun F=>MC E (lim E) F)where
 const:=MC.const
 bind:=fun hF hG=>MC.bind run_up hF hG
 congr:=fun e h=>MC.congr e h
 call:=fun f a rc h=>⟨(lg E).call f a rc h,fun _ e=>rA.1 e⟩
 code:=fun cx c l h=>⟨(lg E).code cx c l h,fun _ e=>te.1 e⟩
theorem yR{c:Type}{x y:Option c}(h: ∀o,x=some o↔y=some o):x=y:=by
 cases x with
 | none=>cases y with
   |none=>rfl|some b=>exact absurd ((h b).2 rfl) (by simp)
 |some a=>exact((h a).1 rfl).symm
theorem call_eq(E:Env)(f:FuncId)(a:List Value)(rc:Option (Value×Bool))(h:Hp):(lim E).call f a rc h=jB E (lim E) f a rc h:=by
 refine yR fun o=>⟨fun e=>?_,fun e=>?_⟩
 . obtain⟨n,b⟩:=rA.1 e;cases n with
   |zero=>cases b
   |succ n=>exact k_call (lg E) f a rc h _ _ (run_lim n) o b
 . obtain⟨n,b⟩:=(k_call (yF E) f a rc h).2 o e;exact rA.2 ⟨n+1,b⟩
theorem zu(E:Env)(cx:Cx)(c:Code)(l:Loc)(h:Hp):(lim E).code cx c l h=aP E (lim E) cx c l h:=by
 refine yR fun o=>⟨fun e=>?_,fun e=>?_⟩
 . obtain⟨n,a⟩:=te.1 e;cases n with
   |zero=>cases a
   |succ n=>exact k_code (lg E) cx c l h _ _ (run_lim n) o a
 . obtain⟨n,a⟩:=(k_code (yF E) cx c l h).2 o e;exact te.2 ⟨n+1,a⟩
theorem lim_ok(a:EOk E P):iM E P (lim E).call:=by intro g b j h o e k f;obtain⟨n,i⟩:=rA.1 f;exact(run_ok a (fun _ c d=>⟨draw_ok a c d,Cr a c d⟩) n).1 _ _ _ _ _ _ _ i
theorem Dp(p:iM E P R.call){args:List Value}(i:args.all du=true)(l:du v=true)
 (q:R.call f args none hp0=some (.ret v,none,h')):(∃m,E.fn f=some m/\m.body.isSome=true)/\OrcAt P f args v:=by
 obtain⟨r,s⟩:=p _ _ _ _ _ _ _ q;refine⟨r,i,l,fun w j d t=>?_⟩;obtain⟨u,y,e,z,I,g,A,J,B,C,D⟩:=s mu0 w ⟨args⟩ none j d (hrel0 w) glob0 (LR.refl fun a k=>aw.const mu0 (by simp only [Xq]at i;exact i a k)) trivial t;cases e with
 |some x=>exact A.elim| none=>
   obtain⟨K,n,F⟩:=C;rw [aw.const_eq l F]at n;exact⟨y,z,⟨fun c G=>g.frame c G (by intro b o H h;unfold mu0 at h;split at h<;>cases h),g.wsize,g.os,g.tape,g.output⟩,B,n,D⟩
theorem Eo(a:EOk E P){args:List Value}(e:args.all du=true)(g:du v=true)
 (h:(run E n).call f args none hp0=some (.ret v,none,h')):(∃b,E.fn f=some b/\b.body.isSome=true)/\OrcAt P f args v:=
 Dp (R:=run E n) (run_ok a (fun _ c d=>⟨draw_ok a c d,Cr a c d⟩) n).1 e g h
end Go.Ab

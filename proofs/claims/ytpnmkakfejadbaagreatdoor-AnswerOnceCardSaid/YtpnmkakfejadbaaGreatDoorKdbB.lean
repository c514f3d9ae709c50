/- A deterministic evaluator of the model's code, and that the model follows it (part 2). -/
import Derived.Test.YtpnmkakfejadbaaGreatDoorKdbA
import Derived.Orders
import Derived.ChangeSame
import Derived.RowKit3
import Derived.JoinedOf
import Derived.KernelRfl
import Derived.WalkKit
import Derived.ProofKit
import Derived.OpenShut
import Derived.Carry
open And renaming intro->zM
open Array renaming getElem?_eq_getElem->zO,getD_eq_getD_getElem?->Xe,replicate->Xl,getElem?_toList->Xx,getElem?_push->XB,getElem?_replicate->XN,getElem?_eq_none->XR,all_eq_true'->X8
open Nat renaming eq_of_beq_eq_true->Xa,ble_eq_true_of_le->Xd,le_refl->Xf,ble->Xg,lt_of_lt_of_le->Xh,beq->Xi,beq_refl->Xj,le_trans->Xm,le_of_ble_eq_true->Xq,lt_or_ge->Xr,lt_trichotomy->Xw,zero_add->XA,le_mul_of_pos_right->XD,blt->XP,zero_le->XS,min_eq_left->XZ,mul_le_mul_right->X6,blt_eq->Yb,succ_mul->Yp,add_mul->Yq
open Bool renaming and_eq_true->Xb,not_eq_true'->Xo,or_eq_true->XW
open List renaming mem_of_getElem?->Xc,mem_cons_of_mem->Xn,ext_getElem?->Xp,length_append->Xs,mem_cons_self->Xt,getElem?_eq_some_iff->Xu,getElem?_eq_getElem->Xv,getElem?_append_right->Xy,nodup_append->Xz,map_congr_left->XC,append_nil->XF,getElem?_map->XG,mem_range->XH,replicate->XI,all_eq_true->XJ,cons_append->XK,drop_eq_getElem_cons->XL,getElem?_append_left->XM,getElem?_cons_succ->XQ,mem_filter->XX,length_nil->XY,mem_map_of_mem->X7,map_cons->X9,pairwise_iff_getElem->Ya,length_cons->Yd,length_take->Ye,take_length->Yf,getElem?_replicate->Yg,nil_append->Yh,range'->Yi,getElem?_toArray->Yj,take_append_drop->Yk,length_replicate->Yl,drop_zero->Ym,mem_map->Yn,map_map->Yo
open Iff renaming rfl->Xk
open Option renaming map_some->XE,map_eq_some_iff->XT,bind_some->XU,getD_some->XV,map->Yc
open Prod renaming fst->XO
set_option maxHeartbeats 400000
set_option linter.defProp false
set_option linter.unusedVariables false
set_option linter.unusedSimpArgs false
namespace Go.Ab
variable{E:Env}
variable{A ops:Array Oper}
variable{c i j k md n p q top:Nat}
variable{ps:List (Nat×Nat)}
variable{a os:List Oper}
variable{x y:Operand}
variable{h h' h0:Hp}
variable{e mu mu0:Mu}
variable{W w w':World}
variable{ρ:Operand->Value}
variable{d dfs:List Deferred}
variable{op:Op}
variable{cap tmps:Array Value}
variable{F:FC}
variable{cs:List Frame}
variable{ord rest:List Nat}
variable{o:Oper}
variable{v:Value}
variable{args l post vs z:List Value}
variable{S:Nat->Bool}
variable{m:Int}
variable{t:Tmp}
variable{R:Rec}
variable{s:Option Nat}
variable{f g:FuncId}
variable{r:List (Nat×Value)}
variable{σ τ:Nat->Nat}
variable{K Q:Value->Hp->Prop}
variable{M M':Nat->Prop}
variable{cx:Cx}
variable{rc:Option (Value×Bool)}
variable{P:Program}
variable{assign body:Code}
variable{rs:List ResultVar}
variable{as:Array Operand}
variable{k' kd:IntKind}
variable{params:Array Tmp}
variable{xs:List (List Value)}
variable{J:Nat->Hp->List Nat->Prop}
variable{Z:Out->Hp->Prop}
theorem y8{E:Env}{ops:List Oper}: ∀(os:List Oper) (b:List Nat) (n q:Nat) (l:List (Nat×Nat)) (a:Nat) (l':List (Nat×Nat)),xk E ops os b n (q,l)=some (a,l')->
 Sub q a/\(∀x∈l,x∈l')/\ ∀j o,os[j]? =some o->(cls E o.op=4->a.testBit (n+j)=true)/\
  ∃m,b[j]? =some m/\ ∀i p,i<n+j->ops[i]? =some p->m.testBit i=false->Owe E ops o p i (n+j) a l'
 | [],b,n,q,l,a,l',h=>by cases b<;>(cases h;exact⟨fun _ x=>x,fun _ x=>x,fun j o k=>by simp at k⟩)
 |o::os,[],n,q,l,a,l',h=>by cases h
 | o :: os,m::b,n,q,l,a,l',h=>by
   simp only [xk]at h
   split at h
   next=>cases h
   next r s t=>
    obtain⟨u,v,w⟩:=owed_ok _ _ _ _ _ _ t;obtain⟨e,f,y⟩:=y8 os b (n+1) _ s a l' h;have g:Sub r a:=by
     intro x c;apply e;cases Xi (cls E o.op) 4 with
     |true=>simp_all|false=>exact c
    refine⟨fun x c=>g x (u x c),fun x c=>f x (v x c),fun j z d=>?_⟩;cases j with
    | zero=>
      simp at d;subst d;refine⟨fun A=>?_,m,rfl,fun i p B C D=>?_⟩
      . apply e;simp_all
      . have:=w i p (by grind) (by grind);rw [XA]at this;exact this.mono g f
    | succ j=>grind
theorem plan_ok{ops:List Oper}(h:kH E ops=some (q,ps)):
 ∃ M:List Nat,(∀i,sF ops M i)/\ ∀n o,ops[n]? =some o->(cls E o.op=4->q.testBit n=true)/\
   ∀m,M[n]? =some m-> ∀i p,i<n->ops[i]? =some p->m.testBit i=false->Owe E ops o p i n q ps:=by
 unfold kH at h
 split at h
 next=>cases h
 next b a=>
  obtain⟨_,_,d⟩:=wP _ _ _ a;obtain⟨_,_,e⟩:=y8 _ _ _ _ _ _ _ h;refine⟨b.reverse,fun i o c=>?_,fun n o c=>?_⟩
  . simp_all
  grind
inductive wF(E:Env)(R:Rec)(ops:List Oper)(q i:Nat)(o:Oper)(l:Loc)(h:Hp):Loc->Hp->Option Nat->Bool->Prop
 |skip:cU ops l.regs o=some false->wF E R ops q i o l h (l.put o.dst (.tuple #[])) h none false
 |exec {v:Value} {h':Hp}:cU ops l.regs o=some true->dp E R (l.evD (tmpsOf o.op.operands.toList)) (fZ E q i o.op) o h=some (v,h')->
  wF E R ops q i o l h (l.put o.dst v) h' (jo (l.evD (tmpsOf o.op.operands.toList)) o.op h) true
theorem DD{E:Env}{R:Rec}{ops:List Oper}{q:Nat}: ∀(os:List Oper) (i:Nat) (l:Loc) (h:Hp) (d:List (Nat×Tch)) (l':Loc) (h':Hp) (a:List (Nat×Tch)),bW E R ops q os i l h d=some (l',h',a)->
 (∀k,k<i->cP k a=cP k d)/\
 ∃ (L:Nat->Loc) (H:Nat->Hp) (T:Nat->Option Nat) (X:Nat->Bool),L i=l/\H i=h/\L (i+os.length)=l'/\H (i+os.length)=h'/\
   (∀j o,os[j]? =some o->wF E R ops q (i+j) o (L (i+j)) (H (i+j)) (L (i+j+1)) (H (i+j+1)) (T (i+j)) (X (i+j)))/\
   (∀j o b,os[j]? =some o->dJ o.op=false->T (i+j)=some b->cP (i+j) a=some (.blk b))/\
   (∀j o,os[j]? =some o->dJ o.op=true->X (i+j)=true->fZ E q (i+j) o.op=false->cP (i+j) a=some (.run (H (i+j)) (H (i+j+1))))
 | [],i,l,h,d,l',h',a,f=>by
   cases f;exact⟨fun _ _=>rfl,fun _=>l,fun _=>h,fun _=>none,fun _=>false,rfl,rfl,rfl,rfl,fun j o n=>by simp at n,fun j o b n=>by simp at n,fun j o n=>by simp at n⟩
 | o ::os,i,l,h,d,l',h',a,f=>by
   have next: ∀{r:Loc} {m:Hp} {c:List (Nat×Tch)} {t:Option Nat} {x:Bool} {nt:Option Tch},bW E R ops q os (i+1) r m c=some (l',h',a)->c=gG i d nt->wF E R ops q i o l h r m t x->
    (dJ o.op=false-> ∀b,t=some b->nt=some (.blk b))->(dJ o.op=true->x=true->fZ E q i o.op=false->nt=some (.run h m))->
    (∀k,k<i->cP k a=cP k d)/\
    ∃ (L:Nat->Loc) (H:Nat->Hp) (T:Nat->Option Nat) (X:Nat->Bool),L i=l/\H i=h/\L (i+(o::os).length)=l'/\H (i+(o::os).length)=h'/\
      (∀j o',(o::os)[j]? =some o'->wF E R ops q (i+j) o' (L (i+j)) (H (i+j)) (L (i+j+1)) (H (i+j+1)) (T (i+j)) (X (i+j)))/\
      (∀j o' b,(o::os)[j]? =some o'->dJ o'.op=false->T (i+j)=some b->cP (i+j) a=some (.blk b))/\
      (∀j o',(o::os)[j]? =some o'->dJ o'.op=true->X (i+j)=true->fZ E q (i+j) o'.op=false->cP (i+j) a=some (.run (H (i+j)) (H (i+j+1)))):=by
    intro r m c t x nt s p G I J;obtain⟨y,L,H,T,X,K,M,N,O,P,Q,S⟩:=DD os (i+1) r m c l' h' a s;have g: ∀k,k<i->cP k c=cP k d:=by
     intro k z;rw [p];cases nt with
     |none=>rfl| some b=>
       show(bif Xi k i then some b else cP k d)=_;rw [cR,decide_eq_false (by omega)];rfl
    have A: ∀e,nt=some e->cP i a=some e:=(by intro e B;rw [y i (by omega),p,B];show(bif Xi i i then some e else cP i d)=_;simp_all);refine⟨fun k z=>(y k (by omega)).trans (g k z),fun k=>if k=i then l else L k,fun k=>if k=i then h else H k,fun k=>if k=i then t else T k,fun k=>if k=i then x else X k,by simp,by simp,?_,?_,?_,?_,?_⟩
    . grind
    . grind
    . grind
    . grind
    grind
   simp only [bW]at f
   split at f
   next=>cases f
   next u=>exact next (t:=none) (nt:=none) f rfl (.skip u) (fun _ b e=>by cases e) (fun _ e=>by cases e)
   next u=>
    split at f
    next=>cases f
    next v m C=>
     refine next f rfl (.exec u C) (fun w b D=>?_) (fun w _ F=>?_)
     . unfold cH;rw [w,D];rfl
     . unfold cH;rw [w,F];rfl
theorem tX{b:List (Nat×Tch)}: ∀{ps:List (Nat×Nat)},c8 b ps=true-> ∀{i j:Nat},(i,j)∈ps->iS (cP i b) (cP j b)=true
 | [],_,i,j,a=>by cases a
 | (c,d)::ps,h,i,j,a=>by
   simp only [c8,Xb]at h;rcases List.mem_cons.1 a with e|a
   . cases e;exact h.1
   . exact tX h.2 a
theorem xK{a b:Addr}(h:sameAddr a b=true):a=b:=by
 unfold sameAddr at h;simp only [Xb]at h;obtain⟨⟨f,g⟩,c⟩:=h;have d:=Xa f;have e:=Xa g;obtain⟨x,y,z⟩:=a;obtain⟨j,k,i⟩:=b;simp only []at d e c;subst d e;cases z<;>cases i<;>simp at c
 . rfl
 . subst c;rfl
theorem sH{a b:Value}(h:th a b=true):a=b:=by
 unfold th at h
 split at h
 next t c=>subst h;exact pg c
 next=>
  split at h
  next=>rfl
  next=>rw [xK h]
  next=>simp_all
  next=>simp only [Xb]at h;grind[xK,Xa]
  next=>rfl
  next=>simp_all
  next=>rfl
  next=>rfl
  next=>cases h
theorem Bf: ∀{l m:List Value},vg l m=true->l=m
 | [],[],_=>rfl| [],_::_,h=>by cases h
 |_::_,[],h=>by cases h
 | x::l,y::m,h=>by simp only [vg,Xb]at h;rw [sH h.1,Bf h.2]
theorem AC{a b:Value}(h:zF a b=true):a=b:=by
 unfold zF at h
 split at h
 next g x y c d e=>simp only [Xb]at h;grind[Xa,Array.toList_inj,Bf]
 next=>simp only [Xb]at h;rw [Xa h.1,sH h.2]
 next=>exact sH h
theorem yr: ∀{t u:Tr Value},sameT t u=true->t=u
 | .nil,.nil,_=>rfl| .nil,.node ..,h=>by cases h
 | .node ..,.nil,h=>by cases h
 | .node x l r,.node a b c,h=>by simp only [sameT,Xb]at h;rw [AC h.1,yr h.2.1,yr h.2.2]
theorem Dp: ∀{l m:List (Value×Value×Nat)},sameE l m=true->l=m
 | [],[],_=>rfl| [],_::_,h=>by cases h
 |_::_,[],h=>by cases h
 | (k,x,n)::l,(a,y,m)::b,h=>by simp only [sameE,Xb]at h;rw [sH h.1,AC h.2.1,Xa h.2.2.1,Dp h.2.2.2]
theorem sameB_ok{x y:Blk}(h:sameB x y=true):x=y:=by
 unfold sameB at h;rw [XW]at h;rcases h with h|h
 . split at h
   next=>simp only [Xb]at h;grind[yr,Xa]
   next=>simp only [Xb]at h;rw [Xa h.1,Dp h.2]
   next=>cases h
 grind
theorem AN{b:Nat}(e:leaves h h' b=true):h'.get b=h.get b:=by grind[leaves,sameB_ok]
theorem qf{b:Nat}(e:h'.get b=h.get b):leaves h h' b=true:=by
 unfold leaves;rw [e];cases h.get b with
 |none=>rfl| some x=>show sameB x x=true;unfold sameB;grind
theorem hrel_lo(a:aZ mu h w)(x:Nat):aZ mu {h with lo:=x} w:=⟨a.sized,a.blk,a.dead,a.inj,a.lt⟩
theorem Cf{d:Operand->Value}(g: ∀x,aC mu (ρ x) (d x)){b:Nat}(e:touch ρ op=some b):mu b≠ .none:=by
 have j: ∀{x:Operand},(match ρ x with| .pointer (some a)=>some a.block|_=>none)=some b->mu b≠ .none:=by
  intro x f;have:=g x
  split at f
  next a i=>rw [i]at this;cases f;generalize d x=y at this;cases this;rename_i h;exact h.in
  next=>cases f
 have n: ∀{x:Operand},(match ρ x with| .map r=>r|_=>none)=some b->mu b≠ .none:=by
  intro x f;have:=g x
  split at f
  next r k=>rw [k]at this;subst f;generalize d x=y at this;cases this;rename_i h;exact h.in
  next=>cases f
 have o: ∀{x:Operand},(match ρ x with| .slice (some a) _ _=>some a.block|_=>none)=some b->mu b≠ .none:=by
  intro x f;have:=g x
  split at f
  next a l c i=>rw [i]at this;cases f;generalize d x=y at this;cases this;rename_i m h;exact m.in
  next=>cases f
 unfold touch at e;cases op<;>simp only []at e<;>(try (cases e;done))<;>(try exact j e)<;>(try exact n e)<;>(try exact o e)
 split at e
 next x p f=>
  have:=g x
  split at e
  next r k=>rw [k]at this;subst e;generalize d x=y at this;cases this;rename_i h;exact h.in
  next a l c i=>rw [i]at this;cases e;generalize d x=y at this;cases this;rename_i m h;exact m.in
  next=>cases e
 next=>cases e
section
variable{E:Env}{P:Program}(ok:EOk E P){R:Rec}(hc:iV E P R.call)(hcode:ku P R.code)
include ok hc hcode in
theorem rZ(n:aZ mu h w)(p:oe mu)(j: ∀x,aC mu (ρ x) (dX tmps x)){k:List Item}(q:ops[i]? =some o)(r:Region.wanted o (yielded ops tmps)=true){a:Bool}(f:dp E R ρ a o h=some (v,h')):
 ∃ c w' v',aZ c h' w'/\Ext mu h w c h' w'/\aC c v v'/\(a=true-> ∀b,b<h.n->h'.get b=h.get b)/\
   Steps P (lone (F.mk' tmps dfs (.inRegion ops (i::rest)::k)) cs w) (lone (F.mk' (iI tmps o.dst v') dfs (.inRegion ops rest::k)) cs w'):=by
 cases a with
 | false=>
   simp only [dp,cond_false]at f
   split at f
   next y l m=>
    cases f;obtain⟨c,w',s,d,v',t,u⟩:=vV ok hc hcode n p j (F:=F) (dfs:=dfs) (k:=k) (cs:=cs) (rest:=rest) q r m;grind
   next=>cases f
 | true=>
   simp only [dp,cond_true]at f
   split at f
   next y l m=>
    cases g:Xg h.n l.lo with
    |false=>grind| true=>
      rw [g]at f;cases f;have hle:h.n<=l.lo:=Xq g;obtain⟨c,w',s,d,v',t,u⟩:=vV ok hc hcode (hrel_lo n h.n) p j (F:=F) (dfs:=dfs) (k:=k) (cs:=cs) (rest:=rest) q r m;have e: ∀b,b<h.n->l.get b=h.get b:=fun b g=>d.same b g (by omega);exact⟨c,w',v',hrel_lo s h.lo,⟨d.n,d.old,d.fresh,Xf _,fun b g _=>e b g,d.frame,d.ro,d.wsize,d.os,d.tape,d.output,d.cover⟩,t,fun _=>e,u⟩
   next=>cases f
theorem pF(t:Nat): ∀l:List Nat,pD t l=true↔t∈l
 | []=>by simp [pD]| x::l=>by simp_all[pD,XW,List.mem_cons,pF,Xa,Xj]
theorem us(t:Tmp): ∀l:List Operand,t∈tmpsOf l↔ .tmp t∈l
 | []=>by simp [tmpsOf]| x::l=>by cases x<;>simp [tmpsOf,us t l]
theorem Az{l:Loc}(b:l.regs.Sized n)(c:tmps.size=n)(ts:List Tmp)(d: ∀t∈ts,∀v,l.regs.get t=some v-> ∃v',tmps[t]? =some v'/\aC mu v v')(e:oe mu)(x:Operand):aC mu (l.evD ts x) (dX tmps x):=by
 cases x with
 | tmp t=>
   simp only [Loc.evD];cases h:pD t ts with
   |false=>exact .poison _| true=>
     simp only [cond_true,Loc.ev,dX];cases i:l.regs.get t with
     | none=>
       have:n<=t:=by
        rcases Xr t n with a|a
        . obtain⟨v,j⟩:=Tr.get_some b a;grind
        . exact a
       rw [Xe,XR (by omega)];exact .tuple rfl (by grind)
     | some v=>
       obtain⟨v',a,j⟩:=d t ((pF t ts).1 h) v i;simp_all
 | const v=>
   simp only [Loc.evD,Loc.ev,dX];cases hc:dA v with
   |true=>simp only [cond_true];exact aC.const mu hc|false=>simp only [cond_false];exact .poison v
 | global g=>
   simp only [Loc.evD,Loc.ev,dX];cases k:XP g 16 with
   |true=>simp only [cond_true];exact .ptr (e g (by simp_all))|false=>simp only [cond_false];exact .poison _
 |func f=>exact .fn rfl (by grind) rfl (by grind)
end
theorem cls_le(op:Op):cls E op<=5:=by unfold cls;grind
theorem Bx(h:eR op=true):cls E op=4:=by
 unfold eR at h
 split at h
 . rfl
 . cases h
theorem qO(h:cls E op≠4)(ρ:Operand->Value)(a:Hp):jo ρ op a=touch ρ op:=by grind[jo,eR,absurd,Bx]
theorem mG(h:cls E op≠3):dJ op=false:=by cases op<;>(try rfl);rename_i c;obtain⟨a,b⟩:=c;cases a<;>first|rfl|(exact absurd rfl h)
structure DT(E:Env)(R:Rec)(ops:Array Oper)(q:Nat)(ps:List (Nat×Nat))(M:List Nat)(L:Nat->Loc)(H:Nat->Hp)(T:Nat->Option Nat)(X:Nat->Bool):Prop where
 bef: ∀i,sF ops.toList M i
 four: ∀(n:Nat) o,ops[n]? =some o->cls E o.op=4->q.testBit n=true
 owe: ∀(n:Nat) o m (i:Nat) p,ops[n]? =some o->M[n]? =some m->i<n->ops[i]? =some p->m.testBit i=false->Owe E ops.toList o p i n q ps
 step: ∀(i:Nat) o,ops[i]? =some o->wF E R ops.toList q i o (L i) (H i) (L (i+1)) (H (i+1)) (T i) (X i)
 pair: ∀{i j a b:Nat} {o p:Oper},(i,j)∈ps->ops[i]? =some o->ops[j]? =some p->dJ o.op=false->dJ p.op=false->T i=some a->T j=some b->a≠b
 leave: ∀{i j a:Nat} {o p:Oper},((i,j)∈ps\/(j,i)∈ps)->ops[i]? =some o->ops[j]? =some p->dJ o.op=false->dJ p.op=true->X j=true->fZ E q j p.op=false->T i=some a->(H (j+1)).get a=(H j).get a
def isW(E:Env)(X:Nat->Bool)(q:Nat)(o:Oper)(i:Nat):Prop:=X i=true/\(cls E o.op=2\/((cls E o.op=3\/cls E o.op=5)/\q.testBit i=false))
def isQ(E:Env)(X:Nat->Bool)(q:Nat)(o:Oper)(i:Nat):Prop:=X i=true/\3<=cls E o.op/\q.testBit i=true
def isR(E:Env)(X:Nat->Bool)(o:Oper)(i:Nat):Prop:=X i=false\/cls E o.op<=1
def Down(ops:Array Oper)(S:Nat->Bool):Prop:= ∀i o,ops[i]? =some o->S i=true-> ∀e∈o.after.toList,binds e=true->S e.on=true
def Ready(o:Oper)(S:Nat->Bool):Prop:= ∀e∈o.after.toList,binds e=true->S e.on=true
section
variable{E:Env}{R:Rec}{ops:Array Oper}{q:Nat}{ps:List (Nat×Nat)}{M:List Nat}{L:Nat->Loc}{H:Nat->Hp}{T:Nat->Option Nat}{X:Nat->Bool}(D:DT E R ops q ps M L H T X)
include D
theorem kinds(c:ops[i]? =some o):isR E X o i\/isQ E X q o i\/isW E X q o i:=by
 cases a:X i with
 |false=>exact .inl (.inl a)| true=>
   have f:=cls_le (E:=E) o.op;rcases Xr (cls E o.op) 2 with h|h
   . exact .inl (.inr (by omega))
   . by_cases d:cls E o.op=2
     . exact .inr (.inr ⟨a,.inl d⟩)
     . cases b:q.testBit i with
       |true=>exact .inr (.inl ⟨a,by omega,b⟩)| false=>have g:cls E o.op≠4:=(by intro e;have:=D.four i o c e;grind);exact .inr (.inr ⟨a,.inr ⟨by omega,b⟩⟩)
theorem pE(c:Down ops S): ∀(n:Nat) (o:Oper) (m i:Nat),ops[n]? =some o->M[n]? =some m->S n=true->m.testBit i=true->S i=true:=by
 intro n
 induction n using Nat.strongRecOn with
 | _ n p=>
   intro o m i d f g h;obtain⟨r,b,s,j⟩:=D.bef n o (by grind);rw [f]at b;cases b;obtain⟨e,k,a,x⟩:=j i h;have l:=c n o d g e k a;grind
theorem qC(h:Down ops S){m:Nat}(j:ops[n]? =some o)(k:M[n]? =some m)(l:Ready o S)(p:m.testBit i=true):S i=true:=by
 obtain⟨t,f,r,s⟩:=D.bef n o (by grind);rw [k]at f;cases f;obtain⟨e,g,a,x⟩:=s i p;have b:=l e g a;rcases x with rfl|⟨m2,c,d⟩
 . exact b
 . have hlt:=r e g a;have u:n<ops.size:=(Array.getElem?_eq_some_iff.1 j).1;exact pE D h e.on ops[e.on] m2 i (zO (by omega)) c b d
theorem mask(a:ops[n]? =some o): ∃m,M[n]? =some m:=by obtain⟨b,c,_⟩:=D.bef n o (by grind);grind
theorem cmpN{p:Oper}{m:Nat}(w:ops[n]? =some o)(z:M[n]? =some m)(A:i<n)(B:ops[i]? =some p)(h:(isW E X q p i/\(isW E X q o n\/isQ E X q o n))\/(isQ E X q p i/\isW E X q o n/\eR p.op=false)):m.testBit i=true\/(isQ E X q p i/\cls E o.op=2/\qy ops.toList o n i=true):=by
 cases C:m.testBit i with
 |true=>exact .inl rfl| false=>
   by_cases r:isQ E X q p i/\cls E o.op=2/\qy ops.toList o n i=true
   . exact .inr r
   exfalso;obtain⟨_,v⟩:=D.owe n o m i p w z A B C;have k: ∀{x y:Oper} {a b:Nat},isW E X q x a->(isW E X q y b\/isQ E X q y b)->cls E x.op≠0/\cls E x.op≠1/\cls E y.op≠0/\cls E y.op≠1:=(by intro x y a b g s;obtain⟨_,g⟩:=g;rcases s with⟨_,s⟩|⟨_,s,_⟩<;>(omega));rcases h with⟨j,l⟩|⟨j,l,F⟩
   . obtain⟨t,e,u,f⟩:=k j l;rcases v with h|h|⟨h,_⟩|⟨_,h,_⟩|⟨h,_⟩|⟨_,h,_⟩|⟨h,_⟩|⟨a,b,c,d⟩|⟨_,h,_⟩|⟨h,_⟩|⟨G,e4,_,e5,_⟩|⟨e6,I,e8,e9⟩
     . exact u h
     . exact t h
     . exact f h
     . exact e h
     . exact f h
     . exact e h
     . exact f h
     . obtain⟨_,g⟩:=j;grind
     . exact e h
     . exact f h
     . obtain⟨_,g⟩:=j;omega
     . obtain⟨_,g⟩:=j;grind
   . obtain⟨t,e,u,f⟩:=k l (.inr j);rcases v with h|h|⟨h,_⟩|⟨_,h,_⟩|⟨h,_⟩|⟨_,h,_⟩|⟨h,_⟩|⟨a,b,c,d⟩|⟨_,h,_⟩|⟨h,_⟩|⟨G,e4,_,e5,_⟩|⟨e6,I,e8,e9⟩
     . exact t h
     . exact u h
     . exact e h
     . exact f h
     . exact e h
     . exact f h
     . exact e h
     . obtain⟨_,g⟩:=l;grind
     . exact f h
     . exact e h
     . grind
     grind
theorem cmp{p:Oper}{m:Nat}(a:ops[n]? =some o)(b:M[n]? =some m)(c:i<n)(d:ops[i]? =some p)(h:isW E X q p i/\(isW E X q o n\/isQ E X q o n)):m.testBit i=true:=by
 rcases cmpN D a b c d (.inl h)with x|⟨x,_⟩
 . exact x
 . exfalso;have e:=h.1.2;have f:=x.2.2;rcases e with y|⟨_,y⟩
   . have:=x.2.1;omega
   grind
theorem zQ(j:Down ops S)(c:ops[n]? =some o)(k:Ready o S)(s:S n=false)(u:t∈lV ops.toList o):
 ∀(p:Nat) (op:Oper),ops[p]? =some op->op.dst=some t->(p<n↔S p=true):=by
 intro p op b a;obtain⟨m,g⟩:=mask D c;obtain⟨i,e⟩:=mask D b;have l:t∈lV ops.toList op:=by unfold lV;rw [a];simp
 rcases Xw p n with h|h|h
 . refine⟨fun _=>?_,fun _=>h⟩;cases d:m.testBit p with
   |true=>exact qC D j c g k d| false=>
     exfalso;obtain⟨f,_⟩:=D.owe n o m p op c g h b d;simp only [uQ,a,Xb,Xo]at f;grind[pF]
 . grind
 . refine⟨fun r=>absurd r (by omega),fun v=>?_⟩;exfalso;cases d:i.testBit n with
   |true=>grind[pE]| false=>
     obtain⟨f,_⟩:=D.owe p op i n o b e h c d;simp only [uQ,a,Xb,Xo]at f;grind[pF]
end
section
variable{E:Env}{P:Program}(ok:EOk E P){R:Rec}(hc:iV E P R.call)(hcode:ku P R.code)
variable{ops:Array Oper}{q:Nat}{ps:List (Nat×Nat)}{M:List Nat}{L:Nat->Loc}{H:Nat->Hp}{T:Nat->Option Nat}{X:Nat->Bool}(D:DT E R ops q ps M L H T X)
def rA(n:Nat)(mu0:Mu)(d:World)(L:Nat->Loc)(H:Nat->Hp)(i:Nat):Prop:=
 ∃a c b,aZ a (H i) c/\oe a/\kD a (L i).regs n b/\Ext mu0 (H 0) d a (H i) c
structure Turn(ops:Array Oper)(E:Env)(X:Nat->Bool)(q:Nat)(H:Nat->Hp)(T:Nat->Option Nat)(i:Nat)(o:Oper):Prop where
 n:(H i).n<=(H (i+1)).n
 quiet:isQ E X q o i-> ∀b,b<(H i).n->(H (i+1)).get b=(H i).get b
 still:isR E X o i->H (i+1)=H i
theorem Fa(c:cls E o.op<=1){a:Bool}(hq:a=false)(b:dp E R ρ a o h=some (v,h')):h'=h:=by
 subst hq;obtain⟨f,d,_,_⟩:=yD (E:=E) (op:=o.op) (ρ:=ρ) (by omega);simp only [dp,cond_false]at b;rw [d h]at b;cases hf:f h with
 |none=>rw [hf]at b;cases b
 |some u=>rw [hf]at b;cases b;rfl
theorem uP(a:cls E op<=1):fZ E q i op=false:=by grind[fZ,Xg,cls,Xq]
theorem qM(a:3<=cls E op)(b:q.testBit i=true):fZ E q i op=true:=by unfold fZ;simp_all
include ok hc hcode D in
theorem shadow{n:Nat}{mu0:Mu}{m:World}: ∀(i:Nat),i<=ops.size->rA n mu0 m L H 0->rA n mu0 m L H i/\(∀j o,j<i->ops[j]? =some o->Turn ops E X q H T j o)
 |0,_,h0=>⟨h0,fun j o J=>absurd J (by omega)⟩
 | i + 1,V,h0=>by
   obtain⟨⟨p,K,a,A,g,c,N⟩,W⟩:=shadow i (by omega) h0;have B:ops[i]? =some ops[i]:=zO (by omega);have e:=D.step i ops[i] B
   suffices Y:rA n mu0 m L H (i+1)/\Turn ops E X q H T i ops[i] by grind
   generalize C:L (i+1)=Z at e;generalize r:H (i+1)=H1 at e;generalize hT:T i=T1 at e;generalize hX:X i=X1 at e;cases e with
   | skip G=>
     refine⟨⟨p,K,iI a ops[i].dst undef,by grind,g,?_,by grind⟩,⟨by grind,(fun⟨h,_⟩=>by grind),fun _=>r⟩⟩;rw [C];have:=xg c ops[i].dst (v:=.tuple #[]) (v':=undef) (.tuple rfl (by grind));cases f:ops[i].dst with
     |none=>rw [f]at this;exact this|some d=>rw [f]at this;exact this
   | exec G s=>
     rename_i v;have O:=Bl c G;have u:=fun x=>Az (l:=L i) c.sized c.size (tmpsOf ops[i].op.operands.toList) (fun t _ v Q=>c.get t v Q) g x;obtain⟨w,S,v',k1,y,U,k4,_⟩:=rZ ok hc hcode A g u (F:=⟨0,.normal,none⟩) (dfs:=[]) (k:=[]) (cs:=[]) (rest:=[]) B O s;have I:=y.le A;refine⟨⟨w,S,iI a ops[i].dst v',by grind,g.mono I,?_,by rw [r];exact Ext.trans N y⟩,⟨by rw [r];exact y.n,?_,?_⟩⟩
     . rw [C];have:=xg (c.mono I) ops[i].dst U;cases f:ops[i].dst with
       |none=>rw [f]at this;exact this|some d=>rw [f]at this;exact this
     . intro⟨_,h3,hb⟩ b hb';grind[qM]
     . intro z;rcases z with z|z
       . grind
       grind[Fa,uP]
end
theorem w_plain{k:Hp}{nx:dU}(g:cls E op=2\/cls E op=5)(d:aop E ρ h op=some (nx,k)):(∃v,nx=.val v)\/nx=.skip:=by
 have l: ∀{r:Option (Hp×Value)},dH r=some (nx,k)->(∃v,nx=.val v)\/nx=.skip:=by
  intro r i;cases r with
  |none=>cases i
  |some q=>obtain⟨a,b⟩:=q;cases i;exact .inl ⟨b,rfl⟩
 have j: ∀{r:Option Hp},gC r=some (nx,k)->(∃v,nx=.val v)\/nx=.skip:=by
  intro r i;cases r with
  |none=>cases i
  |some q=>cases i;exact .inr rfl
 cases op
 case store=>exact j d
 case mapUpdate=>exact j d
 case insert=>exact j d
 case mapEntry=>exact l d
 case entryStore=>exact j d
 case call c=>
  cases e:c.callee with
  |value f=>simp [cls,e]at g|invoke r n=>simp [cls,e]at g| builtin m=>
    cases m<;>(try (simp [cls,e]at g;done))
    case append=>
     simp only [aop,e]at d
     split at d
     next=>exact l d
     next=>cases d
    case copy=>
     simp only [aop,e]at d
     split at d
     next=>exact l d
     next=>cases d
    case delete=>
     simp only [aop,e]at d
     split at d
     next=>
      split at d
      next=>cases d
      next=>cases d;exact .inl ⟨_,rfl⟩
     next=>cases d
 case convert o p x=>
  exfalso;unfold cls at g;simp only []at g
  split at g<;>omega
 all_goals first
  |(exfalso;simp [cls]at g;done)
  |(exfalso;unfold cls at g;simp only []at g;split at g<;>simp at g;done)
theorem Ah(b:cls E o.op=2\/cls E o.op=5)(a:dp E R ρ false o h=some (v,h')): ∃nx,aop E ρ h o.op=some (nx,h'):=by
 simp only [dp,cond_false]at a;cases c:aop E ρ h o.op with
 |none=>rw [c]at a;cases a
 | some p=>
   obtain⟨nx,d⟩:=p;rw [c]at a;rcases w_plain b c with⟨u,rfl⟩|rfl
   . cases a;exact⟨_,rfl⟩
   . cases a;exact⟨_,rfl⟩
theorem AR{a b:Option Value}(e:di h a=di h b):a=b:=by cases a<;>cases b<;>simp [di]at e⊢;exact e
section
variable{E:Env}{R:Rec}{ops:Array Oper}{q:Nat}{ps:List (Nat×Nat)}{M:List Nat}{L:Nat->Loc}{H:Nat->Hp}{T:Nat->Option Nat}{X:Nat->Bool}(D:DT E R ops q ps M L H T X)
theorem uG(a:isW E X q o i):fZ E q i o.op=false:=by
 unfold fZ;rcases a.2 with h|⟨_,h⟩
 . rw [h,show Xg 3 2=false from rfl];simp
 . rw [h];simp
theorem fS(dG: ∀j o,j<ops.size->ops[j]? =some o->Turn ops E X q H T j o)(a:i<=j)(c:j<=ops.size):(H i).n<=(H j).n:=by
 induction j with
 | zero => have:i=0:=by omega
           subst this;exact Xf _
 | succ j b=>
   by_cases e:i=j+1
   . subst e;exact Xf _
   . exact Xm (b (by omega) (by omega)) (dG j ops[j] (by omega) (zO (by omega))).n
theorem walk_eq{c:Type}(b:Nat->c){a:Nat}: ∀(d:Nat),(∀j,a<=j->j<a+d->b (j+1)=b j)->b (a+d)=b a
 |0,_=>rfl| d+1,h=>by have e:=h (a+d) (by omega) (by omega);have f:=walk_eq b d (fun j g i=>h j g (by omega));rw [<-f,<-e];rfl
include D in
theorem w_leaves(u: ∀j,j<=ops.size->(H j).t.Sized (H j).n){s:Oper}(K:ops[p]? =some o)(r:ops[j]? =some s)(N:isW E X q s j)(Y:cls E o.op<=1)(Q:T p=touch ρ o.op)(z:(p<j/\Owe E ops.toList s o p j q ps)\/(j<p/\Owe E ops.toList o s j p q ps))(hlt: ∀b,touch ρ o.op=some b->b<(H j).n){f:Hp->Option Value}(f1: ∀h,aop E ρ h o.op=di h (f h))(f2:cls E o.op=0-> ∀h O,f h=f O)(Z: ∀h O,(∀b,touch ρ o.op=some b->O.get b=h.get b)->f h=f O):f (H (j+1))=f (H j):=by
 have hp:=(Array.getElem?_eq_some_iff.1 K).1;have ad:=(Array.getElem?_eq_some_iff.1 r).1;by_cases h0:cls E o.op=0
 . exact f2 h0 _ _
 have h1:cls E o.op=1:=by omega
 -- what the writer's step is
 have A:=D.step j s r;generalize hL:L (j+1)=L1 at A;generalize hH:H (j+1)=S at A;generalize B:T j=T1 at A;generalize hX:X j=X1 at A;cases A with
 |skip hg=>exact absurd N.1 (by rw [hX];simp)| exec hg v=>
   rw [uG N]at v;have g:((p,j)∈ps\/(j,p)∈ps)->(cls E s.op=2\/cls E s.op=5)->f S=f (H j):=by
    intro w C;obtain⟨nx,P⟩:=Ah C v;refine(Z _ _ fun b F=>?_).symm;refine w_only (u j (by omega)) C P b (hlt b F) ?_;intro e;rcases w with w|w
    . exact D.pair w K r (mG (E:=E) (by omega)) (mG (E:=E) (by omega)) (Q.trans F) ((B.trans (qO (E:=E) (by omega) _ _)).trans e) rfl
    . exact D.pair w r K (mG (E:=E) (by omega)) (mG (E:=E) (by omega)) ((B.trans (qO (E:=E) (by omega) _ _)).trans e) (Q.trans F) rfl
   have n:((p,j)∈ps\/(j,p)∈ps)->dJ s.op=true->f S=f (H j):=(by intro w x;refine(Z _ _ fun b F=>?_).symm;rw [<-hH];exact D.leave w K r (mG (E:=E) (by omega)) x hX (uG N) (Q.trans F));have l:ra s.op o.op=true->f S=f (H j):=by
    intro hle;unfold ra at hle
    split at hle
    next t m k t' m' k' U e1 e2=>
     simp only [Xb,Xo]at hle;have V:t=t':=Xa hle.2;have W:U=false:=hle.1;subst V;subst W;obtain⟨nx,P⟩:=Ah (.inl (by rw [e1];rfl)) v;have hf: ∀h,f h=cM E h t (ρ m') (ρ k') false:=(by intro h;have:=f1 h;rw [e2]at this;exact AR this.symm);rw [e1]at P;rw [hf,hf];exact look_ent P _ _
    next=>cases hle
   have G:=N.2;rcases z with⟨I,z⟩|⟨I,z⟩
   . rcases z.2 with h|h|⟨h,_⟩|⟨h,_,i⟩|⟨h,_⟩|⟨h,_,i⟩|⟨h,_⟩|⟨a,b,c,d⟩|⟨_,_,x,i⟩|⟨h,_,x,i⟩|⟨_,h,_⟩|⟨_,h,_⟩
     . omega
     . omega
     . omega
     . rcases i with i|i
       . exact l i
       . exact g (.inl i) (.inl h)
     . omega
     . exact g (.inl i) (.inr h)
     . omega
     . rcases G with y|⟨y,J⟩
       . exact absurd y a
       . rw [d y]at J;cases J
     . exact n (.inl i) x
     . omega
     . omega
     . omega
   . rcases z.2 with h|h|⟨_,h⟩|⟨h,_⟩|⟨_,h,i⟩|⟨h,_⟩|⟨_,h,i⟩|⟨a,b,c,d⟩|⟨_,h,x,i⟩|⟨_,_,x,i⟩|⟨h,_⟩|⟨h,_⟩
     . omega
     . omega
     . omega
     . omega
     . rcases i with i|i
       . exact l i
       . exact g (.inr i) (.inl h)
     . omega
     . exact g (.inr i) (.inr h)
     . rcases G with y|⟨y,J⟩
       . exact absurd y b
       . rw [c y]at J;cases J
     . omega
     . exact n (.inr i) x
     . omega
     . omega
end
structure WExt(mu0:Mu)(h0:Hp)(w0:World)(mu:Mu)(w:World):Prop where
 old: ∀b,b<h0.n->mu b=mu0 b\/(mu0 b≠ .none/\mu b=.dead)
 fresh: ∀b c base top,h0.n<=b->mu b=.blk c base top->w0.heap.size<=c\/ ∃b0 base0 top0,b0<h0.n/\mu0 b0=.blk c base0 top0/\mu b0=.dead
 frame: ∀c,c<w0.heap.size->(∀b base top,mu0 b≠ .blk c base top)->w.heap[c]? =w0.heap[c]?
 ro: ∀b c base top t sz el,mu0 b=.blk c base top->h0.get b=some (.cells t sz el 0)->w.heap[c]? =w0.heap[c]? /\mu b=mu0 b
 wsize:w0.heap.size<=w.heap.size
 os:w.os=w0.os
 tape:w.tape=w0.tape
 output:w.output=w0.output
theorem WExt.refl(d:aZ mu h w):WExt mu h w mu w:=
 ⟨fun _ _=>.inl rfl,fun b c a e f g=>absurd (d.lt b (by grind)) (by omega),fun _ _ _=>rfl,fun _ _ _ _ _ _ _ _ _=>⟨rfl,rfl⟩,Xf _,rfl,rfl,rfl⟩
theorem WExt.step{m i:Mu}{k v:Hp}{r:World}(W:WExt mu0 h0 r mu w)(A: ∀b,mu0 b≠ .none->b<h0.n)(S:h0.n<=k.n)(e:Ext (cut mu k.n) k w m v w')(B: ∀b c base top t q el,mu0 b=.blk c base top->h0.get b=some (.cells t q el 0)->k.get b=some (.cells t q el 0))(n: ∀b,b<v.n->i b=m b)(N: ∀b,v.n<=b->i b=mu b):WExt mu0 h0 r i w':=by
 have T:=e.n;have C: ∀g,g<h0.n->mu g=.dead->i g=.dead:=by
  intro g s O;rw [n g (by omega)];rcases e.old g (by omega)with x|⟨_,x⟩
  . rw [x,fU (by omega)];exact O
  . exact x
 have D: ∀c,c<r.heap.size->(∀b base top,mu0 b≠ .blk c base top)-> ∀b base top,cut mu k.n b≠ .blk c base top:=by
  intro c E o b base top j;by_cases p:b<k.n
  . rw [fU p]at j;by_cases s:b<h0.n
    . rcases W.old b s with x|⟨_,x⟩
      . grind
      grind
    . rcases W.fresh b c base top (by omega) j with x|⟨g,a,d,_,x,_⟩
      . omega
      grind
  grind[qv]
 refine⟨?_,?_,?_,?_,Xm W.wsize e.wsize,e.os.trans W.os,e.tape.trans W.tape,e.output.trans W.output⟩
 . intro b p;rw [n b (by omega)];rcases e.old b (by omega)with x|⟨x,y⟩
   . rw [x,fU (by omega)];exact W.old b p
   . rw [fU (by omega)]at x;rcases W.old b p with z|⟨z,_⟩
     . grind
     grind
 . intro b c base top p j;have P: ∀l f h,mu l=.blk c f h->l<k.n->m l=.dead->r.heap.size<=c\/ ∃g a d,g<h0.n/\mu0 g=.blk c a d/\i g=.dead:=by
    intro l f h Q U V;by_cases F:l<h0.n
    . rcases W.old l F with x|⟨_,x⟩
      . grind
      grind
    . rcases W.fresh l c f h (by omega) Q with x|⟨g,a,d,I,J,K⟩
      . exact .inl x
      grind
   have L:mu b=.blk c base top->r.heap.size<=c\/ ∃g a d,g<h0.n/\mu0 g=.blk c a d/\i g=.dead:=by
    intro G;rcases W.fresh b c base top p G with x|⟨g,a,d,I,J,K⟩
    . exact .inl x
    grind
   by_cases H:b<v.n
   . rw [n b H]at j;by_cases u:b<k.n
     . rcases e.old b u with x|⟨_,x⟩
       . rw [x,fU u]at j;grind
       grind
     . rcases e.fresh b c base top (by omega) j with x|⟨l,f,h,I,J,K⟩
       . exact .inl (Xm W.wsize x)
       grind[fU]
   grind
 . intro c E o;rw [<-W.frame c E o];exact e.frame c (by have:=W.wsize;omega) (D c E o)
 . intro b c base top t q el j M;have p:=A b (by grind);obtain⟨X,R⟩:=W.ro b c base top t q el j M;obtain⟨Y,_,Z⟩:=e.ro b c base top t q el (by rw [fU (by omega),R];exact j) (B b c base top t q el j M);grind[fU]
section
variable(E:Env)(ops:Array Oper)(q:Nat)(L:Nat->Loc)(H:Nat->Hp)(X:Nat->Bool)(nr:Nat)(mu0:Mu)(w0:World)
def AtC(S:Nat->Bool)(c:Nat):Prop:=c<=ops.size/\(c=ops.size\/ ∃o,ops[c]? =some o/\isW E X q o c/\S c=false)/\ ∀(i:Nat) o,i<c->ops[i]? =some o->isW E X q o i->S i=true
def RegsAt(S:Nat->Bool)(mu:Mu)(tmps:Array Value):Prop:= ∀(i:Nat),i<=ops.size-> ∀(t:Tmp) v,(∀(p:Nat) (o:Oper),ops[p]? =some o->o.dst=some t->(p<i↔S p=true))->
 (L i).regs.get t=some v-> ∃a,tmps[t]? =some a/\aC mu v a
structure Inv(S:Nat->Bool)(mu:Mu)(w:World)(tmps:Array Value):Prop where
 c: ∃c,AtC E ops q X S c/\aZ mu (H c) w
 glob:oe mu
 non: ∀p,p<ops.size->S p=false-> ∀b,(H p).n<=b->b<(H (p+1)).n->mu b=.none
 size:tmps.size=nr
 regs:RegsAt ops L S mu tmps
 ext:WExt mu0 (H 0) w0 mu w
 cov: ∀p,p<ops.size->S p=true-> ∀b,(H p).n<=b->b<(H (p+1)).n->mu b≠ .none
end
def mL(S:Nat->Bool)(p:Nat):Nat->Bool:=fun i=>if i=p then true else S i
theorem gL(S:Nat->Bool)(p:Nat):mL S p p=true:=by simp [mL]
theorem cq(S:Nat->Bool)(h:i≠p):mL S p i=S i:=by simp [mL,h]
section
variable{E:Env}{R:Rec}{ops:Array Oper}{q:Nat}{ps:List (Nat×Nat)}{M:List Nat}{L:Nat->Loc}{H:Nat->Hp}{T:Nat->Option Nat}{X:Nat->Bool}(D:DT E R ops q ps M L H T X)
theorem pC{l:Loc}{d:Option Tmp}(h:d≠some t):(l.put d v).regs.get t=l.regs.get t:=by
 cases d with
 |none=>rfl| some d=>show(l.regs.set d v).get t=_;simp_all[Tr.get_set,if_neg]
include D in
theorem tQ(b:ops[j]? =some o)(h:o.dst≠some t):(L (j+1)).regs.get t=(L j).regs.get t:=by
 have a:=D.step j o b;generalize L (j+1)=e at a;generalize H (j+1)=f at a;generalize T j=g at a;generalize X j=i at a;cases a with
 |skip c=>exact pC h|exec c d=>exact pC h
include D in
theorem qF{r:Nat}(z:Down ops S)(s:ops[p]? =some o)(A:Ready o S)(B:S p=false)(C:Le mu e)(k:tmps.size=r)(l:(L p).regs.Sized r){v':Value}(Q:aC e v v')(F:L (p+1)=(L p).put o.dst v)(f:RegsAt ops L S mu tmps):RegsAt ops L (mL S p) e (iI tmps o.dst v'):=by
 intro i G t u g m;by_cases n:o.dst=some t
 . have I:p<i:=(g p o s n).2 (gL S p);have b:t∈lV ops.toList o:=(by unfold lV;rw [n];simp);have J:=zQ D z s A B b;have h:(L i).regs.get t=(L (p+1)).regs.get t:=by
    have:=walk_eq (fun j=>(L j).regs.get t) (a:=p+1) (i-(p+1)) (fun j w x=>by
     have U:j<i:=(by omega);grind[zO,cq,tQ])
    grind
   rw [h,F,n]at m;have c:((L p).regs.set t v).get t=some u:=m;rw [Tr.get_set]at c;cases y:(L p).regs.get t with
   |none=>grind| some V=>rw [y]at c;simp at c;subst c;have:t<tmps.size:=(by rw [k];exact(l t).1 (by rw [y];rfl));grind[iI]
 . obtain⟨K,w,x⟩:=f i G t u (fun j W N O=>by
    grind[cq]) m
   refine⟨K,?_,x.mono C⟩;cases P:o.dst with
   |none=>exact w| some d=>show(tmps.setIfInBounds d v')[t]? =_;grind
theorem qw(tmps:Array Value)(d:Option Tmp)(v:Value):(iI tmps d v).size=tmps.size:=by cases d<;>simp [iI]
end
theorem next_W{E:Env}{ops:Array Oper}{q:Nat}{X:Nat->Bool}: ∀(d c:Nat),c+d=ops.size-> ∃c',c<=c'/\c'<=ops.size/\(c'=ops.size\/ ∃o,ops[c']? =some o/\isW E X q o c')/\ ∀i o,c<=i->i<c'->ops[i]? =some o-> ¬isW E X q o i
 |0,c,h=>⟨c,Xf _,by omega,.inl (by omega),fun i o b e=>by omega⟩
 | d +1,c,h=>by
   obtain⟨a,f⟩: ∃a,ops[c]? =some a:=⟨_,zO (xs:=ops) (i:=c) (by omega)⟩;by_cases g:isW E X q a c
   . exact⟨c,Xf _,by omega,.inr ⟨_,f,g⟩,fun i o b e=>by omega⟩
   . obtain⟨c',b,e,j,k⟩:=next_W (E:=E) (ops:=ops) (q:=q) (X:=X) d (c+1) (by omega);grind
section
variable{E:Env}{P:Program}(ok:EOk E P){R:Rec}(hc:iV E P R.call)(hcode:ku P R.code)
variable{ops:Array Oper}{q:Nat}{ps:List (Nat×Nat)}{M:List Nat}{L:Nat->Loc}{H:Nat->Hp}{T:Nat->Option Nat}{X:Nat->Bool}(D:DT E R ops q ps M L H T X)
variable{nr:Nat}{mu0:Mu}{w0:World}
include D in
theorem FP(dG: ∀j o,j<ops.size->ops[j]? =some o->Turn ops E X q H T j o)(V:ops[n]? =some o)(W:cls E o.op=2)(F:qy ops.toList o n i=true){b:Nat}(Y:touch ((L n).evD (tmpsOf o.op.operands.toList)) o.op=some b):(H (i+1)).n<=b:=by
 have hn:=(Array.getElem?_eq_some_iff.1 V).1;unfold qy at F;cases u:mapArg o.op with
 |none=>grind| some t=>
   rw [u]at F;simp only [List.any_eq_true,XH,Xb,XJ,XW,Xo]at F;obtain⟨k,hk,w,f,y⟩:=F;have w:i<k:=(by simp_all);have l:ops[k]? =some ops[k]:=zO (by omega);unfold atIs at f;rw [Xx,l]at f;simp only [Xb]at f;have I: ∀{p:Oper},ul t p=true->p.dst=some t:=(by grind[ul,Xa]);have Z:=I f.2
   -- what the temporary holds at n
   have J:(L n).regs.get t=(L (k+1)).regs.get t:=by
    have:=walk_eq (fun j=>(L j).regs.get t) (a:=k+1) (n-(k+1)) (fun j h1 W=>by
     have K:ops[j]? =some ops[j]:=zO (by omega);refine tQ D K fun hd=>?_;rcases y j (by omega)with x|x
     . have:=Xq x;omega
     grind[atIs,ul,Xj])
    grind
   -- what the touched block is
   have ht:touch ((L n).evD (tmpsOf o.op.operands.toList)) o.op=some b->(L n).ev (.tmp t)=.map (some b):=by
    intro h;have z: ∀(N:List Tmp) (v:Value),(L n).evD N (.tmp t)=.map (some b)->(L n).ev (.tmp t)=.map (some b):=by
     intro N v h;unfold Loc.evD at h;cases O:pD t N with
     |true=>grind|false=>simp only [O,cond_false]at h;cases h
    cases g:o.op<;>rw [g]at u<;>(try (cases u;done))
    all_goals
     rename_i ty m kk vv;cases m<;>(try (cases u;done));cases u;rw [g]at h;unfold touch at h;simp only []at h
     split at h
     next r hr=>subst h;exact z _ .nilIface hr
     next=>cases h
   have Q:=ht Y;have A:=D.step k ops[k] l;generalize hL:L (k+1)=L1 at A;generalize hH:H (k+1)=H1 at A;generalize T k=T1 at A;generalize hX:X k=X1 at A;have B: ∀v,L1=(L k).put ops[k].dst v-> ∀b,(L n).ev (.tmp t)=.map (some b)->v=.map (some b):=(by grind[Loc.ev,Loc.put,Tr.get_set]);cases A with
   |skip hg=>grind| exec hg c=>
     rename_i v;have hv:=B _ rfl b Q;subst hv;have d:=f.1;have h4:cls E ops[k].op=4:=by
      unfold isMk at d
      split at d
      . next h=>rw [h];rfl
      . cases d
     have hq:=qM (q:=q) (i:=k) (op:=ops[k].op) (E:=E) (by omega) (D.four k _ l h4);rw [hq]at c;have hle:=fS dG (show i+1<=k from w) (by omega);have C: ∀(h:Hp) (G:dU) (S:Hp),aop E ((L k).evD (tmpsOf ops[k].op.operands.toList)) h ops[k].op=some (G,S)->G=.val (.map (some h.n)):=by
      intro h G S U;unfold isMk at d
      split at d
      . next ty sz g=>
        rw [g]at U;cases sz<;>cases U;rfl
      . cases d
     unfold dp at c;simp only [cond_true]at c;cases s:aop E ((L k).evD (tmpsOf ops[k].op.operands.toList)) {H k with lo:=(H k).n} ops[k].op with
     |none=>rw [s]at c;cases c
     | some r=>
       obtain⟨G,S⟩:=r;have e:=C _ _ _ s;subst e;rw [s]at c;simp only [dD]at c;grind
include D in
theorem wr_new(d: ∀j,j<=ops.size->(H j).t.Sized (H j).n)(dG: ∀j o,j<ops.size->ops[j]? =some o->Turn ops E X q H T j o)(e:ops[n]? =some o)(h:isW E X q o n)(g:cls E o.op=2)(k:qy ops.toList o n i=true)(f:i<n){b:Nat}(p:b<(H (i+1)).n):(H (n+1)).get b=(H n).get b:=by
 have r:=(Array.getElem?_eq_some_iff.1 e).1;have l:=fun b=>FP D dG e g k (b:=b);have a:=D.step n o e;generalize L (n+1)=s at a;generalize t:H (n+1)=u at a;generalize T n=v at a;generalize w:X n=x at a;cases a with
 |skip m=>rfl| exec m c=>
   rw [uG h]at c;obtain⟨y,z⟩:=Ah (.inl g) c;have hle:=fS dG (show i+1<=n from f) (by omega);grind[w_only]
theorem stand(dG: ∀j o,j<ops.size->ops[j]? =some o->Turn ops E X q H T j o){a:Nat}(k:a<=c)(l:c<=ops.size)(e: ∀j o,a<=j->j<c->ops[j]? =some o->isR E X o j\/isQ E X q o j\/ ∀b,b<(H a).n->(H (j+1)).get b=(H j).get b){b:Nat}(f:b<(H a).n):(H c).get b=(H a).get b:=by
 have:=walk_eq (fun j=>(H j).get b) (a:=a) (c-a) (fun j g m=>by
  have d:ops[j]? =some ops[j]:=zO (by omega);have i:=dG j _ (by omega) d;rcases e j _ g (by omega) d with h|h|h
  rotate_right
  . exact h b f
  . show(H (j+1)).get b=(H j).get b;rw [i.still h]
  . exact i.quiet h b (Xh f (fS dG g (by omega))))
 grind
include D in
theorem after_c(g:Down ops S)(h:AtC E ops q X S c)(s:c<=i)(a:ops[i]? =some o)(j:isW E X q o i\/isQ E X q o i)(k:isQ E X q o i->c≠i):S i=false:=by
 have l:=(Array.getElem?_eq_some_iff.1 a).1;rcases h.2.1 with e|⟨t,b,d,n⟩
 . omega
 . by_cases p:c=i
   . grind
   . cases r:S i with
     |false=>rfl| true=>
       obtain⟨m,f⟩:=mask D a;have:=pE D g i o m c a f r (cmp D a f (by omega) b ⟨d,j⟩);grind
include D in
theorem read_at(dG: ∀j o,j<ops.size->ops[j]? =some o->Turn ops E X q H T j o)(k: ∀j,j<=ops.size->(H j).t.Sized (H j).n)(J:Down ops S)(y:AtC E ops q X S c)(l:ops[p]? =some o)(W:Ready o S)(Y:S p=false)(r:cls E o.op<=1)(K:T p=touch ρ o.op)(s: ∀b,touch ρ o.op=some b->b<(H p).n)(t: ∀b,touch ρ o.op=some b->b<(H c).n){f:Hp->Option Value}(N: ∀h,aop E ρ h o.op=di h (f h))(O:cls E o.op=0-> ∀h i,f h=f i)(C: ∀h i,(∀b,touch ρ o.op=some b->i.get b=h.get b)->f h=f i):f (H c)=f (H p):=by
 have Q:=(Array.getElem?_eq_some_iff.1 l).1;have U:=y.1;have u: ∀j,j<ops.size->(∀b,touch ρ o.op=some b->b<(H j).n)->(∀v,ops[j]? =some v->isW E X q v j->(p<j/\S j=true)\/(j<p/\S j=false))->f (H (j+1))=f (H j):=by
  intro j F hlt z;have d:ops[j]? =some ops[j]:=zO F;have G:=dG j _ F d;rcases kinds D d with h|h|h
  . rw [G.still h]
  . exact(C _ _ fun b w=>G.quiet h b (hlt b w)).symm
  . refine w_leaves D k l d h r K ?_ hlt N O C;rcases z _ d h with⟨g,i⟩|⟨g,i⟩
    . obtain⟨m,A⟩:=mask D d;refine .inl ⟨g,D.owe j _ m p o d A g l ?_⟩;grind[pE]
    . obtain⟨m,A⟩:=mask D l;refine .inr ⟨g,D.owe p o m j _ l A g d ?_⟩;grind[qC]
 rcases Nat.le_total p c with B|B
 . have:=walk_eq (fun j=>f (H j)) (a:=p) (c-p) (fun j g i=>u j (by omega) (fun b w=>Xh (s b w) (fS dG g (by omega))) (fun v d n=>by
    have V:p≠j:=(by intro e;subst e;rw [l]at d;cases d;rcases n.2 with x|⟨x,_⟩<;>omega);exact .inl ⟨by omega,y.2.2 j v (by omega) d n⟩))
   simp_all
 . have:=walk_eq (fun j=>f (H j)) (a:=c) (p-c) (fun j g i=>u j (by omega) (fun b w=>Xh (t b w) (fS dG g (by omega))) (fun v d n=>
    .inr ⟨by omega,after_c D J y g d (.inl n) (fun I=>by
     intro _;have:=n.2;have:=I.2.2;rcases n.2 with x|⟨_,x⟩
     . have:=I.2.1;omega
     grind)⟩))
   simp_all
end
section
variable{E:Env}{P:Program}(ok:EOk E P){R:Rec}(hc:iV E P R.call)(hcode:ku P R.code)
variable{ops:Array Oper}{q:Nat}{ps:List (Nat×Nat)}{M:List Nat}{L:Nat->Loc}{H:Nat->Hp}{T:Nat->Option Nat}{X:Nat->Bool}(D:DT E R ops q ps M L H T X)
variable{nr:Nat}{mu0:Mu}{w0:World}
theorem Cy(h: ∀b,mu b≠ .none->b<n):cut mu n=mu:=by grind[fU,qv,absurd]
theorem wV(h:AtC E ops q X S c)(f:p≠c):AtC E ops q X (mL S p) c:=by
 refine⟨h.1,h.2.1.imp id fun⟨o,a,b,e⟩=>⟨o,a,b,by rw [cq S (Ne.symm f)];exact e⟩,fun i o g j k=>?_⟩;by_cases d:i=p
 . subst d;exact gL S i
 . rw [cq S d];exact h.2.2 i o g j k
theorem zi{e:Hp}(d:aZ mu h w)(k:OZ e)(l:h.n<=e.n)(j: ∀b,b<h.n->e.get b=h.get b):aZ mu e w:=by
 refine⟨k,fun b c f g a=>?_,fun b a=>?_,d.inj,fun b a=>Xh (d.lt b a) l⟩
 . obtain⟨x,o,m,i,n⟩:=d.blk b c f g a;exact⟨x,o,by rw [j b (d.lt b (by rw [a];simp))];exact m,i,n⟩
 . rw [j b (d.lt b (by rw [a];simp))];exact d.dead b a
theorem kD.cut{mu d:Mu}{n:Nat}(g: ∀b,d b≠ .none->b<n){t:Tr Value}{m:Nat}{ts e:Array Value}(h:kD mu t m ts)(j:kD d t m e):kD (cut mu n) t m ts:=by refine⟨h.size,h.sized,fun i v f=>?_⟩;obtain⟨k,a,b⟩:=h.get i v f;obtain⟨l,_,c⟩:=j.get i v f;exact⟨k,a,aC.cut g c b⟩
theorem n8.cut{mu f:Mu}{n:Nat}(z: ∀b,f b≠ .none->b<n){x:Blk}{base top d g:Nat}{o B:Obj}(h:n8 mu x base top o)(m:n8 f x d g B):n8 (cut mu n) x base top o:=by
 cases x with
 |dead=>exact h| cells t Q S U=>
   obtain⟨C,p,F,e,r⟩:=h;obtain⟨G,I,J,A,j⟩:=m;refine⟨C,p,F,e,r.whole,r.fits,r.sized,fun i v k=>?_,r.free⟩;obtain⟨s,a,b⟩:=r.get i v k;obtain⟨K,_,c⟩:=j.get i v k;exact⟨s,a,aC.cut z c b⟩
 | map V c=>
   obtain⟨u,w,e,r⟩:=h;obtain⟨_,N,A,j⟩:=m;refine⟨u,w,e,r.1,fun i v s k y=>?_⟩;obtain⟨W,Y,Z,a4⟩:=r.2 i v s k y;obtain⟨K,b1,b2⟩:=j.get k;grind[aC.cut]
 | loop l=>
   obtain⟨u,O,e,r⟩:=h;obtain⟨_,lT,A,j⟩:=m;exact⟨u,O,e,r.fn,r.regs.cut z j.regs,r.params,r.assign,r.body,r.st,r.pending⟩
 |dfr=>exact h
def glue(a mu:Mu)(n:Nat):Mu:=fun b=>if b<n then a b else mu b
theorem lI{a:Mu}{b:Nat}(h:b<n):glue a mu n b=a b:=by simp [glue,h]
theorem mX{a:Mu}{b:Nat}(h:n<=b):glue a mu n b=mu b:=by simp [glue,Nat.not_lt.2 h]
theorem glue_rel{hc r f:Hp}{z:World}(l:aZ mu hc w)(y:aZ e f z)(k2:Ext (cut mu r.n) r w e f z)(K: ∀b,r.n<=b->b<f.n->mu b=.none)(U:f.n<=hc.n)(s: ∀b,b<f.n->hc.get b=f.get b):aZ (glue e mu f.n) hc z/\Le mu (glue e mu f.n)/\Le e (glue e mu f.n):=by
 have N:=k2.n;have F:Le mu (glue e mu f.n):=by
  intro b t;by_cases h:b<f.n
  . rw [lI h];by_cases m:b<r.n
    . rcases k2.old b m with x|⟨_,x⟩
      . left;rw [x,fU m]
      grind
    grind
  . rw [mX (by omega)];exact .inl rfl
 have u:Le e (glue e mu f.n):=by intro b t;left;exact lI (y.lt b t)
 refine⟨⟨l.sized,fun b c a g j=>?_,fun b j=>?_,?_,fun b j=>?_⟩,F,u⟩
 . by_cases h:b<f.n
   . rw [lI h]at j;obtain⟨x,o,G,A,B⟩:=y.blk b c a g j;exact⟨x,o,by grind,A,B.mono u⟩
   . rw [mX (by omega)]at j;obtain⟨x,o,G,A,B⟩:=l.blk b c a g j;refine⟨x,o,G,?_,B.mono F⟩;rw [k2.frame c (l.clt j) (fun k d i v=>?_)]
     . exact A
     . by_cases m:k<r.n
       . rw [fU m]at v;have:=l.inj b k c a g d i j v;omega
       grind[qv]
 . by_cases h:b<f.n
   . rw [lI h]at j;rw [s b h];exact y.dead b j
   . rw [mX (by omega)]at j;exact l.dead b j
 . have O: ∀b k c a g d i,b<f.n->f.n<=k->e b=.blk c a g->mu k=.blk c d i->False:=by
    intro b k c a g d i h m n p;by_cases t:b<r.n
    . rcases k2.old b t with x|⟨_,x⟩
      . rw [x,fU t]at n;have:=l.inj b k c _ _ _ _ n p;omega
      grind
    . rcases k2.fresh b c a g (by omega) n with x|⟨Q,C,I,S,J,_⟩
      . have:=l.clt p;omega
      . rw [fU S]at J;have:=l.inj Q k c _ _ _ _ J p;omega
   intro b k c a g d i n p;by_cases h:b<f.n
   . rw [lI h]at n;by_cases m:k<f.n
     . rw [lI m]at p;exact y.inj b k c _ _ _ _ n p
     grind[mX]
   . rw [mX (by omega)]at n;by_cases m:k<f.n
     . grind[lI]
     . rw [mX (by omega)]at p;exact l.inj b k c _ _ _ _ n p
 . by_cases h:b<f.n
   . omega
   . rw [mX (by omega)]at j;exact l.lt b j
structure kJ(ops opsM:Array Oper)(σ:Nat->Nat):Prop where
 op: ∀p o,ops[p]? =some o-> ∃oM,opsM[σ p]? =some oM/\oM.op=o.op/\oM.dst=o.dst/\((o.guard=none/\oM.guard=none)\/ ∃j want,o.guard=some (j,want)/\oM.guard=some (σ j,want))
 no: ∀(p:Nat) (o:Oper) (j:Nat) (want:Bool),ops[p]? =some o->o.guard=some (j,want)->ops[j]? =none->opsM[σ j]? =none
theorem Fi{e:Array Oper}(g:kJ ops e σ){t:Tr Value}{k:Oper}{b:Bool}(l:ops[p]? =some o)(m:(o.guard=none/\k.guard=none)\/ ∃j a,o.guard=some (j,a)/\k.guard=some (σ j,a))(u: ∀j a o' d,o.guard=some (j,a)->ops[j]? =some o'->o'.dst=some d-> ∀v,t.get d=some v-> ∃v',tmps[d]? =some v'/\aC mu v v')(c:cU ops.toList t o=some b):Region.wanted k (yielded e tmps)=b:=by
 unfold cU at c;unfold Region.wanted;rcases m with⟨h,w⟩|⟨j,a,h,w⟩
 . grind
 . rw [h]at c;rw [w];simp only []at c⊢;unfold yielded;cases f:ops[j]? with
   |none=>rw [Xx,f]at c;cases c;rw [g.no p o j a l h f];rfl
   | some o'=>
     obtain⟨A,y,_,z,_⟩:=g.op j o' f;rw [Xx,f]at c;rw [y];simp only [XU]at c⊢;cases i:o'.dst with
     |none=>grind| some d=>
       rw [i]at c;rw [z,i];simp only [XU]at c⊢
       split at c
       next B n=>
        obtain⟨v',r,s⟩:=u j a o' d h f i _ n;cases s;rw [r];cases c;grind
       next x n=>
        obtain⟨v',r,s⟩:=u j a o' d h f i _ n;rw [r];cases c;cases s;rfl
       next=>cases c
theorem uf{b:Bool}{a:Oper}(e:a.op=o.op):dp E R ρ b a h=dp E R ρ b o h:=by unfold dp;rw [e]
theorem alloc_at(g:aZ mu h w){b:Nat}(J:mu b=.none)(K:b<h.n){x:Blk}{o:Obj}(n:h.get b=some x)(B:WNew w w' o)(r:n8 mu x 0 top o):aZ (upd mu b (.blk w.heap.size 0 top)) h w'/\Le mu (upd mu b (.blk w.heap.size 0 top)):=by
 have C: ∀j,w'.heap[j]? =if j=w.heap.size then some o else w.heap[j]? :=by intro j;rw [B.heap,XB]
 have hle:Le mu (upd mu b (.blk w.heap.size 0 top)):=by intro f F;grind[a9]
 refine⟨⟨g.sized,?_,?_,?_,?_⟩,hle⟩
 . intro f c i p d;by_cases a:f=b
   . subst a;rw [upd_same]at d;cases d;exact⟨x,o,n,by rw [C];simp,r.mono hle⟩
   . rw [a9 _ _ a]at d;obtain⟨y,G,k,l,I⟩:=g.blk f c i p d;have:=g.clt d;exact⟨y,G,k,by grind,I.mono hle⟩
 . intro f d;by_cases a:f=b
   . grind[upd_same]
   . rw [a9 _ _ a]at d;exact g.dead f d
 . intro v s c t z u A k l;by_cases m:v=b
   . by_cases e:s=b
     . rw [m,e]
     . subst m;rw [upd_same]at k;rw [a9 _ _ e]at l;cases k;have:=g.clt l;omega
   . rw [a9 _ _ m]at k;by_cases e:s=b
     . subst e;rw [upd_same]at l;cases l;have:=g.clt k;omega
     . rw [a9 _ _ e]at l;exact g.inj v s c _ _ _ _ k l
 . intro f d;by_cases a:f=b
   . omega
   . rw [a9 _ _ a]at d;exact g.lt f d
theorem WExt.alloc{w0:World}(W:WExt mu0 h0 w0 mu w)(n: ∀b,mu0 b≠ .none->b<h0.n)(l: ∀b c base top,mu0 b=.blk c base top->c<w0.heap.size){b:Nat}{o:Obj}(v:h0.n<=b)(h:WNew w w' o):WExt mu0 h0 w0 (upd mu b (.blk w.heap.size 0 top)) w':=by
 have p: ∀j,j<w.heap.size->w'.heap[j]? =w.heap[j]? :=by intro j A;rw [h.heap,XB,if_neg (by omega)]
 refine⟨fun f d=>?_,fun f c base a d g=>?_,fun c hc r=>?_,fun f c base a t s u g i=>?_,?_,h.os.trans W.os,h.tape.trans W.tape,h.output.trans W.output⟩
 . rw [a9 _ _ (by omega)];exact W.old f d
 . by_cases e:f=b
   . subst e;rw [upd_same]at g;cases g;exact .inl W.wsize
   . rw [a9 _ _ e]at g;rcases W.fresh f c base a d g with x|⟨B,k,m,x,y,z⟩
     . exact .inl x
     grind[a9]
 . rw [p c (Xh hc W.wsize)];exact W.frame c hc r
 . obtain⟨x,y⟩:=W.ro f c base a t s u g i;grind[a9,Xr]
 . rw [h.heap];simp;have:=W.wsize;omega
include ok in
theorem E4{b:Nat}{e:TypeId}(j:E.zero e=some z)(k:aZ mu h w)(l:mu b=.none)(m:b<h.n)(c:h.get b=some (.cells (Tr.ofList z) z.length e 1))(d:Operand->Value)(t:o.op=.alloc e):
 ∃w' top n,(execOp d o).run P w=.ok (.value (.pointer (some ⟨w.heap.size,0,none⟩))) w'/\WNew w w' n/\aZ (upd mu b (.blk w.heap.size 0 top)) h w'/\Le mu (upd mu b (.blk w.heap.size 0 top)):=by
 obtain⟨a,u,x,y,A⟩:=py ok j w;have p:VL mu z a.cells.toList:=by grind[LR.refl,aC.const,XJ]
 have f:n8 mu (.cells (Tr.ofList z) z.length e 1) 0 a.cells.size (.cells a.cells e):=by
  refine⟨a.cells,e,(0,0),rfl,rfl,?_,Tr.sized_ofList z,?_,?_⟩
  . grind
  . intro i v g;rw [Tr.get_ofList]at g;obtain⟨B,C,F⟩:=p.get g;grind
  omega
 obtain⟨r,s⟩:=alloc_at k l m c (jc w (.cells a.cells e)) f;refine⟨_,_,_,?_,jc w (.cells a.cells e),r,s⟩;simp_all[guard,execOp,Instr.alloc,newVar,newRow]
include ok hc hcode D in
theorem inv_step(dG: ∀j o,j<ops.size->ops[j]? =some o->Turn ops E X q H T j o)(be: ∀i,i<=ops.size->rA nr mu0 w0 L H i)(a2: ∀b,mu0 b≠ .none->b<(H 0).n)(br: ∀b c base top,mu0 b=.blk c base top->c<w0.heap.size){K:Array Oper}(bs:kJ ops K σ)(l:Inv E ops q L H X nr mu0 w0 S mu w tmps)(hd:Down ops S)(J:ops[p]? =some o)(hr:Ready o S)(hp:S p=false){k:List Item}:
 ∃ b5 w' ax,Inv E ops q L H X nr mu0 w0 (mL S p) b5 w' ax/\
   Steps P (lone (F.mk' tmps dfs (.inRegion K (σ p::rest)::k)) cs w) (lone (F.mk' ax dfs (.inRegion K rest::k)) cs w'):=by
 obtain⟨oM,ay,e1,e2,e3⟩:=bs.op p o J;have bf:=(Array.getElem?_eq_some_iff.1 J).1;obtain⟨bh,wT,bi,t1,t2,t3,t4⟩:=be p (by omega);obtain⟨c,N,Z⟩:=l.c;have aL: ∀t∈lV ops.toList o,∀v,(L p).regs.get t=some v-> ∃v',tmps[t]? =some v'/\aC mu v v':=
  fun t ht v hv=>l.regs p (by omega) t v (zQ D hd J hr hp ht) hv
 have a3: ∀{b:Bool},cU ops.toList (L p).regs o=some b->Region.wanted oM (yielded K tmps)=b:=by intro b hg;refine Fi (mu:=mu) bs J e3 (fun j cm o' d cn hj cp v hv=>aL d ?_ v hv) hg;grind[lV]
 have a4: ∀x,aC mu ((L p).evD (tmpsOf o.op.operands.toList) x) (dX tmps x):=
  fun x=>Az t3.sized l.size _ (fun t ht v hv=>aL t (by
   unfold lV;have:Operand.tmp t∈o.op.operands.toList:=(us t _).1 ht;grind) v hv) l.glob x
 have a7: ∀x,aC bh ((L p).evD (tmpsOf o.op.operands.toList) x) (dX bi x):=
  fun x=>Az t3.sized t3.size _ (fun t ht v hv=>t3.get t v hv) t2 x
 have U: ∀j,j<=ops.size->(H j).t.Sized (H j).n:=fun j hj=>by obtain⟨_,_,_,g,_⟩:=be j hj;exact g.sized
 have tp:=dG p o bf J;have hs:=D.step p o J;have bk: ∀j,j<=ops.size-> ∀b c base top t sz el,mu0 b=.blk c base top->(H 0).get b=some (.cells t sz el 0)->(H j).get b=some (.cells t sz el 0):=by intro j hj b c base top t sz el O hg;obtain⟨_,_,_,_,_,_,e⟩:=be j hj;exact((e.ro b c base top t sz el O hg).2.1).trans hg
 have cW: ∀{i:Nat} {oi:Oper},ops[i]? =some oi->c=i->isW E X q oi i:=by
  intro i oi bt b6;subst b6;rcases N.2.1 with e|⟨oc,ak,al,_⟩
  . grind
  grind
 generalize hL:L (p+1)=L1 at hs;generalize hH:H (p+1)=H1 at hs;generalize bu:T p=T1 at hs;generalize b7:X p=X1 at hs;cases hs with
 | skip hg=>
   have ad:p≠c:=(by intro e;have:=(cW J e.symm).1;grind);have r:=zj (P:=P) (F:=F) (tmps:=tmps) (dfs:=dfs) (k:=k) (cs:=cs) (w:=w) (ops:=K) (i:=σ p) (rest:=rest) (by grind);rw [ay,show(some oM).bind (·.dst)=oM.dst from rfl,e2]at r;refine⟨mu,w,_,⟨⟨c,wV N ad,Z⟩,l.glob,fun A s n b I B=>?_,by rw [qw];exact l.size,?_,l.ext,?_⟩,.one r⟩
   . refine l.non A s ?_ b I B;grind[cq]
   . exact qF D hd J hr hp (Le.refl mu) l.size t3.sized (v:=.tuple #[]) (v':=undef) (.tuple rfl (by grind)) hL l.regs
   . intro A s n b I B;by_cases e:A=p
     . grind
     . rw [cq S e]at n;exact l.cov A s n b I B
 | exec hg r=>
   rename_i v;have V:=a3 hg;cases a5:eR o.op with
   | true =>
     obtain⟨e,bv⟩: ∃e,o.op=.alloc e:=(by unfold eR at a5;grind);have h4:=Bx (E:=E) a5;have bx:=D.four p o J h4;have Y:isQ E X q o p:=⟨b7,by omega,bx⟩;rw [qM (by omega) bx]at r;obtain⟨z,hz,hv,bB⟩: ∃z,E.zero e=some z/\v=ptrTo (H p).n/\H1=(H p).new (.cells (Tr.ofList z) z.length e 1):=by
      unfold dp at r;simp only [cond_true,bv,aop]at r;cases hz:E.zero e with
      |none=>rw [hz]at r;cases r
      | some z=>
        rw [hz]at r;simp only [dH,dD,tO]at r;rw [show Xg (H p).n (({H p with lo:=(H p).n}:Hp).new (.cells (Tr.ofList z) z.length e 1)).lo=true from Xd (Xf _)]at r;cases r;exact⟨z,rfl,rfl,rfl⟩
     have hT:T p=some (H p).n:=(by rw [bu];unfold jo;rw [a5];rfl);have b8:(H (p+1)).get (H p).n=some (.cells (Tr.ofList z) z.length e 1):=(by rw [hH,bB,Hp.get_new _ _ (U p (by omega)),if_pos rfl]);have cr:(H (p+1)).n=(H p).n+1:=(by rw [hH,bB];rfl);have ad:p<c:=by
      rcases Xw p c with h|h|h
      . exact h
      . exfalso;have hw:=cW J h.symm;rcases hw.2 with x|⟨_,x⟩
        . omega
        omega
      . exfalso;rcases N.2.1 with e|⟨oc,ak,al,bE⟩
        . omega
        . obtain⟨m,O⟩:=mask D J;have:=qC D hd J O hr (cmp D J O h ak ⟨al,.inr Y⟩);grind
     have a8:(H (p+1)).n<=(H c).n:=fS dG (by omega) N.1;have bl:(H c).get (H p).n=some (.cells (Tr.ofList z) z.length e 1):=by
      have:=walk_eq (fun j=>(H j).get (H p).n) (a:=p+1) (c-(p+1)) (fun j I B=>by
       have hj:j<ops.size:=(by have:=N.1;omega);have C:ops[j]? =some ops[j]:=zO hj;have tj:=dG j _ hj C;show(H (j+1)).get (H p).n=(H j).get (H p).n;rcases kinds D C with x|x|x
       . rw [tj.still x]
       . refine tj.quiet x _ ?_;have:=fS dG I (by omega);omega
       . obtain⟨m,O⟩:=mask D C;have cv:=N.2.2 j _ (by omega) C x;have G:m.testBit p=false:=(by grind[pE]);obtain⟨_,hu⟩:=D.owe j _ m p o C O (by omega) J G;have cx:=x.2;have h5:=cls_le (E:=E) ops[j].op;rcases hu with h|h|⟨_,h⟩|⟨_,h,_⟩|⟨_,h,_⟩|⟨_,h,_⟩|⟨_,h,_⟩|⟨a,b,c',d⟩|⟨_,h,_⟩|⟨_,h,_⟩|⟨_,_,bL,_,b9⟩|⟨_,h,_⟩
         . omega
         . omega
         . omega
         . omega
         . omega
         . omega
         . omega
         . grind
         . omega
         . omega
         . exact D.leave (.inl b9) J C (mG (E:=E) (by omega)) bL x.1 (uG x) hT
         . omega)
      grind
     have ca:=l.non p bf hp (H p).n (Xf _) (by omega);obtain⟨w',top,ob,r1,r2,r3,r4⟩:=E4 (P:=P) ok hz Z ca (by omega) bl (dX tmps) (o:=oM) (e1.trans bv);have ba:=DE (P:=P) (F:=F) (dfs:=dfs) (k:=k) (cs:=cs) (rest:=rest) ay V (.inr fun cc cz=>by grind) r1;rw [e2]at ba;refine⟨upd mu (H p).n (.blk w.heap.size 0 top),w',_,⟨⟨c,wV N (by omega),r3⟩,l.glob.mono r4,fun A s n b I B=>?_,by rw [qw];exact l.size,?_,?_,?_⟩,.one ba⟩
     . have a0:A≠p:=(by grind[gL]);rw [cq S a0]at n;rw [a9 _ _ (by
        rcases Xr p A with x|x
        . have:=fS dG (show p+1<=A from x) (by omega);omega
        . have:=fS dG (show A+1<=p by omega) (by omega);omega)]
       exact l.non A s n b I B
     . refine qF D hd J hr hp r4 l.size t3.sized (v:=v) (v':=.pointer (some ⟨w.heap.size,0,none⟩)) ?_ hL l.regs;rw [hv];exact .ptr (Ae mu (H p).n w.heap.size 0 _)
     . exact l.ext.alloc a2 br (fS dG (XS p) (by omega)) r2
     . intro A s n b I B W;by_cases e:A=p
       . grind[upd_same]
       . rw [cq S e]at n;have Q:=l.cov A s n b I B;rcases r4 b Q with x|x
         . grind
         grind
   |false=>
   rcases kinds D J with Y|Y|Y
   . -- a read
     have bb:cls E o.op<=1:=by
      rcases Y with x|x
      . grind
      . exact x
     have ad:p≠c:=(by intro e;rcases(cW J e.symm).2 with x|⟨x,_⟩<;>omega);obtain⟨f,f1,f2,f3⟩:=yD (E:=E) (op:=o.op) (ρ:=(L p).evD (tmpsOf o.op.operands.toList)) (by omega);rw [uP bb]at r;have cb:f (H p)=some v:=by
      simp only [dp,cond_false]at r;rw [f1 (H p)]at r;cases hf:f (H p)with
      |none=>rw [hf]at r;cases r
      |some u=>rw [hf]at r;cases r;rfl
     have cf:f (H c)=some v:=(by rw [<-cb];exact read_at D dG U hd N J hr hp bb (bu.trans (qO (E:=E) (by omega) _ _)) (fun b G=>t1.lt b (Cf a7 G)) (fun b G=>Z.lt b (Cf a4 G)) f1 f2 f3);have bP:dp E R ((L p).evD (tmpsOf o.op.operands.toList)) false o (H c)=some (v,H c):=(by simp only [dp,cond_false];rw [f1 (H c),cf];rfl);obtain⟨af,w1,v',k1,k2,k3,_,k4⟩:=rZ ok hc hcode Z l.glob a4 (F:=F) (ops:=K) (i:=σ p) (dfs:=dfs) (k:=k) (cs:=cs) (rest:=rest) ay V ((uf e1).trans bP);rw [e2]at k4;have le:=k2.le Z;have bm: ∀b,mu b=.none->af b=.none:=by
      intro b G;by_cases ch:b<(H c).n
      . rcases k2.old b ch with x|⟨x,_⟩
        . rw [x];exact G
        grind
      . exact k1.none_ge (by omega)
     refine⟨af,w1,_,⟨⟨c,wV N ad,k1⟩,l.glob.mono le,fun A s n b I B=>?_,by rw [qw];exact l.size,?_,?_,?_⟩,k4⟩
     . refine bm b (l.non A s ?_ b I B);grind[cq]
     . exact qF D hd J hr hp le l.size t3.sized k3 hL l.regs
     . refine l.ext.step a2 (fS dG (XS c) N.1) (by rw [Cy Z.lt];exact k2) (bk c N.1) (fun _ _=>rfl) (fun b G=>?_);rw [k1.none_ge G,Z.none_ge G]
     . intro A s n b I B W;by_cases e:A=p
       . subst e;rw [tp.still Y]at B;omega
       . rw [cq S e]at n;have Q:=l.cov A s n b I B;rcases le b Q with x|x
         . grind
         grind
   . -- a quiet one:it runs at p,below c
     have ad:p<c:=by
      rcases Xw p c with h|h|h
      . exact h
      . exfalso;have hw:=cW J h.symm;rcases hw.2 with x|⟨_,x⟩
        . have:=Y.2.1;omega
        . rw [Y.2.2]at x;cases x
      . exfalso;rcases N.2.1 with e|⟨oc,ak,al,bE⟩
        . omega
        . obtain⟨m,O⟩:=mask D J;have:=qC D hd J O hr (cmp D J O h ak ⟨al,.inr Y⟩);grind
     have bc: ∀j oj,p<=j->j<c->ops[j]? =some oj->isR E X oj j\/isQ E X q oj j\/ ∀b,b<(H (p+1)).n->(H (j+1)).get b=(H j).get b:=by
      intro j oj I B C;rcases kinds D C with x|x|x
      . exact .inl x
      . grind
      . refine .inr (.inr ?_);by_cases e:j=p
        . subst e;rw [J]at C;cases C;exfalso;rcases x.2 with y|⟨_,y⟩
          . have:=Y.2.1;omega
          . rw [Y.2.2]at y;cases y
        . obtain⟨m,O⟩:=mask D C;rcases cmpN D C O (by omega) J (.inr ⟨Y,x,a5⟩)with y|⟨_,y2,y3⟩
          . have:=pE D hd j oj m p C O (N.2.2 j oj B C x) y;grind
          grind[wr_new]
     have ai: ∀b,b<(H p).n->(H c).get b=(H p).get b:=fun b G=>stand dG (by omega) N.1 (fun j oj I B C=>(bc j oj I B C).imp id (.imp id fun f b G=>f b (by have:=tp.n;omega))) G;have a6: ∀b,b<(H (p+1)).n->(H c).get b=(H (p+1)).get b:=fun b G=>stand dG (by omega) N.1 (fun j oj I B=>bc j oj (by omega) B) G;have cA:(H p).n<=(H c).n:=fS dG (by omega) N.1;have a8:(H (p+1)).n<=(H c).n:=fS dG (by omega) N.1;have bT:aZ (cut mu (H p).n) (H p) w:=by
      refine⟨U p (by omega),fun b c0 base top O=>?_,fun b O=>?_,fun b b' c0 base top bn bX I B=>?_,fun b O=>?_⟩
      . by_cases G:b<(H p).n
        . rw [fU G]at O;obtain⟨x,ob,g1,g2,g3⟩:=Z.blk b c0 base top O;refine⟨x,ob,by grind,g2,?_⟩;have cN:bh b≠ .none:=by
           by_cases W:b<(H 0).n
           . have cO:mu0 b≠ .none:=by
              rcases l.ext.old b W with y|⟨y,_⟩
              . grind
              . exact y
             rcases t4.old b W with y|⟨_,y⟩
             . grind
             . rw [y];simp
           . exact t4.cover b (by omega) G
          cases bY:bh b with
          |none=>grind| dead=>
            have:=t1.dead b bY;rw [<-ai b G,g1]at this;cases this;exact g3.elim
          | blk cT bo b0=>
            obtain⟨xT,oT,j1,j2,j3⟩:=t1.blk b cT bo b0 bY;rw [<-ai b G,g1]at j1;cases j1;exact n8.cut (fun b' bp=>t1.lt b' bp) g3 j3
        grind[qv]
      . by_cases G:b<(H p).n
        . rw [fU G]at O;rw [<-ai b G];exact Z.dead b O
        grind[qv]
      . exact Z.inj b b' c0 base top bn bX (by
         grind[fU,qv]) (by
         grind[fU,qv])
      . by_cases G:b<(H p).n
        . exact G
        . rw [qv (by omega)]at O;grind
     have b1: ∀x,aC (cut mu (H p).n) ((L p).evD (tmpsOf o.op.operands.toList) x) (dX tmps x):=fun x=>aC.cut (fun b' bp=>t1.lt b' bp) (a7 x) (a4 x);have cj:oe (cut mu (H p).n):=fun g hg=>(l.glob g hg).cut (t1.lt _ (t2 g hg).in);have bd:=r;rw [qM Y.2.1 Y.2.2]at bd;obtain⟨af,w1,v',k1,k2,k3,_,k4⟩:=rZ ok hc hcode bT cj b1 (F:=F) (ops:=K) (i:=σ p) (dfs:=dfs) (k:=k) (cs:=cs) (rest:=rest) ay V ((uf e1).trans bd);rw [e2]at k4;rw [<-hH]at k1 k2;obtain⟨gh,le,ck⟩:=glue_rel Z k1 k2 (fun b I B=>l.non p bf hp b I B) a8 a6;refine⟨glue af mu (H (p+1)).n,w1,_,⟨⟨c,wV N (by omega),gh⟩,l.glob.mono le,fun A s n b I B=>?_,by rw [qw];exact l.size,?_,?_,?_⟩,k4⟩
     . have a0:A≠p:=(by grind[gL]);rw [cq S a0]at n;have Q:=l.non A s n b I B;rcases Xr p A with x|x
       . rw [mX (Xm (fS dG (show p+1<=A from x) (by omega)) I)];exact Q
       . have a1:b<(H p).n:=Xh B (fS dG (show A+1<=p by omega) (by omega));rw [lI (Xh a1 tp.n)];rcases k2.old b a1 with y|⟨y,_⟩
         . rw [y,fU a1];exact Q
         grind[fU,absurd]
     . exact qF D hd J hr hp le l.size t3.sized (k3.mono ck) hL l.regs
     . exact l.ext.step a2 (fS dG (XS p) (by omega)) k2 (bk p (by omega)) (fun b G=>lI G) (fun b G=>mX G)
     . intro A s n b I B W;by_cases e:A=p
       . subst e;rw [lI B]at W;exact k2.cover b I B W
       . rw [cq S e]at n;have Q:=l.cov A s n b I B;rcases le b Q with x|x
         . grind
         grind
   . -- a writer:it is the one at c
     have ad:p=c:=by
      rcases Xw p c with h|h|h
      . have:=N.2.2 p o h J Y;grind
      . exact h
      . rcases N.2.1 with e|⟨oc,ak,al,bE⟩
        . omega
        . obtain⟨m,O⟩:=mask D J;have:=qC D hd J O hr (cmp D J O h ak ⟨al,.inl Y⟩);grind
     subst ad;rw [uG Y]at r;obtain⟨af,w1,v',k1,k2,k3,_,k4⟩:=rZ ok hc hcode Z l.glob a4 (F:=F) (ops:=K) (i:=σ p) (dfs:=dfs) (k:=k) (cs:=cs) (rest:=rest) ay V ((uf e1).trans r);rw [e2]at k4;have le:=k2.le Z;rw [<-hH]at k1 k2;obtain⟨c',d1,d2,d3,d4⟩:=next_W (E:=E) (ops:=ops) (q:=q) (X:=X) (ops.size-(p+1)) (p+1) (by omega);have bq:aZ af (H c') w1:=(by refine zi k1 (U c' d2) (fS dG d1 d2) (fun b G=>stand dG d1 d2 (fun j oj I B C=>?_) G);grind[kinds,absurd]);refine⟨af,w1,_,⟨⟨c',⟨d2,?_,?_⟩,bq⟩,l.glob.mono le,fun A s n b I B=>?_,by rw [qw];exact l.size,?_,?_,?_⟩,k4⟩
     . rcases d3 with e|⟨o',b2,b3⟩
       . exact .inl e
       . refine .inr ⟨o',b2,b3,?_⟩;rw [cq S (by omega)];exact after_c D hd N (by omega) b2 (.inl b3) (fun _=>by omega)
     . intro i oi hi bt cl;by_cases b4:i=p
       . subst b4;exact gL S i
       . rw [cq S b4];rcases Xr i p with x|x
         . exact N.2.2 i oi x bt cl
         grind
     . have a0:A≠p:=(by grind[gL]);rw [cq S a0]at n;rcases Xr p A with x|x
       . exact k1.none_ge (Xm (fS dG (show p+1<=A from x) (by omega)) I)
       . have a1:b<(H p).n:=Xh B (fS dG (show A+1<=p by omega) (by omega));have Q:=l.non A s n b I B;rcases k2.old b a1 with y|⟨y,_⟩
         . grind
         grind
     . exact qF D hd J hr hp le l.size t3.sized k3 hL l.regs
     . refine l.ext.step a2 (fS dG (XS p) N.1) (by rw [Cy Z.lt];exact k2) (bk p N.1) (fun _ _=>rfl) (fun b G=>?_);rw [k1.none_ge G,Z.none_ge (Xm tp.n G)]
     . intro A s n b I B W;by_cases e:A=p
       . subst e;exact k2.cover b I B W
       . rw [cq S e]at n;have Q:=l.cov A s n b I B;rcases le b Q with x|x
         . grind
         grind
end
theorem oQ{e a:Edge}(h:e.ground=a.ground):binds e=binds a:=by unfold binds Region.binds;rw [h]
structure Ord(ops opsM:Array Oper)(σ τ:Nat->Nat):Prop where
 size:ops.size=opsM.size
 lt: ∀p,p<ops.size↔σ p<ops.size
 st: ∀i,σ (τ i)=i
 ts: ∀p,τ (σ p)=p
 op: ∀p o,ops[p]? =some o-> ∃oM,opsM[σ p]? =some oM/\oM.op=o.op/\oM.dst=o.dst/\((o.guard=none/\oM.guard=none)\/ ∃j want,o.guard=some (j,want)/\oM.guard=some (σ j,want))/\
  (∀e∈o.after.toList,∃eM∈oM.after.toList,e.ground=eM.ground/\(eM.on<ops.size->e.on=τ eM.on)/\(ops.size<=eM.on->ops.size<=e.on))/\
  ∀eM∈oM.after.toList,∃e∈o.after.toList,e.ground=eM.ground/\(eM.on<ops.size->e.on=τ eM.on)/\(ops.size<=eM.on->ops.size<=e.on)
theorem Ord.same{e:Array Oper}(o:Ord ops e σ τ):kJ ops e σ:=by
 refine⟨fun p x f=>?_,fun _ _ p _ _ _ h=>?_⟩
 . obtain⟨i,a,b,c,d,_⟩:=o.op p x f;grind
 . have g: ¬p<ops.size:=(by grind);refine XR ?_;rw [<-o.size];have:=mt (o.lt p).2 g;omega
theorem Ord.part{f g:Array Oper}(o:Ord ops f σ τ)(s: ∀(i:Nat),i<f.size->g[i]? =f[i]?)(n: ∀x∈f.toList,jx f.size x=true):kJ ops g σ:=by
 refine⟨fun p x h=>?_,fun p x j m h k t=>?_⟩
 . obtain⟨l,a,b,c,d,_⟩:=o.op p x h;grind
 . exfalso;obtain⟨l,a,_,_,d,_⟩:=o.op p x h;rcases d with⟨d,_⟩|⟨u,v,d,e⟩
   . grind
   . rw [k]at d;cases d;have q:l∈f.toList:=(by grind);have:=n l q;unfold jx at this;rw [e]at this;have r:σ j<ops.size:=(by rw [o.size];simp_all);have w:=(o.lt j).2 r;grind
theorem Ord.id(ops:Array Oper):Ord ops ops (fun i=>i) (fun i=>i):=by
 refine⟨rfl,fun _=>Xk,fun _=>rfl,fun _=>rfl,fun p o b=>⟨o,b,rfl,rfl,?_,fun e a=>⟨e,a,rfl,fun _=>rfl,fun h=>h⟩,fun e a=>⟨e,a,rfl,fun _=>rfl,fun h=>h⟩⟩⟩;cases c:o.guard with
 |none=>grind|some q=>grind
theorem tJ{i:Nat}: ∀{l:List Nat},i∈l->eX i l<l.length/\l[eX i l]? =some i
 | [],h=>by cases h
 | x ::l,h=>by
   unfold eX;cases d:Xi i x with
   | true=>simp_all| false=>
     have c:i≠x:=(by grind[Xj]);rcases List.mem_cons.1 h with e|h
     . omega
     . obtain⟨a,b⟩:=tJ h;grind
theorem vq{i:Nat}: ∀{l:List Nat},i∉l->eX i l=l.length
 | [],_=>rfl| x::l,h=>by unfold eX;have a:Xi i x=false:=(by grind[Xi,absurd,Xa]);simp_all[cond_false,Yd,vq,Xn]
theorem ordL_mem(ops:List Oper)(i:Nat):i∈ordL ops↔i<ops.length:=by grind[ordL,zq,lateAt]
theorem Fy(ops:List Oper):(ordL ops).Nodup:=by
 unfold ordL;rw [Xz,Xz];refine⟨List.nodup_range.filter _,⟨List.nodup_range.filter _,List.nodup_range.filter _,fun a c b d e=>?_⟩,fun a c b d e=>?_⟩
 . grind
 grind
theorem ordL_len(ops:List Oper):(ordL ops).length=ops.length:=by
 unfold ordL;rw [Xs,Xs];have a: ∀(l:List Nat) (f g:Nat->Bool),(l.filter f).length+((l.filter fun i=>!f i&& !g i).length+(l.filter fun i=>!f i&&g i).length)=l.length:=by
  intro l f g
  induction l with
  |nil=>rfl| cons x l b=>grind
 simp_all
theorem Bo(ops:List Oper)(ord:List Nat): ∀(l:List Nat),(∀i∈l,i<ops.length)-> ∀(p:Nat),(dW ops ord l)[p]? =(l[p]?).bind fun(i:Nat)=>(ops[i]?).map (ou ord)
 | [],_,p=>by simp [dW]| i ::l,h,p=>by
   have a:i<ops.length:=h i Xt;unfold dW;rw [Xv a];simp only [];cases p with
   |zero=>simp [a]| succ p=>
     simp only [XQ];exact Bo ops ord l (fun j b=>h j (Xn _ b)) p
theorem yu(c:ord.Nodup)(d:ord[p]? =some i):eX i ord=p:=by have e:i∈ord:=Xc d;obtain⟨a,b⟩:=tJ e;grind[Xu,Xw,eX,absurd,Ya]
theorem B2(ops:Array Oper)(ord:List Nat)(c: ∀i,i∈ord↔i<ops.toList.length)(m:ord.Nodup)(f:ord.length=ops.toList.length)(u:ops.toList.all (jx ops.toList.length)=true):Ord (dW ops.toList ord ord).toArray ops (fun p=>(ord[p]?).getD p) (fun i=>if i<ops.size then eX i ord else i):=by
 have v:ops.toList.length=ops.size:=by simp
 rw [v]at f c;have g:=Bo ops.toList ord ord (fun i B=>by grind);have n:(dW ops.toList ord ord).length=ops.size:=by
  have j: ∀p,p<(dW ops.toList ord ord).length↔p<ops.size:=by intro p;have C:p<(dW ops.toList ord ord).length↔((dW ops.toList ord ord)[p]?).isSome=true:=(by simp);grind
  have a:=j (dW ops.toList ord ord).length;have b:=j ops.size;omega
 have D: ∀p,p<ops.size-> ∃i,ord[p]? =some i/\i<ops.size:=fun p q=>⟨ord[p]'(by omega),Xv _,(c _).1 (List.getElem_mem _)⟩;have w: ∀p i,ord[p]? =some i->eX i ord=p:=fun p i q=>yu m q;have d:(dW ops.toList ord ord).toArray.size=ops.size:=by simp [n]
 refine⟨d,fun p=>?_,fun i=>?_,fun p=>?_,fun p o x=>?_⟩
 . grind
 . by_cases h:i<ops.size
   . simp_all[if_pos,tJ]
   grind
 . grind
 . have k:(dW ops.toList ord ord)[p]? =some o:=(by simpa using x);rw [g]at k;obtain⟨i,E,y⟩:=Option.bind_eq_some_iff.1 k;obtain⟨r,z,rfl⟩:=Option.map_eq_some_iff.1 y;have A:ops[i]? =some r:=(by simpa using z);refine⟨r,by grind,rfl,rfl,?_,?_,?_⟩
   . grind[XJ,Xc,jx,ou,Yb,eX,tJ]
   . intro e s;simp only [ou,Array.toList_map,Yn]at s;obtain⟨l,t,rfl⟩:=s;refine⟨l,t,rfl,fun h=>?_,fun h=>?_⟩
     . grind
     simp_all[eX,vq,Xf]
   . intro l t;refine⟨{l with on:=eX l.on ord},by simp only [ou,Array.toList_map,Yn];grind,rfl,fun h=>?_,fun h=>?_⟩
     . grind
     simp_all[eX,vq,Xf]
theorem AE(ops:Array Oper): ∃(a:Array Oper) (σ τ:Nat->Nat),a.toList=bV ops.toList/\Ord a ops σ τ:=by
 unfold bV;cases b:(ops.toList.any vJ||uL ops.toList)&&ops.toList.all (jx ops.toList.length)with
 |false=>exact⟨ops,_,_,rfl,Ord.id ops⟩| true=>simp only [Xb]at b;exact⟨_,_,_,rfl,B2 ops _ (ordL_mem ops.toList) (Fy ops.toList) (ordL_len ops.toList) b.2⟩
def jW(S:Nat->Bool):Nat->Nat
 |0=>0|n+1=>jW S n+(if S n=true then 0 else 1)
theorem qU{S:Nat->Bool}: ∀{n:Nat},jW S n=0-> ∀i,i<n->S i=true
 |0,_,i,a=>by omega| n +1,h,i,a=>by
   simp only [jW]at h;by_cases b:S n=true
   . rw [if_pos b]at h;by_cases e:i=n
     . grind
     . exact qU (n:=n) (by omega) i (by omega)
   grind
theorem sg{S:Nat->Bool}: ∀{n:Nat},jW S n≠0-> ∃i,i<n/\S i=false/\ ∀j,j<i->S j=true
 |0,h=>absurd rfl h| n +1,h=>by
   by_cases a:jW S n=0
   . have b:=qU a;simp only [jW,a]at h;grind
   . obtain⟨i,e,c,d⟩:=sg a;exact⟨i,by omega,c,d⟩
theorem DB{S:Nat->Bool}{p:Nat}: ∀{n:Nat},n<=p->jW (mL S p) n=jW S n
 |0,_=>rfl| n+1,h=>by simp only [jW];rw [DB (by omega),cq S (by omega)]
theorem vz{S:Nat->Bool}{p:Nat}(a:S p=false): ∀{n:Nat},p<n->jW (mL S p) n+1=jW S n
 |0,h=>by omega| n +1,h=>by
   simp only [jW];by_cases e:p=n
   . simp_all[DB,Xf,gL]
   . have:=vz a (n:=n) (by omega);rw [cq S (by omega)];omega
theorem qY: ∀(n:Nat),jW (fun _=>false) n=n
 |0=>rfl|n+1=>by simp [jW,qY n]
def ct(listed:Array Bool):Nat->Bool:=fun i=>listed.getD i false
theorem xI{listed:Array Bool}(a:p<listed.size):ct (listed.setIfInBounds p true)=mL (ct listed) p:=by funext i;simp only [ct,mL,Xe,Array.getElem?_setIfInBounds];grind
theorem put_dfs(l:Loc)(d:Option Tmp)(v:Value):(l.put d v).dfs=l.dfs/\(l.put d v).rc=l.rc:=by cases d<;>exact⟨rfl,rfl⟩
def p8(ops:Array Oper):(Nat->Bool)->List Nat->Prop
 |S,[]=> ∀i,i<ops.size->S i=true|S,p::a=>p<ops.size/\S p=false/\(∀o,ops[p]? =some o->Ready o S)/\p8 ops (mL S p) a
theorem xU{ops a:Array Oper}{σ τ:Nat->Nat}(c:Ord ops a σ τ){M:List Nat}(f: ∀i,sF ops.toList M i): ∀(b t:Nat) (listed:Array Bool),listed.size=ops.size->jW (fun p=>ct listed (σ p)) ops.size=b->
 p8 ops (fun p=>ct listed (σ p)) ((Region.linearise.go .any a b t listed []).map τ)
 |0,t,listed,l,I=>qU I| b + 1,t,listed,l,I=>by
   have q: ∀i,i<ops.size->τ i<ops.size:=fun i h=>(c.lt (τ i)).2 (by rw [c.st];exact h);have r: ∀i,i∈Region.ready .any a listed->i<ops.size/\ct listed i=false/\ ∀o,ops[τ i]? =some o->Ready o (fun p=>ct listed (σ p)):=by
    intro i h;unfold Region.ready at h;simp only [XX,XH,Xb,Xo]at h;obtain⟨d,z,g⟩:=h;rw [<-c.size]at d;refine⟨d,?_,fun o A e w j=>?_⟩
    . grind[ct,Xe,zO]
    . obtain⟨L,x,_,_,_,N,_⟩:=c.op (τ i) o A;rw [c.st]at x;rw [x]at g;simp only [XE,XV]at g;obtain⟨k,B,y,C,O⟩:=N e w;have:=(Array.all_eq_true'.1 g) k (by simpa using B);rw [oQ y]at j;unfold binds at j;rw [j]at this;obtain⟨m,_,s,_⟩:=f (τ i) o (by grind);have u:=s e w (by rw [oQ y];unfold binds;exact j);have:=q i d;have hlt:k.on<ops.size:=(by omega);show ct listed (σ e.on)=true;rw [C hlt,c.st];grind[ct,X8]
   have D:Region.ready .any a listed≠ []:=by
    obtain⟨p,d,z,g⟩:=sg (S:=fun p=>ct listed (σ p)) (n:=ops.size) (by omega);intro e;have A:ops[p]? =some ops[p]:=zO d;obtain⟨m,_,j,_⟩:=f p ops[p] (by grind);obtain⟨L,x,_,_,_,_,P⟩:=c.op p _ A;have J:=(c.lt p).1 d;have :σ p∈Region.ready .any a listed:=by
     unfold Region.ready;simp only [XX,XH,Xb,Xo];refine⟨by grind,?_,?_⟩
     . grind[ct,Xe,zO]
     . rw [x];simp only [XE,XV];refine Array.all_eq_true'.2 fun k w=>?_;cases E:Region.binds .any k with
       |false=>rfl| true=>
         obtain⟨K,B,y,C,O⟩:=P k (by simpa using w);have u:=j K B (by rw [oQ y];unfold binds;exact E);have hlt:k.on<ops.size:=(by omega);have:=g K.on u;rw [C hlt,c.st]at this;simpa [ct]using this
    grind
   simp only [Region.linearise.go];change p8 ops (fun p=>ct listed (σ p)) (List.map τ (match(Region.ready .any a listed)[t%(Region.ready .any a listed).length]? with
    |some i=>Region.linearise.go .any a b (t/(Region.ready .any a listed).length) (listed.setIfInBounds i true) [i]|none=>[].reverse))
   have v:0<(Region.ready .any a listed).length:=List.length_pos_iff.2 D;have hlt:=Nat.mod_lt t v;rw [Xv hlt];simp only [];generalize h:(Region.ready .any a listed)[t%(Region.ready .any a listed).length]=i;have F:i∈Region.ready .any a listed:=(by grind);obtain⟨d,z,g⟩:=r i F;have G:=q i d;have H:(fun p=>ct listed (σ p)) (τ i)=false:=(by show ct listed (σ (τ i))=false;rw [c.st];exact z);rw [linearise_go_acc,List.reverse_singleton,List.singleton_append,X9];have Q:(fun p=>ct (listed.setIfInBounds i true) (σ p))=mL (fun p=>ct listed (σ p)) (τ i):=by
    funext p;rw [xI (listed:=listed) (p:=i) (by omega)];by_cases e:p=τ i
    . subst e;rw [c.st,gL,gL]
    . rw [cq _ e,cq _ (by intro R;exact e (by rw [<-R,c.ts]))]
   refine⟨G,H,g,?_⟩;rw [<-Q];exact xU c f b _ _ (by simpa using l) (by grind[vz,ct])
section
variable{E:Env}{P:Program}(ok:EOk E P){R:Rec}(hc:iV E P R.call)(hcode:ku P R.code)
variable{ops:Array Oper}{q:Nat}{ps:List (Nat×Nat)}{M:List Nat}{L:Nat->Loc}{H:Nat->Hp}{T:Nat->Option Nat}{X:Nat->Bool}(D:DT E R ops q ps M L H T X)
variable{nr:Nat}{mu0:Mu}{w0:World}
include D in
theorem down_add(g:Down ops S)(h:ops[p]? =some o)(j:Ready o S):Down ops (mL S p):=by
 intro i k a f e c d;by_cases b:i=p
 . subst b;rw [h]at a;cases a;obtain⟨m,_,l,_⟩:=D.bef i o (by grind);have:=l e c d;rw [cq S (by omega)];exact j e c d
 . rw [cq S b]at f;have:=g i k a f e c d;grind[gL,cq]
include ok hc hcode D in
theorem go_list(dG: ∀j o,j<ops.size->ops[j]? =some o->Turn ops E X q H T j o)(l: ∀i,i<=ops.size->rA nr mu0 w0 L H i)(m: ∀b,mu0 b≠ .none->b<(H 0).n)(e: ∀b c base top,mu0 b=.blk c base top->c<w0.heap.size){d:Array Oper}{σ:Nat->Nat}(z:kJ ops d σ){tl:List Nat}{F:FC}{dfs:List Deferred}{k:List Item}{cs:List Frame}: ∀(n:List Nat) (S:Nat->Bool) (mu:Mu) (w:World) (tmps:Array Value),p8 ops S n->Down ops S->
  Inv E ops q L H X nr mu0 w0 S mu w tmps->
  ∃ s f w' a,Inv E ops q L H X nr mu0 w0 s f w' a/\(∀i,i<ops.size->s i=true)/\
    Steps P (lone (F.mk' tmps dfs (.inRegion d (n.map σ++tl)::k)) cs w) (lone (F.mk' a dfs (.inRegion d tl::k)) cs w')
 | [],S,mu,w,tmps,t,u,g=>⟨S,mu,w,tmps,g,t,Steps.refl _ _⟩| p::n,S,mu,w,tmps,t,u,g=>by obtain⟨B,C,G,I⟩:=t;have v:ops[p]? =some ops[p]:=zO B;have A:=G _ v;obtain⟨x,J,h,r,y⟩:=inv_step ok hc hcode D dG l m e z g u v A C (F:=F) (dfs:=dfs) (k:=k) (cs:=cs) (rest:=n.map σ++tl);obtain⟨s,f,w',a,K,N,O⟩:=go_list dG l m e z n _ x J h I (down_add D u v A) r;exact⟨s,f,w',a,K,N,Steps.trans y O⟩
include ok hc hcode in
theorem uV(cx:Cx)(ops z:Array Oper)(sm:kJ ops z σ)(ls:List Nat)(hg:p8 ops (fun _=>false) ls)(tl:List Nat)(l:Loc)(h:Hp)(l':Loc)(h':Hp)(q:Nat)(ps:List (Nat×Nat))(tr:List (Nat×Tch))(hp:kH E ops.toList=some (q,ps))(he:bW E R ops.toList q ops.toList 0 l h []=some (l',h',tr))(O:c8 tr ps=true)(mu:Mu)(w:World)(F:FC)(A:List Frame)(tmps:Array Value)(dfs:List Deferred)(B:Option (Value×Bool))(k:List Item)(s:SR P cx l h mu w F A tmps dfs B):
 ∃ r w' d,SR P cx l' h' r w' F A d dfs B/\Ext mu h w r h' w'/\
   Steps P (lone (F.mk' tmps dfs (.inRegion z (ls.map σ++tl)::k)) (bg B A) {w with drawn:=w.drawn+1})
    (lone (F.mk' d dfs (.inRegion z tl::k)) (bg B A) w'):=by
 obtain⟨M,a0,a6⟩:=plan_ok hp;obtain⟨_,L,H,T,X,ai,K,Q,S,a1,U,ak⟩:=DD _ _ _ _ _ _ _ _ he;rw [XA,Array.length_toList]at Q S;have D:DT E R ops q ps M L H T X:=by
  refine⟨a0,fun n o I h4=>?_,fun n o m i p I hm V a7 Y=>?_,fun i o I=>?_,fun {i j a b o p} u I hp ro rp ha Y=>?_,fun {i j a o p} u I hp ro rp hx hh ha=>?_⟩
  . grind
  . grind
  . grind
  . have e1:=U i o a (by grind) ro (by grind);have e2:=U j p b (by grind) rp (by grind);rw [XA]at e1 e2;have:=tX O u;grind[iS,Xj]
  . have e1:=U i o a (by grind) ro (by grind);have e2:=ak j p (by grind) rp (by grind) (by grind);rw [XA]at e1 e2;rcases u with u|u
    . have:=tX O u;rw [e1,e2]at this;exact AN this
    . have:=tX O u;rw [e1,e2]at this;exact AN this
 let w0:World:={w with drawn:=w.drawn+1}
 have N:aZ mu h w0:=uW s.hr rfl;have e0:Ext mu h w mu h w0:=yf s.hr rfl rfl rfl rfl;have al:rA cx.nr mu w0 L H 0:=⟨mu,w0,tmps,by grind,s.glob,by rw [ai];exact s.regs,by rw [K];exact Ext.refl mu h w0 N⟩;have Z: ∀i,i<=ops.size->rA cx.nr mu w0 L H i:=fun i V=>(shadow ok hc hcode D i V al).1;have dG: ∀j o,j<ops.size->ops[j]? =some o->Turn ops E X q H T j o:=fun j o hj I=>(shadow ok hc hcode D ops.size (Xf _) al).2 j o hj I;have ax: ∀b,mu b≠ .none->b<(H 0).n:=by rw [K];exact s.hr.lt
 have ay: ∀b c f C,mu b=.blk c f C->c<w0.heap.size:=fun b c f C hm=>N.clt hm;have ad: ∀j,j<=ops.size->(H j).t.Sized (H j).n:=fun j hj=>by obtain⟨_,_,_,g,_⟩:=Z j hj;exact g.sized
 have aL:Inv E ops q L H X cx.nr mu w0 (fun _=>false) mu w0 tmps:=by
  obtain⟨c',d1,d2,d3,d4⟩:=next_W (E:=E) (ops:=ops) (q:=q) (X:=X) ops.size 0 (by omega);refine⟨⟨c',⟨d2,?_,fun i o V I hw=>absurd hw (d4 i o (XS _) V I)⟩,?_⟩,s.glob,fun p a8 _ b h1 h2=>?_,s.regs.size,fun i V t v a2 hv=>?_,by rw [K];exact WExt.refl N,fun p _ J=>by cases J⟩
  . grind
  . refine zi (h:=H 0) (by grind) (ad c' d2) (fS dG d1 d2) (fun b Y=>stand dG d1 d2 (fun j oj h1 h2 a3=>?_) Y);grind[kinds,absurd]
  . exact N.none_ge (by
     have:=fS dG (XS p) (by omega);grind)
  . have G:(L (0+i)).regs.get t=(L 0).regs.get t:=(by refine walk_eq (fun j=>(L j).regs.get t) (a:=0) i (fun j h1 h2=>?_);have a3:ops[j]? =some ops[j]:=zO (by omega);grind[tQ]);rw [XA]at G;rw [G,ai]at hv;exact s.regs.get t v hv
 obtain⟨S',r,w',d,g1,g2,g3⟩:=go_list ok hc hcode D dG Z ax ay sm (tl:=tl) (F:=F) (dfs:=dfs) (k:=k) (cs:=bg B A) ls _ mu w0 tmps hg (fun i o _ J=>by cases J) aL;obtain⟨c,hC,hh⟩:=g1.c;have a4:c=ops.size:=by
  rcases hC.2.1 with e|⟨o,I,_,J⟩
  . exact e
  grind
 subst a4;rw [S]at hh;obtain⟨ba,wT,a5,t1,t2,t3,t4⟩:=Z ops.size (Xf _);rw [Q]at t3;rw [S]at t1 t4;have le:Le mu r:=by
  intro b Y;rcases g1.ext.old b (ax b Y)with x|⟨_,x⟩
  . exact .inl x
  . exact .inr x
 have af: ∀i,i<=ops.size->(L i).dfs=l.dfs/\(L i).rc=l.rc:=by
  intro i
  induction i with
  |zero=>grind| succ i ih=>
    intro V;have:=ih (by omega);have J:=D.step i ops[i] (zO (by omega));generalize L (i+1)=L1 at J⊢;generalize H (i+1)=H1 at J;generalize T i=T1 at J;generalize X i=X1 at J;cases J with
    |skip hg=>grind[put_dfs,trans]|exec hg bb=>grind[put_dfs,trans]
 have hk:=af ops.size (Xf _);rw [Q]at hk;have ext:Ext mu h w0 r h' w':=by
  have W:=g1.ext;rw [K]at W t4;refine⟨t4.n,W.old,W.fresh,t4.lo,t4.same,W.frame,fun b c f C t sz el hm hg=>?_,W.wsize,W.os,W.tape,W.output,fun b h1 h2=>?_⟩
  . obtain⟨x,y⟩:=W.ro b c f C t sz el hm hg;exact⟨x,(t4.ro b c f C t sz el hm hg).2.1,y⟩
  . have bc: ∀i,i<=ops.size->b<(H i).n->r b≠ .none:=by
     intro i
     induction i with
     |zero=>grind| succ i ih=>
       intro V Y;by_cases bd:b<(H i).n
       . grind
       . exact g1.cov i (by omega) (g2 i (by omega)) b (by omega) Y
    grind
 refine⟨r,w',d,⟨hh,g1.glob,⟨g1.size,t3.sized,fun i v hv=>?_⟩,?_,?_,s.ko,s.fn,s.rd.mono le,s.rn,s.fs⟩,Ext.trans e0 ext,g3⟩
 . refine g1.regs ops.size (Xf _) i v (fun p o I _=>?_) (by grind);grind
 . rw [hk.1];exact LR.mono s.dfs fun _ _=>oY.mono le
 . rw [hk.2];exact s.rc.mono le
include ok hc hcode in
theorem AI(cx:Cx)(a b:Array Oper)(A:b=a\/(∀(i:Nat),i<a.size->b[i]? =a[i]?)/\ ∀x∈a.toList,jx a.size x=true)(tl:List Nat)(l:Loc)(h:Hp)(l':Loc)(h':Hp)(q:Nat)(ps:List (Nat×Nat))(m:List (Nat×Tch))(n:kH E (bV a.toList)=some (q,ps))(y:bW E R (bV a.toList) q (bV a.toList) 0 l h []=some (l',h',m))(o:c8 m ps=true)(mu:Mu)(w:World)(F:FC)(c:List Frame)(tmps:Array Value)(dfs:List Deferred)(d:Option (Value×Bool))(k:List Item)(s:SR P cx l h mu w F c tmps dfs d)(t:Nat):
 ∃ g w' e,SR P cx l' h' g w' F c e dfs d/\Ext mu h w g h' w'/\
   Steps P (lone (F.mk' tmps dfs (.inRegion b (Region.linearise.go .any a a.size t (Xl a.size false) []++tl)::k)) (bg d c) {w with drawn:=w.drawn+1})
    (lone (F.mk' e dfs (.inRegion b tl::k)) (bg d c) w'):=by
 obtain⟨ops,u,B,C,f⟩:=AE a;have G:kJ ops b u:=by
  rcases A with rfl|⟨I,J⟩
  . exact f.same
  . exact f.part I J
 rw [<-C]at n y;have j:(fun p=>ct (Xl a.size false) (u p))=fun _=>false:=by
  funext i;simp only [ct,Xe,XN]
  split<;>rfl
 obtain⟨M,v,_⟩:=plan_ok n;have z:=xU f v a.size t (Xl a.size false) (by simp [f.size]) (by rw [j,<-f.size];exact qY _);rw [j]at z;have r:=uV ok hc hcode cx ops b G _ z tl l h l' h' q ps m n y o mu w F c tmps dfs d k s;rw [Yo,show(u∘B)=id from funext f.st,List.map_id]at r;exact r
include ok hc hcode in
theorem draw_ok:DrawOk E P R:=by
 intro n id a l h o p q ps r t u g v w F i d e f k s;have b:Region.schedule (P.follows .mixedOrders) a (w.tape w.drawn (.order F.fn id))=Region.linearise.go .any a a.size (w.tape w.drawn (.order F.fn id)) (Xl a.size false) []:=by rw [ok.mixed];rfl
 obtain⟨j,x,c,y,z,m⟩:=AI ok hc hcode n a a (.inl rfl) [] l h o p q ps r t u g v w F i d e f k s (w.tape w.drawn (.order F.fn id));rw [XF]at m;refine⟨j,x,c,e,f,y,z,Steps.trans (.one ?_) (Steps.trans m (.one qI))⟩;rw [<-b];rfl
theorem bef_bit{M:List Nat}(p: ∀i,sF ops.toList M i){N:Nat}(r: ∀(i:Nat) o,i<N->ops[i]? =some o->S i=true-> ∀e∈o.after.toList,binds e=true->S e.on=true): ∀(n:Nat) (o:Oper) (m i:Nat),n<=N->ops[n]? =some o->M[n]? =some m->Ready o S->m.testBit i=true->S i=true:=by
 intro n
 induction n using Nat.strongRecOn with
 | _ n s=>
   intro o m i B t u v f;obtain⟨C,k,w,y⟩:=p n o (by grind);rw [u]at k;cases k;obtain⟨e,l,a,x⟩:=y i f;have b:=v e l a;rcases x with rfl|⟨m2,g,h⟩
   . exact b
   . have hlt:=w e l a;have z:n<ops.size:=(Array.getElem?_eq_some_iff.1 t).1;have c:ops[e.on]? =some ops[e.on]:=zO (by omega);exact s e.on hlt ops[e.on] m2 i (by omega) c g (fun A j d=>r e.on _ (by omega) c b A j d) h
theorem A9(l:Array Bool)(i:Nat):(l.push false).getD i false=l.getD i false:=by simp only [Xe,XB];grind
theorem yJ(c:A.size=n)(d:ops.size=n+1)(a: ∀i,i<n->ops[i]? =A[i]?)(l:Array Bool)(g:l.size=n):Region.ready .any ops (l.push false)=Region.ready .any A l++(if((ops[n]?).map (·.after.all fun e=>!Region.binds .any e||l.getD e.on false)).getD false=true then [n]else []):=by
 unfold Region.ready;rw [d,c,List.range_succ,List.filter_append];congr 1
 . refine List.filter_congr fun i f=>?_;have b:i<n:=List.mem_range.1 f;rw [a i b];simp only [A9];congr 2;simp only [Xe,XB];grind
 . simp only [A9];simp_all[Xe,XB,if_pos,List.filter_cons,List.filter_nil,Bool.not_false,Bool.true_and]
theorem lin_pop(v:A.size=n)(O:ops.size=n+1)(b: ∀i,i<n->ops[i]? =A[i]?){M:List Nat}(w: ∀i,sF ops.toList M i){x:Nat}(y:M[n]? =some x)(f: ∀i,i<n->x.testBit i=true):
 ∀ (a t:Nat) (l:Array Bool),l.size=n->(∀(i:Nat) o,i<n->ops[i]? =some o->ct l i=true-> ∀e∈o.after.toList,binds e=true->ct l e.on=true)->jW (ct l) n=a->
   Region.linearise.go .any ops (a+1) t (l.push false) []=Region.linearise.go .any A a t l []++[n]:=by
 have z:ops[n]? =some (ops[n]'(by omega)):=zO _;obtain⟨m0,k1,W,_⟩:=w n _ (by rw [Xx];exact z);have g: ∀(B:Array Oper) (a t:Nat) (l:Array Bool),Region.linearise.go .any B (a+1) t l []=(match(Region.ready .any B l)[t%(Region.ready .any B l).length]? with
  |some i=>Region.linearise.go .any B a (t/(Region.ready .any B l).length) (l.setIfInBounds i true) [i]|none=>[]):=fun _ _ _ _=>rfl
 intro a
 induction a with
 | zero=>
   intro t l s Q h;have U:=qU h;have C:Region.ready .any A l=[]:=(by grind[Region.ready,List.filter_eq_nil_iff,ct,Xe,zO]);have F:Region.ready .any ops (l.push false)=[n]:=by
    rw [yJ v O b l s,C,z];simp only [XE,XV,Yh];rw [if_pos];refine Array.all_eq_true'.2 fun e u=>?_;cases d:Region.binds .any e with
    |false=>rfl| true=>have:=W e (by simpa using u) d;grind[ct]
   rw [g,F];simp [Region.linearise.go,Nat.mod_one]
 | succ a Y=>
   intro t l s Q h;have G:Region.ready .any ops (l.push false)=Region.ready .any A l:=(by rw [yJ v O b l s,if_neg,XF];intro hc;obtain⟨p,I,Z,_⟩:=sg (S:=ct l) (n:=n) (by omega);have:ct l p=true:=(by refine bef_bit w Q n _ x p (Xf _) z y (fun e u d=>?_) (f p I);grind[X8,binds,ct]);grind);rw [g,g,G];have J:Region.ready .any A l≠ []:=by
    obtain⟨p,I,Z,p3⟩:=sg (S:=ct l) (n:=n) (by omega);have V:ops[p]? =some (ops[p]'(by omega)):=zO _;obtain⟨m,_,K,_⟩:=w p _ (by rw [Xx];exact V);have :p∈Region.ready .any A l:=by
     unfold Region.ready;simp only [XX,XH,Xb,Xo];refine⟨by omega,?_,?_⟩
     . grind[ct,Xe,zO]
     . rw [<-b p I,V];simp only [XE,XV];refine Array.all_eq_true'.2 fun e u=>?_;cases d:Region.binds .any e with
       |false=>rfl| true=>have:=p3 e.on (K e (by simpa using u) d);simpa [ct]using this
    grind
   have j:0<(Region.ready .any A l).length:=List.length_pos_iff.2 J;have hlt:=Nat.mod_lt t j;rw [Xv hlt];simp only [];generalize hi:(Region.ready .any A l)[t%(Region.ready .any A l).length]=i;have N:i∈Region.ready .any A l:=(by grind);have c:=N;unfold Region.ready at c;simp only [XX,XH,Xb,Xo]at c;obtain⟨h1,h2,h3⟩:=c;rw [v]at h1;have ad:ct l i=false:=(by grind[ct,Xe,zO]);have k:(l.push false).setIfInBounds i true=(l.setIfInBounds i true).push false:=(by grind);have r:=xI (listed:=l) (p:=i) (by omega);rw [linearise_go_acc,linearise_go_acc (acc:=[i]),List.append_assoc,k];rw [Y _ (l.setIfInBounds i true) (by simpa using s) ?_ ?_]
   . rw [r];grind[X8,binds,ct,mL,cq]
   grind[vz,ct]
theorem xq(w:ops.size=n+1)(a:lG ops.toList n=true)(t:Nat):Region.linearise.go .any ops (n+1) t (Xl (n+1) false) []=Region.linearise.go .any (ops.extract 0 n) n t (Xl n false) []++[n]:=by
 unfold lG at a;simp only [Xb]at a;obtain⟨b,j⟩:=a;unfold fullM at b;have e:ops.toList.length=ops.size:=by simp
 split at b
 next m f c=>
  obtain⟨k,_,g⟩:=wP _ _ _ c;simp only [XY,XA]at k g;have l: ∀i,sF ops.toList (m::f).reverse i:=fun i o p=>g i o p;have r:(m::f).reverse[n]? =some m:=by grind
  have d: ∀i,i<n->m.testBit i=true:=fun i s=>List.all_eq_true.1 b i (List.mem_range.2 s);have u:(ops.extract 0 n).size=n:=by simp;omega
  have h: ∀i,i<n->ops[i]? =(ops.extract 0 n)[i]? :=by grind
  generalize ops.extract 0 n=A at*
  have v:ct (Xl n false)=fun _=>false:=by
   funext i;simp only [ct,Xe,XN]
   split<;>rfl
  rw [Array.replicate_succ];grind[lin_pop,qY]
 grind
include ok hc hcode in
theorem Bq(cx:Cx)(id:Nat)(ops:Array Oper)(l:Loc)(h:Hp)(l':Loc)(h':Hp)(x:Ex)(mu:Mu)(w:World)(F:FC)(c:List Frame)(tmps:Array Value)(dfs:List Deferred)(d:Option (Value×Bool))(k:List Item)(s:SR P cx l h mu w F c tmps dfs d)(n:Nat)(Q:n<=ops.size)(m:(ops.toList.take n).all (jx n)=true)(a: ∀t,Region.linearise.go .any ops ops.size t (Xl ops.size false) []=Region.linearise.go .any (ops.extract 0 n) n t (Xl n false) []++Yi n (ops.size-n))(b :(match kH E (bV (ops.toList.take n))with
   |none=>none| some (q,ps)=>match bW E R (bV (ops.toList.take n)) q (bV (ops.toList.take n)) 0 l h []with
     |none=>none|some (l',h',j)=>bif c8 j ps then js E R cx ops.toList (ops.toList.drop n) l' h' else none)=some (x,l',h')):Sim P cx h mu w F c tmps dfs d (.code (.region id ops true)::k) k x l' h':=by
 have o:(ops.extract 0 n).toList=ops.toList.take n:=by simp
 have p:(ops.extract 0 n).size=n:=by simp;omega
 have e: ∀i,i<n->ops[i]? =(ops.extract 0 n)[i]? :=by grind
 rw [<-o]at b m;generalize ops.extract 0 n=A at*
 cases y:kH E (bV A.toList)with
 |none=>grind| some B=>
   obtain⟨q,ps⟩:=B;rw [y]at b;simp only []at b;cases z:bW E R (bV A.toList) q (bV A.toList) 0 l h []with
   |none=>grind| some C=>
     obtain⟨G,I,j⟩:=C;rw [z]at b;simp only []at b;cases f:c8 j ps with
     |false=>grind| true=>
       rw [f]at b;simp only [cond_true]at b;have J:Region.schedule (P.follows .mixedOrders) ops (w.tape w.drawn (.order F.fn id))=Region.linearise.go .any A A.size (w.tape w.drawn (.order F.fn id)) (Xl A.size false) []++Yi n (ops.size-n):=(by rw [ok.mixed,p];exact a _);obtain⟨K,S,u,N,O,g⟩:=AI ok hc hcode cx A ops (.inr ⟨fun i U=>e i (by omega),fun x V=>by grind⟩) (Yi n (ops.size-n)) l h G I q ps j y z f mu w F c tmps dfs d k s (w.tape w.drawn (.order F.fn id));have r:=Bp ok hc hcode (ops:=ops) (k:=k) (ops.toList.drop n) n _ _ _ _ _ _ _ _ _ _ rfl N b;have v:(ops.toList.drop n).length=ops.size-n:=(by grind);rw [v]at r;refine Sim.pre (Steps.trans (.one ?_) g) O r;grind[tE]
include ok hc hcode in
theorem ES(cx:Cx)(id:Nat)(ops:Array Oper)(l:Loc)(h:Hp)(l':Loc)(h':Hp)(x:Ex)(c:v9 E R cx ops.toList l h=some (x,l',h'))(mu:Mu)(w:World)(F:FC)(d:List Frame)(tmps:Array Value)(dfs:List Deferred)(e:Option (Value×Bool))(k:List Item)(s:SR P cx l h mu w F d tmps dfs e):Sim P cx h mu w F d tmps dfs e (.code (.region id ops true)::k) k x l' h':=by
 unfold v9 at c;have z:ops.toList.length=ops.size:=by simp
 cases a:lG ops.toList (ops.toList.length-1)with
 |false=>grind| true =>
   rw [a]at c;simp only [cond_true]at c;have A:0<ops.size:=by
    rcases Nat.eq_zero_or_pos ops.size with i|i
    . have:ops.toList=[]:=(by grind);rw [this]at a;cases a
    . exact i
   obtain⟨n,B⟩: ∃n,ops.size=n+1:=⟨ops.size-1,by omega⟩;have o:ops.toList.length-1=n:=(by omega);unfold cutN at c;rw [o]at c a;have C:=xq B a;cases g:tail2 ops.toList&&lG (ops.toList.take n) (n-1)with
   | false=>
     rw [g]at c;refine Bq ok hc hcode cx id ops l h l' h' x mu w F d tmps dfs e k s n (by omega) (Bool.and_eq_true_iff.1 a).2 (fun t=>?_) c;rw [show ops.size-n=1 by omega];grind
   | true=>
     rw [g]at c;have b:lG (ops.toList.take n) (n-1)=true:=(Bool.and_eq_true_iff.1 g).2;have j:(ops.extract 0 n).toList=ops.toList.take n:=(by simp);have p:(ops.extract 0 n).size=n:=(by simp;omega);rw [<-j]at b;have G:0<n:=by
      rcases Nat.eq_zero_or_pos n with i|i
      . have:(ops.extract 0 n).toList=[]:=(by grind);rw [this]at b;cases b
      . exact i
     obtain⟨f,r⟩: ∃f,n=f+1:=⟨n-1,by omega⟩;have u:n-1=f:=(by omega);rw [u]at c b;have v:=xq (p.trans r) b;have m:=(Bool.and_eq_true_iff.1 b).2;have I:(ops.extract 0 n).extract 0 f=ops.extract 0 f:=(by grind);have y:(ops.extract 0 n).toList.take f=ops.toList.take f:=(by rw [j,List.take_take,XZ (by omega)]);rw [I]at v;rw [y]at m;refine Bq ok hc hcode cx id ops l h l' h' x mu w F d tmps dfs e k s f (by omega) m (fun t=>?_) c;rw [show ops.size-f=2 by omega,B,C,r];rw [r]at v;rw [v];simp [Yi]
end
def befL(x y:Nat):List Nat->Prop
 | []=>False|p::r=>p=x\/(p≠y/\befL x y r)
theorem befL_or{x y:Nat}: ∀{l:List Nat},x∈l->befL x y l\/befL y x l
 | [],h=>by cases h
 | p::r,h=>by
   by_cases a:p=x
   . exact .inl (.inl a)
   by_cases b:p=y
   . exact .inr (.inl b)
   rcases List.mem_cons.1 h with e|h
   . exact absurd e.symm a
   rcases befL_or (y:=y) h with h|h
   . exact .inl (.inr ⟨b,h⟩)
   . exact .inr (.inr ⟨a,h⟩)
theorem BY{f:Nat->Nat}{x y:Nat}(a: ∀p,f p=f y->p=y): ∀{l:List Nat},befL x y l->befL (f x) (f y) (l.map f)
 | p::r,h=>by
   rcases h with h|⟨b,c⟩
   . exact .inl (by rw [h])
   . exact .inr ⟨fun e=>b (a _ e),BY a c⟩
theorem Ca{ops:Array Oper}{i:Nat}(a:i<ops.size): ∀{l:List Nat} {S:Nat->Bool},p8 ops S l->S i=false->i∈l
 | [],S,h,b=>by have:=h i a;grind| p::r,S,h,b=>by
   by_cases e:p=i
   . grind
   . exact Xn _ (Ca a h.2.2.2 (by rw [cq S (Ne.symm e)];exact b))
theorem rF(os:List Oper)(k i:Nat):(oL os k)[i]? =(os[i]?).map (tie k i):=by unfold oL;grind
theorem CH(os:List Oper)(k:Nat):(oL os k).length=os.length:=by unfold oL;grind
theorem yk(k i:Nat)(o:Oper):(tie k i o).op=o.op/\(tie k i o).dst=o.dst/\(tie k i o).guard=o.guard:=by unfold tie;grind
theorem xW{ops:Array Oper}{k:Nat}: ∀{l:List Nat} {S:Nat->Bool},p8 ops S l->(S k=true\/befL k (k+1) l)->p8 (oL ops.toList k).toArray S l
 | [],S,h,_=>by intro i d;rw [List.size_toArray,CH]at d;exact h i (by simpa using d)| p ::r,S,h,a=>by
   obtain⟨m,n,q,s⟩:=h;refine⟨by rw [List.size_toArray,CH];simpa using m,n,fun o f=>?_,xW s ?_⟩
   . rw [Yj,rF]at f;obtain⟨t,u,rfl⟩:=Option.map_eq_some_iff.1 f;have g:=q t (by grind);unfold tie;cases j:Xi p (k+1)with
     |false=>exact g| true=>
       have j:=Xa j;intro e b c;simp only [cond_true,Array.toList_push,List.mem_append,List.mem_singleton]at b;rcases b with b|rfl
       . exact g e b c
       . rcases a with a|a|⟨a,_⟩
         . exact a
         . omega
         omega
   . by_cases e:k=p
     . subst e;exact .inl (gL S k)
     . rw [cq S e];rcases a with a|a|⟨_,a⟩
       . exact .inl a
       . omega
       . exact .inr a
theorem BX{ops b:Array Oper}{σ τ:Nat->Nat}(a:Ord b ops σ τ){M:List Nat}(d: ∀i,sF ops.toList M i): ∀{l:List Nat} {S:Nat->Bool},p8 ops S l->p8 b (fun p=>S (σ p)) (l.map τ)
 | [],S,h=>fun i s=>h _ (by rw [<-a.size];exact(a.lt i).1 s)
 | p ::r,S,h=>by
   obtain⟨t,u,v,w⟩:=h;refine⟨(a.lt _).2 (by rw [a.st,a.size];exact t),by show S (σ (τ p))=false;rw [a.st];exact u,fun o x e y c=>?_,?_⟩
   . obtain⟨g,j,_,_,_,z,_⟩:=a.op _ o x;rw [a.st]at j;obtain⟨f,k,A,B,E⟩:=z e y;rw [oQ A]at c;have n:=v g j f k c;obtain⟨m,_,C,_⟩:=d p g (by grind);have hlt:f.on<b.size:=(by have:=C f k c;rw [a.size];omega);show S (σ e.on)=true;rw [B hlt,a.st];exact n
   . have:=BX a d w;have n:(fun q=>mL S p (σ q))=mL (fun q=>S (σ q)) (τ p):=by
      funext q;by_cases e:q=τ p
      . subst e;rw [a.st,gL,gL]
      . rw [cq _ e,cq _ (by intro D;exact e (by rw [<-D,a.ts]))]
     grind
theorem kJ.tie{b:Array Oper}(s:kJ ops b σ)(k:Nat):kJ (oL ops.toList k).toArray b σ:=by
 have c: ∀(p:Nat) (o:Oper),(oL ops.toList k).toArray[p]? =some o-> ∃a,ops[p]? =some a/\o.op=a.op/\o.dst=a.dst/\o.guard=a.guard:=by intro p o d;rw [Yj,rF]at d;obtain⟨a,l,rfl⟩:=Option.map_eq_some_iff.1 d;grind[yk]
 refine⟨fun p o d=>?_,fun p o j e d m n=>?_⟩
 . obtain⟨a,f,g,h,i⟩:=c p o d;rw [g,h,i];exact s.op p a f
 . obtain⟨a,f,g,h,i⟩:=c p o d;refine s.no p a j e f (by grind) ?_;grind[rF]
theorem kJ.comp{a b:Array Oper}{c f:Nat->Nat}(s:kJ ops b σ)(e:Ord a ops c f):kJ a b (σ∘c):=by
 refine⟨fun p o g=>?_,fun p o j d g l n=>?_⟩
 . obtain⟨h,i,q,r,k,_⟩:=e.op p o g;obtain⟨t,u,v,w,z⟩:=s.op _ h i;grind
 . obtain⟨h,i,_,_,k,_⟩:=e.op p o g;rcases k with⟨x,_⟩|⟨A,B,x,y⟩
   . grind
   . rw [l]at x;cases x;refine s.no _ h _ d i y (XR ?_);have m: ¬j<a.size:=(by grind);have:=mt (e.lt j).2 m;rw [<-e.size];omega
theorem Av(k i:Nat):swN k (swN k i)=i:=by grind[swN,cR]
theorem swN_lt(a:k+1<n):swN k i<n↔i<n:=by grind[swN,cR]
theorem swN_ne(a:i≠k)(b:i≠k+1):swN k i=i:=by grind[swN,cR,decide_eq_false]
theorem swN_k(k:Nat):swN k k=k+1:=by unfold swN;simp_all
theorem swN_k1(k:Nat):swN k (k+1)=k:=by grind[swN,cR,decide_eq_false,Xj]
theorem yh(n k p:Nat):(jq n k)[p]? =if p<n then some (swN k p)else none:=by grind[jq,List.getElem?_range,List.getElem?_eq_none]
theorem CQ(b:k+1<n)(i:Nat):i∈jq n k↔i<n:=by
 unfold jq;simp only [Yn,XH];constructor
 . rintro⟨a,c,rfl⟩;exact(swN_lt b).2 c
 . intro h;exact⟨swN k i,(swN_lt b).2 h,Av k i⟩
theorem FR(n k:Nat):(jq n k).Nodup:=by unfold jq;rw [List.nodup_iff_pairwise_ne,List.pairwise_map];exact List.nodup_range.imp fun {a b} h e=>h (by rw [<-Av k a,e,Av])
theorem ord2_len(n k:Nat):(jq n k).length=n:=by unfold jq;simp
theorem vu{E:Env}{R:Rec}{q:Nat}{ops ops':List Oper}: ∀(os a:List Oper) (i:Nat) (l:Loc) (h:Hp) (c:List (Nat×Tch)),os.map (fun o=>(o.op,o.dst))=a.map (fun o=>(o.op,o.dst))->(∀o∈os,o.guard=none)->(∀o∈a,o.guard=none)->
 bW E R ops q os i l h c=bW E R ops' q a i l h c
 | [],[],_,_,_,_,_,_,_=>rfl| [],_::_,_,_,_,_,b,_,_=>by simp at b|_::_,[],_,_,_,_,b,_,_=>by simp at b| o::os,o'::a,i,l,h,c,b,e,f=>by simp only [X9,List.cons.injEq,Prod.mk.injEq]at b;obtain⟨⟨g,j⟩,k⟩:=b;have m:=e o Xt;have n:=f o' Xt;have p:=fun i l h c=>vu (E:=E) (R:=R) (q:=q) (ops:=ops) (ops':=ops') os a i l h c k (fun o d=>e o (Xn _ d)) (fun o d=>f o (Xn _ d));simp only [bW,cU,m,n,uf g,g,j,p]
theorem qV{E:Env}{R:Rec}{q:Nat}{ops:List Oper}: ∀(xs ys:List Oper) (i:Nat) (l:Loc) (h:Hp) (a:List (Nat×Tch)),
 bW E R ops q (xs++ys) i l h a=(bW E R ops q xs i l h a).bind fun r=>bW E R ops q ys (i+xs.length) r.1 r.2.1 r.2.2
 | [],ys,i,l,h,a=>rfl| o ::xs,ys,i,l,h,a=>by
   have e: ∀n,i+1+n=i+(n+1):=fun n=>(by omega);simp only [XK,bW,Yd];cases cU ops l.regs o with
   |none=>rfl| some b=>
     cases b with
     |false=>simp only [];rw [qV xs ys,e]| true=>
       simp only [];cases dp E R (l.evD (tmpsOf o.op.operands.toList)) (fZ E q i o.op) o h with
       |none=>rfl|some r=>obtain⟨v,c⟩:=r;simp only [];rw [qV xs ys,e]
theorem Bh{k:Value}(h:rH k=true):cD k k=some true:=by
 cases k<;>first|(cases h;done)|skip
 next a n=>
 have b:kL a a=true:=by cases a<;>rfl
 have c:jh n n=true:=by cases n<;>exact Xj _
 simp only [cD,b,c,cond_true]
theorem Br{k b v:Value}{c:Nat}: ∀{a:List (Value×Value×Nat)},cD k b=some false->bF k (a++[(b,v,c)])=bF k a
 | [],h=>by simp only [Yh,bF,h]|(d,e,n)::a,h=>by simp only [XK,bF,Br h]
theorem rJ{k v:Value}{c:Nat}(d:cD k k=some true): ∀{a:List (Value×Value×Nat)},bF k a=some none->bF k (a++[(k,v,c)])=some (some (v,c))
 | [],_=>by simp only [Yh,bF,d]| (f,g,n)::a,h=>by
   simp only [XK,bF]at h⊢;cases e:cD k f with
   |none=>rw [e]at h;cases h
   | some b=>
     rw [e]at h;cases b with
     |true=>cases h
     |false=>exact rJ d h
theorem vj{k a v:Value}: ∀{c:List (Value×Value×Nat)},cD k a=some false->bF k (kQ a v c)=bF k c
 | [],_=>rfl| (k',v',n)::c,h=>by
   unfold kQ;cases d:cD a k' with
   |none=>simp only [bF,vj h]| some b=>
     cases b with
     |true=>have:=pg d;subst this;simp only [bF,h]|false=>simp only [bF,vj h]
theorem uI{k v:Value}(c:cD k k=some true): ∀{a:List (Value×Value×Nat)} {u:Value×Nat},bF k a=some (some u)-> ∃n,bF k (kQ k v a)=some (some (v,n))
 | [],_,h=>by cases h
 | (d,f,n)::a,u,h=>by
   simp only [bF]at h;unfold kQ;cases e:cD k d with
   |none=>grind| some b=>
     rw [e]at h;cases b with
     |true=>exact⟨n,by simp only [bF,c]⟩| false=>simp_all[uI,bF]
def mput(k v:Value)(a:List (Value×Value×Nat))(c:Nat):List (Value×Value×Nat)×Nat:=match bF k a with
 |some (some _)=>(kQ k v a,c)|_=>(a++[(k,v,c)],c+1)
theorem tC{k a:Value}{b:List (Value×Value×Nat)}(h:cD k a=some false):bF k (mput a v b c).1=bF k b:=by grind[mput,vj,Br]
theorem mput_eq{k:Value}{a:List (Value×Value×Nat)}(b:cD k k=some true)(h:bF k a≠none):(bF k (mput k v a c).1).map (Yc XO)=some (some v):=by
 unfold mput;cases d:bF k a with
 |none=>grind| some u=>
   cases u with
   |none=>grind[rJ]|some u=>simp only [];obtain⟨n,e⟩:=uI (v:=v) b d;rw [e];rfl
theorem qQ{ty:TypeId}{m k:Value}:ey E h ty m k v=some h'↔ ∃r a c kt el,m=.map (some r)/\E.und ty=some (.map kt el)/\bK E kt k=true/\h.get r=some (.map a c)/\bF k a≠none/\h'=h.put r (.map (mput k v a c).1 (mput k v a c).2):=by unfold ey jV mput;grind
theorem Tr.set_set{a:Type}(t:Tr a)(i:Nat)(x y:a):(t.set i x).set i y=t.set i y:=by
 induction t generalizing i with
 |nil=>rfl| node z l r b c=>
   rw [Tr.set_node,Tr.set_node];cases i with
   |zero=>rfl| succ n=>
     simp only []
     split
     . simp_all[Tr.set_node,if_true]
     simp_all[Tr.set_node,if_false]
theorem wG(h:Hp)(b:Nat)(x y:Blk):(h.put b x).put b y=h.put b y:=by unfold Hp.put;simp only [Tr.set_set];congr 1;unfold dV;grind
theorem kM{b:Nat}{x y:Blk}(a:h.get b=some y):(h.put b x).get b=some x:=by rw [Hp.get_put,if_pos ⟨rfl,by rw [a];rfl⟩]
theorem put_swap{u p:Hp}{ty:TypeId}{m d k2 l e:Value}(I:rH d=true)(J:rH k2=true)(x:cD d k2=some false)(y:cD k2 d=some false)(z:ey E h ty m d l=some u)(A:ey E u ty m k2 e=some p):
 ∃ v w r b c es' c',ey E h ty m k2 e=some v/\ey E v ty m d l=some w/\m=.map (some r)/\p.get r=some (.map b c)/\w=p.put r (.map es' c')/\
   ∀kt el k,E.und ty=some (.map kt el)->bK E kt k=true->(bF k es').map (Yc XO)=(bF k b).map (Yc XO):=by
 obtain⟨r,b,c,kt,el,rfl,n,f,o,q,rfl⟩:=qQ.1 z;obtain⟨K,B,L,s,t,C,a,g,i,j,rfl⟩:=qQ.1 A;cases C;rw [n]at a;cases a;rw [kM o]at i;cases i;rw [tC y]at j;refine⟨_,_,r,_,_,(mput d l (mput k2 e b c).1 (mput k2 e b c).2).1,(mput d l (mput k2 e b c).1 (mput k2 e b c).2).2,qQ.2 ⟨r,b,c,kt,el,rfl,n,g,o,j,rfl⟩,
  qQ.2 ⟨r,_,_,kt,el,rfl,n,f,kM o,by rw [tC x];exact q,rfl⟩,rfl,kM (kM o),by rw [wG,wG,wG],?_⟩
 intro s t k a hf;rw [n]at a;cases a;obtain⟨D,F⟩:=uv hf f;obtain⟨G,H⟩:=uv hf g;cases D with
 | true=>grind[pg,mput_eq,Bh,tC]| false=>
   cases G with
   | true=>grind[pg,tC,mput_eq,Bh]|false=>grind[tC]
theorem ym{ops:List Oper}{a:Oper}{l:Loc}{d:List (Nat×Tch)}{ty:TypeId}{k:Value}(c:a.op=.insert ty (.tmp t) (.const k) x)(f:a.dst=none)(g:a.guard=none)(j:rH k=true):bW E R ops q (a::os) i l h d=(ey E h ty (l.ev (.tmp t)) k (l.ev x)).bind fun h'=>bW E R ops q os (i+1) l h' (gG i d (match l.ev (.tmp t)with
  | .map (some r)=>some (.blk r)|_=>none)):=by
 have n:l.evD (tmpsOf a.op.operands.toList) (.tmp t)=l.ev (.tmp t):=by grind[Loc.evD,Op.operands,tmpsOf,pD,Xj]
 have o:l.evD (tmpsOf a.op.operands.toList) (.const k)=k:=by unfold Loc.evD Loc.ev;simp only [];cases k<;>first|(cases j;done)|rfl
 have p:l.evD (tmpsOf a.op.operands.toList) x=l.ev x:=by rw [c];unfold Loc.evD;cases x<;>simp [Op.operands,tmpsOf,pD,Xj]
 have m:fZ E q i a.op=false:=by unfold fZ;rw [c];show(q.testBit i&&false)=false;simp
 simp only [bW,cU,g,m,dp,cond_false];rw [show aop E (l.evD (tmpsOf a.op.operands.toList)) h a.op=gC (ey E h ty (l.ev (.tmp t)) k (l.ev x)) by
  have: ∀b:Operand->Value,aop E b h (.insert ty (.tmp t) (.const k) x)=gC (ey E h ty (b (.tmp t)) (b (.const k)) (b x)):=fun _=>rfl;grind]
 cases ey E h ty (l.ev (.tmp t)) k (l.ev x)with
 |none=>rfl| some h'=>
   simp only [gC,dD,XU,f];congr 1;congr 1;unfold cH jo;have e: ∀b:Operand->Value,touch b a.op=(match b (.tmp t)with| .map r=>r|_=>none):=fun b=>(by rw [c];rfl);rw [show dJ a.op=false by rw [c];rfl,show eR a.op=false by rw [c];rfl];grind
theorem note_read{b:Bool}{a c d e:Hp}(f:cls E op<=1):cH ρ b op a c=cH ρ b op d e:=by grind[cH,mG,qO]
theorem AM{E:Env}{R:Rec}{ops:List Oper}{q:Nat}{t:Tmp}{ty:TypeId}{r:Nat}{B es':List (Value×Value×Nat)}{c c':Nat}{g:Hp}(F:g.get r=some (.map B c))(G: ∀kt el k,E.und ty=some (.map kt el)->bK E kt k=true->(bF k es').map (Yc XO)=(bF k B).map (Yc XO)):
 ∀ (os:List Oper) (i:Nat) (l:Loc) (s:List (Nat×Tch)) (l':Loc) (h':Hp) (b:List (Nat×Tch)),(∀o∈os,Aa E ty t o=true/\o.guard=none)->bW E R ops q os i l g s=some (l',h',b)->
   h'=g/\l'.ev (.tmp t)=l.ev (.tmp t)/\bW E R ops q os i l (g.put r (.map es' c')) s=some (l',g.put r (.map es' c'),b)
 | [],i,l,s,l',h',b,_,j=>by cases j;exact⟨rfl,rfl,rfl⟩
 | o :: os, i,l,s,l',h',b,C,j=>by
   obtain⟨u,w⟩:=C o Xt;unfold Aa at u;simp only [Xb,Xo,XW]at u;have x:cls E o.op<=1:=by
    rcases u.2 with h|h
    . simp_all
    . unfold Ar at h
      split at h
      . next e=>rw [e];exact Xf 1
      . cases h
   obtain⟨f,D,H,_⟩:=yD (E:=E) (op:=o.op) (ρ:=l.evD (tmpsOf o.op.operands.toList)) (by omega);have hf: ∀v,f g=some v->f (g.put r (.map es' c'))=some v:=by
    intro v a;rcases u.2 with h|h
    . rw [H (Xa h) _ g];exact a
    . unfold Ar at h
      split at h
      next n m k y e=>
       have:=Xa h;subst this;have I: ∀h,f h=cM E h n (l.evD (tmpsOf o.op.operands.toList) m) (l.evD (tmpsOf o.op.operands.toList) k) y:=(by intro h;have:=D h;rw [e]at this;rw [e];exact AR this.symm);rw [I]at a⊢;generalize l.evD (tmpsOf o.op.operands.toList) m=P at a⊢;generalize l.evD (tmpsOf o.op.operands.toList) k=J at a⊢;unfold cM at a⊢;cases K:E.und n with
       |none=>grind| some d=>
         rw [K]at a;cases d<;>(try (cases a;done))
         next kt el=>
          simp only []at a⊢;cases p:bK E kt J with
          |false=>grind| true=>rw [p]at a;simp only [cond_true]at a⊢;grind[kM,bF,dB]
      next=>cases h
   have L:fZ E q i o.op=false:=uP x;simp only [bW,cU,w,L,dp,cond_false]at j⊢;rw [D]at j⊢;cases a:f g with
   |none=>rw [a]at j;cases j
   | some v=>
     rw [a]at j;rw [hf v a];simp only [di,dD]at j⊢;have z:=AM (c':=c') F G os (i+1) (l.put o.dst v) _ l' h' b (fun o A=>C o (Xn _ A)) j;obtain⟨M,N,Q⟩:=z;refine⟨M,N.trans ?_,?_⟩
     . have O:o.dst≠some t:=(by grind[ul,Xj]);grind[Loc.ev,pC]
     grind[note_read]
theorem fork_swap{f:Nat}(j:rX E os f=some t){l l':Loc}{h2:Hp}{tr:List (Nat×Tch)}(he:bW E R os q os 0 l h []=some (l',h',tr))(hk:qh (some t) l' h'=some h2):f+2<os.length/\(∀o∈os,o.guard=none)/\ ∀o2:List Oper,o2.map (fun o=>(o.op,o.dst))=(jq os.length (f+1)).filterMap (fun i=>(os[i]?).map fun o=>(o.op,o.dst))->(∀o∈o2,o.guard=none)->
  ∃B,bW E R o2 q o2 0 l h []=some (l',B,tr)/\qh (some t) l' B=some h2:=by
 unfold rX at j
 split at j
 next m a b hm ha L=>
  split at j
  next C hd=>
   split at j
   next ta x tb y M N=>
    cases O:(isMk m.op&&(Xi ta tb&&(wW x y&&(wW y x&&((os.drop (f+3)).all (Aa E ta C)&&os.all fun o=>o.guard.isNone)))))with
    |false=>grind| true =>
      rw [O]at j;simp only [cond_true,Option.some.injEq]at j;subst j;simp only [Xb,XJ]at O;obtain⟨_,w,P,Q,A,ak⟩:=O;have w:=Xa w;subst w;have n: ∀o∈os,o.guard=none:=fun o J=>(by simp_all);have D:f+2<os.length:=(List.getElem?_eq_some_iff.1 L).1;refine⟨D,n,fun o2 S T=>?_⟩
      -- the parts
      have s:os=os.take (f+1)++a::b::os.drop (f+3):=(by grind[XL,Xu,Yk]);have F: ∀{o:Oper} {U:TypeId} {k:Value},insK C o=some (U,k)-> ∃z,o.op=.insert U (.tmp C) (.const k) z/\o.dst=none/\rH k=true:=by
       intro o U k h;unfold insK at h
       split at h
       next al V k' z W=>
        cases g:(Xi V C&&(o.dst.isNone&&rH k'))with
        |false=>rw [g]at h;cases h
        | true=>
          rw [g]at h;cases h;simp only [Xb]at g;have:=Xa g.1;subst this;exact⟨z,W,by simpa using g.2.1,g.2.2⟩
       next=>cases h
      obtain⟨z1,p1,p2,p3⟩:=F M;obtain⟨z2,r1,r2,r3⟩:=F N;have G: ∀{u v:Value},wW u v=true->cD u v=some false:=by
       intro u v h;unfold wW at h
       split at h
       next bb ax=>grind
       next=>cases h
      have X:=n a (Xc ha);have Y:=n b (Xc L)
      -- the run
      have e:=he;rw [show bW E R os q os 0 l h []=bW E R os q (os.take (f+1)++a::b::os.drop (f+3)) 0 l h [] by rw [<-s]]at e;rw [qV]at e;obtain⟨⟨l1,h1,ay⟩,s1,e⟩:=Option.bind_eq_some_iff.1 e;simp only []at e;rw [ym p1 p2 X p3]at e;obtain⟨aL,s2,e⟩:=Option.bind_eq_some_iff.1 e;rw [ym r1 r2 Y r3]at e;obtain⟨a0,s3,e⟩:=Option.bind_eq_some_iff.1 e;obtain⟨h3,h4,r,es,c,es',c',w1,w2,w3,w4,w5,w6⟩:=put_swap p3 r3 (G P) (G Q) s2 s3;obtain⟨k1,k2,k3⟩:=AM (t:=C) (es':=es') (c':=c') w4 w6 _ _ _ _ _ _ _ (fun o J=>⟨A o J,n o (List.mem_of_mem_drop J)⟩) e;refine⟨h4,?_,?_⟩
      . -- the other list
        have Z:o2.map (fun o=>(o.op,o.dst))=(os.take (f+1)++b::a::os.drop (f+3)).map (fun o=>(o.op,o.dst)):=by
         rw [S];have H: ∀p:Nat,((jq os.length (f+1)).filterMap (fun i=>(os[i]?).map fun o=>(o.op,o.dst)))[p]? =((os.take (f+1)++b::a::os.drop (f+3)).map (fun o=>(o.op,o.dst)))[p]? :=by
          intro p;have I:(jq os.length (f+1)).filterMap (fun i=>(os[i]?).map fun o=>(o.op,o.dst))=(jq os.length (f+1)).map (fun i=>(os.map (fun o=>(o.op,o.dst))).getD i (m.op,m.dst)):=by
           have ad: ∀(l:List Nat),(∀i∈l,i<os.length)->l.filterMap (fun i=>(os[i]?).map fun o=>(o.op,o.dst))=l.map (fun i=>(os.map (fun o=>(o.op,o.dst))).getD i (m.op,m.dst)):=by
            intro l
            induction l with
            |nil=>intro _;rfl| cons x l ih=>
              intro hx;have af:=hx x Xt;rw [X9,<-ih (fun i hi=>hx i (Xn _ hi))];simp [af]
           exact ad _ fun i hi=>(CQ (by omega) i).1 hi
          rw [I,XG,yh,XG];by_cases hp:p<os.length
          . rw [if_pos hp];simp only [XE];rcases Xw p (f+1)with K|K|K
            . rw [swN_ne (by omega) (by omega),XM (by grind),List.getElem?_take,if_pos K];simp [hp]
            . subst K;rw [swN_k,Xy (by grind),Ye,XZ (by omega),Nat.sub_self];simp [L]
            . by_cases ai:p=f+2
              . subst ai;rw [swN_k1,Xy (by grind),Ye,XZ (by omega),show f+2-(f+1)=1 by omega];simp [ha]
              . rw [swN_ne (by omega) (by omega),Xy (by grind),Ye,XZ (by omega)];obtain⟨d,rfl⟩: ∃d,p=f+3+d:=⟨p-(f+3),by omega⟩;rw [show f+3+d-(f+1)=d+2 by omega,XQ,XQ,List.getElem?_drop];simp [hp]
          grind
         exact Xp H
        rw [vu (ops':=os) o2 _ _ _ _ _ Z T (fun o J=>by
         grind)]
        grind[qV,ym]
      grind[qh,kM,wG]
   next=>cases j
  next=>cases j
 next=>cases j
theorem tieL_sh(os:List Oper)(k:Nat):(oL os k).map (fun o=>(o.op,o.dst))=os.map (fun o=>(o.op,o.dst)):=by refine Xp fun i=>?_;grind[rF,yk]
theorem zI(h: ∀o∈os,o.guard=none): ∀o∈oL os k,o.guard=none:=by intro o b;obtain⟨i,a⟩:=List.getElem?_of_mem b;rw [rF]at a;obtain⟨c,d,rfl⟩:=Option.map_eq_some_iff.1 a;grind[yk,Xc]
theorem yq(os:List Oper)(ord:List Nat): ∀(l:List Nat),(dW os ord l).map (fun o=>(o.op,o.dst))=l.filterMap fun i=>(os[i]?).map fun o=>(o.op,o.dst)
 | []=>rfl| i::l=>by
   unfold dW;rw [List.filterMap_cons];cases os[i]? with
   |none=>exact yq os ord l|some o=>simp only [X9,XE,yq os ord l];rfl
theorem sZ{os:List Oper}{ord:List Nat}(h: ∀o∈os,o.guard=none): ∀(l:List Nat),∀o∈dW os ord l,o.guard=none
 | [],o,a=>by cases a
 | i ::l,o,a=>by
   unfold dW at a;cases b:os[i]? with
   |none=>rw [b]at a;exact sZ h l o a| some c=>
     rw [b]at a;rcases List.mem_cons.1 a with rfl|a
     . grind[Xc,ou]
     . exact sZ h l o a
theorem Bg{d:List (Nat×Tch)}: ∀{ps c:List (Nat×Nat)},c8 d (ps++c)=true->c8 d ps=true/\c8 d c=true
 | [],_,h=>⟨rfl,h⟩| (i,j)::ps,c,h=>by simp only [XK,c8,Xb]at h⊢;obtain⟨a,b⟩:=Bg h.2;exact⟨⟨h.1,a⟩,b⟩
section
variable{E:Env}{P:Program}(ok:EOk E P){R:Rec}(hc:iV E P R.call)(hcode:ku P R.code)
theorem kill_sim{l:Loc}{d:Hp}{e:List Frame}{f:Option (Value×Bool)}(s:SR P cx l h mu w F e tmps dfs f)(a:qh (some t) l h=some d):
 ∃g,SR P cx l d g w F e tmps dfs f/\Ext mu h w g d w:=by
 unfold qh at a;simp only []at a
 split at a
 next b i=>
  split at a
  next A c B=>
   cases a;have k: ∃m,aC mu (.map (some b)) m:=by
    unfold Loc.ev at i;simp only []at i;cases q:l.regs.get t with
    |none=>grind|some v=>rw [q]at i;simp only []at i;subst i;obtain⟨m,_,x⟩:=s.regs.get t _ q;grind
   obtain⟨m,k⟩:=k;cases k with
   | map u=>
     unfold dZ at u;cases n:mu b with
     |none=>grind|dead=>have:=s.hr.dead b n;grind| blk r j p=>
       obtain⟨x,o,C,d,D⟩:=s.hr.blk b r j p n;obtain⟨y,z⟩:=qr s.hr n (by grind) (⟨rfl,d,fun _ _=>rfl,rfl,rfl,rfl⟩:WSet w w r o);refine⟨_,s.step y (fun G _=>?_),z⟩;grind[upd_same,a9]
  next=>cases a
 next=>cases a
include ok hc hcode in
theorem forkD_sim(cx:Cx)(id:Nat)(ops:Array Oper)(l:Loc)(h:Hp)(l':Loc)(h':Hp)(x:Ex)(m:forkD E R ops.toList l h=some (x,l',h'))(mu:Mu)(w:World)(F:FC)(g:List Frame)(tmps:Array Value)(dfs:List Deferred)(c:Option (Value×Bool))(k:List Item)(s:SR P cx l h mu w F g tmps dfs c):Sim P cx h mu w F g tmps dfs c (.code (.region id ops true)::k) k x l' h':=by
 unfold forkD at m;cases A:w7 E (bV ops.toList)with
 |none=>grind|some qp=>
 obtain⟨q,ps⟩:=qp;rw [A]at m;simp only []at m;cases T:bW E R (bV ops.toList) q (bV ops.toList) 0 l h []with
 |none=>grind|some r3=>
 obtain⟨l1,Y,Z⟩:=r3;rw [T]at m;simp only []at m;cases G:c8 Z ps with
 |false=>grind|true=>
 rw [G]at m;simp only [cond_true]at m;obtain⟨a,v,U,hC,D⟩:=AE ops;rw [<-hC]at A T m;unfold w7 at A
 split at A
 next t ms q1 ad q2 af hT hB ai ak=>
  cases H:Xi q1 q2 with
  |false=>grind|true=>
  rw [H]at A;cases A;have I:=Xa H;subst I;rw [hT]at m;cases hk:qh (some t) l1 Y with
  |none=>grind|some h2=>
  rw [hk]at m;cases m;obtain⟨J,u,al⟩:=fork_swap hT T hk;obtain⟨ax,ay⟩:=Bg G;obtain⟨_,_,g3⟩:=wP _ _ _ hB;simp only [XY,XA]at g3;have z: ∀i,sF a.toList ms.reverse i:=fun i o ho=>g3 i o ho;generalize a5:oW a.toList=b at*
  have hn:a.toList.length=a.size:=by simp
  rw [hn]at J;have V:Region.schedule (P.follows .mixedOrders) ops (w.tape w.drawn (.order F.fn id))=Region.linearise.go .any ops ops.size (w.tape w.drawn (.order F.fn id)) (Xl ops.size false) []:=by rw [ok.mixed];rfl
  have K:(fun p=>ct (Xl ops.size false) (v p))=fun _=>false:=by
   funext i;simp only [ct,Xe,XN]
   split<;>rfl
  have W:=xU D z ops.size (w.tape w.drawn (.order F.fn id)) (Xl ops.size false) (by simp [D.size]) (by rw [K,<-D.size];exact qY _);rw [K]at W;generalize a2:Region.linearise.go .any ops ops.size (w.tape w.drawn (.order F.fn id)) (Xl ops.size false) []=j at*
  have L:(j.map U).map v=j:=by rw [Yo,show(v∘U)=fun i=>i from funext D.st];simp_all
  have M: ∀(X:Hp),qh (some t) l' X=some h'->(∃B N d,SR P cx l' X B N F g d dfs c/\Ext mu h w B X N/\
   Steps P (lone (F.mk' tmps dfs (.inRegion ops (j++[])::k)) (bg c g) {w with drawn:=w.drawn+1}) (lone (F.mk' d dfs (.inRegion ops []::k)) (bg c g) N))->
   Sim P cx h mu w F g tmps dfs c (.code (.region id ops true)::k) k .normal l' h':=by
   rintro X aL ⟨B,N,d,s',e',st⟩;obtain⟨a0,s2,e2⟩:=kill_sim s' aL;rw [XF]at st;refine⟨a0,N,d,dfs,c,s2,Ext.trans e' e2,Steps.trans (.one ?_) (Steps.trans st (.one qI))⟩;grind[tE]
  have O:b+1∈j.map U:=Ca (by omega) W rfl;rcases befL_or (y:=b+1+1) O with hb|hb
  . refine M Y hk ?_;have r:=uV ok hc hcode cx (oL a.toList (b+1)).toArray ops (D.same.tie (b+1)) _ (xW W (.inr hb)) [] l h l' Y q ad Z ai
     (by rw [<-T];exact vu _ _ _ _ _ _ (tieL_sh _ _) (zI u) u) ax mu w F g tmps dfs c k s
    simp_all
  . have Q:b+1+1<a.toList.length:=(by rw [hn];omega);have C:=FR a.toList.length (b+1);have n:=B2 a (jq a.toList.length (b+1)) (CQ Q) C (ord2_len _ _) (List.all_eq_true.2 fun o ho=>by unfold jx;rw [u o ho]);have pa:eX (b+1) (jq a.toList.length (b+1))=b+1+1:=yu C (by rw [yh,if_pos Q,swN_k1]);have pb:eX (b+1+1) (jq a.toList.length (b+1))=b+1:=yu C (by rw [yh,if_pos (by omega),swN_k]);obtain⟨h3,e3,k3⟩:=al (oL (dW a.toList (jq a.toList.length (b+1)) (jq a.toList.length (b+1))) (b+1)) (by rw [tieL_sh,yq]) (zI (sZ u _));refine M h3 k3 ?_;have g2:=BX n z W;generalize a3:(fun(p:Nat)=>((jq a.toList.length (b+1))[p]?).getD p)=σ2 at*
    generalize a4:(fun(i:Nat)=>if i<a.size then eX i (jq a.toList.length (b+1))else i)=τ2 at*
    have ta:τ2 (b+1)=b+1+1:=(by grind);have tb:τ2 (b+1+1)=b+1:=(by grind);have S:=BY (f:=τ2) (fun p e=>by rw [<-n.st p,e,n.st]) hb;rw [ta,tb]at S;have r:=uV ok hc hcode cx (oL (dW a.toList (jq a.toList.length (b+1)) (jq a.toList.length (b+1))) (b+1)).toArray ops ((D.same.comp n).tie (b+1)) _ (xW g2 (.inr S)) [] l h l' h3 q af Z ak e3 ay mu w F g tmps dfs c k s;have a1:((j.map U).map τ2).map (v∘σ2)=j:=(by rw [Yo,show((v∘σ2)∘τ2)=v from funext fun i=>by show v (σ2 (τ2 i))=v i;rw [n.st]];exact L);simp_all
 next=>cases A
include ok hc hcode in
theorem CS:xZ E P R:=by intro f id b l h g i x j m w F c a d e k s;grind[cutD,hf,rI,forkD_sim,id,ES]
end
def RLe(R b:Rec):Prop:=(∀f a d h o,R.call f a d h=some o->b.call f a d h=some o)/\(∀e c l h o,R.code e c l h=some o->b.code e c l h=some o)
def qR{b:Type}(F:Rec->Option b):Prop:= ∀R a,RLe R a-> ∀o,F R=some o->F a=some o
theorem qR.const{a:Type}(x:Option a):qR (fun _=>x):=fun _ _ _ _ h=>h
theorem qR.bind{c f:Type}{F:Rec->Option c}{G:c->Rec->Option f}(g:qR F)(i: ∀a,qR (G a)):qR (fun R=>(F R).bind fun a=>G a R):=by
 intro R d e o h;simp only []at h⊢;cases b:F R with
 |none=>rw [b]at h;cases h
 | some a=>rw [b]at h;rw [g R d e a b];exact i a R d e o h
theorem RLe.refl(R:Rec):RLe R R:=⟨fun _ _ _ _ _ h=>h,fun _ _ _ _ _ h=>h⟩
theorem RLe.trans{a b c:Rec}(h:RLe a b)(k:RLe b c):RLe a c:=⟨fun f x g d o e=>k.1 _ _ _ _ _ (h.1 _ _ _ _ _ e),fun i x l d o e=>k.2 _ _ _ _ _ (h.2 _ _ _ _ _ e)⟩
def MC(E:Env)(W:Rec){a:Type}(F:Rec->Option a):Prop:=qR F/\ ∀o,F W=some o-> ∃n,F (run E n)=some o
section
variable{E:Env}{W:Rec}
theorem MC.const{a:Type}(x:Option a):MC E W (fun _=>x):=⟨.const x,fun _ h=>⟨0,h⟩⟩
theorem MC.bind(e: ∀n m,n<=m->RLe (run E n) (run E m)){f g:Type}{F:Rec->Option f}{G:f->Rec->Option g}(b:MC E W F)(c: ∀a,MC E W (G a)):MC E W (fun R=>(F R).bind fun a=>G a R):=by
 refine⟨b.1.bind fun a=>(c a).1,fun o h=>?_⟩;simp only []at h;cases d:F W with
 |none=>rw [d]at h;cases h
 | some a=>
   rw [d]at h;obtain⟨n,i⟩:=b.2 a d;obtain⟨m,j⟩:=(c a).2 o h;refine⟨n+m,?_⟩;simp only [];rw [b.1 _ _ (e n (n+m) (by omega)) a i];exact(c a).1 _ _ (e m (n+m) (by omega)) o j
theorem MC.congr{a:Type}{F F':Rec->Option a}(e: ∀R,F' R=F R)(h:MC E W F):MC E W F':=by have:F'=F:=funext e;rw [this];exact h
end
section
variable(E:Env)
structure Closed(E:Env)(K: ∀{α:Type},(Rec->Option α)->Prop):Prop where
 const: ∀{α:Type} (x:Option α),K (fun _=>x)
 bind: ∀{α β:Type} {F:Rec->Option α} {G:α->Rec->Option β},K F->(∀a,K (G a))->K (fun R=>(F R).bind fun a=>G a R)
 congr: ∀{α:Type} {F F':Rec->Option α},(∀R,F' R=F R)->K F->K F'
 call: ∀f a rc h,K (fun R=>R.call f a rc h)
 code: ∀cx c l h,K (fun R=>R.code cx c l h)
end
section
variable{E:Env}{K: ∀{α:Type},(Rec->Option α)->Prop}(C:Closed E K)
include C
theorem k_round(b:Nat)(args:List Value)(h:Hp):K (fun R=>kT E R b args h):=by
 unfold kT;cases m:h.get b with
 |none=>exact C.const _| some x =>
   cases x<;>(try exact C.const _);rename_i r;simp only [];cases(E.fn r.fn).isSome with
   |false=>exact C.const _| true =>
     simp only [cond_true]
     split
     next l =>
      split
      next=>exact C.const _
      next c i=>
       refine C.congr (F:=fun R=>(R.code ⟨r.fn,r.nr,some b⟩ r.assign ⟨c,[],none⟩ h).bind fun q=>match q with
        | (.normal,g,d)=>match d.get b with
          | some (.loop e)=>match e.st with
            | 0 =>(R.code ⟨r.fn,r.nr,some b⟩ r.body g (d.put b (.loop {e with st:=1}))).bind fun q=>match q with
              | (.normal,_,a)=>match a.get b with
                |some (.loop f)=>some (.ret (.bool true),a.put b (.loop {f with st:=0,pending:=none}))
                |_=>none
              | (.exit id,_,a)=>match a.get b with
                |some (.loop f)=>some (.ret (.bool false),a.put b (.loop {f with st:=2,pending:=some (.exit id)}))
                |_=>none
              | (.ret,_,a)=>match a.get b with
                |some (.loop f)=>some (.ret (.bool false),a.put b (.loop {f with st:=2,pending:=some .ret}))
                |_=>none
              | (.pan v,j,a)=>match j.dfs with
                | []=>some (.pan v,a)|_=>none
            |_=>none
          |_=>none
        |_=>none) ?_ ?_
       . intro R;cases R.code ⟨r.fn,r.nr,some b⟩ r.assign ⟨c,[],none⟩ h with
         |none=>rfl| some q=>
           obtain⟨x,g,d⟩:=q;cases x<;>(try rfl);simp only [XU];cases d.get b with
           |none=>rfl| some y=>
             cases y<;>(try rfl);rename_i e;simp only [];cases k:e.st with
             | zero=>
               simp only [];cases R.code ⟨r.fn,r.nr,some b⟩ r.body g (d.put b (.loop {e with st:=1}))with
               |none=>rfl|some q=>obtain⟨x,j,a⟩:=q;cases x<;>rfl
             |succ n=>rfl
       . refine C.bind (C.code _ _ _ _) fun q=>?_;obtain⟨x,g,d⟩:=q;cases x<;>(try exact C.const _);simp only [];cases d.get b with
         |none=>exact C.const _| some y=>
           cases y<;>(try exact C.const _);simp only []
           split
           . refine C.bind (C.code _ _ _ _) fun q=>?_;exact C.const _
           . exact C.const _
     next=>exact C.const _
theorem Ai(x:Option (dU×Hp)):K (fun R=>dD E R x):=by
 cases x with
 |none=>exact C.const _| some q=>
   obtain⟨e,h⟩:=q;cases e<;>(try exact C.const _)
   . rename_i f d;refine C.congr (F:=fun R=>(R.call f d none h).bind fun q=>some (q.1,q.2.2)) (fun R=>?_) (C.bind (C.call _ _ _ _) fun _=>C.const _);simp only [dD];cases R.call f d none h with
     |none=>rfl|some q=>obtain⟨a,b,c⟩:=q;rfl
   . exact k_round C _ _ _
theorem k_stepOp(cx:Cx)(o:Oper)(l:Loc)(h:Hp):K (fun R=>fk E R cx o l h):=by
 unfold fk;have a:K (fun R=>qa o l (dD E R (aop E l.ev h o.op))):=by refine C.congr (F:=fun R=>(dD E R (aop E l.ev h o.op)).bind fun q=>qa o l (some q)) (fun R=>?_) (C.bind (Ai C _) fun _=>C.const _);cases dD E R (aop E l.ev h o.op)<;>rfl
 cases b:aop E l.ev h o.op with
 |none=>exact C.const _| some q=>
   rw [b]at a;obtain⟨c,d⟩:=q;cases c<;>(try exact a)
   . cases cx.round<;>exact C.const _
   . cases cx.round<;>exact C.const _
theorem xe(cx:Cx)(ops:List Oper): ∀(os:List Oper) (l:Loc) (h:Hp),K (fun R=>js E R cx ops os l h)
 | [],l,h=>C.const _| o :: os,l,h=>by
   simp only [js];cases cU ops l.regs o with
   |none=>exact C.const _| some b=>
     cases b with
     |false=>exact xe cx ops os _ _| true=>
       refine C.congr (F:=fun R=>(fk E R cx o l h).bind fun q=>match q with
        |(.normal,l',h')=>js E R cx ops os l' h'|q=>some q) (fun R=>?_) (C.bind (k_stepOp C _ _ _ _) fun q=>?_)
       . cases fk E R cx o l h with
         |none=>rfl|some q=>obtain⟨x,l',h'⟩:=q;cases x<;>rfl
       . obtain⟨x,l',h'⟩:=q;cases x<;>first|exact xe cx ops os _ _|exact C.const _
theorem k_stepD(ρ:Operand->Value)(a:Bool)(o:Oper)(h:Hp):K (fun R=>dp E R ρ a o h):=by
 unfold dp;cases a with
 | true=>
   refine C.congr (F:=fun R=>(dD E R (aop E ρ {h with lo:=h.n} o.op)).bind fun q=>match q with
    |(.ret v,b)=>bif Xg h.n b.lo then some (v,{b with lo:=h.lo})else none
    |_=>none) (fun R=>?_) (C.bind (Ai C _) fun _=>C.const _)
   simp only [cond_true];cases dD E R (aop E ρ {h with lo:=h.n} o.op)with
   |none=>rfl|some q=>obtain⟨x,b⟩:=q;cases x<;>rfl
 | false=>
   refine C.congr (F:=fun R=>(dD E R (aop E ρ h o.op)).bind fun q=>match q with
    |(.ret v,b)=>some (v,b)|_=>none) (fun R=>?_) (C.bind (Ai C _) fun _=>C.const _)
   simp only [cond_false];cases dD E R (aop E ρ h o.op)with
   |none=>rfl|some q=>obtain⟨x,b⟩:=q;cases x<;>rfl
theorem rx(ops:List Oper)(q:Nat): ∀(os:List Oper) (i:Nat) (l:Loc) (h:Hp) (c:List (Nat×Tch)),K (fun R=>bW E R ops q os i l h c)
 | [],i,l,h,c=>C.const _| o :: os,i,l,h,c=>by
   simp only [bW];cases cU ops l.regs o with
   |none=>exact C.const _| some b=>
     cases b with
     |false=>exact rx ops q os _ _ _ _| true=>
       refine C.congr (F:=fun R=>(dp E R (l.evD (tmpsOf o.op.operands.toList)) (fZ E q i o.op) o h).bind fun p=>
        bW E R ops q os (i+1) (l.put o.dst p.1) p.2 (gG i c (cH (l.evD (tmpsOf o.op.operands.toList)) (fZ E q i o.op) o.op h p.2))) (fun R=>?_) (C.bind (k_stepD C _ _ _ _) fun q=>rx ops _ os _ _ _ _)
       cases dp E R (l.evD (tmpsOf o.op.operands.toList)) (fZ E q i o.op) o h with
       |none=>rfl|some p=>obtain⟨a,b⟩:=p;rfl
theorem k_range(cx:Cx)(f:Value)(params:Array Tmp)(assign body:Code)(l:Loc)(h:Hp):K (fun R=>jI R cx f params assign body l h):=by
 unfold jI;cases f<;>(try exact C.const _);rename_i t a b;cases t<;>(try exact C.const _);rename_i g;simp only []
 split
 . exact C.const _
 . rename_i e d c _;refine C.congr (F:=fun R=>(R.call g (a.toList++[.func (.yield e.n) #[] #[]]++b.toList) none
    (e.new (.loop {fn:=cx.fn,regs:=l.regs,nr:=cx.nr,params,assign,body,st:=0,pending:=none,defers:=d}))).bind fun q=>match q with
    |(.pan v,_,i)=>some (.pan v,{l with dfs:=c},i)
    | (.ret _,_,i)=>match i.get e.n with
      | some (.loop x)=>match x.st with
        |1=>none| _=>match x.pending with
          |none=>some (.normal,{l with dfs:=c},i.put e.n .dead)
          |some (.exit id)=>some (.exit id,{l with dfs:=c},i.put e.n .dead)
          |some .ret=>some (.ret,{l with dfs:=c},i.put e.n .dead)
          |_=>none
      |_=>none) (fun R=>?_) (C.bind (C.call _ _ _ _) fun _=>C.const _)
   cases R.call g (a.toList++[.func (.yield e.n) #[] #[]]++b.toList) none
         (e.new (.loop {fn:=cx.fn,regs:=l.regs,nr:=cx.nr,params,assign,body,st:=0,pending:=none,defers:=d}))with
   |none=>rfl|some q=>obtain⟨x,y,z⟩:=q;cases x<;>rfl
theorem k_code(cx:Cx): ∀(c:Code) (l:Loc) (h:Hp),K (fun R=>aT E R cx c l h):=by
 intro c
 induction c with
 |skip=>intro l h;exact C.const _|label n=>intro l h;exact C.const _| region id d r=>
   intro l h;simp only [aT];cases r with
   |false=>exact xe C _ _ _ _ _| true=>
     simp only [cond_true];cases E.cut cx.fn with
     | false=>
       simp only [cond_false];cases kH E (bV d.toList)with
       |none=>exact C.const _| some p=>
         obtain⟨q,o⟩:=p;simp only [];refine C.congr (F:=fun R=>(bW E R (bV d.toList) q (bV d.toList) 0 l h []).bind fun x=>bif c8 x.2.2 o then some (.normal,x.1,x.2.1)else none) (fun R=>?_) (C.bind (rx C _ _ _ _ _ _ _) fun _=>C.const _);cases bW E R (bV d.toList) q (bV d.toList) 0 l h []with
         |none=>rfl|some x=>obtain⟨a,b,c⟩:=x;rfl
     | true =>
       simp only [cond_true,cutD];cases rI E d.toList with
       | true=>
         simp only [cond_true,forkD];cases w7 E (bV d.toList)with
         |none=>exact C.const _| some p=>
           obtain⟨q,o⟩:=p;simp only [];refine C.congr (F:=fun R=>(bW E R (bV d.toList) q (bV d.toList) 0 l h []).bind fun x=>bif c8 x.2.2 o then(match qh (rX E (bV d.toList) (oW (bV d.toList))) x.1 x.2.1 with
            |some y=>some (.normal,x.1,y)|none=>none)else none) (fun R=>?_) (C.bind (rx C _ _ _ _ _ _ _) fun _=>C.const _)
           cases bW E R (bV d.toList) q (bV d.toList) 0 l h []with
           |none=>rfl|some x=>obtain⟨a,b,c⟩:=x;rfl
       |false=>
       simp only [cond_false,v9];cases lG d.toList (d.toList.length-1)with
       |false=>exact C.const _| true=>
         simp only [cond_true];generalize bV (d.toList.take (cutN d.toList))=A;cases kH E A with
         |none=>exact C.const _| some p=>
           obtain⟨q,o⟩:=p;simp only [];refine C.congr (F:=fun R=>(bW E R A q A 0 l h []).bind fun x=>bif c8 x.2.2 o then js E R cx d.toList (d.toList.drop (cutN d.toList)) x.1 x.2.1 else none) (fun R=>?_) (C.bind (rx C _ _ _ _ _ _ _) fun x=>?_)
           . cases bW E R A q A 0 l h []with
             |none=>rfl|some x=>obtain⟨a,b,c⟩:=x;rfl
           . cases c8 x.2.2 o with
             |false=>exact C.const _|true=>exact xe C _ _ _ _ _
 | seq a b j k=>
   intro l h;simp only [aT];refine C.congr (F:=fun R=>(aT E R cx a l h).bind fun q=>match q with
    |(.normal,e,g)=>aT E R cx b e g|q=>some q) (fun R=>?_) (C.bind (j _ _) fun q=>?_)
   . cases aT E R cx a l h with
     |none=>rfl|some q=>obtain⟨x,e,g⟩:=q;cases x<;>rfl
   . obtain⟨x,e,g⟩:=q;cases x<;>first|exact k _ _|exact C.const _
 | cond c a b j k=>
   intro l h;simp only [aT];cases l.ev c<;>(try exact C.const _);rename_i t;cases t
   . exact k _ _
   . exact j _ _
 | block id b s=>
   intro l h;simp only [aT];refine C.congr (F:=fun R=>(aT E R cx b l h).bind fun q=>match q with
    |(.exit i,e,g)=>bif Xi i id then some (.normal,e,g)else some (.exit i,e,g)
    |q=>some q) (fun R=>?_) (C.bind (s _ _) fun _=>C.const _)
   cases aT E R cx b l h with
   |none=>rfl|some q=>obtain⟨x,e,g⟩:=q;cases x<;>rfl
 | loop b s=>
   intro l h;simp only [aT];refine C.congr (F:=fun R=>(aT E R cx b l h).bind fun q=>match q with
    |(.normal,e,g)=>R.code cx (.loop b) e g|q=>some q) (fun R=>?_) (C.bind (s _ _) fun q=>?_)
   . cases aT E R cx b l h with
     |none=>rfl|some q=>obtain⟨x,e,g⟩:=q;cases x<;>rfl
   . obtain⟨x,e,g⟩:=q;cases x<;>first|exact C.code _ _ _ _|exact C.const _
 |rangeFunc f u v w _ _=>intro l h;exact k_range C _ _ _ _ _ _ _|exit id=>intro l h;exact C.const _|scope b s=>intro l h;exact s _ _|goto n=>intro l h;exact C.const _|ret=>intro l h;exact C.const _|refuse m=>intro l h;exact C.const _
theorem rK : ∀(e:List Deferred) (m:Option Value) (h:Hp),K (fun R=>cI R e m h)
 | [],m,h=>C.const _| d :: e,m,h=>by
   simp only [cI];cases d.target with
   |nil=>exact C.const _|builtin a b c d=>exact C.const _|coroexit=>exact C.const _| collected b=>
     simp only [];cases h.get b with
     |none=>exact C.const _|some x=>cases x<;>first|exact rK e _ _|exact C.const _
   | fn t cap=>
     cases t<;>(try exact C.const _);rename_i f;simp only [];refine C.congr (F:=fun R=>(R.call f (d.args.toList++cap.toList) (match m with|none=>none|some v=>some (v,false)) h).bind fun q=>match q with
      | (.ret _,rc,h')=>match m,rc with
        |none,none=>cI R e none h'|some _,some (_,true)=>cI R e none h'|some _,some (v,false)=>cI R e (some v) h'|_,_=>none
      |_=>none) (fun R=>?_) (C.bind (C.call _ _ _ _) fun q=>?_)
     . cases R.call f (d.args.toList++cap.toList) (match m with|none=>none|some v=>some (v,false)) h with
       |none=>rfl|some q=>obtain⟨x,y,z⟩:=q;cases x<;>rfl
     . obtain⟨x,rc,h'⟩:=q;cases x with
       |pan v=>exact C.const _| ret v=>
         simp only [];cases m with
         |none=>cases rc<;>first|exact rK e _ _|exact C.const _
         | some g=>
           cases rc with
           |none=>exact C.const _|some y=>obtain⟨i,b⟩:=y;cases b<;>exact rK e _ _
theorem k_body(f:FuncId)(args:List Value)(rc:Option (Value×Bool))(h:Hp):K (fun R=>mO E R f args rc h):=by
 unfold mO;cases E.fn f with
 |none=>exact C.const _| some b =>
   simp only [];cases b.body with
   |none=>exact C.const _| some e=>
     simp only [];cases Xg args.length b.ntmps with
     |false=>exact C.const _| true =>
       simp only [cond_true];have g: ∀(l:Loc) (c:Hp),K (fun R=>match cI R l.dfs none c with
        | some (none,a)=>match bS E l.regs a b.results.toList with
          |none=>none|some d=>some (Out.ret (aa d),l.rc,a)
        |_=>none):=by
        intro l c;refine C.congr (F:=fun R=>(cI R l.dfs none c).bind fun q=>match q with
         | (none,a)=>match bS E l.regs a b.results.toList with
           |none=>none|some d=>some (Out.ret (aa d),l.rc,a)
         |_=>none) (fun R=>?_) (C.bind (rK C _ _ _) fun _=>C.const _)
        cases cI R l.dfs none c with
        |none=>rfl|some q=>obtain⟨x,y⟩:=q;cases x<;>rfl
       refine C.congr (F:=fun R=>(R.code ⟨f,b.ntmps,none⟩ e ⟨(Tr.blank (.tuple #[]) b.ntmps b.ntmps).setAll 0 args,[],rc⟩ h).bind fun q=>match q with
        |(.exit _,_,_)=>none| (.pan v,l,c)=>match cI R l.dfs (some v) c with
          |none=>none|some (some v,a)=>some (Out.pan v,l.rc,a)| some (none,a)=>match bS E l.regs a b.results.toList with
            |none=>none|some d=>some (Out.ret (aa d),l.rc,a)
        | (_,l,c)=>match cI R l.dfs none c with
          | some (none,a)=>match bS E l.regs a b.results.toList with
            |none=>none|some d=>some (Out.ret (aa d),l.rc,a)
          |_=>none) (fun R=>?_) (C.bind (C.code _ _ _ _) fun q=>?_)
       . cases R.code ⟨f,b.ntmps,none⟩ e ⟨(Tr.blank (.tuple #[]) b.ntmps b.ntmps).setAll 0 args,[],rc⟩ h with
         |none=>rfl|some q=>obtain⟨x,y,z⟩:=q;cases x<;>rfl
       . obtain⟨x,l,c⟩:=q;cases x with
         |exit id=>exact C.const _|normal=>exact g l c|ret=>exact g l c| pan v=>
           simp only [];refine C.congr (F:=fun R=>(cI R l.dfs (some v) c).bind fun q=>match q with
            |(some v,a)=>some (Out.pan v,l.rc,a)| (none,a)=>match bS E l.regs a b.results.toList with
              |none=>none|some d=>some (Out.ret (aa d),l.rc,a)) (fun R=>?_) (C.bind (rK C _ _ _) fun _=>C.const _)
           cases cI R l.dfs (some v) c with
           |none=>rfl|some q=>obtain⟨x,y⟩:=q;cases x<;>rfl
theorem k_call(f:FuncId)(args:List Value)(rc:Option (Value×Bool))(h:Hp):K (fun R=>jO E R f args rc h):=by
 unfold jO;cases E.orc f args with
 |none=>exact k_body C f args rc h|some v=>cases rc<;>exact C.const _
end
theorem lK(E:Env):Closed E (fun F=>qR F)where
 const:=qR.const
 bind:=fun hF hG=>hF.bind hG
 congr:=fun e h=>by have:=funext e;rw [this];exact h
 call:=fun f a rc h R R' le o=>le.1 f a rc h o
 code:=fun cx c l h R R' le o=>le.2 cx c l h o
theorem next_mono{b:Rec}(h:RLe R b):RLe (next E R) (next E b):=
 ⟨fun f a g d o e=>k_call (lK E) f a g d R b h o e,fun i c l d o e=>k_code (lK E) i c l d R b h o e⟩
theorem Dd{E:Env}: ∀n,RLe (run E n) (run E (n+1))
 | 0=>by
   constructor
   . intro f a b h o e;cases e
   . intro d c l h o e;cases e
 |n+1=>next_mono (Dd n)
theorem run_up(n m:Nat)(h:n<=m):RLe (run E n) (run E m):=by
 induction m with
 | zero => have:n=0:=by omega
           subst this;exact RLe.refl _
 | succ m a=>
   by_cases e:n=m+1
   . subst e;exact RLe.refl _
   . exact(a (by omega)).trans (Dd m)
open Classical in
noncomputable def limOf{a:Type}(F:Nat->Option a):Option a:=if h: ∃n o,F n=some o then some (Classical.choose (Classical.choose_spec h))else none
theorem yV{d:Type}{F:Nat->Option d}(e: ∀n m,n<=m-> ∀o,F n=some o->F m=some o){o:d}:limOf F=some o↔ ∃n,F n=some o:=by
 constructor
 . intro h;unfold limOf at h
   split at h
   . rename_i c;cases h;exact⟨_,Classical.choose_spec (Classical.choose_spec c)⟩
   . cases h
 . intro⟨n,h⟩;unfold limOf;have c: ∃n o,F n=some o:=⟨n,o,h⟩;rw [dif_pos c];have f:=Classical.choose_spec (Classical.choose_spec c);have a:=e _ (n+Classical.choose c) (by omega) _ h;have b:=e _ (n+Classical.choose c) (by omega) _ f;rw [a]at b;cases b;rfl
noncomputable def lim(E:Env):Rec where
 call:=fun f a rc h=>limOf fun n=>(run E n).call f a rc h
 code:=fun cx c l h=>limOf fun n=>(run E n).code cx c l h
theorem rO{a:List Value}{o:Out×Option (Value×Bool)×Hp}:(lim E).call f a rc h=some o↔ ∃n,(run E n).call f a rc h=some o:=
 yV fun n m b o e=>(run_up n m b).1 _ _ _ _ _ e
theorem uh{c:Code}{l:Loc}{o:Ex×Loc×Hp}:(lim E).code cx c l h=some o↔ ∃n,(run E n).code cx c l h=some o:=
 yV fun n m a o e=>(run_up n m a).2 _ _ _ _ _ e
theorem run_lim(n:Nat):RLe (run E n) (lim E):=⟨fun _ _ _ _ _ h=>rO.2 ⟨n,h⟩,fun _ _ _ _ _ h=>uh.2 ⟨n,h⟩⟩
theorem yP(E:Env):Closed E (fun F=>MC E (lim E) F)where
 const:=MC.const
 bind:=fun hF hG=>MC.bind run_up hF hG
 congr:=fun e h=>MC.congr e h
 call:=fun f a rc h=>⟨(lK E).call f a rc h,fun _ e=>rO.1 e⟩
 code:=fun cx c l h=>⟨(lK E).code cx c l h,fun _ e=>uh.1 e⟩
theorem zD{c:Type}{x y:Option c}(h: ∀o,x=some o↔y=some o):x=y:=by
 cases x with
 | none=>cases y with
   |none=>rfl|some b=>exact absurd ((h b).2 rfl) (by simp)
 |some a=>exact((h a).1 rfl).symm
theorem call_eq(E:Env)(f:FuncId)(a:List Value)(rc:Option (Value×Bool))(h:Hp):(lim E).call f a rc h=jO E (lim E) f a rc h:=by
 refine zD fun o=>⟨fun e=>?_,fun e=>?_⟩
 . obtain⟨n,b⟩:=rO.1 e;cases n with
   |zero=>cases b
   |succ n=>exact k_call (lK E) f a rc h _ _ (run_lim n) o b
 . obtain⟨n,b⟩:=(k_call (yP E) f a rc h).2 o e;exact rO.2 ⟨n+1,b⟩
theorem Am(E:Env)(cx:Cx)(c:Code)(l:Loc)(h:Hp):(lim E).code cx c l h=aT E (lim E) cx c l h:=by
 refine zD fun o=>⟨fun e=>?_,fun e=>?_⟩
 . obtain⟨n,a⟩:=uh.1 e;cases n with
   |zero=>cases a
   |succ n=>exact k_code (lK E) cx c l h _ _ (run_lim n) o a
 . obtain⟨n,a⟩:=(k_code (yP E) cx c l h).2 o e;exact uh.2 ⟨n+1,a⟩
theorem lim_ok(a:EOk E P):iV E P (lim E).call:=by intro g b j h o e k f;obtain⟨n,i⟩:=rO.1 f;exact(run_ok a (fun _ c d=>⟨draw_ok a c d,CS a c d⟩) n).1 _ _ _ _ _ _ _ i
theorem Ed(p:iV E P R.call)(i:args.all dA=true)(l:dA v=true)(q:R.call f args none hp0=some (.ret v,none,h')):(∃m,E.fn f=some m/\m.body.isSome=true)/\OrcAt P f args v:=by
 obtain⟨r,s⟩:=p _ _ _ _ _ _ _ q;refine⟨r,i,l,fun w j d t=>?_⟩;obtain⟨u,y,e,z,I,g,A,J,B,C,D⟩:=s mu0 w ⟨args⟩ none j d (hrel0 w) glob0 (LR.refl fun a k=>aC.const mu0 (by simp only [XJ]at i;exact i a k)) trivial t;cases e with
 |some x=>exact A.elim| none=>
   obtain⟨K,n,F⟩:=C;rw [aC.const_eq l F]at n;exact⟨y,z,⟨fun c G=>g.frame c G (by intro b o H h;unfold mu0 at h;split at h<;>cases h),g.wsize,g.os,g.tape,g.output⟩,B,n,D⟩
theorem EQ(a:EOk E P)(e:args.all dA=true)(g:dA v=true)(h:(run E n).call f args none hp0=some (.ret v,none,h')):(∃b,E.fn f=some b/\b.body.isSome=true)/\OrcAt P f args v:=
 Ed (R:=run E n) (run_ok a (fun _ c d=>⟨draw_ok a c d,CS a c d⟩) n).1 e g h
def tabF:Nat->Nat->(Nat->Value)->Tr Value
 |0,_,_=>.nil| f+1,n,a=>match n with
   |0=>.nil|k+1=>.node (a 0) (tabF f ((k+1)/2) fun i=>a (2*i+1)) (tabF f (k/2) fun i=>a (2*i+2))
def tab(n:Nat)(ρ:Nat->Value):Tr Value:=tabF n n ρ
theorem get_tabF(f n:Nat)(ρ:Nat->Value)(h:n<=f)(j:Nat):(tabF f n ρ).get j=if j<n then some (ρ j)else none:=by
 induction f generalizing n j ρ with
 |zero=>grind[tabF,Tr.get_nil]| succ f a=>
   cases n with
   |zero=>rfl| succ k=>simp only [tabF];rw [Tr.get_node];grind
theorem oI(n:Nat)(ρ:Nat->Value)(j:Nat):(tab n ρ).get j=if j<n then some (ρ j)else none:=get_tabF n n ρ (Xf _) j
theorem Tr.ext{d:Type}{t t':Tr d}(h: ∀i,t.get i=t'.get i):t=t':=by
 induction t generalizing t' with
 | nil=>
   cases t' with
   |nil=>rfl|node y l r=>have:=h 0;simp [Tr.get_nil,Tr.get_node]at this
 | node x l r a b=>
   cases t' with
   |nil=>have:=h 0;simp [Tr.get_nil,Tr.get_node]at this| node y e f=>
     have c:=h 0;simp [Tr.get_node]at c;subst c;rw [a (t':=e) (fun i=>by have:=h (2*i+1);simp_all[Tr.get_node,if_pos]),
      b (t':=f) (fun i=>by have:=h (2*i+2);simp only [Tr.get_node]at this;grind)]
def aB(ρ:Nat->Value)(t:Nat)(v:Value):Nat->Value:=fun i=>if i=t then v else ρ i
theorem aD(ρ:Nat->Value)(t:Nat)(v:Value)(i:Nat):aB ρ t v i=if i=t then v else ρ i:=rfl
theorem tab_set(n:Nat)(ρ:Nat->Value)(t:Nat)(v:Value):(tab n ρ).set t v=tab n (aB ρ t v):=by
 apply Tr.ext;intro i;rw [Tr.get_set,oI,oI];by_cases a:i<n
 . by_cases e:t=i
   . subst e;simp [a,aB]
   . simp [a,e,aB,Ne.symm e]
 . simp [a]
def cL:List Value->Nat->Value
 | [],_=>.tuple #[]| v::l,i=>match i with
   |0=>v|i+1=>cL l i
theorem argR_eq(l:List Value)(i:Nat):cL l i=(l[i]?).getD (.tuple #[]):=by
 induction l generalizing i with
 |nil=>rfl| cons v l a=>cases i with
   |zero=>rfl|succ i=>simp [cL,a]
theorem args_tab(h:args.length<=n):(Tr.blank (.tuple #[]) n n:Tr Value).setAll 0 args=tab n (cL args):=by apply Tr.ext;intro i;rw [Tr.get_setAll _ 0 args n (Tr.sized_blank _ _ _ (Xf _)) (by omega),oI,Tr.get_blank _ _ _ (Xf _),argR_eq];grind
def LL(n:Nat)(ρ:Nat->Value)(d:List Deferred)(rc:Option (Value×Bool)):Loc:=⟨tab n ρ,d,rc⟩
theorem bN(n:Nat)(ρ:Nat->Value)(d:List Deferred)(rc:Option (Value×Bool))(t:Nat)(v:Value):(LL n ρ d rc).put (some t) v=LL n (aB ρ t v) d rc:=by simp only [LL,Loc.put,tab_set]
theorem ll_put0(l:Loc)(v:Value):l.put none v=l:=rfl
theorem bw(n:Nat)(ρ:Nat->Value)(d:List Deferred)(rc:Option (Value×Bool))(t:Nat)(h:t<n):(LL n ρ d rc).ev (.tmp t)=ρ t:=by simp only [LL,Loc.ev,oI,if_pos h]
theorem ll_func(l:Loc)(f:Nat):l.ev (.func f)=.func (.func f) #[] #[]:=rfl
theorem ll_regs(n:Nat)(ρ:Nat->Value)(d:List Deferred)(rc:Option (Value×Bool)):(LL n ρ d rc).regs=tab n ρ:=rfl
def Then(x:Option (Ex×Loc×Hp))(K:Ex->Loc->Hp->Prop):Prop:= ∃e l h,x=some (e,l,h)/\K e l h
theorem ja{e:Ex}{l:Loc}{K:Ex->Loc->Hp->Prop}:Then (some (e,l,h)) K↔K e l h:=by
 constructor
 . intro⟨_,_,_,h1,a⟩;grind
 . intro a;exact⟨_,_,_,rfl,a⟩
abbrev gH:=Ex->Loc->Hp->Prop
inductive Fr where
 |code (c:Code)
 |blk (id:Nat)
 |ops (all os:List Oper)
 |opsD (all:List Oper) (q:Nat) (ps:List (Nat×Nat)) (os:List Oper) (i:Nat) (tr:List (Nat×Tch))
 |kill (t:Tmp)
section
variable(E:Env)(R:Rec)(cx:Cx)(Q:gH)
def Run:List Fr->Ex->Loc->Hp->Prop
 | [],e,l,h=>Q e l h| .code c::k,.normal,l,h=> ∃g d f,aT E R cx c l h=some (g,d,f)/\Run k g d f| .ops a m::k,.normal,l,h=> ∃g d f,js E R cx a m l h=some (g,d,f)/\Run k g d f| .opsD a q n m i o::k,.normal,l,h=> ∃d f j,bW E R a q m i l h o=some (d,f,j)/\c8 j n=true/\Run k .normal d f| .kill t::k,.normal,l,h=> ∃b p c,l.ev (.tmp t)=.map (some b)/\h.get b=some (.map p c)/\Run k .normal l (h.put b .dead)| .blk _::k,.normal,l,h=>Run k .normal l h| .blk id::k,.exit i,l,h=>if i=id then Run k .normal l h else Run k (.exit i) l h
 |_::k,.exit i,l,h=>Run k (.exit i) l h|_::k,.ret,l,h=>Run k .ret l h|_::k,.pan v,l,h=>Run k (.pan v) l h
end
section
variable{E:Env}{R:Rec}{cx:Cx}{Q:gH}{k:List Fr}{l:Loc}{h:Hp}
theorem run_nil{e:Ex}:Run E R cx Q [] e l h↔Q e l h:=Xk
theorem run_skip:Run E R cx Q (.code .skip::k) .normal l h↔Run E R cx Q k .normal l h:=by simp only [Run,aT];exact ja
theorem run_label:Run E R cx Q (.code (.label n)::k) .normal l h↔Run E R cx Q k .normal l h:=by simp only [Run,aT];exact ja
theorem run_seq{a b:Code}:Run E R cx Q (.code (.seq a b)::k) .normal l h↔Run E R cx Q (.code a:: .code b::k) .normal l h:=by
 simp only [Run,aT];constructor
 . intro⟨e',l',h',c,h2⟩;cases e:aT E R cx a l h with
   |none=>grind| some q=>
     obtain⟨x,f,d⟩:=q;rw [e]at c;refine⟨x,f,d,rfl,?_⟩;cases x with
     |normal=>exact⟨e',l',h',c,h2⟩|exit i=>cases c;exact h2
     |ret=>cases c;exact h2
     |pan v=>cases c;exact h2
 . intro⟨x,f,d,e,h2⟩;rw [e];cases x with
   |normal=>exact h2|exit i=>exact⟨_,_,_,rfl,h2⟩|ret=>exact⟨_,_,_,rfl,h2⟩|pan v=>exact⟨_,_,_,rfl,h2⟩
theorem run_block{id:Nat}{b:Code}:Run E R cx Q (.code (.block id b)::k) .normal l h↔Run E R cx Q (.code b:: .blk id::k) .normal l h:=by
 simp only [Run,aT];constructor
 . intro ⟨e',l',h',a,h2⟩;cases e:aT E R cx b l h with
   |none=>grind| some q=>
     obtain⟨x,f,c⟩:=q;rw [e]at a;refine⟨x,f,c,rfl,?_⟩;cases x with
     |normal=>cases a;exact h2
     | exit i=>
       simp only []at a;cases d:Xi i id with
       |true=>simp_all[Xa,Run,if_true]| false=>
         rw [d]at a;cases a;simp only [Run];rw [if_neg (by grind[Xj])];exact h2
     |ret=>cases a;exact h2
     |pan v=>cases a;exact h2
 . intro⟨x,f,c,e,h2⟩;rw [e];cases x with
   |normal=>exact⟨_,_,_,rfl,h2⟩| exit i=>
     simp only [Run]at h2;simp only [];by_cases d:i=id
     . subst d;rw [if_pos rfl]at h2;rw [Xj];grind
     . rw [if_neg d]at h2;have:Xi i id=false:=(by grind[Xi,id,absurd,Xa]);grind
   |ret=>exact⟨_,_,_,rfl,h2⟩|pan v=>exact⟨_,_,_,rfl,h2⟩
theorem run_scope{b:Code}:Run E R cx Q (.code (.scope b)::k) .normal l h↔Run E R cx Q (.code b::k) .normal l h:=Xk
theorem run_blk{id:Nat}:Run E R cx Q (.blk id::k) .normal l h↔Run E R cx Q k .normal l h:=Xk
theorem run_exit{id:Nat}:Run E R cx Q (.code (.exit id)::k) .normal l h↔Run E R cx Q k (.exit id) l h:=by simp only [Run,aT];exact ja
theorem run_ret:Run E R cx Q (.code .ret::k) .normal l h↔Run E R cx Q k .ret l h:=by simp only [Run,aT];exact ja
theorem B7{id:Nat}:Run E R cx Q (.blk id::k) (.exit i) l h↔if i=id then Run E R cx Q k .normal l h else Run E R cx Q k (.exit i) l h:=Xk
theorem By{c:Code}:Run E R cx Q (.code c::k) (.exit i) l h↔Run E R cx Q k (.exit i) l h:=Xk
theorem CI:Run E R cx Q (.ops a os::k) (.exit i) l h↔Run E R cx Q k (.exit i) l h:=Xk
theorem EL{f:Fr}:Run E R cx Q (f::k) .ret l h↔Run E R cx Q k .ret l h:=by cases f<;>exact Xk
theorem FB{f:Fr}:Run E R cx Q (f::k) (.pan v) l h↔Run E R cx Q k (.pan v) l h:=by cases f<;>exact Xk
theorem run_cond{c:Operand}{a b:Code}:Run E R cx Q (.code (.cond c a b)::k) .normal l h↔ ∃t,l.ev c=.bool t/\if t=true then Run E R cx Q (.code a::k) .normal l h else Run E R cx Q (.code b::k) .normal l h:=by simp only [Run,aT];grind
theorem Fo{id:Nat}:Run E R cx Q (.code (.region id ops false)::k) .normal l h↔Run E R cx Q (.ops ops.toList ops.toList::k) .normal l h:=by rfl
theorem Eg:Run E R cx Q (.ops a []::k) .normal l h↔Run E R cx Q k .normal l h:=by simp only [Run,js];exact ja
theorem CG:Run E R cx Q (.ops a (o::os)::k) .normal l h↔ ∃b,cU a l.regs o=some b/\
 (if b=true then Then (fk E R cx o l h) fun e l' h'=>Run E R cx Q (.ops a os::k) e l' h' else Run E R cx Q (.ops a os::k) .normal (l.put o.dst (.tuple #[])) h):=by
 simp only [Run,js];constructor
 . intro ⟨e',l',h',d,c⟩;cases g:cU a l.regs o with
   |none=>grind| some b=>
     rw [g]at d;refine⟨b,rfl,?_⟩;cases b with
     |false=>grind| true=>
       rw [if_pos rfl];simp only []at d;cases j:fk E R cx o l h with
       |none=>grind| some q=>
         obtain⟨x,m,f⟩:=q;rw [j]at d;refine⟨x,m,f,rfl,?_⟩;cases x with
         |normal=>exact⟨e',l',h',d,c⟩|exit i=>cases d;exact c
         |ret=>cases d;exact c
         |pan v=>cases d;exact c
 . intro⟨b,g,c⟩;rw [g];cases b with
   |false=>grind| true=>
     rw [if_pos rfl]at c;obtain⟨x,m,f,j,c⟩:=c;simp only [j];cases x with
     |normal=>exact c|exit i=>exact⟨_,_,_,rfl,c⟩|ret=>exact⟨_,_,_,rfl,c⟩|pan v=>exact⟨_,_,_,rfl,c⟩
theorem run_draw{id:Nat}(a:E.cut cx.fn=false)(b:bV ops.toList=os)(c:kH E os=some (q,ps)):Run E R cx Q (.code (.region id ops true)::k) .normal l h↔Run E R cx Q (.opsD os q ps os 0 []::k) .normal l h:=by simp only [Run,aT,cond_true,a,cond_false,b,c];grind
theorem run_fork{id:Nat}(a:E.cut cx.fn=true)(d:bV ops.toList=os)(e:rX E os (oW os)=some t)(f:w7 E os=some (q,ps))(g:Run E R cx Q (.opsD os q ps os 0 []:: .kill t::k) .normal l h):Run E R cx Q (.code (.region id ops true)::k) .normal l h:=by
 obtain⟨p,r,i,j,m,b,s,c,n,o,u⟩:=g;have hf:rI E ops.toList=true:=by unfold rI;rw [d,e];rfl
 simp only [Run,aT,cond_true,a,cutD,hf,forkD,d,f,j,m,e,qh,n,o];grind
theorem run_kill{b:Nat}{a:List (Value×Value×Nat)}(d:l.ev (.tmp t)=.map (some b))(e:h.get b=some (.map a c))(f:Run E R cx Q k .normal l (h.put b .dead)):Run E R cx Q (.kill t::k) .normal l h:=⟨b,a,c,d,e,f⟩
theorem run_split{id:Nat}(a:E.cut cx.fn=true)(b:lG ops.toList (ops.toList.length-1)=true)(hf:rI E ops.toList=false)(c:cutN ops.toList=n)(d:bV (ops.toList.take n)=os)(e:kH E os=some (q,ps))(f:Run E R cx Q (.opsD os q ps os 0 []:: .ops ops.toList (ops.toList.drop n)::k) .normal l h):Run E R cx Q (.code (.region id ops true)::k) .normal l h:=by
 obtain⟨o,p,g,i,j,r,s,t,m,u⟩:=f;simp only [Run,aT,cond_true,a,cutD,hf,cond_false,v9,b,c,d,e,i,j];grind
theorem C9{b:List (Nat×Tch)}:Run E R cx Q (.opsD a q ps [] i b::k) .normal l h↔c8 b ps=true/\Run E R cx Q k .normal l h:=by simp only [Run,bW];grind
theorem BH{c:List (Nat×Tch)}:Run E R cx Q (.opsD a q ps (o::os) i c::k) .normal l h↔ ∃b,cU a l.regs o=some b/\
 (if b=true then∃v h',dp E R (l.evD (tmpsOf o.op.operands.toList)) (fZ E q i o.op) o h=some (v,h')/\
     Run E R cx Q (.opsD a q ps os (i+1) (gG i c (cH (l.evD (tmpsOf o.op.operands.toList)) (fZ E q i o.op) o.op h h'))::k) .normal (l.put o.dst v) h'
   else Run E R cx Q (.opsD a q ps os (i+1) c::k) .normal (l.put o.dst (.tuple #[])) h):=by
 simp only [Run,bW];grind
end
noncomputable def envOf(a:Tr Func)(b:Tr TypeInfo)(c:List Nat):Env:={fn:=fun f=>a.get f,ty:=fun t=>b.get t,eqok:=fun t=>pD t c}
theorem Dr{b:Func}(hf:P.funcs[f]? =some b)(e:b.body.isSome=true)(c:(b.name== "runtime.NumGoroutine")=false)(args:Array Value)(w:World):(callFunc f args).run P w=.ok (.enter f args) w:=by
 have a:b.body.isNone=false:=by cases h:b.body<;>simp_all
 unfold callFunc;have d:program.run P w=.ok P w:=rfl;simp only [Sem.run_bind,d,Result.andThen_ok,hf,c,a,Bool.false_eq_true,if_false,Sem.run_pure]
theorem eok_of{fns:Tr Func}{tys:Tr TypeInfo}{eqs:List Nat}(h1:fns=Tr.ofList P.funcs.toList)(h2:tys=Tr.ofList P.types.toList)(h3:(P.funcs.toList.all fun fn=>fn.body.isNone|| !(fn.name== "runtime.NumGoroutine"))=true)(h4:(eqs.all fun t=>!P.stoodInHeld t&& !P.eqGuardType P.depth t)=true)(h5:P.follows .mixedOrders=true):EOk (envOf fns tys eqs) P where
 fn:=by intro f fn h;have h':fns.get f=some fn:=h;rw [h1,Tr.get_ofList]at h';simpa using h'
 call:=by
  intro f fn args w h hb;have h':fns.get f=some fn:=h;rw [h1,Tr.get_ofList]at h';have hm:=Xc h';have:=(List.all_eq_true.1 h3) fn hm;refine Dr (by simpa using h') hb ?_ args w;cases hn:(fn.name== "runtime.NumGoroutine")with
  |false=>rfl|true=>rw [hn]at this;cases hx:fn.body<;>simp_all
 ty:=by
  intro t i h;have h':tys.get t=some i:=h;rw [h2,Tr.get_ofList]at h';show P.toTables.info? t=some i;have hk:P.types[t]? =some i:=by simpa using h'
  unfold Tables.info?;rw [if_pos (Array.getElem?_eq_some_iff.1 hk).1];exact hk
 eq:=by intro t h;have hm:t∈eqs:=(pF t eqs).1 h;have:=(List.all_eq_true.1 h4) t hm;simp only [Xb,Xo]at this;exact this
 mixed:=h5
 orc:=by intro g args v h;cases h
noncomputable def Ay(E:Env)(o:Nat->List Value->Option Value):Env:={E with orc:=o}
noncomputable def withCut(E:Env)(c:Nat->Bool):Env:={E with cut:=c}
theorem eok_cut(ok:EOk E P)(c:Nat->Bool):EOk (withCut E c) P where
 fn:=ok.fn
 call:=ok.call
 ty:=ok.ty
 eq:=ok.eq
 mixed:=ok.mixed
 orc:=ok.orc
theorem eok_with(ok:EOk E P){o:Nat->List Value->Option Value}(ho: ∀g args v,o g args=some v->(∃fn,E.fn g=some fn/\fn.body.isSome=true)/\OrcAt P g args v):EOk (Ay E o) P where
 fn:=ok.fn
 call:=ok.call
 ty:=ok.ty
 eq:=ok.eq
 mixed:=ok.mixed
 orc:=ho
section
open Go.ChangeShapes Go.WideShapes
variable{H:Type}{enc:TypeId×Value->H}{P:Program}
end
def eB(E:Env)(f:FuncId)(args:List Value)(rc:Option (Value×Bool))(h:Hp)(Q:Out->Option (Value×Bool)->Hp->Prop):Prop:= ∃o a b,(lim E).call f args rc h=some (o,a,b)/\Q o a b
def Ret(E:Env)(f:FuncId)(args:List Value)(h:Hp)(Q:Value->Hp->Prop):Prop:= ∃v a,(lim E).call f args none h=some (.ret v,none,a)/\Q v a
theorem Ret.mono{c:Value->Hp->Prop}(k: ∀v h',Q v h'->c v h')(r:Ret E f args h Q):Ret E f args h c:=by obtain⟨v,h',a,b⟩:=r;exact⟨v,h',a,k v h' b⟩
def nH(E:Env)(b:Nat)(args:List Value)(h:Hp)(Q:Out->Hp->Prop):Prop:= ∃o a,kT E (lim E) b args h=some (o,a)/\Q o a
section
variable(E:Env)(cx:Cx)(o:Oper)(l:Loc)(K:Ex->Loc->Hp->Prop)
def ib:Option (dU×Hp)->Prop
 |some (.val v,a)=>K .normal (l.put o.dst v) a|some (.skip,a)=>K .normal (l.put o.dst (.tuple #[])) a| some (.call f c,a)=>eB E f c none a fun x _ e=>match x with
   | .ret v=>K .normal (l.put o.dst v) e| .pan v=>K (.pan v) l e
 | some (.yield b c,a)=>nH E b c a fun x e=>match x with
   | .ret v=>K .normal (l.put o.dst v) e| .pan v=>K (.pan v) l e
 |some (.panic v,a)=>K (.pan v) l a| some (.recov,a)=>cx.round=none/\match l.rc with
   |some (v,false)=>K .normal (({l with rc:=some (v,true)}:Loc).put o.dst v) a
   |_=>K .normal (l.put o.dst .nilIface) a
 |some (.defer d,a)=>cx.round=none/\K .normal (({l with dfs:=d::l.dfs}:Loc).put o.dst (.tuple #[])) a
 |none=>False
end
section
variable{E:Env}{cx:Cx}{o:Oper}{l:Loc}{K:Ex->Loc->Hp->Prop}{h:Hp}
theorem then_step:Then (fk E (lim E) cx o l h) K↔ib E cx o l K (aop E l.ev h o.op):=by
 unfold fk;cases p:aop E l.ev h o.op with
 | none=>
   simp only [ib,dD,qa];exact⟨fun⟨_,_,_,i,_⟩=>(by cases i),fun h=>h.elim⟩
 | some q=>
   obtain⟨m,i⟩:=q;cases m with
   |val v=>exact ja|skip=>exact ja|panic v=>exact ja| call f g=>
     simp only [ib,dD,eB];constructor
     . intro⟨e,l',h',a,b⟩;cases j:(lim E).call f g none i with
       |none=>rw [j]at a;cases a
       | some q=>
         obtain⟨x,n,k⟩:=q;rw [j]at a;cases x<;>(cases a;grind)
     . intro⟨x,n,k,a,b⟩;rw [a];cases x<;>exact⟨_,_,_,rfl,b⟩
   | yield b g=>
     simp only [ib,dD,nH];constructor
     . intro⟨e,l',h',a,c⟩;cases j:kT E (lim E) b g i with
       |none=>rw [j]at a;cases a
       | some q=>
         obtain⟨x,k⟩:=q;rw [j]at a;cases x<;>(cases a;grind)
     . intro⟨x,k,a,c⟩;rw [a];cases x<;>exact⟨_,_,_,rfl,c⟩
   | recov=>
     simp only [ib];cases cx.round with
     |some r=>simp only [];exact⟨fun⟨_,_,_,i,_⟩=>(by cases i),fun h=>(by cases h.1)⟩
     | none=>simp only [true_and];grind[ja]
   | defer d=>
     simp only [ib];cases cx.round with
     |some r=>simp only [];exact⟨fun⟨_,_,_,i,_⟩=>(by cases i),fun h=>(by cases h.1)⟩
     |none=>simp only [true_and];exact ja
theorem BC:ib E cx o l K (some (.val v,h))↔K .normal (l.put o.dst v) h:=Xk
theorem Af:ib E cx o l K (some (.skip,h))↔K .normal (l.put o.dst (.tuple #[])) h:=Xk
theorem zT:ib E cx o l K (some (.panic v,h))↔K (.pan v) l h:=Xk
theorem step_ret(c:Ret E f args h Q)(d: ∀v h',Q v h'->K .normal (l.put o.dst v) h'):ib E cx o l K (some (.call f args,h)):=by obtain⟨v,h',a,b⟩:=c;exact⟨.ret v,none,h',a,d v h' b⟩
end
def oV(E:Env)(rs:List ResultVar)(Q:Out->Option (Value×Bool)->Hp->Prop):gH
 | .exit _,_,_=>False| .pan v,l,h=> ∃m a,cI (lim E) l.dfs (some v) h=some (m,a)/\match m with
   |some v=>Q (.pan v) l.rc a|none=> ∃b,bS E l.regs a rs=some b/\Q (.ret (aa b)) l.rc a
 | .normal,l,h=> ∃a,cI (lim E) l.dfs none h=some (none,a)/\ ∃b,bS E l.regs a rs=some b/\Q (.ret (aa b)) l.rc a| .ret,l,h=> ∃a,cI (lim E) l.dfs none h=some (none,a)/\ ∃b,bS E l.regs a rs=some b/\Q (.ret (aa b)) l.rc a
theorem enter{k:Func}{Q:Out->Option (Value×Bool)->Hp->Prop}(q:E.orc f args=none)(hf:E.fn f=some k)(r:k.body=some body)(s:k.ntmps=n)(o:k.results.toList=rs)(hle:args.length<=n)(t:Run E (lim E) ⟨f,n,none⟩ (oV E rs Q) [.code body] .normal (LL n (cL args) [] rc) h):eB E f args rc h Q:=by
 obtain⟨e,l,u,w,j⟩:=t;simp only [Run]at j;unfold eB;rw [call_eq];unfold jO;rw [q];simp only [];unfold mO;rw [hf];simp only [];rw [r];simp only [];rw [s,Xd hle];simp only [cond_true];rw [args_tab hle];have g:(lim E).code ⟨f,n,none⟩ body ⟨tab n (cL args),[],rc⟩ h=some (e,l,u):=by rw [Am];exact w
 rw [g,o];cases e with
 |exit i=>exact j.elim| pan v=>
   obtain⟨m,p,a,b⟩:=j;grind
 |normal=>obtain⟨p,a,x,c,d⟩:=j;grind
 |ret=>obtain⟨p,a,x,c,d⟩:=j;grind
def RetQ(Q:Value->Hp->Prop):Out->Option (Value×Bool)->Hp->Prop
 | .ret v,none,h=>Q v h|_,_,_=>False
theorem ret_of(hq:eB E f args none h (RetQ Q)):Ret E f args h Q:=by
 obtain⟨o,c,d,a,b⟩:=hq;cases o with
 |pan v=>exact b.elim| ret v=>cases c with
   |none=>exact⟨v,d,a,b⟩|some y=>exact b.elim
theorem enter_ret{a:Func}(c:E.orc f args=none)(hf:E.fn f=some a)(d:a.body=some body)(e:a.ntmps=n)(b:a.results.toList=rs)(hle:args.length<=n)(g:Run E (lim E) ⟨f,n,none⟩ (oV E rs (RetQ Q)) [.code body] .normal (LL n (cL args) [] none) h):Ret E f args h Q:=ret_of (enter c hf d e b hle g)
theorem ret_orc(a:E.orc f args=some v)(hq:Q v h):Ret E f args h Q:=by refine⟨v,h,?_,hq⟩;rw [call_eq];unfold jO;rw [a]
section
variable{E:Env}{rs:List ResultVar}{Q:Value->Hp->Prop}{n:Nat}{ρ:Nat->Value}{h:Hp}
theorem AG:oV E rs (RetQ Q) .ret (LL n ρ [] none) h↔ ∃vs,bS E (tab n ρ) h rs=some vs/\Q (aa vs) h:=by
 simp only [oV,LL,cI];constructor
 . intro⟨h',a,b⟩;cases a;exact b
 . intro b;exact⟨h,rfl,b⟩
theorem DC:oV E rs (RetQ Q) .normal (LL n ρ [] none) h↔ ∃vs,bS E (tab n ρ) h rs=some vs/\Q (aa vs) h:=AG
theorem cu{P:List Value->Prop}:(∃vs,bS E (tab n ρ) h []=some vs/\P vs)↔P []:=by simp only [bS];grind
theorem dP{P:List Value->Prop}(a:t<n):(∃vs,bS E (tab n ρ) h (.tmp t::rs)=some vs/\P vs)↔ ∃vs,bS E (tab n ρ) h rs=some vs/\P (ρ t::vs):=by simp only [bS,oI,if_pos a];grind
theorem bD{ty:TypeId}{P:List Value->Prop}(a:t<n)(b:gw E h ty (ρ t)=some v):(∃vs,bS E (tab n ρ) h (.cell t ty::rs)=some vs/\P vs)↔ ∃vs,bS E (tab n ρ) h rs=some vs/\P (v::vs):=by simp only [bS,oI,if_pos a,b];grind
end
structure Gr(h h':Hp):Prop where
 ok0:OZ h
 ok:OZ h'
 n:h.n<=h'.n
 get: ∀b,b<h.n->h'.get b=h.get b
 lo: ∀x,x<=h.n->x<=h.lo->x<=h'.lo
theorem Gr.refl(a:OZ h):Gr h h:=⟨a,a,Xf _,fun _ _=>rfl,fun _ _ h=>h⟩
theorem Gr.trans{a b c:Hp}(x:Gr a b)(y:Gr b c):Gr a c:=
 ⟨x.ok0,y.ok,Xm x.n y.n,fun i d=>(y.get i (Xh d x.n)).trans (x.get i d),fun i e f=>y.lo i (Xm e x.n) (x.lo i e f)⟩
theorem new_ok(a:OZ h)(x:Blk):(h.new x).t.Sized (h.new x).n:=Tr.sized_push x a
theorem put_ok(a:OZ h)(b:Nat)(x:Blk):(h.put b x).t.Sized (h.put b x).n:=Tr.sized_set b x a
theorem Gr.new{h:Hp}(a:OZ h)(x:Blk):Gr h (h.new x):=
 ⟨a,new_ok a x,Nat.le_succ _,fun b c=>by rw [h.get_new x a,if_neg (by omega)],fun _ _ h=>h⟩
theorem iG(a:OZ h){b:Nat}{x:Blk}(e:h.get b=some x):b<h.n:=(a b).1 (by show(h.get b).isSome=true;rw [e];rfl)
theorem Gr.at(g:Gr h h'){b:Nat}{x:Blk}(e:h.get b=some x):h'.get b=some x:=by rw [g.get b (iG g.ok0 e)];exact e
theorem aV(a:OZ h){b o:Nat}(e:h.load b o n=some l):b<h.n:=by
 unfold Hp.load at e
 split at e
 next c=>exact iG a c
 next=>cases e
theorem Gr.load{h h':Hp}(g:Gr h h'){b o n:Nat}{l:List Value}(e:h.load b o n=some l):h'.load b o n=some l:=by have:=g.get b (aV g.ok0 e);grind[Hp.load]
theorem Gr.hlo(g:Gr {h with lo:=h.n} h'):Xg h.n h'.lo=true:=Xd (g.lo h.n (Xf _) (Xf _))
def Row(h:Hp)(b:Nat)(l:List Value)(md:Nat):Prop:= ∃t a,h.get b=some (.cells t l.length a md)/\t.Sized l.length/\ ∀i:Nat,t.get i=l[i]?
theorem Row.gr(g:Gr h h'){b:Nat}(r:Row h b l md):Row h' b l md:=by obtain⟨t,d,a,b,c⟩:=r;exact⟨t,d,g.at a,b,c⟩
theorem Row.lt(c:OZ h){b:Nat}(r:Row h b l md):b<h.n:=by obtain⟨t,d,a,_,_⟩:=r;exact iG c a
theorem De{a:Type}{t:Tr a}{l:List a}(b: ∀i:Nat,t.get i=l[i]?): ∀(n o:Nat),o+n<=l.length->t.slice o n=some ((l.drop o).take n)
 |0,o,_=>by simp [Tr.slice]| n+1,o,h=>by simp only [Tr.slice];have:l[o]? =some l[o]:=Xv (by omega);rw [b o,this,De b n (o+1) (by omega)];simp only [];congr 1;rw [show List.drop o l=l[o]::List.drop (o+1) l from XL (by omega)];rfl
theorem Row.load{h:Hp}{b:Nat}{l:List Value}{md:Nat}(r:Row h b l md){o n:Nat}(d:o+n<=l.length):h.load b o n=some ((l.drop o).take n):=by obtain⟨t,e,a,_,c⟩:=r;grind[Hp.load,Xd,De]
theorem Row.load1{b:Nat}(r:Row h b l md){o:Nat}(a:l[o]? =some v):h.load b o 1=some [v]:=by have hlt:=(List.getElem?_eq_some_iff.1 a).1;rw [r.load (by omega)];grind[XL,Xu]
theorem re(a:OZ h)(l:List Value)(el md:Nat):Row (h.new (.cells (Tr.ofList l) l.length el md)) h.n l md:=
 ⟨Tr.ofList l,el,by rw [h.get_new _ a,if_pos rfl],Tr.sized_ofList l,fun i=>Tr.get_ofList l i⟩
def lay(l:List Value)(o:Nat)(vs:List Value):List Value:=l.take o++vs++l.drop (o+vs.length)
theorem qN{o:Nat}(h:o+vs.length<=l.length):(lay l o vs).length=l.length:=by simp [lay];omega
theorem lS{o:Nat}(h:o+vs.length<=l.length)(i:Nat):(lay l o vs)[i]? =if o<=i/\i<o+vs.length then vs[i-o]? else l[i]? :=by
 unfold lay;by_cases a:i<o
 . grind
 grind
theorem Row.store{h:Hp}(j:OZ h){b:Nat}{l:List Value}{md:Nat}(r:Row h b l md)(g:md≠0){o:Nat}{vs:List Value}(e:o+vs.length<=l.length)(k:vs.all mr=true):
 ∃x,h.store b o vs=some (h.put b x)/\Row (h.put b x) b (lay l o vs) md:=by
 obtain⟨t,f,a,d,c⟩:=r;refine⟨.cells (t.setAll o vs) l.length f md,?_,?_⟩
 . grind[Hp.store,Xi,absurd,Xa,Xd]
 . refine⟨t.setAll o vs,f,?_,?_,fun i=>?_⟩
   . rw [Hp.get_put,if_pos ⟨rfl,by rw [a];rfl⟩,qN e]
   . rw [qN e];exact Tr.sized_setAll o vs d
   grind[Tr.get_setAll,lS]
theorem pop_ext{d:Operand->Value}(e: ∀x∈op.operands.toList,ρ x=d x):pop E ρ op=pop E d op:=by
 cases op
 case build t g=>grind[pop,XC,Op.operands]
 case makeFunc f a b=>
  cases f<;>(try rfl);grind[pop,Array.map_congr_left,Op.operands]
 case slice t x l h m=>
  simp only [pop];have i:=e x (by simp [Op.operands]);have j:l.map ρ=l.map d:=by cases l with|none=>rfl|some y=>simp [e y (by simp [Op.operands])]
  have k:h.map ρ=h.map d:=by cases h with|none=>rfl|some y=>simp [e y (by simp [Op.operands])]
  have n:m.map ρ=m.map d:=by cases m with|none=>rfl|some y=>simp [e y (by simp [Op.operands])]
  grind
 case call c=>
  have o:c.args.toList.map ρ=c.args.toList.map d:=by grind[XC,Op.operands,Call.operands]
  grind[pop,invoke,builtin,Xt,Op.operands,Call.operands]
 all_goals (try rfl)
 all_goals first
  |(unfold Op.operands at e;simp at e;simp only [pop];simp [e];done)
  |(simp only [pop];done)
  |(cases ‹Fn› <;>simp only [pop];done)
theorem wL{a:Operand->Value}(e: ∀x∈op.operands.toList,ρ x=a x):aop E ρ h op=aop E a h op:=by
 have d:=pop_ext (E:=E) e;cases op
 case buildSlice t n j=>grind[aop,XC,Op.operands]
 case makeMap t r=>cases r<;>simp only [aop,d]
 case call c=>
  have i:c.args.toList.map ρ=c.args.toList.map a:=by grind[XC,Op.operands,Call.operands]
  have k: ∀x∈c.args.toList,ρ x=a x:=by simp_all
  cases g:c.callee with
  | value f=>grind[hf,Op.operands,Call.operands,aop]|invoke r n=>simp only [aop,g]| builtin b=>
    cases b<;>simp only [aop,g,d]<;>(try rfl)
    all_goals grind
 case defer c=>
  have i:c.args.toList.map ρ=c.args.toList.map a:=by grind[XC,Op.operands,Call.operands]
  grind[hf,Op.operands,Call.operands,aop,invoke,builtin]
 all_goals first
  |(simp only [aop];done)
  |(simp only [aop,d];done)
  |(unfold Op.operands at e;simp at e;simp only [aop,e];done)
theorem touch_ext{a:Operand->Value}(e: ∀x∈op.operands.toList,ρ x=a x):touch ρ op=touch a op:=by
 cases op
 case call c=>grind[touch,Op.operands,Call.operands]
 all_goals first
  |rfl
  |(unfold Op.operands at e;simp at e;simp only [touch,e];done)
  |(simp only [touch];done)
theorem xj(l:Loc)(op:Op): ∀x∈op.operands.toList,l.evD (tmpsOf op.operands.toList) x=l.ev x:=by
 intro x a;cases x with
 | tmp t=>grind[Loc.evD,pF,us]|_=>rfl
def mD(E:Env)(K:Value->Hp->Prop):Option (dU×Hp)->Prop
 |some (.val v,c)=>K v c|some (.skip,c)=>K (.tuple #[]) c| some (.call f a,c)=>eB E f a none c fun x _ d=>match x with
   | .ret v=>K v d| .pan _=>False
 | some (.yield b a,c)=>nH E b a c fun x d=>match x with
   | .ret v=>K v d| .pan _=>False
 |_=>False
theorem opVal_n{x:Option (dU×Hp)}:(∃v h',dD E (lim E) x=some (.ret v,h')/\K v h')↔mD E K x:=by
 cases x with
 |none=>exact⟨fun⟨_,_,a,_⟩=>(by cases a),fun h=>h.elim⟩
 | some q=>
   obtain⟨e,g⟩:=q;cases e with
   |val v=>exact⟨fun⟨_,_,a,b⟩=>(by cases a;exact b),fun h=>⟨_,_,rfl,h⟩⟩
   |skip=>exact⟨fun⟨_,_,a,b⟩=>(by cases a;exact b),fun h=>⟨_,_,rfl,h⟩⟩
   |panic v=>exact⟨fun⟨_,_,a,_⟩=>(by cases a),fun h=>h.elim⟩
   |recov=>exact⟨fun⟨_,_,a,_⟩=>(by cases a),fun h=>h.elim⟩
   |defer d=>exact⟨fun⟨_,_,a,_⟩=>(by cases a),fun h=>h.elim⟩
   | call f c=>simp only [mD,dD,eB];grind| yield b c=>grind[mD,dD,nH]
theorem stepD_iff{l:Loc}{a:Bool}:(∃v h',dp E (lim E) (l.evD (tmpsOf o.op.operands.toList)) a o h=some (v,h')/\K v h')↔
 (if a=true then mD E (fun v h'=>Xg h.n h'.lo=true/\K v {h' with lo:=h.lo}) (aop E l.ev {h with lo:=h.n} o.op)else mD E K (aop E l.ev h o.op)):=by
 have e:=xj l o.op;unfold dp;cases a with
 | false=>rw [if_neg (by simp)];simp only [cond_false];rw [wL e,<-opVal_n];grind| true=>rw [if_pos rfl];simp only [cond_true];rw [wL e,<-opVal_n];grind
theorem FL{a:Operand->Value}{b:Bool}(e: ∀x∈op.operands.toList,ρ x=a x):cH ρ b op h h'=cH a b op h h':=by unfold cH jo;rw [touch_ext e]
theorem run_opsD{Q:gH}{k:List Fr}{l:Loc}{c:List (Nat×Tch)}:Run E (lim E) cx Q (.opsD a q ps (o::os) i c::k) .normal l h↔ ∃b,cU a l.regs o=some b/\
 (if b =true then(if fZ E q i o.op=true then
       mD E (fun v h'=>Xg h.n h'.lo=true/\Run E (lim E) cx Q (.opsD a q ps os (i+1) (gG i c (cH l.ev true o.op h h))::k) .normal (l.put o.dst v) {h' with lo:=h.lo}) (aop E l.ev {h with lo:=h.n} o.op)
     else mD E (fun v h'=>Run E (lim E) cx Q (.opsD a q ps os (i+1) (gG i c (cH l.ev false o.op h h'))::k) .normal (l.put o.dst v) h') (aop E l.ev h o.op))
   else Run E (lim E) cx Q (.opsD a q ps os (i+1) c::k) .normal (l.put o.dst (.tuple #[])) h):=by
 rw [BH];simp only [FL (xj l o.op),stepD_iff];cases fZ E q i o.op with
 | true=>rfl|false=>exact Xk
theorem vS(c:Ret E f args h Q)(d: ∀v h',Q v h'->K v h'):mD E K (some (.call f args,h)):=by obtain⟨v,h',a,b⟩:=c;exact⟨.ret v,none,h',a,d v h' b⟩
noncomputable section
abbrev Opt:=Option (Ex×Loc×Hp)
def getK{a:Type}(t:Tr a):Nat->Option a:=Tr.rec (motive:=fun _=>Nat->Option a) (fun _=>none)
 (fun x _ _ b c i=>Nat.rec (some x) (fun n _=>Bool.rec (c (n/2)) (b (n/2)) (Xi (n%2) 0)) i) t
def setK{a:Type}(t:Tr a):Nat->a->Tr a:=Tr.rec (motive:=fun _=>Nat->a->Tr a) (fun _ _=>.nil)
 (fun y l r b c i x=>Nat.rec (.node x l r) (fun n _=>Bool.rec (.node y l (c (n/2) x)) (.node y (b (n/2) x) r) (Xi (n%2) 0)) i) t
def iP(l:Loc)(d:Option Tmp)(v:Value):Loc:=Option.rec l (fun t=>Loc.mk (setK l.regs t v) l.dfs l.rc) d
def evK(l:Loc)(x:Operand):Value:=Operand.rec (motive:=fun _=>Loc->Value) (fun t l=>Option.rec (.tuple #[]) (fun v=>v) (getK l.regs t)) (fun v _=>Bool.rec poison v (dA v))
 (fun g _=>Bool.rec poison (.pointer (some ⟨g,0,none⟩)) (XP g 16)) (fun f _=>.func (.func f) #[] #[]) x l
def exK(e:Ex):(Loc->Hp->Opt)->(Ex->Loc->Hp->Opt)->Loc->Hp->Opt:=Ex.rec (motive:=fun _=>(Loc->Hp->Opt)->(Ex->Loc->Hp->Opt)->Loc->Hp->Opt)
 (fun b _ l h=>b l h) (fun id _ a l h=>a (.exit id) l h) (fun _ a l h=>a .ret l h) (fun v _ a l h=>a (.pan v) l h) e
def eu(x:Opt)(a:Loc->Hp->Opt)(b:Ex->Loc->Hp->Opt):Opt:=Option.rec none (fun q=>Prod.rec (fun e c=>Prod.rec (fun l h=>exK e a b l h) c) q) x
def asInt:Value->Option (IntKind×Int)
 | .int k n=>some (k,n)|_=>none
abbrev BM:=IntKind->Int->IntKind->Int->Option Value->Option Value
def arK(f:IntKind->Int->Int->Option Value):BM:=fun k m a n _=>Bool.rec none (f k m n) (kL k a)
def binI(op:BinOp):BM:=BinOp.rec (motive:=fun _=>BM)
 (add:=arK fun k x y=>some (.int k (am k (x+y)))) (sub:=arK fun k x y=>some (.int k (am k (x-y)))) (mul:=arK fun k x y=>some (.int k (am k (x*y))))
 (quo:=fun _ _ _ _ s=>s) (rem:=fun _ _ _ _ s=>s) (and:=fun _ _ _ _ s=>s) (or:=fun _ _ _ _ s=>s) (xor:=fun _ _ _ _ s=>s) (andNot:=fun _ _ _ _ s=>s) (shl:=fun _ _ _ _ s=>s) (shr:=fun _ _ _ _ s=>s)
 (eql:=arK fun _ x y=>some (.bool (jh x y))) (neq:=arK fun _ x y=>some (.bool (!jh x y))) (lss:=arK fun _ x y=>some (.bool (pj x y))) (leq:=arK fun _ x y=>some (.bool (!pj y x)))
 (gtr:=arK fun _ x y=>some (.bool (pj y x))) (geq:=arK fun _ x y=>some (.bool (!pj x y))) op
def binK(E:Env)(op:BinOp)(t:TypeId)(x y:Operand)(a b:Value):Option Value:=
 Option.rec (ce E op t x y a b) (fun p=>Option.rec (ce E op t x y a b) (fun q=>binI op p.1 p.2 q.1 q.2 (ce E op t x y a b)) (asInt b)) (asInt a)
abbrev OpM:=Env->Rec->Cx->Option Tmp->Loc->Hp->(Loc->Hp->Opt)->(Ex->Loc->Hp->Opt)->Opt
def mg(r:Option Value)(d:Option Tmp)(l:Loc)(h:Hp)(a:Loc->Hp->Opt):Opt:=Option.rec none (fun v=>a (iP l d v) h) r
def retHK(r:Option (Hp×Value))(d:Option Tmp)(l:Loc)(a:Loc->Hp->Opt):Opt:=Option.rec none (fun p=>Prod.rec (fun h v=>a (iP l d v) h) p) r
def wh(r:Option Hp)(d:Option Tmp)(l:Loc)(a:Loc->Hp->Opt):Opt:=Option.rec none (fun h=>a (iP l d (.tuple #[])) h) r
def dM(op:Op):OpM:=fun E R a d l h b c=>eu (fk E R a ⟨d,op,0,"",#[],none⟩ l h) b c
def outK(o:Out):Option Tmp->Loc->Hp->(Loc->Hp->Opt)->(Ex->Loc->Hp->Opt)->Opt:=Out.rec (motive:=fun _=>Option Tmp->Loc->Hp->(Loc->Hp->Opt)->(Ex->Loc->Hp->Opt)->Opt)
 (fun v d l h a _=>a (iP l d v) h) (fun v _ l h _ b=>b (.pan v) l h) o
def resK(r:Option (Out×Option (Value×Bool)×Hp))(d:Option Tmp)(l:Loc)(a:Loc->Hp->Opt)(b:Ex->Loc->Hp->Opt):Opt:=Option.rec none (fun q=>Prod.rec (fun o c=>Prod.rec (fun _ h=>outK o d l h a b) c) q) r
def asFn:Value->Option (FuncId×Array Value×Array Value)
 | .func (.func g) a b=>some (g,a,b)|_=>none
def callK(c:Call):OpM:=fun E R e d l h a b=>Callee.rec (motive:=fun _=>Opt)
 (fun f=>Option.rec (dM (.call c) E R e d l h a b) (fun p=>resK (R.call p.1 (p.2.1.toList++c.args.toList.map (evK l)++p.2.2.toList) none h) d l a b) (asFn (evK l f)))
 (fun _ _=>dM (.call c) E R e d l h a b) (fun _=>dM (.call c) E R e d l h a b) c.callee
def opK(op:Op):OpM:=Op.rec (motive:=fun _=>OpM)
 (move:=fun x _ _ _ d l h j _=>j (iP l d (evK l x)) h)
 (assign:=fun x _ _ _ d l h j _=>j (iP l d (evK l x)) h)
 (pick:=fun c a b=>dM (.pick c a b))
 (alloc:=fun e=>dM (.alloc e))
 (box:=fun e v=>dM (.box e v))
 (build:=fun t p=>dM (.build t p))
 (buildSlice:=fun t n p=>dM (.buildSlice t n p))
 (insert:=fun t m k v=>dM (.insert t m k v))
 (load:=fun t a E _ _ d l h j _=>mg (gw E h t (evK l a)) d l h j)
 (store:=fun t a v E _ _ d l h j _=>wh (jH E h t (evK l a) (evK l v)) d l j)
 (ready:=fun g=>dM (.ready g))
 (waits:=fun g=>dM (.waits g))
 (nilCheck:=fun x=>dM (.nilCheck x))
 (binOp:=fun op t x y u E _ _ d l h j _=>mg (binK E op t x y (evK l x) (evK l y)) d l h j)
 (unOp:=fun op t x E _ _ d l h j _=>mg (unP op (evK l x)) d l h j)
 (convert:=fun s t x=>dM (.convert s t x))
 (sliceToArrayPointer:=fun t x=>dM (.sliceToArrayPointer t x))
 (makeInterface:=fun t x=>dM (.makeInterface t x))
 (makeFunc:=fun f a b=>dM (.makeFunc f a b))
 (makeMap:=fun t r=>dM (.makeMap t r))
 (makeChan:=fun t s=>dM (.makeChan t s))
 (makeSlice:=fun t a c=>dM (.makeSlice t a c))
 (slice:=fun t x a b c=>dM (.slice t x a b c))
 (fieldAddr:=fun s x i E _ _ d l h j _=>mg (aG E s (evK l x) i) d l h j)
 (field:=fun t x i E _ _ d l h j _=>mg (bG E t (evK l x) i) d l h j)
 (indexAddr:=fun t x i E _ _ d l h j _=>mg (gD E t (evK l x) (evK l i)) d l h j)
 (index:=fun t x i E _ _ d l h j _=>mg (jz E t (evK l x) (evK l i)) d l h j)
 (lookup:=fun t m k o E _ _ d l h j _=>mg (cM E h t (evK l m) (evK l k) o) d l h j)
 (mapUpdate:=fun t m k v E _ _ d l h j _=>wh (ey E h t (evK l m) (evK l k) (evK l v)) d l j)
 (mapEntry:=fun t m k E _ _ d l h j _=>retHK (jK E h t (evK l m) (evK l k)) d l j)
 (entryStore:=fun t m s v=>dM (.entryStore t m s v))
 (range:=fun t x=>dM (.range t x))
 (next:=fun i s=>dM (.next i s))
 (entry:=fun i=>dM (.entry i))
 (typeAssert:=fun x s t o=>dM (.typeAssert x s t o))
 (extract:=fun t i=>dM (.extract t i))
 (call:=fun c=>callK c)
 (go:=fun c=>dM (.go c))
 (defer:=fun c=>dM (.defer c))
 (panic:=fun x=>dM (.panic x))
 (send:=fun c x=>dM (.send c x))
 (recv:=fun t c o=>dM (.recv t c o))
 (select:=fun q b=>dM (.select q b)) op
def s7(ops:List Oper)(l:Loc)(o:Oper):Option Bool:=Option.rec (some true) (fun _=>cU ops l.regs o) o.guard
def opsK(E:Env)(R:Rec)(cx:Cx)(ops:List Oper)(c:Loc->Hp->Opt)(d:Ex->Loc->Hp->Opt)(os:List Oper):Loc->Hp->Opt:=List.rec (motive:=fun _=>Loc->Hp->Opt) c
 (fun o _ a l h=>Option.rec none (fun b=>Bool.rec (a (iP l o.dst (.tuple #[])) h) (opK o.op E R cx o.dst l h a d) b) (s7 ops l o)) os
def s9(op:Op):Bool:=Op.rec (motive:=fun _=>Bool)
 (move:=fun _=>true) (assign:=fun _=>true) (pick:=fun _ _ _=>false) (alloc:=fun _=>false) (box:=fun _ _=>false) (build:=fun _ _=>false) (buildSlice:=fun _ _ _=>false)
 (insert:=fun _ _ _ _=>false) (load:=fun _ _=>true) (store:=fun _ _ _=>true) (ready:=fun _=>false) (waits:=fun _=>false) (nilCheck:=fun _=>false) (binOp:=fun _ _ _ _ _=>true)
 (unOp:=fun _ _ _=>true) (convert:=fun _ _ _=>false) (sliceToArrayPointer:=fun _ _=>false) (makeInterface:=fun _ _=>false) (makeFunc:=fun _ _ _=>false) (makeMap:=fun _ _=>false)
 (makeChan:=fun _ _=>false) (makeSlice:=fun _ _ _=>false) (slice:=fun _ _ _ _ _=>false) (fieldAddr:=fun _ _ _=>true) (field:=fun _ _ _=>true) (indexAddr:=fun _ _ _=>true) (index:=fun _ _ _=>true)
 (lookup:=fun _ _ _ _=>true) (mapUpdate:=fun _ _ _ _=>true) (mapEntry:=fun _ _ _=>true) (entryStore:=fun _ _ _ _=>false) (range:=fun _ _=>false) (next:=fun _ _=>false) (entry:=fun _=>false)
 (typeAssert:=fun _ _ _ _=>false) (extract:=fun _ _=>false) (call:=fun _=>false) (go:=fun _=>false) (defer:=fun _=>false) (panic:=fun _=>false) (send:=fun _ _=>false) (recv:=fun _ _ _=>false)
 (select:=fun _ _=>false) op
def uj(E:Env)(q i:Nat)(op:Op):Bool:=Bool.rec (Bool.rec false (Xg 3 (cls E op)) (Nat.testBit q i)) false (Xi q 0)
def outDK(o:Out):(Value->Hp->Opt)->Hp->Opt:=Out.rec (motive:=fun _=>(Value->Hp->Opt)->Hp->Opt) (fun v k h=>k v h) (fun _ _ _=>none) o
def resDK(r:Option (Out×Option (Value×Bool)×Hp))(k:Value->Hp->Opt):Opt:=Option.rec none (fun q=>Prod.rec (fun o a=>Prod.rec (fun _ h=>outDK o k h) a) q) r
def nI(E:Env)(R:Rec)(a:Bool)(o:Oper)(l:Loc)(h:Hp)(k:Value->Hp->Opt):Opt:=Option.rec none (fun p=>k p.1 p.2) (dp E R l.ev a o h)
def zo(h:Hp)(k:Value->Hp->Opt)(v:Value)(h':Hp):Opt:=Bool.rec none (k v {h' with lo:=h.lo}) (Xg h.n h'.lo)
def callDK(E:Env)(R:Rec)(a:Bool)(o:Oper)(c:Call)(l:Loc)(h:Hp)(k:Value->Hp->Opt):Opt:=Callee.rec (motive:=fun _=>Opt)
 (fun f=>Option.rec (nI E R a o l h k) (fun p=>Bool.rec (resDK (R.call p.1 (p.2.1.toList++c.args.toList.map (evK l)++p.2.2.toList) none h) k)
   (resDK (R.call p.1 (p.2.1.toList++c.args.toList.map (evK l)++p.2.2.toList) none {h with lo:=h.n}) (zo h k)) a) (asFn (evK l f)))
 (fun _ _=>nI E R a o l h k) (fun _=>nI E R a o l h k) c.callee
def asCall(op:Op):Option Call:=match op with
 | .call c=>some c|_=>none
def z8(E:Env)(R:Rec)(a:Bool)(o:Oper)(l:Loc)(h:Hp)(k:Value->Hp->Opt):Opt:=Option.rec (nI E R a o l h k) (fun c=>callDK E R a o c l h k) (asCall o.op)
def zk(l:Loc)(op:Op):Option Tch:=match touch (l.evD (tmpsOf op.operands.toList)) op with
 |none=>none|some b=>some (.blk b)
abbrev DM:=Nat->Loc->Hp->List (Nat×Tch)->Opt
def yK(E:Env)(R:Rec)(cx:Cx)(q:Nat)(o:Oper)(b:DM)(i:Nat)(l:Loc)(h:Hp)(c:List (Nat×Tch)):Opt:=
 Bool.rec (z8 E R (uj E q i o.op) o l h fun v a=>b (i+1) (iP l o.dst v) a (gG i c (cH (l.evD (tmpsOf o.op.operands.toList)) (uj E q i o.op) o.op h a)))
  (Bool.rec (opK o.op E R cx o.dst l h (fun d a=>b (i+1) d a (gG i c (zk l o.op))) (fun _ _ _=>none))
    (nI E R true o l h fun v a=>b (i+1) (iP l o.dst v) a (gG i c (zk l o.op))) (uj E q i o.op)) (s9 o.op)
def qZ(E:Env)(R:Rec)(cx:Cx)(ops:List Oper)(q:Nat)(a:DM)(os:List Oper):DM:=List.rec (motive:=fun _=>DM) a
 (fun o _ c i l h d=>Option.rec none (fun b=>Bool.rec (c (i+1) (iP l o.dst (.tuple #[])) h d) (yK E R cx q o c i l h d) b) (s7 ops l o)) os
def drawKo(E:Env)(R:Rec)(cx:Cx)(ops:List Oper)(l:Loc)(h:Hp)(a:Loc->Hp->Opt):Opt:=
 Option.rec none (fun p=>qZ E R cx ops p.1 (fun _ l h b=>Bool.rec none (a l h) (c8 b p.2)) ops 0 l h []) (kH E ops)
def drawK(E:Env)(R:Rec)(cx:Cx)(ops:List Oper)(l:Loc)(h:Hp)(a:Loc->Hp->Opt):Opt:=drawKo E R cx (bV ops) l h a
abbrev CodeM:=Cx->Code->Loc->Hp->(Loc->Hp->Opt)->(Ex->Loc->Hp->Opt)->Opt
def asBool:Value->Option Bool
 | .bool b=>some b|_=>none
def blkK(e:Ex):Nat->(Loc->Hp->Opt)->(Ex->Loc->Hp->Opt)->Loc->Hp->Opt:=Ex.rec (motive:=fun _=>Nat->(Loc->Hp->Opt)->(Ex->Loc->Hp->Opt)->Loc->Hp->Opt)
 (fun _ b _ l h=>b l h) (fun i id b a l h=>Bool.rec (a (.exit i) l h) (b l h) (Xi i id)) (fun _ _ a l h=>a .ret l h) (fun v _ _ a l h=>a (.pan v) l h) e
def qk(E:Env)(R:Rec)(M:CodeM)(cx:Cx)(c:Code):Loc->Hp->(Loc->Hp->Opt)->(Ex->Loc->Hp->Opt)->Opt:=Code.rec (motive:=fun _=>Loc->Hp->(Loc->Hp->Opt)->(Ex->Loc->Hp->Opt)->Opt)
 (skip:=fun l h a _=>a l h)
 (region:=fun _ g k l h a d=>Bool.rec (opsK E R cx g.toList a d g.toList l h) (Bool.rec (drawK E R cx g.toList l h a) (eu (cutD E R cx g.toList l h) a d) (E.cut cx.fn)) k)
 (seq:=fun _ _ i j l h a d=>i l h (fun l h=>j l h a d) d)
 (cond:=fun c _ _ i j l h a d=>Option.rec none (fun t=>Bool.rec (j l h a d) (i l h a d) t) (asBool (evK l c)))
 (block:=fun id _ m l h a d=>m l h a (fun e l h=>blkK e id a d l h))
 (loop:=fun b m l h a d=>m l h (fun l h=>M cx (.loop b) l h a d) d)
 (rangeFunc:=fun f p o n _ _ l h a d=>eu (jI R cx (evK l f) p o n l h) a d)
 (exit:=fun id l h _ d=>d (.exit id) l h)
 (scope:=fun _ m l h a d=>m l h a d)
 (label:=fun _ l h a _=>a l h)
 (goto:=fun _ _ _ _ _=>none)
 (ret:=fun l h _ d=>d .ret l h)
 (refuse:=fun _ _ _ _ _=>none) c
abbrev qH:=Option (Out×Option (Value×Bool)×Hp)
def yy(E:Env)(R:Rec)(b:Func)(l:Loc)(h':Hp):qH:=match cI R l.dfs none h' with
 | some (none,a)=>match bS E l.regs a b.results.toList with
   |none=>none|some c=>some (.ret (aa c),l.rc,a)
 |_=>none
def doneK(E:Env)(R:Rec)(a:Func)(l:Loc)(h:Hp):qH:=List.rec (motive:=fun _=>qH)
 (Option.rec none (fun b=>some (.ret (aa b),l.rc,h)) (bS E l.regs h a.results.toList)) (fun _ _ _=>yy E R a l h) l.dfs
def slowPan(E:Env)(R:Rec)(b:Func)(v:Value)(l:Loc)(h':Hp):qH:=match cI R l.dfs (some v) h' with
 |none=>none|some (some v,a)=>some (.pan v,l.rc,a)| some (none,a)=>match bS E l.regs a b.results.toList with
   |none=>none|some c=>some (.ret (aa c),l.rc,a)
def exLeave(e:Ex):Env->Rec->Func->Loc->Hp->qH:=Ex.rec (motive:=fun _=>Env->Rec->Func->Loc->Hp->qH) doneK (fun _ _ _ _ _ _=>none) doneK (fun v E R a l h=>slowPan E R a v l h) e
def leaveK(E:Env)(R:Rec)(a:Func)(r:Opt):qH:=Option.rec none (fun q=>Prod.rec (fun e b=>Prod.rec (fun l h=>exLeave e E R a l h) b) q) r
def zW(E:Env)(R:Rec)(f:FuncId)(args:List Value)(rc:Option (Value×Bool))(h:Hp)(a:Func)(body:Code):qH:=
 Bool.rec none (leaveK E R a (R.code ⟨f,a.ntmps,none⟩ body ⟨(Tr.blank (.tuple #[]) a.ntmps a.ntmps).setAll 0 args,[],rc⟩ h)) (Xg args.length a.ntmps)
def callBK(E:Env)(R:Rec)(f:FuncId)(args:List Value)(rc:Option (Value×Bool))(h:Hp):qH:=
 Option.rec none (fun b=>Option.rec none (fun a=>zW E R f args rc h b a) b.body) (E.fn f)
def yS(E:Env)(R:Rec)(f:FuncId)(args:List Value)(rc:Option (Value×Bool))(h:Hp):qH:=
 Option.rec (callBK E R f args rc h) (fun v=>Option.rec (some (.ret v,none,h)) (fun _=>none) rc) (E.orc f args)
structure RK where
 call:FuncId->List Value->Option (Value×Bool)->Hp->qH
 code:CodeM
def RK.rec'(K:RK):Rec:=⟨K.call,fun a c l h=>K.code a c l h (fun l h=>some (.normal,l,h)) (fun e l h=>some (e,l,h))⟩
def botK:RK:=⟨fun _ _ _ _=>none,fun _ _ _ _ _ _=>none⟩
def nextRK(E:Env)(K:RK):RK:=⟨fun f a b h=>yS E K.rec' f a b h,fun d c l h e g=>qk E K.rec' K.code d c l h e g⟩
def runK(E:Env)(n:Nat):RK:=Nat.rec botK (fun _ K=>nextRK E K) n
def envK(a:Tr Func)(b:Tr TypeInfo)(c:List Nat):Env:={fn:=fun f=>getK a f,ty:=fun t=>getK b t,eqok:=fun t=>pD t c}
end
noncomputable section
theorem getK_eq{a:Type}(t:Tr a)(i:Nat):getK t i=t.get i:=rfl
theorem setK_eq{a:Type}(t:Tr a)(i:Nat)(x:a):setK t i x=t.set i x:=rfl
theorem pT(l:Loc)(d:Option Tmp)(v:Value):iP l d v=l.put d v:=by
 cases d with
 |none=>rfl|some t=>show Loc.mk (setK l.regs t v) l.dfs l.rc=_;rw [setK_eq];rfl
theorem iE(l:Loc):evK l=l.ev:=by
 funext x;cases x with
 | tmp t=>
   show Option.rec (motive:=fun _=>Value) _ _ (getK l.regs t)=_;rw [getK_eq];simp only [Loc.ev];cases l.regs.get t<;>rfl
 |const v=>simp only [Loc.ev];show Bool.rec (motive:=fun _=>Value) poison v (dA v)=_;cases dA v<;>rfl
 |global g=>simp only [Loc.ev];show Bool.rec (motive:=fun _=>Value) poison _ (XP g 16)=_;cases XP g 16<;>rfl
 |func f=>rfl
theorem bind2_id(x:Opt):eu x (fun l h=>some (.normal,l,h)) (fun e l h=>some (e,l,h))=x:=by
 cases x with
 |none=>rfl|some q=>obtain⟨e,l,h⟩:=q;cases e<;>rfl
theorem tR(x:Opt)(c:Loc->Hp->Opt)(d:Ex->Loc->Hp->Opt)(f:Loc->Hp->Opt)(a:Ex->Loc->Hp->Opt)(b: ∀e l h,e≠ .normal->d e l h=a e l h):eu x (fun l h=>eu (c l h) f a) d=eu (match x with
  |some (.normal,l,h)=>c l h|r=>r) f a:=by
 cases x with
 |none=>rfl| some q=>
   obtain⟨e,l,h⟩:=q;cases e with
   |normal=>rfl|exit i=>exact b _ _ _ (by simp)|ret=>exact b _ _ _ (by simp)|pan v=>exact b _ _ _ (by simp)
theorem binK_eq(E:Env)(op:BinOp)(t:TypeId)(x y:Operand)(a b:Value):binK E op t x y a b=ce E op t x y a b:=by
 cases a<;>(try rfl);cases b<;>(try rfl);rename_i k m c n;cases op<;>(try rfl)
 all_goals (show Bool.rec (motive:=fun _=>Option Value) none _ (kL k c)=(bif kL k c then _ else none);cases kL k c<;>rfl)
theorem retK_eq(r:Option Value)(o:Oper)(l:Loc)(h:Hp)(E:Env)(R:Rec)(a:Loc->Hp->Opt)(b:Ex->Loc->Hp->Opt):mg r o.dst l h a=eu (qa o l (dD E R (di h r))) a b:=by
 cases r with
 |none=>rfl|some v=>show a (iP l o.dst v) h=a (l.put o.dst v) h;rw [pT]
theorem retHK_eq(r:Option (Hp×Value))(o:Oper)(l:Loc)(E:Env)(R:Rec)(a:Loc->Hp->Opt)(b:Ex->Loc->Hp->Opt):retHK r o.dst l a=eu (qa o l (dD E R (dH r))) a b:=by
 cases r with
 |none=>rfl|some p=>obtain⟨h,v⟩:=p;show a (iP l o.dst v) h=a (l.put o.dst v) h;rw [pT]
theorem retUK_eq(r:Option Hp)(o:Oper)(l:Loc)(E:Env)(R:Rec)(a:Loc->Hp->Opt)(b:Ex->Loc->Hp->Opt):wh r o.dst l a=eu (qa o l (dD E R (gC r))) a b:=by
 cases r with
 |none=>rfl|some h=>show a (iP l o.dst (.tuple #[])) h=a (l.put o.dst (.tuple #[])) h;rw [pT]
theorem resK_eq(R:Rec)(g:FuncId)(args:List Value)(o:Oper)(l:Loc)(h:Hp)(E:Env)(a:Loc->Hp->Opt)(b:Ex->Loc->Hp->Opt):resK (R.call g args none h) o.dst l a b=eu (qa o l (dD E R (some (.call g args,h)))) a b:=by
 simp only [dD];cases R.call g args none h with
 |none=>rfl| some q=>
   obtain⟨x,d,c⟩:=q;cases x with
   |ret v=>show a (iP l o.dst v) c=a (l.put o.dst v) c;rw [pT]|pan v=>rfl
theorem oN{l:Loc}{x:Option (dU×Hp)}(a:aop E l.ev h o.op=x)(b: ∀h',x≠some (.recov,h'))(c: ∀d h',x≠some (.defer d,h')):fk E R cx o l h=qa o l (dD E R x):=by
 unfold fk;rw [a]
 split
 . exact absurd rfl (b _)
 . exact absurd rfl (c _ _)
 . rfl
theorem xY{r:Option Value}:(∀h',di h r≠some (.recov,h'))/\ ∀d h',di h r≠some (.defer d,h'):=by cases r<;>exact⟨by intros;simp [di],by intros;simp [di]⟩
theorem yt{r:Option (Hp×Value)}:(∀h',dH r≠some (.recov,h'))/\ ∀d h',dH r≠some (.defer d,h'):=by cases r<;>exact⟨by intros;simp [dH],by intros;simp [dH]⟩
theorem yv{r:Option Hp}:(∀h',gC r≠some (.recov,h'))/\ ∀d h',gC r≠some (.defer d,h'):=by cases r<;>exact⟨by intros;simp [gC],by intros;simp [gC]⟩
theorem opK_eq(E:Env)(R:Rec)(cx:Cx)(o:Oper)(l:Loc)(h:Hp)(q:Loc->Hp->Opt)(s:Ex->Loc->Hp->Opt):opK o.op E R cx o.dst l h q s=eu (fk E R cx o l h) q s:=by
 have w: ∀r,aop E l.ev h o.op=di h r->mg r o.dst l h q=eu (fk E R cx o l h) q s:=fun r A=>by rw [oN A xY.1 xY.2];exact retK_eq r o l h E R q s
 have B: ∀r,aop E l.ev h o.op=dH r->retHK r o.dst l q=eu (fk E R cx o l h) q s:=fun r A=>by rw [oN A yt.1 yt.2];exact retHK_eq r o l E R q s
 have C: ∀r,aop E l.ev h o.op=gC r->wh r o.dst l q=eu (fk E R cx o l h) q s:=fun r A=>by rw [oN A yv.1 yv.2];exact retUK_eq r o l E R q s
 obtain⟨j,op,D,pos,z,guard⟩:=o;simp only []at w B C⊢;cases op
 case move x=>have:=w (some (l.ev x)) rfl;rw [<-this];show q (iP l j (evK l x)) h=q (iP l j (l.ev x)) h;rw [iE]
 case assign x=>have:=w (some (l.ev x)) rfl;rw [<-this];show q (iP l j (evK l x)) h=q (iP l j (l.ev x)) h;rw [iE]
 case load t a=>rw [<-w _ rfl];show mg (gw E h t (evK l a)) j l h q=_;rw [iE]
 case store t a v=>rw [<-C _ rfl];show wh (jH E h t (evK l a) (evK l v)) j l q=_;rw [iE]
 case binOp b t x y u=>rw [<-w (ce E b t x y (l.ev x) (l.ev y)) rfl];show mg (binK E b t x y (evK l x) (evK l y)) j l h q=_;rw [iE,binK_eq]
 case unOp b t x=>rw [<-w (unP b (l.ev x)) rfl];show mg (unP b (evK l x)) j l h q=_;rw [iE]
 case fieldAddr t x i=>rw [<-w (aG E t (l.ev x) i) rfl];show mg (aG E t (evK l x) i) j l h q=_;rw [iE]
 case field t x i=>rw [<-w (bG E t (l.ev x) i) rfl];show mg (bG E t (evK l x) i) j l h q=_;rw [iE]
 case indexAddr t x i=>rw [<-w (gD E t (l.ev x) (l.ev i)) rfl];show mg (gD E t (evK l x) (evK l i)) j l h q=_;rw [iE]
 case index t x i=>rw [<-w (jz E t (l.ev x) (l.ev i)) rfl];show mg (jz E t (evK l x) (evK l i)) j l h q=_;rw [iE]
 case lookup t m k b=>rw [<-w _ rfl];show mg (cM E h t (evK l m) (evK l k) b) j l h q=_;rw [iE]
 case mapUpdate t m k v=>rw [<-C _ rfl];show wh (ey E h t (evK l m) (evK l k) (evK l v)) j l q=_;rw [iE]
 case mapEntry t m k=>rw [<-B _ rfl];show retHK (jK E h t (evK l m) (evK l k)) j l q=_;rw [iE]
 case call c=>
  show callK c E R cx j l h q s=_;unfold callK;cases F:c.callee with
  |invoke r n=>rfl|builtin b=>rfl| value f=>
    show Option.rec (motive:=fun _=>Opt) (dM (.call c) E R cx j l h q s) _ (asFn (evK l f))=_;rw [iE];cases hf:asFn (l.ev f)with
    |none=>rfl| some p=>
      obtain⟨g,a,b⟩:=p;have B:l.ev f=.func (.func g) a b:=by
       unfold asFn at hf
       split at hf
       . rename_i G;cases hf;exact G
       . cases hf
      have A:aop E l.ev h (.call c)=some (.call g (a.toList++c.args.toList.map l.ev++b.toList),h):=(by simp only [aop,F,B,target]);rw [oN (o:=⟨j,.call c,D,pos,z,guard⟩) A (by intro H e;cases e) (by intro d H e;cases e)];exact resK_eq R g _ ⟨j,.call c,D,pos,z,guard⟩ l h E q s
 all_goals rfl
theorem Ba(ops:List Oper)(l:Loc)(o:Oper):s7 ops l o=cU ops l.regs o:=by
 unfold s7;cases a:o.guard with
 |none=>unfold cU;rw [a]|some q=>rfl
theorem opsK_eq(E:Env)(R:Rec)(cx:Cx)(ops:List Oper)(c:Loc->Hp->Opt)(a:Ex->Loc->Hp->Opt): ∀(os:List Oper) (l:Loc) (h:Hp),opsK E R cx ops c a os l h=eu (js E R cx ops os l h) c a
 | [],l,h=>rfl| o ::os,l,h=>by
   have d:=opsK_eq E R cx ops c a os;show Option.rec (motive:=fun _=>Opt) none (fun b=>Bool.rec (opsK E R cx ops c a os (iP l o.dst (.tuple #[])) h) (opK o.op E R cx o.dst l h (opsK E R cx ops c a os) a) b) (s7 ops l o)=_;rw [Ba];simp only [js];cases cU ops l.regs o with
   |none=>rfl| some b=>
     cases b with
     |false=>show opsK E R cx ops c a os (iP l o.dst (.tuple #[])) h=_;rw [d,pT]| true=>
       show opK o.op E R cx o.dst l h (opsK E R cx ops c a os) a=_;rw [opK_eq,show opsK E R cx ops c a os=fun l h=>eu (js E R cx ops os l h) c a from funext fun l=>funext fun h=>d l h];rw [tR _ _ _ _ _ (fun _ _ _ _=>rfl)];simp only [];cases fk E R cx o l h with
       |none=>rfl|some q=>obtain⟨e,f,g⟩:=q;cases e<;>rfl
end
noncomputable section
theorem Be(E:Env)(R:Rec)(l:Loc)(a:Bool)(o:Oper)(h:Hp):dp E R (l.evD (tmpsOf o.op.operands.toList)) a o h=dp E R l.ev a o h:=by unfold dp;rw [wL (xj l o.op),wL (xj l o.op)]
theorem fast_step{l:Loc}(hf:s9 o.op=true){K:Value->Hp->Opt}:eu (fk E R cx o l h) (fun l' h'=>none) (fun _ _ _=>none)=none/\
 ∀ b:Loc->Hp->Opt,eu (fk E R cx o l h) b (fun _ _ _=>none)=(match dp E R l.ev false o h with
   |none=>none|some (v,h')=>b (l.put o.dst v) h'):=by
 have c: ∀x,aop E l.ev h o.op=x->((∃e r,x=di e r)\/(∃r,x=dH r)\/ ∃r,x=gC r)-> ∀b:Loc->Hp->Opt,eu (fk E R cx o l h) b (fun _ _ _=>none)=(match dp E R l.ev false o h with
  |none=>none|some (v,h')=>b (l.put o.dst v) h'):=by
  intro x g i b;have j:(∀h',x≠some (.recov,h'))/\ ∀d h',x≠some (.defer d,h'):=by
   rcases i with⟨e,r,rfl⟩|⟨r,rfl⟩|⟨r,rfl⟩
   . exact xY
   . exact yt
   . exact yv
  rw [oN g j.1 j.2];simp only [dp,cond_false,g];rcases i with⟨e,r,rfl⟩|⟨r,rfl⟩|⟨r,rfl⟩<;>cases r<;>rfl
 have a:(∃e r,aop E l.ev h o.op=di e r)\/(∃r,aop E l.ev h o.op=dH r)\/ ∃r,aop E l.ev h o.op=gC r:=by
  obtain⟨k,op,m,pos,f,guard⟩:=o;simp only []at hf⊢;cases op<;>(try (cases hf;done))
  all_goals first
   |exact .inl ⟨h,some (l.ev _),rfl⟩
   |exact .inl ⟨h,_,rfl⟩
   |exact .inr (.inl ⟨_,rfl⟩)
   |exact .inr (.inr ⟨_,rfl⟩)
 refine⟨?_,c _ rfl a⟩;rw [c _ rfl a];cases dp E R l.ev false o h<;>rfl
theorem xR(E:Env)(q i:Nat)(op:Op):uj E q i op=fZ E q i op:=by
 unfold uj fZ;cases a:Xi q 0 with
 | true=>have:q=0:=Xa a;subst this;simp|false=>cases Nat.testBit q i<;>rfl
theorem elseDK_eq(E:Env)(R:Rec)(d:Bool)(o:Oper)(l:Loc)(h:Hp)(k:Value->Hp->Opt):z8 E R d o l h k=nI E R d o l h k:=by
 unfold z8;cases e:asCall o.op with
 |none=>rfl| some c=>
   show callDK E R d o c l h k=_;have t:o.op=.call c:=by
    unfold asCall at e
    split at e
    . rename_i i;cases e;exact i
    . cases e
   unfold callDK;cases j:c.callee with
   |invoke r n=>rfl|builtin b=>rfl| value f =>
     show Option.rec (motive:=fun _=>Opt) (nI E R d o l h k) _ (asFn (evK l f))=_;rw [iE];cases hf:asFn (l.ev f)with
     |none=>rfl| some p=>
       obtain⟨g,a,b⟩:=p;have u:l.ev f=.func (.func g) a b:=by
        unfold asFn at hf
        split at hf
        . rename_i i;cases hf;exact i
        . cases hf
       have s: ∀h,aop E l.ev h o.op=some (.call g (a.toList++c.args.toList.map l.ev++b.toList),h):=(by intro h;rw [t];simp only [aop,j,u,target]);unfold nI dp;cases d with
       | false=>
         simp only [cond_false,s,dD];show resDK (R.call g (a.toList++c.args.toList.map l.ev++b.toList) none h) k=_;cases R.call g (a.toList++c.args.toList.map l.ev++b.toList) none h with
         |none=>rfl|some q=>obtain⟨x,w,m⟩:=q;cases x<;>rfl
       | true=>
         simp only [cond_true,s,dD];show resDK (R.call g (a.toList++c.args.toList.map l.ev++b.toList) none {h with lo:=h.n}) (zo h k)=_;cases R.call g (a.toList++c.args.toList.map l.ev++b.toList) none {h with lo:=h.n}with
         |none=>rfl| some q=>
           obtain⟨x,w,m⟩:=q;cases x with
           |pan v=>rfl| ret v=>
             show zo h k v m=_;simp only [zo];cases Xg h.n m.lo<;>rfl
theorem Ey(h:s9 op=true):dJ op=false:=by cases op<;>first|rfl|exact absurd h (by simp [s9])
theorem Df(E:Env)(R:Rec)(cx:Cx)(ops:List Oper)(q:Nat)(K:Loc->Hp->List (Nat×Tch)->Opt): ∀(os:List Oper) (i:Nat) (l:Loc) (h:Hp) (a:List (Nat×Tch)),
 qZ E R cx ops q (fun _ l h a=>K l h a) os i l h a=(match bW E R ops q os i l h a with
  |none=>none|some (l',h',d)=>K l' h' d)
 | [],i,l,h,a=>rfl| o :: os,i,l,h,a=>by
   have g:=Df E R cx ops q K os;show Option.rec (motive:=fun _=>Opt) none (fun b=>Bool.rec (qZ E R cx ops q (fun _ l h a=>K l h a) os (i+1) (iP l o.dst (.tuple #[])) h a) (yK E R cx q o (qZ E R cx ops q (fun _ l h a=>K l h a) os) i l h a) b) (s7 ops l o)=_;rw [Ba];simp only [bW];cases cU ops l.regs o with
   |none=>rfl| some b=>
     cases b with
     |false=>show qZ E R cx ops q (fun _ l h a=>K l h a) os (i+1) (iP l o.dst (.tuple #[])) h a=_;rw [g,pT]
     | true=>
       show yK E R cx q o (qZ E R cx ops q (fun _ l h a=>K l h a) os) i l h a=_;simp only [];have c: ∀f,fZ E q i o.op=f->nI E R f o l h (fun v h'=>qZ E R cx ops q (fun _ l h a=>K l h a) os (i+1) (iP l o.dst v) h' (gG i a (cH (l.evD (tmpsOf o.op.operands.toList)) f o.op h h')))=
        (match(match dp E R (l.evD (tmpsOf o.op.operands.toList)) (fZ E q i o.op) o h with
          |none=>none|some (v,h')=>bW E R ops q os (i+1) (l.put o.dst v) h' (gG i a (cH (l.evD (tmpsOf o.op.operands.toList)) (fZ E q i o.op) o.op h h')))with
          |none=>none|some (l',h',d)=>K l' h' d):=by
        intro f e;rw [e,Be];unfold nI;cases dp E R l.ev f o h with
        |none=>rfl|some p=>obtain⟨v,h'⟩:=p;show qZ E R cx ops q _ os (i+1) (iP l o.dst v) h' _=_;rw [g,pT]
       unfold yK;cases hf:s9 o.op with
       | false=>show z8 E R (uj E q i o.op) o l h _=_;rw [elseDK_eq,xR];exact c _ rfl| true=>
         have k: ∀b (h h':Hp),cH (l.evD (tmpsOf o.op.operands.toList)) b o.op h h'=zk l o.op:=(by intro b h h';have j:eR o.op=false:=(by cases m:o.op<;>first|rfl|(rw [m]at hf;simp [s9]at hf));unfold cH zk jo;rw [Ey hf,j];rfl);simp only [k]at c⊢;cases e:uj E q i o.op with
         | true=>rw [xR]at e;exact c true e| false=>
           rw [xR]at e;show opK o.op E R cx o.dst l h _ _=_;rw [opK_eq,(fast_step (R:=R) hf (K:=fun _ _=>none)).2,Be,e];cases dp E R l.ev false o h with
           |none=>rfl|some p=>obtain⟨v,h'⟩:=p;simp only [];rw [g]
theorem codeK_eq(E:Env)(R:Rec)(M:CodeM)(D: ∀cx c l h d g,M cx c l h d g=eu (R.code cx c l h) d g)(cx:Cx): ∀(c:Code) (l:Loc) (h:Hp) (d:Loc->Hp->Opt) (g:Ex->Loc->Hp->Opt),
 qk E R M cx c l h d g=eu (aT E R cx c l h) d g:=by
 intro c
 induction c with
 |skip=>intro l h d g;rfl|label n=>intro l h d g;rfl| region id j s=>
   intro l h d g;cases s with
   |false=>exact opsK_eq E R cx j.toList d g j.toList l h| true=>
     show(Bool.rec (motive:=fun _=>Opt) (drawK E R cx j.toList l h d) (eu (cutD E R cx j.toList l h) d g) (E.cut cx.fn):Opt)=_;simp only [aT,cond_true];cases E.cut cx.fn with
     |true=>rfl|false=>
     show drawK E R cx j.toList l h d=_;simp only [cond_false];unfold drawK drawKo;generalize bV j.toList=r;cases kH E r with
     |none=>rfl| some p=>
       obtain⟨q,u⟩:=p;show qZ E R cx r q (fun _ l h B=>Bool.rec none (d l h) (c8 B u)) r 0 l h []=_;rw [Df E R cx r q (fun l h B=>Bool.rec none (d l h) (c8 B u))];simp only [];cases bW E R r q r 0 l h []with
       |none=>rfl| some x=>
         obtain⟨a,b,c⟩:=x;simp only [];cases c8 c u<;>rfl
 | seq a b k o=>
   intro l h d g;show qk E R M cx a l h (fun l h=>qk E R M cx b l h d g) g=_;rw [k,show(fun l h=>qk E R M cx b l h d g)=fun l h=>eu (aT E R cx b l h) d g from funext fun l=>funext fun h=>o l h d g];rw [tR _ _ _ _ _ (fun _ _ _ _=>rfl)];simp only [aT];cases aT E R cx a l h with
   |none=>rfl|some q=>obtain⟨e,z,A⟩:=q;cases e<;>rfl
 | cond c a b k o=>
   intro l h d g;show Option.rec (motive:=fun _=>Opt) none (fun t=>Bool.rec (qk E R M cx b l h d g) (qk E R M cx a l h d g) t) (asBool (evK l c))=_;rw [iE,k,o];simp only [aT];cases l.ev c<;>(try rfl);rename_i t;cases t<;>rfl
 | block id b w=>
   intro l h d g;show qk E R M cx b l h d (fun e l h=>blkK e id d g l h)=_;rw [w];simp only [aT];cases aT E R cx b l h with
   |none=>rfl| some q=>
     obtain⟨e,z,A⟩:=q;cases e with
     |normal=>rfl|ret=>rfl|pan v=>rfl| exit i=>
       show Bool.rec (motive:=fun _=>Opt) (g (.exit i) z A) (d z A) (Xi i id)=_;simp only [];cases Xi i id<;>rfl
 | loop b w=>
   intro l h d g;show qk E R M cx b l h (fun l h=>M cx (.loop b) l h d g) g=_;rw [w,show(fun l h=>M cx (.loop b) l h d g)=fun l h=>eu (R.code cx (.loop b) l h) d g from funext fun l=>funext fun h=>D cx (.loop b) l h d g];rw [tR _ _ _ _ _ (fun _ _ _ _=>rfl)];simp only [aT];cases aT E R cx b l h with
   |none=>rfl|some q=>obtain⟨e,z,A⟩:=q;cases e<;>rfl
 | rangeFunc f u C y _ _=>intro l h d g;show eu (jI R cx (evK l f) u C y l h) d g=_;rw [iE];rfl|exit id=>intro l h d g;rfl|scope b w=>intro l h d g;exact w l h d g|goto n=>intro l h d g;rfl|ret=>intro l h d g;rfl|refuse m=>intro l h d g;rfl
theorem B9(E:Env)(R:Rec)(a:Func)(l:Loc)(h:Hp):doneK E R a l h=yy E R a l h:=by
 unfold doneK yy;cases b:l.dfs with
 |cons d c=>rfl| nil=>
   simp only [cI];cases bS E l.regs h a.results.toList<;>rfl
theorem callBK_eq(E:Env)(R:Rec)(f:FuncId)(args:List Value)(rc:Option (Value×Bool))(h:Hp):callBK E R f args rc h=mO E R f args rc h:=by
 unfold callBK mO;cases E.fn f with
 |none=>rfl| some b=>
   show Option.rec (motive:=fun _=>qH) none (fun a=>zW E R f args rc h b a) b.body=_;simp only [];cases b.body with
   |none=>rfl| some a=>
     show zW E R f args rc h b a=_;unfold zW;simp only [];cases Xg args.length b.ntmps with
     |false=>rfl| true=>
       show leaveK E R b _=_;simp only [cond_true];cases R.code ⟨f,b.ntmps,none⟩ a ⟨(Tr.blank (.tuple #[]) b.ntmps b.ntmps).setAll 0 args,[],rc⟩ h with
       |none=>rfl| some q=>
         obtain⟨e,l,c⟩:=q;cases e with
         |exit i=>rfl|pan v=>rfl|normal=>exact B9 E R b l c|ret=>exact B9 E R b l c
theorem callSK_eq(E:Env)(R:Rec)(f:FuncId)(args:List Value)(rc:Option (Value×Bool))(h:Hp):yS E R f args rc h=jO E R f args rc h:=by
 unfold yS jO;cases E.orc f args with
 |none=>exact callBK_eq E R f args rc h|some v=>cases rc<;>rfl
theorem Co(E:Env): ∀n,(runK E n).rec'=run E n/\ ∀cx c l h b d,(runK E n).code cx c l h b d=eu ((run E n).code cx c l h) b d
 |0=>⟨rfl,fun _ _ _ _ _ _=>rfl⟩
 | n+1=>by
   obtain⟨i,k⟩:=Co E n;have j: ∀cx c l h b d,(runK E (n+1)).code cx c l h b d=eu ((run E (n+1)).code cx c l h) b d:=(by intro cx c l h b d;show qk E (runK E n).rec' (runK E n).code cx c l h b d=eu (aT E (run E n) cx c l h) b d;rw [i];exact codeK_eq E (run E n) (runK E n).code k cx c l h b d);refine⟨?_,j⟩;show Rec.mk (fun f a g h=>yS E (runK E n).rec' f a g h) (fun cx c l h=>(runK E (n+1)).code cx c l h (fun l h=>some (.normal,l,h)) (fun e l h=>some (e,l,h)))=next E (run E n)
   rw [i];unfold next
   congr 1
   . funext f a g h;exact callSK_eq E (run E n) f a g h
   . funext cx c l h;rw [j,bind2_id];rfl
theorem runK_call(E:Env)(n:Nat)(f:FuncId)(args:List Value)(rc:Option (Value×Bool))(h:Hp):(runK E n).call f args rc h=(run E n).call f args rc h:=by rw [<-(Co E n).1];rfl
theorem envK_eq(a:Tr Func)(b:Tr TypeInfo)(c:List Nat):envK a b c=envOf a b c:=rfl
end
section
variable{E:Env}{ρ:Operand->Value}{h:Hp}
theorem o_move:aop E ρ h (.move x)=some (.val (ρ x),h):=rfl
theorem o_assign:aop E ρ h (.assign x)=some (.val (ρ x),h):=rfl
theorem o_load{t:TypeId}{a:Operand}:aop E ρ h (.load t a)=di h (gw E h t (ρ a)):=rfl
theorem o_store{t:TypeId}{a:Operand}:aop E ρ h (.store t a x)=gC (jH E h t (ρ a) (ρ x)):=rfl
theorem o_binOp{op:BinOp}{t u:TypeId}:aop E ρ h (.binOp op t x y u)=di h (ce E op t x y (ρ x) (ρ y)):=rfl
theorem o_unOp{op:UnOp}{t:TypeId}:aop E ρ h (.unOp op t x)=di h (unP op (ρ x)):=rfl
theorem E0{a b:Array Operand}:aop E ρ h (.makeFunc (.func f) a b)=some (.val (.func (.func f) (a.map ρ) (b.map ρ)),h):=rfl
theorem o_slice{t:TypeId}{l u m:Option Operand}:aop E ρ h (.slice t x l u m)=di h (iq E t (ρ x) (l.map ρ) (u.map ρ) (m.map ρ)):=rfl
theorem Ee{s:TypeId}:aop E ρ h (.fieldAddr s x i)=di h (aG E s (ρ x) i):=rfl
theorem o_field{s:TypeId}:aop E ρ h (.field s x i)=di h (bG E s (ρ x) i):=rfl
theorem El{t:TypeId}{i:Operand}:aop E ρ h (.indexAddr t x i)=di h (gD E t (ρ x) (ρ i)):=rfl
theorem o_index{t:TypeId}{i:Operand}:aop E ρ h (.index t x i)=di h (jz E t (ρ x) (ρ i)):=rfl
theorem o_build{t:TypeId}{ps:Array (Nat×Operand)}:aop E ρ h (.build t ps)=di h (jE E t (ps.toList.map fun p=>(p.1,ρ p.2))):=rfl
theorem CL{t:TypeId}{ps:Array (Nat×Operand)}:aop E ρ h (.buildSlice t n ps)=dH (lU E h t n (ps.toList.map fun p=>(p.1,ρ p.2))):=rfl
theorem Ei{t:TypeId}{l c:Operand}:aop E ρ h (.makeSlice t l c)=dH (lq E h t (ρ l) (ρ c)):=rfl
theorem Cc{s t:TypeId}{a:Bool}:aop E ρ h (.typeAssert x s t a)=di h (rh E (ρ x) t a):=rfl
theorem o_convert{s t:TypeId}:aop E ρ h (.convert s t x)=dH (jJ E h s t (ρ x)):=rfl
theorem o_lookup{t:TypeId}{m k:Operand}{a:Bool}:aop E ρ h (.lookup t m k a)=di h (cM E h t (ρ m) (ρ k) a):=rfl
theorem Eb{t:TypeId}{m k v:Operand}:aop E ρ h (.mapUpdate t m k v)=gC (ey E h t (ρ m) (ρ k) (ρ v)):=rfl
theorem Fk{t:TypeId}{m k:Operand}:aop E ρ h (.mapEntry t m k)=dH (jK E h t (ρ m) (ρ k)):=rfl
theorem CP{t:TypeId}{m s v:Operand}:aop E ρ h (.entryStore t m s v)=gC (nT h (ρ m) (ρ s) (ρ v)):=rfl
theorem o_callv{f:Operand}{ts:Array TypeId}:aop E ρ h (.call ⟨.value f,as,ts⟩)=match target (ρ f) (as.toList.map ρ)with|none=>none|some x=>some (x,h):=rfl
theorem o_max{ts:Array TypeId}:aop E ρ h (.call ⟨.builtin .max,#[x,y],ts⟩)=di h (iR true (ρ x) [ρ y]):=rfl
theorem o_min{ts:Array TypeId}:aop E ρ h (.call ⟨.builtin .min,#[x,y],ts⟩)=di h (iR false (ρ x) [ρ y]):=rfl
theorem o_append{s:Operand}{ts:Array TypeId}:aop E ρ h (.call ⟨.builtin .append,#[s,x],ts⟩)=dH (dS E h ts.toList (ρ s) (ρ x)):=rfl
theorem o_copy{s:Operand}{ts:Array TypeId}:aop E ρ h (.call ⟨.builtin .copy,#[s,x],ts⟩)=dH (copyV E h ts.toList (ρ s) (ρ x)):=rfl
end
theorem E1:di h (some v)=some (.val v,h):=rfl
theorem FO:dH (some (h,v))=some (.val v,h):=rfl
theorem EV:gC (some h)=some (.skip,h):=rfl
theorem gQ(k:IntKind):kL k k=true:=by rw [jf];simp
theorem b_add{t:TypeId}{k:IntKind}{n:Int}:ce E .add t x y (.int k m) (.int k n)=some (.int k (am k (m+n))):=by simp [ce,gQ,jj]
theorem b_sub{t:TypeId}{k:IntKind}{n:Int}:ce E .sub t x y (.int k m) (.int k n)=some (.int k (am k (m-n))):=by simp [ce,gQ,jj]
theorem b_mul{t:TypeId}{k:IntKind}{n:Int}:ce E .mul t x y (.int k m) (.int k n)=some (.int k (am k (m*n))):=by simp [ce,gQ,jj]
theorem px(m n:Int):jh m n=decide (m=n):=by rw [je];by_cases h:m=n<;>simp [h]
theorem b_eql{t:TypeId}{k:IntKind}{n:Int}:ce E .eql t x y (.int k m) (.int k n)=some (.bool (decide (m=n))):=by simp [ce,gQ,jj,px]
theorem b_neq{t:TypeId}{k:IntKind}{n:Int}:ce E .neq t x y (.int k m) (.int k n)=some (.bool (!decide (m=n))):=by simp [ce,gQ,jj,px]
theorem b_lss{t:TypeId}{k:IntKind}{n:Int}:ce E .lss t x y (.int k m) (.int k n)=some (.bool (decide (m<n))):=by simp [ce,gQ,jj,ju]
theorem b_leq{t:TypeId}{k:IntKind}{n:Int}:ce E .leq t x y (.int k m) (.int k n)=some (.bool (decide (m<=n))):=by
 simp only [ce,gQ,jj,ju,cond_true];by_cases a:m<=n
 . rw [decide_eq_true a,decide_eq_false (by omega)];rfl
 . rw [decide_eq_false a,decide_eq_true (by omega)];rfl
theorem b_gtr{t:TypeId}{k:IntKind}{n:Int}:ce E .gtr t x y (.int k m) (.int k n)=some (.bool (decide (n<m))):=by simp [ce,gQ,jj,ju]
theorem b_geq{t:TypeId}{k:IntKind}{n:Int}:ce E .geq t x y (.int k m) (.int k n)=some (.bool (decide (n<=m))):=by
 simp only [ce,gQ,jj,ju,cond_true];by_cases a:n<=m
 . rw [decide_eq_true a,decide_eq_false (by omega)];rfl
 . rw [decide_eq_false a,decide_eq_true (by omega)];rfl
theorem mV{t:TypeId}{k:IntKind}{n:Int}(h:n≠0):ce E .quo t x y (.int k m) (.int k n)=some (.int k (am k (m.tdiv n))):=by simp [ce,gQ,jj,px,h]
theorem j8{t:TypeId}{k:IntKind}{n:Int}(h:n≠0):ce E .rem t x y (.int k m) (.int k n)=some (.int k (m.tmod n)):=by simp [ce,gQ,jj,px,h]
theorem mm_max{k:IntKind}{a b:Int}:iR true (.int k a) [.int k' b]=some (.int k (max a b)):=by
 simp only [iR,ju,cond_true];by_cases h:a<b
 . rw [decide_eq_true h];simp only [cond_true];rw [Int.max_eq_right (by omega)]
 . rw [decide_eq_false h];simp only [cond_false];rw [Int.max_eq_left (by omega)]
theorem mm_min{k:IntKind}{a b:Int}:iR false (.int k a) [.int k' b]=some (.int k (min a b)):=by
 simp only [iR,ju,cond_false];by_cases h:b<a
 . rw [decide_eq_true h];simp only [cond_true];rw [Int.min_eq_right (by omega)]
 . rw [decide_eq_false h];simp only [cond_false];rw [Int.min_eq_left (by omega)]
theorem uT{t:TypeId}{b o:Nat}(a:E.agg t=some false)(c:h.load b o 1=some [v]):gw E h t (.pointer (some ⟨b,o,s⟩))=some v:=by simp [gw,a,c]
theorem wrap64{n:Int}(a: -9223372036854775808<=n)(b:n<9223372036854775808):am .i64 n=n:=by
 unfold am;cases n with
 | ofNat m=>have:XP m (hf .i64)=true:=(by rw [Yb];simp only [hf];have c:(m:Int)<9223372036854775808:=b;omega);simp only [this,cond_true]| negSucc m=>have:XP m (hf .i64)=true:=(by rw [Yb];simp only [hf];have: -9223372036854775808<=Int.negSucc m:=a;omega);simp only [sgn,this,cond_true]
theorem xw{c:Type}{a:c}{P:c->Prop}:(∃b,some a=some b/\P b)↔P a:=⟨fun⟨b,d,e⟩=>by cases d;exact e,fun h=>⟨a,rfl,h⟩⟩
theorem Et{a:Bool}{P:Bool->Prop}:(∃t,Value.bool a=Value.bool t/\P t)↔P a:=⟨fun⟨b,c,d⟩=>by cases c;exact d,fun h=>⟨a,rfl,h⟩⟩
theorem cK:cL (v::l) 0=v:=rfl
theorem dE:cL (v::l) (i+1)=cL l i:=rfl
section
variable{l:Loc}
theorem c_int{k:IntKind}{n:Int}:l.ev (.const (.int k n))=.int k n:=rfl
theorem c_bool{b:Bool}:l.ev (.const (.bool b))=.bool b:=rfl
theorem c_string{s:ByteArray}:l.ev (.const (.string s))=.string s:=rfl
theorem c_nilp:l.ev (.const (.pointer none))=.pointer none:=rfl
theorem c_nils:l.ev (.const (.slice none 0 0))=.slice none 0 0:=rfl
theorem c_nilm:l.ev (.const (.map none))=.map none:=rfl
theorem c_nilf:l.ev (.const .nilFunc)=.nilFunc:=rfl
theorem c_nili:l.ev (.const .nilIface)=.nilIface:=rfl
end
def one1:Option (List Value)->Option Value
 |some [v]=>some v|_=>none
theorem one1_some:one1 (some [v])=some v:=rfl
theorem EF{t:TypeId}{b o:Nat}(a:E.agg t=some false):gw E h t (.pointer (some ⟨b,o,s⟩))=one1 (h.load b o 1):=by simp only [gw,a];unfold one1;rfl
def gv(a:Bool):Option Value->Option Bool
 |some (.bool b)=>some (bif b then a else !a)
 |some (.tuple _)=>some false|_=>none
noncomputable def gj(a:Bool)(b:Tr Value):Option Oper->Option Bool
 |none=>some false| some o=>match o.dst with
   |none=>some false|some d=>gv a (b.get d)
theorem FH{c:Tr Value}{d:Option Tmp}{t:TypeId}{p:String}{e:Array Edge}{b:Bool}:cU a c ⟨d,op,t,p,e,some (j,b)⟩=gj b c (a[j]?):=by
 simp only [cU,gj];cases a[j]? with
 |none=>rfl| some o=>
   simp only [];cases o.dst with
   |none=>rfl| some d=>
     simp only [gv];cases c.get d with
     |none=>rfl|some v=>cases v<;>rfl
theorem gj_some{a:Bool}{b:Tr Value}{d:Tmp}{t:TypeId}{p:String}{c:Array Edge}{g:Option (Nat×Bool)}:gj a b (some ⟨some d,op,t,p,c,g⟩)=gv a (b.get d):=rfl
theorem gv_true{b:Bool}:gv true (some (.bool b))=some b:=by cases b<;>rfl
theorem gv_false{b:Bool}:gv false (some (.bool b))=some (!b):=by cases b<;>rfl
theorem gv_tuple{a:Bool}{x:Array Value}:gv a (some (.tuple x))=some false:=rfl
theorem u_not{b:Bool}:unP .not (.bool b)=some (.bool (!b)):=rfl
theorem target_fn{a b:Array Value}:target (.func (.func g) a b) args=some (.call g (a.toList++args++b.toList)):=rfl
theorem n_new{x:Blk}:(h.new x).n=h.n+1:=rfl
def aQ(E:Env)(f:FuncId)(args:List Value)(h:Hp)(v:Value):Prop:=Ret E f args h fun a b=>a=v/\Gr h b
theorem cE{Q:gH}{k:List Fr}{l:Loc}{b:Code}:Run E (lim E) cx Q (.code (.loop b)::k) .normal l h↔Run E (lim E) cx Q (.code b:: .code (.loop b)::k) .normal l h:=by
 rw [<-run_seq];simp only [Run];have:aT E (lim E) cx (.loop b) l h=aT E (lim E) cx (.seq b (.loop b)) l h:=by
  simp only [aT];cases aT E (lim E) cx b l h with
  |none=>rfl| some q=>
    obtain⟨e,a,c⟩:=q;cases e with
    |normal=>show(lim E).code cx (.loop b) a c=_;rw [Am];rfl|exit i=>rfl|ret=>rfl|pan v=>rfl
 rw [this]
def lenK(r:Option (dU×Hp))(h:Hp):Option Value->Option (dU×Hp)
 |some v=>some (.val v,h)|none=>r
theorem o_lenK{t:TypeId}:aop E ρ h (.call ⟨.builtin .len,#[x],#[t]⟩)=lenK (match ρ x with
 | .map (some r)=>match h.get r with
   |some (.map a _)=>match E.und t with
    |some (.map _ _)=>some (.val (.int .i64 (.ofNat a.length)),h)|_=>none
   |_=>none
 |_=>none) h (lenP E t (ρ x)):=by
 simp only [aop,pop];cases lenP E t (ρ x)with
 |some v=>rfl| none=>
   simp only [lenK];cases ρ x<;>rfl
theorem natOf_nn{i:Int}(h:0<=i):jt i=some i.toNat:=by
 cases i with
 |ofNat n=>rfl|negSucc n=>exact absurd h (by simp)
theorem idxP_in{k:IntKind}{i:Int}(h0:0<=i)(a:i<n):i6 (.int k i) n=some i.toNat:=by
 simp only [i6,natOf_nn h0];have:XP i.toNat n=true:=by rw [Yb];omega
 rw [this];rfl
theorem iQ{k:IntKind}(a:i<n):i6 (.int k (i:Int)) n=some i:=by rw [idxP_in (Int.natCast_nonneg i) (by omega)];simp
theorem ia_slice{t e:TypeId}{a:Addr}(b:E.und t=some (.slice e))(d:E.sz e=some k):gD E t (.slice (some a) n c) v=(i6 v n).map fun i=>.pointer (some (iu a (i*k))):=by simp only [gD,b,d];cases i6 v n<;>rfl
theorem ae{l:Loc}{K:Ex->Loc->Hp->Prop}(a:aQ E f args h v)(b: ∀h',Gr h h'->K .normal (l.put o.dst v) h'):ib E cx o l K (some (.call f args,h)):=
 step_ret a fun c h' ⟨e,g⟩=>by rw [e];exact b h' g
theorem Ac(a:aQ E f args h v)(b: ∀h',Gr h h'->K v h'):mD E K (some (.call f args,h)):=
 vS a fun c h' ⟨e,g⟩=>by rw [e];exact b h' g
section
variable(E:Env)(cx:Cx)(Q:gH)
def GStep(a:List Oper)(o:Oper)(os:List Oper)(k:List Fr)(l:Loc)(h:Hp):Option Bool->Prop
 |some true=>ib E cx o l (fun e b c=>Run E (lim E) cx Q (.ops a os::k) e b c) (aop E l.ev h o.op)
 |some false=>Run E (lim E) cx Q (.ops a os::k) .normal (l.put o.dst (.tuple #[])) h|none=>False
def CStep(a b:Code)(k:List Fr)(l:Loc)(h:Hp):Value->Prop
 | .bool true=>Run E (lim E) cx Q (.code a::k) .normal l h| .bool false=>Run E (lim E) cx Q (.code b::k) .normal l h|_=>False
def y9(a:List Oper)(q:Nat)(ps:List (Nat×Nat))(o:Oper)(os:List Oper)(i:Nat)(c:List (Nat×Tch))(k:List Fr)(l:Loc)(h:Hp):Option Bool->Bool->Prop
 |some true,false=>mD E (fun v b=>Run E (lim E) cx Q (.opsD a q ps os (i+1) (gG i c (cH l.ev false o.op h b))::k) .normal (l.put o.dst v) b) (aop E l.ev h o.op)
 |some true,true=>mD E (fun v b=>Xg h.n b.lo=true/\Run E (lim E) cx Q (.opsD a q ps os (i+1) (gG i c (cH l.ev true o.op h h))::k) .normal (l.put o.dst v) {b with lo:=h.lo}) (aop E l.ev {h with lo:=h.n} o.op)
 |some false,_=>Run E (lim E) cx Q (.opsD a q ps os (i+1) c::k) .normal (l.put o.dst (.tuple #[])) h|none,_=>False
end
section
variable{E:Env}{cx:Cx}{Q:gH}{k:List Fr}{l:Loc}{h:Hp}
theorem r_ops:Run E (lim E) cx Q (.ops a (o::os)::k) .normal l h↔GStep E cx Q a o os k l h (cU a l.regs o):=by
 rw [CG];cases cU a l.regs o with
 |none=>exact⟨fun⟨_,e,_⟩=>(by cases e),fun h=>h.elim⟩
 | some b=>
   rw [xw];cases b with
   |true=>rw [if_pos rfl];exact then_step|false=>rw [if_neg (by simp)];exact Xk
theorem g_true:GStep E cx Q a o os k l h (some true)↔ib E cx o l (fun e l' h'=>Run E (lim E) cx Q (.ops a os::k) e l' h') (aop E l.ev h o.op):=Xk
theorem g_false:GStep E cx Q a o os k l h (some false)↔Run E (lim E) cx Q (.ops a os::k) .normal (l.put o.dst (.tuple #[])) h:=Xk
theorem r_cond{c:Operand}{a b:Code}:Run E (lim E) cx Q (.code (.cond c a b)::k) .normal l h↔CStep E cx Q a b k l h (l.ev c):=by
 rw [run_cond];cases l.ev c<;>(try (exact⟨fun⟨_,e,_⟩=>(by cases e),fun h=>h.elim⟩));rename_i t;rw [Et];cases t with
 |true=>rw [if_pos rfl];exact Xk|false=>rw [if_neg (by simp)];exact Xk
theorem c_true{a b:Code}:CStep E cx Q a b k l h (.bool true)↔Run E (lim E) cx Q (.code a::k) .normal l h:=Xk
theorem c_false{a b:Code}:CStep E cx Q a b k l h (.bool false)↔Run E (lim E) cx Q (.code b::k) .normal l h:=Xk
theorem r_opsD{c:List (Nat×Tch)}:Run E (lim E) cx Q (.opsD a q ps (o::os) i c::k) .normal l h↔y9 E cx Q a q ps o os i c k l h (cU a l.regs o) (fZ E q i o.op):=by
 rw [run_opsD];cases cU a l.regs o with
 |none=>exact⟨fun⟨_,e,_⟩=>(by cases e),fun h=>h.elim⟩
 | some b=>
   rw [xw];cases b with
   | true=>
     rw [if_pos rfl];cases fZ E q i o.op with
     |true=>rw [if_pos rfl];exact Xk|false=>rw [if_neg (by simp)];exact Xk
   |false=>rw [if_neg (by simp)];exact Xk
theorem d_skip{c:List (Nat×Tch)}{b:Bool}:y9 E cx Q a q ps o os i c k l h (some false) b↔Run E (lim E) cx Q (.opsD a q ps os (i+1) c::k) .normal (l.put o.dst (.tuple #[])) h:=Xk
theorem jD{a:List (Nat×Tch)}:gG i a none=a:=rfl
theorem aJ{b:Tch}{a:List (Nat×Tch)}:gG i a (some b)=(i,b)::a:=rfl
theorem aO{a:List (Nat×Tch)}:c8 a []=true:=rfl
theorem guard_no{b:Tr Value}{d:Option Tmp}{t:TypeId}{p:String}{c:Array Edge}:cU a b ⟨d,op,t,p,c,none⟩=some true:=rfl
end
theorem b_eqlB{t:TypeId}{a b:Bool}(c:E.und t=some .bool):ce E .eql t x y (.bool a) (.bool b)=some (.bool (bif a then b else !b)):=by simp [ce,iB,fK,c]
theorem b_neqB{t:TypeId}{a b:Bool}(c:E.und t=some .bool):ce E .neq t x y (.bool a) (.bool b)=some (.bool (!(bif a then b else !b))):=by simp [ce,iB,fK,c]
theorem same_bool{d:Bool}:(bif d then d else !d)=true:=by cases d<;>rfl
noncomputable def boxR(h:Hp)(t:TypeId):Value->Option (dU×Hp)
 | .chan _=>none|v=>some (.val (ptrTo h.n),h.new (.cells (Tr.ofList (ac v)) (ac v).length t 1))
theorem o_boxR{t:TypeId}:aop E ρ h (.box t x)=boxR h t (ρ x):=by simp only [aop];cases ρ x<;>rfl
noncomputable def allocR(h:Hp)(t:TypeId):Option (List Value)->Option (dU×Hp)
 |none=>none|some z=>some (.val (ptrTo h.n),h.new (.cells (Tr.ofList z) z.length t 1))
theorem o_allocR{t:TypeId}:aop E ρ h (.alloc t)=allocR h t (E.zero t):=by simp only [aop];cases E.zero t<;>rfl
section
variable{E:Env}{cx:Cx}{o:Oper}{l:Loc}{K:Ex->Loc->Hp->Prop}{h:Hp}
theorem av{ops:List Oper}(h:((ops.any vJ||uL ops)&&ops.all (jx ops.length))=false):bV ops=ops:=by unfold bV;rw [h];rfl
theorem ao{Q:gH}{k:List Fr}{id:Nat}(b:bV ops.toList=os)(c:kH E os=some (q,ps))(d:Run E (lim E) cx Q (.opsD os q ps os 0 []::k) .normal l h)(a:E.cut cx.fn=false:=by rfl):Run E (lim E) cx Q (.code (.region id ops true)::k) .normal l h:=(run_draw a b c).2 d
theorem fork_step{Q:gH}{k:List Fr}{id:Nat}(b:bV ops.toList=os)(c:rX E os (oW os)=some t)(d:w7 E os=some (q,ps))(e:Run E (lim E) cx Q (.opsD os q ps os 0 []:: .kill t::k) .normal l h)(a:E.cut cx.fn=true:=by rfl):Run E (lim E) cx Q (.code (.region id ops true)::k) .normal l h:=run_fork a b c d e
theorem FE{Q:gH}{k:List Fr}{id:Nat}(b:lG ops.toList (ops.toList.length-1)=true)(c:cutN ops.toList=n)(d:bV (ops.toList.take n)=os)(e:kH E os=some (q,ps))(f:Run E (lim E) cx Q (.opsD os q ps os 0 []:: .ops ops.toList (ops.toList.drop n)::k) .normal l h)(a:E.cut cx.fn=true:=by rfl)(hf:rI E ops.toList=false:=by rfl):Run E (lim E) cx Q (.code (.region id ops true)::k) .normal l h:=run_split a b hf c d e f
end
theorem Dz(g:Gr {h with lo:=h.n} h'):Xg h.n h'.lo=true:=g.hlo
theorem gr_lo(g:Gr {h with lo:=h.n} h'):Gr h {h' with lo:=h.lo}:=
 ⟨g.ok0,g.ok,g.n,g.get,fun _ _ h=>h⟩
theorem hush_s:fZ E q i op=(decide (q/2 ^i%2=1)&&decide (3<=cls E op)):=by unfold fZ;rw [Nat.testBit_eq_decide_div_mod_eq,fQ]
theorem DS(a:aQ E f args {h with lo:=h.n} v)(b: ∀h',Gr h h'->K v h'):mD E (fun v h'=>Xg h.n h'.lo=true/\K v {h' with lo:=h.lo}) (some (.call f args,{h with lo:=h.n})):=
 Ac a fun h' g=>⟨Dz g,b _ (gr_lo g)⟩
section
variable(E:Env)(cx:Cx)(Q:gH)(a:List Oper)(q:Nat)(ps:List (Nat×Nat))(o:Oper)(os:List Oper)(i:Nat)(k:List Fr)(l:Loc)
def DN(c:Hp->List (Nat×Tch))(x:Option (dU×Hp)):Prop:=mD E (fun v b=>Run E (lim E) cx Q (.opsD a q ps os (i+1) (c b)::k) .normal (l.put o.dst v) b) x
def DQ(h:Hp)(c:List (Nat×Tch))(x:Option (dU×Hp)):Prop:=mD E (fun v b=>Xg h.n b.lo=true/\Run E (lim E) cx Q (.opsD a q ps os (i+1) c::k) .normal (l.put o.dst v) {b with lo:=h.lo}) x
end
section
variable{E:Env}{cx:Cx}{Q:gH}{a:List Oper}{q:Nat}{ps:List (Nat×Nat)}{o:Oper}{os:List Oper}{i:Nat}{k:List Fr}{l:Loc}{h:Hp}{tr:List (Nat×Tch)}{tf:Hp->List (Nat×Tch)}
theorem dn_loud:y9 E cx Q a q ps o os i tr k l h (some true) false↔DN E cx Q a q ps o os i k l (fun h'=>gG i tr (cH l.ev false o.op h h')) (aop E l.ev h o.op):=Xk
theorem dn_quiet:y9 E cx Q a q ps o os i tr k l h (some true) true↔DQ E cx Q a q ps o os i k l h (gG i tr (cH l.ev true o.op h h)) (aop E l.ev {h with lo:=h.n} o.op):=Xk
theorem dn_val:DN E cx Q a q ps o os i k l tf (some (.val v,h'))↔Run E (lim E) cx Q (.opsD a q ps os (i+1) (tf h')::k) .normal (l.put o.dst v) h':=Xk
theorem dn_skip:DN E cx Q a q ps o os i k l tf (some (.skip,h'))↔Run E (lim E) cx Q (.opsD a q ps os (i+1) (tf h')::k) .normal (l.put o.dst (.tuple #[])) h':=Xk
theorem bO{P:Value->Hp->Prop}(b:Ret E f args h P)(c: ∀v h',P v h'->Run E (lim E) cx Q (.opsD a q ps os (i+1) (tf h')::k) .normal (l.put o.dst v) h'):DN E cx Q a q ps o os i k l tf (some (.call f args,h)):=vS b c
theorem bj(b:aQ E f args h v)(c: ∀h',Gr h h'->Run E (lim E) cx Q (.opsD a q ps os (i+1) (tf h')::k) .normal (l.put o.dst v) h'):DN E cx Q a q ps o os i k l tf (some (.call f args,h)):=Ac b c
theorem rf(b:aQ E f args {h with lo:=h.n} v)(c: ∀h',Gr h h'->Run E (lim E) cx Q (.opsD a q ps os (i+1) tr::k) .normal (l.put o.dst v) h'):DQ E cx Q a q ps o os i k l h tr (some (.call f args,{h with lo:=h.n})):=DS b c
theorem dq_ret{P:Value->Hp->Prop}(b:Ret E f args {h with lo:=h.n} fun v h'=>Gr {h with lo:=h.n} h'/\P v {h' with lo:=h.lo})(c: ∀v h',Gr h h'->P v h'->Run E (lim E) cx Q (.opsD a q ps os (i+1) tr::k) .normal (l.put o.dst v) h'):DQ E cx Q a q ps o os i k l h tr (some (.call f args,{h with lo:=h.n})):=
 vS b fun v h' ⟨g,p⟩=>⟨Dz g,c v _ (gr_lo g) p⟩
end
theorem ah{b:Nat}:ptrTo b=.pointer (some ⟨b,0,none⟩):=rfl
section
open Go.ChangeShapes Go.WideShapes Go.RowKit
theorem len2{c:Type}{l:List c}(h:l.length=2): ∃a b,l=[a,b]:=by
 match l,h with
 | [a,b],_=>exact⟨a,b,rfl⟩
section
variable{H:Type}{enc:TypeId×Value->H}{P:Program}
theorem uE(f:laidOutB P=true){W g:World}(i:Below W.heap.size W g): ∀{ts:List TypeId} {vs:List Value} {c:List (DataW H)} {ps:List MemPlace},(ts.all fun t=>P.readableRec t&&decide (t<P.types.size))=true->
 DataW.TrodAll enc P W 0 (fun _=>true) true ts vs c ps->(∀x∈ps,x.block<W.heap.size)->DataW.TrodAll enc P g 0 (fun b=>decide (b<W.heap.size)) true ts vs c ps
 | [],vs,c,ps,_,h,_=>by
   obtain⟨rfl,rfl,rfl⟩:=trodAll_nil h;exact rfl
 | t::ts,vs,c,ps,a,h,hlt=>by obtain⟨v,j,d,k,p,q,rfl,rfl,rfl,l,m⟩:=trodAll_cons h;simp only [List.all_cons,Xb,decide_eq_true_eq]at a;exact⟨p,q,Below.trod f a.1.1 a.1.2 l i (fun x e=>hlt x (by simp [e])),uE f i a.2 m (fun x e=>hlt x (by simp [e])),rfl⟩
theorem BO{f:Func}{s:ChangeSpec}{a b:Bool}{u:World}{args:Array Value}{g:List (DataW H)}{c:List MemPlace}{bt:TypeId}(y:laidOutB P=true)(k:(f.params.toList.all fun t=>P.readableRec t&&decide (t<P.types.size))=true)(v:s.vars=[])(l:DataW.Whole enc P f.params.toList s.vars a W args.toList g [] c)(d:s.fn H (g++[])={results:=[.lit (.bool true)],args:=g})(j:Below W.heap.size W u)(m:P.underlying bt=some .bool)(n:f.resultTypes=#[bt]):s.post enc P f a true b false W args (.bool true) u:=by
 have hlt:=l.lt;have o:=l;obtain⟨p,q,z,w,rfl,C,D⟩:=l;rw [v]at w;obtain⟨_,rfl⟩:=trodVars_none w;refine⟨g,[],_,[],p,[],o,?_,?_,?_,⟨j.os,j.output,fun i A=>?_⟩,fun h=>by cases h⟩
 . rw [d,n];exact trodAll_cons_mk (shut_bool m _) trodAll_mk0
 . rw [d];exact uE y j k z (fun x B=>hlt x (by simpa using B))
 . rw [d,v];rfl
 . rw [j.block i A]
   split
   . rename_i r e;rw [r]at e;cases e;exact⟨rfl,rfl,rfl,fun _ _=>rfl⟩
   . rename_i r e;rw [r]at e;cases e;exact .inr ⟨rfl,rfl⟩
   . rfl
end
end
section
open Go.ChangeShapes Go.WideShapes Go.RowKit
noncomputable section
def mi(n:Nat):Value->Value
 | .bool b=>.bool b| .int k i=>.int k i| .string s=>.string s| .pointer none=>.pointer none| .pointer (some a)=>if a.spot=none/\a.block<n then .pointer (some ⟨a.block+16,a.off,none⟩)else poison
 | .slice none 0 0=>.slice none 0 0| .slice (some a) c d=>if c<=d then(if a.spot=none/\a.block<n then .slice (some ⟨a.block+16,a.off,none⟩) c d else .slice (some ⟨0,0,none⟩) c d)else poison
 |_=>poison
def absA(n:Nat):Value->Value
 | .agg a=>.agg ⟨a.toList.map (mi n)⟩|v=>mi n v
def absO(n:Nat):Obj->Blk
 | .cells a _ _=>.cells (Tr.ofList (a.toList.map (mi n))) (a.toList.map (mi n)).length 0 0|_=>.dead
def hpW(W:World):Hp:={n:=16+W.heap.size,t:=Tr.ofList (XI 16 .dead++W.heap.toList.map (absO W.heap.size)),lo:=16+W.heap.size}
def muW(W:World):Mu:=fun b=>if b<16 then .dead else match W.heap[b-16]? with
 |some (.cells a _ _)=>.blk (b-16) 0 a.size|some _=>.dead|none=>.none
theorem hpW_ok(W:World):(hpW W).t.Sized (hpW W).n:=by
 have h:=Tr.sized_ofList (XI 16 Blk.dead++W.heap.toList.map (absO W.heap.size));have a:(XI 16 Blk.dead++W.heap.toList.map (absO W.heap.size)).length=16+W.heap.size:=by grind
 rw [a]at h;exact h
theorem hpW_dead(W:World){b:Nat}(h:b<16):(hpW W).get b=some .dead:=by show(Tr.ofList _).get b=_;rw [Tr.get_ofList,XM (by simpa using h),Yg,if_pos h]
theorem we(W:World)(c:Nat):(hpW W).get (c+16)=(W.heap[c]?).map (absO W.heap.size):=by show(Tr.ofList _).get (c+16)=_;rw [Tr.get_ofList,Xy (by simp)];simp
theorem qD(W:World)(c:Nat):muW W (c+16)=match W.heap[c]? with
 |some (.cells cs _ _)=>.blk c 0 cs.size|some _=>.dead|none=>.none:=by
 rfl
theorem arel_W{a:Addr}(h:a.spot=none/\a.block<W.heap.size):gu (muW W) ⟨a.block+16,a.off,none⟩ a:=by obtain⟨b,o,s⟩:=a;grind[gu,qD,zO]
theorem vrel_V(W:World)(v:Value):aC (muW W) (mi W.heap.size v) v:=by
 cases v<;>(try exact .poison _)
 . exact .bool _
 . exact .int _ _
 . exact .string _
 . rename_i a;cases a with
   |none=>exact .nilp| some a=>
     simp only [mi]
     split
     . exact .ptr (arel_W ‹_›)
     . exact .poison _
 . rename_i a d e;cases a with
   | none=>
     cases d with
     | zero=>cases e with
       |zero=>exact .nils|succ n=>exact .poison _
     |succ n=>exact .poison _
   | some a=>
     simp only [mi]
     split
     . rename_i c
       split
       . rename_i h;refine .slice c ?_;have:=arel_W h;obtain⟨b,o,s⟩:=a;grind[fm,qD,zO]
       . refine .slice c ?_;simp_all[fm,muW,Xf]
     . exact .poison _
theorem vrel_A(W:World)(v:Value):aC (muW W) (absA W.heap.size v) v:=by
 cases v
 case agg b=>
  refine .agg (by simp) fun i x c a d=>?_;simp only [XG,XT]at a;obtain⟨y,e,rfl⟩:=a;grind[vrel_V]
 all_goals (unfold absA;exact vrel_V W _)
theorem hrelW(W:World):aZ (muW W) (hpW W) W:=by
 refine⟨hpW_ok W,fun b c a e d=>?_,fun b d=>?_,fun b t c a e f l u w=>?_,fun b d=>?_⟩
 . have x:16<=b:=by
    rcases Xr b 16 with h|h
    . simp_all[muW,if_pos]
    . exact h
   obtain⟨k,rfl⟩: ∃k,b=k+16:=⟨b-16,by omega⟩;rw [qD]at d
   split at d
   next m n p q=>
    cases d;refine⟨absO W.heap.size (.cells m n p),_,by rw [we,q];rfl,q,m,n,p,rfl,rfl,by simp,Tr.sized_ofList _,fun i v g=>?_,fun h=>absurd rfl h⟩;rw [Tr.get_ofList]at g;simp only [XG,XT]at g;obtain⟨y,z,rfl⟩:=g;grind[vrel_V]
   next=>cases d
   next=>cases d
 . rcases Xr b 16 with h|h
   . exact hpW_dead W h
   . obtain⟨k,rfl⟩: ∃k,b=k+16:=⟨b-16,by omega⟩;rw [qD]at d
     split at d
     next=>cases d
     next o r j=>
      rw [we,j];cases o<;>first|rfl|grind
     next=>cases d
 . have s: ∀b c a e,muW W b=.blk c a e->b=c+16:=by
    intro b c a e d;rcases Xr b 16 with h|h
    . simp_all[muW,if_pos]
    . obtain⟨k,rfl⟩: ∃k,b=k+16:=⟨b-16,by omega⟩;grind[qD]
   grind
 . show b<16+W.heap.size;rcases Xr b 16 with h|h
   . omega
   . obtain⟨k,rfl⟩: ∃k,b=k+16:=⟨b-16,by omega⟩;rw [qD]at d;grind
theorem globW(W:World):oe (muW W):=by intro g a;simp_all[gu,muW,if_pos]
theorem belowW{f:Mu}(e:Ext (muW W) (hpW W) W f h' w'):Below W.heap.size W w':=by
 refine⟨e.os,e.tape,e.output,e.wsize,fun c i=>?_⟩;cases m:W.heap[c]with
 | cells g n o=>have j:W.heap[c]? =some (.cells g n o):=(by grind);have p:muW W (c+16)=.blk c 0 g.size:=(by rw [qD,j]);exact(e.ro (c+16) c 0 g.size _ _ 0 p (by rw [we,j];rfl)).1| _ =>
   refine e.frame c i fun b l q a=>?_;rcases Xr b 16 with h|h
   . unfold muW at a;rw [if_pos h]at a;cases a
   . obtain⟨k,rfl⟩: ∃k,b=k+16:=⟨b-16,by omega⟩;rw [qD]at a
     split at a
     next r s t d=>
      cases a;rw [zO i,m]at d;cases d
     next=>cases a
     next=>cases a
theorem calls_W(d:EOk E P){args:Array Value}(h:aQ E f (args.toList.map (absA W.heap.size)) (hpW W) (.bool true)):Calls P f args W fun e w'=>e=.returned (.bool true)/\Below W.heap.size W w':=by
 obtain⟨v,A,j,rfl,g⟩:=h;intro k;obtain⟨_,a⟩:=lim_ok d _ _ _ _ _ _ _ j;have l:VL (muW W) (args.toList.map (absA W.heap.size)) args.toList:=by refine⟨by simp,fun i x B a C=>?_⟩;simp only [XG,XT]at a;obtain⟨y,D,rfl⟩:=a;grind[vrel_A]
 obtain⟨m,w',c,n,F,o,G,p,q,r,s⟩:=a (muW W) W args none k .normal (hrelW W) (globW W) l trivial (.inl rfl);have:=p.normal;subst this;obtain⟨H,b,t⟩:=r;cases t;obtain⟨u,w,z⟩:=b.res;exact⟨.returned (.bool true),w',n,⟨rfl,belowW o⟩,q,s,b.mode,b.defers,b.kind,u,w,z⟩
theorem load_W{a:Addr}(c:a.spot=none)(h:W.cell? (a.add i)=some v):(hpW W).load (a.block+16) (a.off+i) 1=some [mi W.heap.size v]:=by
 obtain⟨b,o,s⟩:=a;simp only []at c;subst c;have d:(Addr.mk b o none).add i=⟨b,o+i,none⟩:=by grind[Addr.add]
 rw [d]at h;unfold World.cell? at h;simp only []at h
 split at h
 next e k l f=>
  have g:Row (hpW W) (b+16) (e.toList.map (mi W.heap.size)) 0:=⟨_,_,by rw [we,f];rfl,Tr.sized_ofList _,fun j=>Tr.get_ofList _ j⟩;refine g.load1 ?_;grind
 grind
end
end
def argEq:Value->Value->Bool
 | .int k a,.int c b=>kL k c&&jh a b| .bool a,.bool b=>bif a then b else !b
 | .string s,.string u=>jd (aS s) (aS u)|_,_=>false
def rP:List Value->List Value->Bool
 | [],[]=>true|a::l,b::m=>argEq a b&&rP l m|_,_=>false
def orcOf:List (Nat×List Value×Value)->Nat->List Value->Option Value
 | [],_,_=>none|(f,as,v)::l,g,a=>bif Xi f g&&rP as a then some v else orcOf l g a
theorem Ds{a b:Value}(h:argEq a b=true):a=b:=by
 unfold argEq at h
 split at h
 . rename_i k m c n;simp only [Xb]at h;have d:k=c:=(by simpa [jf]using h.1);have e:m=n:=(by simpa [je]using h.2);rw [d,e]
 . rename_i a b;cases a<;>cases b<;>first|rfl|cases h
 . rename_i s u;have this:s.data.toList=u.data.toList:=(by have:=h;rw [lg]at this;simpa [aS]using this);cases s with|mk a=>cases u with|mk b=>rw [show a=b from Array.ext' this]
 . cases h
theorem AQ: ∀{a b:List Value},rP a b=true->a=b
 | [],[],_=>rfl| [],_::_,h=>by simp [rP]at h|_::_,[],h=>by simp [rP]at h| a::x,b::y,h=>by simp only [rP,Xb]at h;rw [AQ h.2,Ds h.1]
theorem AX{P:Nat->List Value->Value->Prop}: ∀{l:List (Nat×List Value×Value)},(∀e∈l,P e.1 e.2.1 e.2.2)-> ∀{g:Nat} {args:List Value} {v:Value},orcOf l g args=some v->P g args v
 | [],_,g,args,v,h=>by cases h
 | (f,as,x)::l,b,g,args,v,h=>by
   simp only [orcOf]at h;cases a:Xi f g&&rP as args with
   | true=>
     rw [a]at h;cases h;simp only [Xb]at a;have c:=Xa a.1;have d:=AQ a.2;subst c;subst d;exact b _ (Xt)
   | false=>
     rw [a]at h;exact AX (fun e i=>b e (Xn _ i)) h
def isVal(v:Value)(r:Option (Out×Option (Value×Bool)×Hp)):Bool:=match r with
 |some (.ret u,none,_)=>argEq u v|_=>false
theorem isVal_ret{r:Option (Out×Option (Value×Bool)×Hp)}(h:isVal v r=true): ∃h',r=some (.ret v,none,h'):=by
 unfold isVal at h
 split at h
 . rw [Ds h];exact⟨_,rfl⟩
 . cases h
def Known(E:Env)(P:Program)(e:Nat×List Value×Value):Prop:=(∃a,E.fn e.1=some a/\a.body.isSome=true)/\OrcAt P e.1 e.2.1 e.2.2
theorem known_of(c:EOk E P){f:Nat}(b:(args.all dA&&dA v)=true)(a:isVal v ((runK E n).call f args none hp0)=true):Known E P (f,args,v):=by simp only [Xb]at b;obtain⟨d,a⟩:=isVal_ret a;rw [runK_call]at a;exact EQ c b.1 b.2 a
theorem eok_table(b:EOk E P){l:List (Nat×List Value×Value)}(c: ∀e∈l,Known E P e):EOk (Ay E (orcOf l)) P:=
 eok_with b fun _ _ _ h=>AX (P:=fun g a v=>Known E P (g,a,v)) c h
inductive Ob where
 |row (l:List Value) (md:Nat)
 |map (es:List (Value×Value×Nat)) (c:Nat)
 |loop (x:fF)
 |dfr
variable{L:List (Nat×Ob)}
def Has(h:Hp)(b:Nat):Ob->Prop
 | .row l a=>Row h b l a| .map d c=>h.get b=some (.map d c)| .loop x=>h.get b=some (.loop x)| .dfr=>h.get b=some .dfr
theorem Row.of_get{b:Nat}(e:h'.get b=h.get b)(k:Row h b l md):Row h' b l md:=by obtain⟨t,f,a,c,d⟩:=k;exact⟨t,f,by rw [e];exact a,c,d⟩
theorem Has.of_get{h h':Hp}{b:Nat}{o:Ob}(e:h'.get b=h.get b)(k:Has h b o):Has h' b o:=by
 cases o with
 |row l a=>exact Row.of_get e k|map d c=>exact e.trans k|loop x=>exact e.trans k|dfr=>exact e.trans k
theorem Has.lt{h:Hp}(a:OZ h){b:Nat}{o:Ob}(k:Has h b o):b<h.n:=by
 cases o with
 |row l d=>exact Row.lt a k|map e c=>exact iG a k|loop x=>exact iG a k|dfr=>exact iG a k
structure Mo(M:Nat->Prop)(h h':Hp):Prop where
 ok0:OZ h
 ok:OZ h'
 n:h.n<=h'.n
 get: ∀b,b<h.n-> ¬M b->h'.get b=h.get b
 lo: ∀x,x<=h.n->x<=h.lo->(∀b,M b->x<=b)->x<=h'.lo
abbrev NoM:Nat->Prop:=fun _=>False
theorem Gr.fr(g:Gr h h'):Mo M h h':=⟨g.ok0,g.ok,g.n,fun b a _=>g.get b a,fun x c d _=>g.lo x c d⟩
theorem Mo.gr(g:Mo NoM h h'):Gr h h':=⟨g.ok0,g.ok,g.n,fun b a=>g.get b a (fun x=>x),fun x c d=>g.lo x c d (fun _ h=>h.elim)⟩
theorem Mo.refl{M:Nat->Prop}{h:Hp}(a:OZ h):Mo M h h:=(Gr.refl a).fr
theorem Mo.trans{M M':Nat->Prop}{a b c:Hp}(x:Mo M a b)(y:Mo M' b c)(e: ∀i,M' i->M i\/a.n<=i):Mo M a c:=
 ⟨x.ok0,y.ok,Xm x.n y.n,fun i f g=>(y.get i (Xh f x.n) (fun d=>(e i d).elim g (fun h=>by omega))).trans (x.get i f g),
  fun i k m l=>y.lo i (Xm k x.n) (x.lo i k m l) fun j n=>(e j n).elim (l j) (fun h=>by omega)⟩
theorem Mo.mono{a b:Hp}(x:Mo M a b)(c: ∀i,M i->M' i):Mo M' a b:=
 ⟨x.ok0,x.ok,x.n,fun i d e=>x.get i d (fun h=>e (c i h)),fun i f g k=>x.lo i f g fun j l=>k j (c j l)⟩
theorem Mo.new{M:Nat->Prop}{a h:Hp}(g:Mo M a h)(x:Blk):Mo M a (h.new x):=g.trans (M':=NoM) (Gr.new g.ok x).fr (fun _ h=>h.elim)
theorem Mo.put{M:Nat->Prop}{a h:Hp}(g:Mo M a h){b:Nat}(f:a.n<=b\/M b)(x:Blk):Mo M a (h.put b x):=by refine g.trans (M':=fun i=>i=b) ⟨g.ok,put_ok g.ok b x,Xf _,fun i j c=>dB (fun e=>c e.symm),fun i k l d=>?_⟩ (fun i h=>by grind);show i<=dV b h.lo;have:=d b rfl;grind[dV,Xg]
theorem Mo.has{a:Hp}(g:Mo M a h){b:Nat}{o:Ob}(k:Has a b o)(c: ¬M b):Has h b o:=Has.of_get (g.get b (k.lt g.ok0) c) k
abbrev GL:=Value×Nat×List Value
variable{G:List GL}
def eH:GL->Option Nat
 |(.slice (some a) _ _,_,_)=>some a.block|_=>none
def ij(h:Hp)(p:GL):Prop:=(p.1=.slice none 0 0/\p.2.2=[])\/ ∃b n,p.1=.slice (some ⟨b,0,some p.2.1⟩) n n/\n*p.2.1=p.2.2.length/\Row h b p.2.2 1
def keys(L:List (Nat×Ob))(G:List GL):List Nat:=L.map XO++G.filterMap eH
structure St(M:Nat->Prop)(h0 h:Hp)(L:List (Nat×Ob))(G:List GL):Prop where
 fr:Mo M h0 h
 own: ∀p∈L,(h0.n<=p.1\/M p.1)/\Has h p.1 p.2
 gown: ∀p∈G,ij h p/\ ∀b,eH p=some b->h0.n<=b\/M b
 apart:(keys L G).Nodup
section
variable{M:Nat->Prop}{h0 h:Hp}{L:List (Nat×Ob)}{G:List GL}
theorem ij.of_get{h':Hp}{p:GL}(k:ij h p)(e: ∀b,eH p=some b->h'.get b=h.get b):ij h' p:=by
 rcases k with k|⟨b,n,a,c,d⟩
 . exact .inl k
 . refine .inr ⟨b,n,a,c,Row.of_get (e b ?_) d⟩;obtain⟨v,k,f⟩:=p;simp only []at a;subst a;rfl
theorem ij.lt(d:OZ h){p:GL}(k:ij h p){b:Nat}(c:eH p=some b):b<h.n:=by
 rcases k with k|⟨j,n,a,e,f⟩
 . obtain⟨v,g,i⟩:=p;obtain⟨a,e⟩:=k;simp only []at a;subst a;cases c
 . obtain⟨v,g,i⟩:=p;simp only []at a;subst a;cases c;exact Row.lt d f
theorem i9{p:Nat×Ob}(a:p∈L):p.1∈keys L G:=List.mem_append_left _ (X7 a)
theorem fJ{p:GL}{b:Nat}(a:p∈G)(c:eH p=some b):b∈keys L G:=List.mem_append_right _ (List.mem_filterMap.2 ⟨p,a,c⟩)
theorem St.key_lt(S:St M h0 h L G){b:Nat}(a:b∈keys L G):b<h.n:=by
 unfold keys at a;rcases List.mem_append.1 a with a|a
 . obtain⟨p,c,rfl⟩:=List.mem_map.1 a;exact(S.own p c).2.lt S.fr.ok
 . obtain⟨p,c,d⟩:=List.mem_filterMap.1 a;exact(S.gown p c).1.lt S.fr.ok d
theorem St.init(a:OZ h):St M h h [] []:=⟨Mo.refl a,fun _ h=>(by cases h),fun _ h=>(by cases h),.nil⟩
theorem St.ok(S:St M h0 h L G):OZ h:=S.fr.ok
theorem St.gr(S:St NoM h0 h L G):Gr h0 h:=S.fr.gr
theorem St.push(S:St M h0 h L G){b:Nat}{o:Ob}(d:h0.n<=b\/M b)(e:Has h b o)(c:b∉keys L G):St M h0 h ((b,o)::L) G:=
 ⟨S.fr,fun p a=>by
  rcases List.mem_cons.1 a with rfl|a
  . grind
  . exact S.own p a,S.gown,List.nodup_cons.2 ⟨c,S.apart⟩⟩
theorem St.step(S:St M h0 h L G)(f:Mo M' h h')(e: ∀b,M' b->M b\/h0.n<=b)(c: ∀b∈keys L G,¬M' b):St M h0 h' L G:=
 ⟨S.fr.trans f e,fun p a=>⟨(S.own p a).1,f.has (S.own p a).2 (c _ (i9 a))⟩,
  fun p a=>⟨(S.gown p a).1.of_get fun b d=>f.get b ((S.gown p a).1.lt S.ok d) (c b (fJ a d)),(S.gown p a).2⟩,S.apart⟩
theorem St.call(S:St M h0 h L G)(g:Gr h h'):St M h0 h' L G:=S.step (M':=NoM) g.fr (fun _ h=>h.elim) (fun _ _ h=>h)
theorem St.new(S:St M h0 h L G){x:Blk}{o:Ob}(a:Has (h.new x) h.n o):St M h0 (h.new x) ((h.n,o)::L) G:=
 (S.call (Gr.new S.ok x)).push (.inl S.fr.n) a (fun b=>by have:=S.key_lt b;omega)
theorem St.newG(S:St M h0 h L G){x:Blk}(d:n*k=vs.length)(f:Row (h.new x) h.n vs 1):St M h0 (h.new x) L ((.slice (some ⟨h.n,0,some k⟩) n n,k,vs)::G):=by
 have a:=S.call (Gr.new S.ok x);refine⟨a.fr,a.own,fun p c=>?_,?_⟩
 . rcases List.mem_cons.1 c with rfl|c
   . exact⟨.inr ⟨_,n,rfl,d,f⟩,fun b g=>by cases g;exact .inl S.fr.n⟩
   . exact a.gown p c
 . unfold keys;have e:List.filterMap eH ((Value.slice (some ⟨h.n,0,some k⟩) n n,k,vs)::G)=h.n::List.filterMap eH G:=rfl;rw [e];refine(List.perm_middle.nodup_iff).2 (List.nodup_cons.2 ⟨fun i=>?_,S.apart⟩);have:=S.key_lt i;omega
theorem St.nilG(S:St M h0 h L G):St M h0 h L ((.slice none 0 0,k,[])::G):=
 ⟨S.fr,S.own,fun p a=>by
  rcases List.mem_cons.1 a with rfl|a
  . exact⟨.inl ⟨rfl,rfl⟩,fun b c=>by cases c⟩
  . exact S.gown p a,S.apart⟩
theorem oD{a:Type}{l:List a}{x y:a}(h:y∈l.set i x):y=x\/ ∃j,j≠i/\l[j]? =some y:=by rw [List.mem_iff_getElem?]at h;grind
theorem qA{a:Type}{l:List a}(h:l.Nodup){x:a}(b:l[i]? =some x)(c:l[j]? =some x):i=j:=by grind[Xu,Xw,absurd,Ya]
theorem oz{p:Nat×Ob}(a:L[i]? =some p):(keys L G)[i]? =some p.1:=by grind[keys,Xu,XM]
theorem St.put(S:St M h0 h L G){i b:Nat}{o o':Ob}(g:L[i]? =some (b,o)){x:Blk}(q:Has (h.put b x) b o'):St M h0 (h.put b x) (L.set i (b,o')) G:=by
 have k:=S.own _ (Xc g);have f:(keys L G)[i]? =some b:=oz g;refine⟨S.fr.put k.1 x,fun p a=>?_,fun p a=>⟨(S.gown p a).1.of_get fun c l=>?_,(S.gown p a).2⟩,?_⟩
 . rcases oD a with rfl|⟨j,m,a⟩
   . grind
   . have d:=S.own p (Xc a);refine⟨d.1,d.2.of_get (dB fun e=>m ?_)⟩;have n:(keys L G)[j]? =some b:=(by rw [oz a];rw [e]);exact qA S.apart n f
 . refine dB fun e=>?_;subst e;have d:=S.apart;unfold keys at d;rw [Xz]at d;exact d.2.2 b (List.mem_map.2 ⟨_,Xc g,rfl⟩) b (List.mem_filterMap.2 ⟨p,a,l⟩) rfl
 . have:keys (L.set i (b,o')) G=keys L G:=(by unfold keys;congr 1;rw [List.map_set];refine Xp fun j=>?_;grind);rw [this];exact S.apart
theorem St.row(S:St M h0 h L G){b:Nat}{l:List Value}{md:Nat}(a:(b,Ob.row l md)∈L):Row h b l md:=(S.own _ a).2
theorem St.ld(S:St M h0 h L G){b o:Nat}(a:(b,Ob.row l md)∈L)(c:l[o]? =some v):h.load b o 1=some [v]:=(S.row a).load1 c
theorem St.lds(S:St M h0 h L G){b o:Nat}(a:(b,Ob.row l md)∈L)(c:o+n<=l.length):h.load b o n=some ((l.drop o).take n):=(S.row a).load c
theorem m0{b:Type}{a:b}{l:List b}:a∈a::l:=Xt
theorem m1{c:Type}{a b:c}{l:List c}:a∈b::a::l:=.tail _ m0
theorem m2{d:Type}{a b c:d}{l:List d}:a∈b::c::a::l:=.tail _ m1
theorem m3{e:Type}{a b c d:e}{l:List e}:a∈b::c::d::a::l:=.tail _ m2
theorem m4{f:Type}{a b c d e:f}{l:List f}:a∈b::c::d::e::a::l:=.tail _ m3
theorem m5{g:Type}{a b c d e f:g}{l:List g}:a∈b::c::d::e::f::a::l:=.tail _ m4
theorem m6{i:Type}{a b c d e f g:i}{l:List i}:a∈b::c::d::e::f::g::a::l:=.tail _ m5
theorem m7{j:Type}{a b c d e f g i:j}{l:List j}:a∈b::c::d::e::f::g::i::a::l:=.tail _ m6
theorem St.old(S:St M h0 h L G){b o:Nat}(e:h0.load b o n=some l)(a: ¬M b):h.load b o n=some l:=by have:=S.fr.get b (aV S.fr.ok0 e) a;grind[Hp.load]
end
def sc(h:Hp)(X:Hp->Option (dU×Hp))(F:Nat->Value)(o:Ob):Prop:=
 ∃a,(∀x,X {h with lo:=x}=some (.val (F h.n),({h with lo:=x}:Hp).new a))/\(OZ h->Has (h.new a) h.n o)
section
variable{M:Nat->Prop}{h0 h:Hp}{L:List (Nat×Ob)}{G:List GL}
section
variable{E:Env}{cx:Cx}{o:Oper}{l:Loc}{K:Ex->Loc->Hp->Prop}{X:Hp->Option (dU×Hp)}{F:Nat->Value}{ob:Ob}
theorem ab(N:sc h X F ob)(S:St M h0 h L G)(a: ∀h' b,St M h0 h' ((b,ob)::L) G->h0.n<=b->K .normal (l.put o.dst (F b)) h'):ib E cx o l K (X h):=by obtain⟨c,d,f⟩:=N;have e:X h=_:=d h.lo;rw [e];exact a _ _ (S.new (f S.ok)) S.fr.n
theorem cV{Q:gH}{k:List Fr}{c:List (Nat×Tch)}(N:sc h X F ob)(S:St M h0 h L G)(d: ∀h' b,St M h0 h' ((b,ob)::L) G->h0.n<=b->b=h.n->Run E (lim E) cx Q (.opsD a q ps os (i+1) c::k) .normal (l.put o.dst (F b)) h'):DQ E cx Q a q ps o os i k l h c (X {h with lo:=h.n}):=by
 obtain⟨e,f,g⟩:=N;rw [f];exact⟨Xd (Xf _),d _ _ (S.new (g S.ok)) S.fr.n rfl⟩
end
theorem aW{t:TypeId}(b: ∀x,v≠ .chan x):sc h (fun h=>boxR h t v) ptrTo (.row (ac v) 1):=by refine⟨.cells (Tr.ofList (ac v)) (ac v).length t 1,fun x=>?_,fun a=>re a _ _ _⟩;cases v<;>first|rfl|grind
theorem au{t:TypeId}:sc h (fun h=>allocR h t (some z)) ptrTo (.row z 1):=
 ⟨.cells (Tr.ofList z) z.length t 1,fun _=>rfl,fun a=>re a _ _ _⟩
noncomputable def mapR(h:Hp):Option (dU×Hp):=some (.val (.map (some h.n)),h.new (.map [] 0))
theorem E7{t:TypeId}:aop E ρ h (.makeMap t none)=mapR h:=rfl
theorem lM:sc h mapR (fun b=>.map (some b)) (.map [] 0):=⟨.map [] 0,fun _=>rfl,fun a=>by show(h.new _).get h.n=_;rw [h.get_new _ a,if_pos rfl]⟩
theorem CW(a:List Value): ∀n,(bJ a n).length=n*a.length
 |0=>by simp [bJ]|n+1=>by simp only [bJ,Xs,CW a n];rw [Yp];omega
theorem row_blank(a:OZ h)(z:Value)(n:Nat)(e:TypeId):Row (h.new (.cells (Tr.blank z n n) n e 1)) h.n (XI n z) 1:=by
 refine⟨Tr.blank z n n,e,?_,?_,fun i=>?_⟩
 . rw [h.get_new _ a,if_pos rfl,Yl]
 . rw [Yl];exact Tr.sized_blank _ _ _ (Xf _)
 . rw [Tr.get_blank _ _ _ (Xf _),Yg]
def fV(E:Env)(e:TypeId)(a k:Nat)(b:List Value):Prop:=(∃i,E.ty e=some i/\i.bytes=a/\i.size=k)/\E.zero e=some b/\b.length=k
theorem mJ{t e:TypeId}{d:Nat}{c:List Value}{kd':IntKind}{n:Int}(o:E.und t=some (.slice e))(u:fV E e d k c)(h0:0<=n)(v:n.toNat*(d+1)<=70368744177664):sc h (fun h=>dH (lq E h t (.int kd n) (.int kd' n))) (fun b=>.slice (some ⟨b,0,none⟩) n.toNat n.toNat) (.row (bJ c n.toNat) 1):=by
 obtain⟨⟨i,p,rfl,rfl⟩,q,w⟩:=u;obtain⟨m,rfl⟩:=Int.eq_ofNat_of_zero_le h0;have hle:Xg (m*(i.bytes+1)) 70368744177664=true:=Xd v;have r:Xi c.length i.size=true:=by simp_all
 have f:natV (.int kd (m:Int))=some m:=rfl;have g:natV (.int kd' (m:Int))=some m:=rfl;have s:(Xg m m&&Xg (m*(i.bytes+1)) 70368744177664)=true:=by simp_all
 by_cases y: ∃z,c=[z]
 . obtain⟨z,rfl⟩:=y;refine⟨.cells (Tr.blank z m m) m e 1,fun x=>?_,fun j=>?_⟩
   . simp only [lq,o,p,q,f,g,s,r,cond_true,dH];rfl
   . have:bJ [z] (m:Int).toNat=XI m z:=by
      have: ∀n,bJ [z] n=XI n z:=by intro n;induction n with
       |zero=>rfl|succ n A=>simp [bJ,A,List.replicate_succ]
      exact this m
     rw [this];exact row_blank j z m e
 . refine⟨.cells (Tr.ofList (bJ c m)) (m*i.size) e 1,fun x=>?_,fun j=>?_⟩
   . simp only [lq,o,p,q,f,g,s,r,cond_true];cases c with
     |nil=>rfl| cons a l=>
       cases l with
       |nil=>grind|cons b l=>rfl
   . have:=re j (bJ c m) e 1;rw [CW,w]at this;show Row _ _ (bJ c m) 1;omega
theorem St.store(S:St M h0 h L G){E:Env}{t:TypeId}{i b off n md:Nat}{s:Option Nat}{l:List Value}{v:Value}(c:L[i]? =some (b,.row l md))(g:E.sz t=some n)(j: ∀x,v≠ .chan x)(d:(ac v).length=n)(hf:(ac v).all mr=true)(e:off+n<=l.length)(a:md≠0): ∃h',jH E h t (.pointer (some ⟨b,off,s⟩)) v=some h'/\St M h0 h' (L.set i (b,.row (lay l off (ac v)) md)) G/\Mo (· =b) h h':=by
 subst d;obtain⟨x,k,f⟩:=(S.row (Xc c)).store S.ok a (vs:=ac v) e hf;refine⟨h.put b x,?_,S.put c f,(Mo.refl (M:=(· =b)) S.ok).put (.inr rfl) x⟩;grind[jH,Xi,ac,Xj]
section
variable{E:Env}{cx:Cx}{o:Oper}{l:Loc}{K:Ex->Loc->Hp->Prop}
theorem az{x:Option Hp}{P:Hp->Prop}(a: ∃h',x=some h'/\P h')(b: ∀h',P h'->K .normal (l.put o.dst (.tuple #[])) h'):ib E cx o l K (gC x):=by obtain⟨h',rfl,c⟩:=a;exact b h' c
theorem dT{x:Option (Hp×Value)}{P:Hp->Value->Prop}(a: ∃h' v,x=some (h',v)/\P h' v)(b: ∀h' v,P h' v->K .normal (l.put o.dst v) h'):ib E cx o l K (dH x):=by obtain⟨h',v,rfl,c⟩:=a;exact b h' v c
theorem cJ{Q:gH}{k:List Fr}{b:Hp->List (Nat×Tch)}{x:Option Hp}{P:Hp->Prop}(c: ∃h',x=some h'/\P h')(d: ∀h',P h'->Run E (lim E) cx Q (.opsD a q ps os (i+1) (b h')::k) .normal (l.put o.dst (.tuple #[])) h'):DN E cx Q a q ps o os i k l b (gC x):=by
 obtain⟨h',rfl,e⟩:=c;exact d h' e
theorem lu{Q:gH}{k:List Fr}{b:Hp->List (Nat×Tch)}{x:Option (Hp×Value)}{P:Hp->Value->Prop}(c: ∃h' v,x=some (h',v)/\P h' v)(d: ∀h' v,P h' v->Run E (lim E) cx Q (.opsD a q ps os (i+1) (b h')::k) .normal (l.put o.dst v) h'):DN E cx Q a q ps o os i k l b (dH x):=by
 obtain⟨h',v,rfl,e⟩:=c;exact d h' v e
end
theorem sC{p c:GL}(i:(keys L G).Nodup)(d:G[j]? =some p){b:Nat}(e:eH c=some b)(a:b∉keys L G):(keys L (G.set j c)).Nodup:=by
 obtain⟨hlt,f⟩:=List.getElem?_eq_some_iff.1 d;have k:G=G.take j++p::G.drop (j+1):=by rw [<-f,List.getElem_cons_drop hlt,Yk]
 have g:G.set j c=G.take j++c::G.drop (j+1):=List.set_eq_take_append_cons_drop.trans (if_pos hlt);unfold keys at*
 rw [g,List.filterMap_append,List.filterMap_cons_some e,<-List.append_assoc];refine List.perm_middle.nodup_iff.2 (List.nodup_cons.2 ⟨fun l=>a ?_,?_⟩)
 . grind
 grind
theorem St.grow(S:St M h0 h L G){t tx e:TypeId}{u m:Nat}{zs new:List Value}{x:Value}(J:G[j]? =some (v,k,vs))(hu:E.und t=some (.slice e))(he:fV E e u k zs)(K:0<u)(O:eS E tx=some false)(ad:aR h k x=some (m,new))(hm:m*k=new.length)(z:0<k)(hf:new.all mr=true)(P:(vs.length+new.length)*(u+1)<=70368744177664){ts:List TypeId}:
 ∃h' v',dS E h (t::tx::ts) v x=some (h',v')/\St M h0 h' L (G.set j (v',k,vs++new)):=by
 obtain⟨⟨i,hi,rfl,rfl⟩,hz,hl⟩:=he;have hlt:=(List.getElem?_eq_some_iff.1 J).1;obtain⟨hg,A⟩:=S.gown _ (Xc J);have af : ∀ a d,v=.slice a d d->d*i.size=vs.length->(a=none/\d=0\/ ∃b,a=some ⟨b,0,some i.size⟩/\Row h b vs 1)->
  ∃h' v',ig E h e i a d d m new=some (h',v')/\St M h0 h' L (G.set j (v',i.size,vs++new)):=by
  intro a d hv B ha;by_cases f:m=0
  . subst f;have:new=[]:=(by grind);subst this;refine⟨h,v,?_,?_⟩
    . unfold ig;rw [Xd (by omega:d+0<=d)];grind
    . rw [XF];have:G.set j (v,i.size,vs)=G:=(by refine Xp fun n=>?_;grind);grind
  . have ai : Xg (d+m) d=false:=by
     cases O:Xg (d+m) d with
     |false=>rfl|true=>exact absurd (Xq O) (by omega)
    have C:d+m<=vs.length+new.length:=(by rw [<-B,<-hm];have f:=XD d z;have Q:=XD m z;omega);have N:(Xg ((d+m)*(i.bytes+1)) 70368744177664&&XP 0 i.bytes)=true:=(by rw [Xd (Xm (X6 _ C) P)];simp_all);have ak:Xi zs.length i.size=true:=(by simp_all);have r:ig E h e i a d d m new=pY h e i.size a d m new:=(by unfold ig;grind);rw [r];rcases ha with⟨rfl,rfl⟩|⟨b,rfl,D⟩
    . have R:vs=[]:=(by grind);subst R;refine⟨h.new (.cells (Tr.ofList new) new.length e 1),.slice (some ⟨h.n,0,some i.size⟩) m m,rfl,?_⟩;have T:=S.call (Gr.new S.ok (.cells (Tr.ofList new) new.length e 1));have w:h.n∉keys L G:=fun z=>(by have:=S.key_lt z;omega);refine⟨T.fr,T.own,fun p o=>?_,sC S.apart J (b:=h.n) rfl w⟩;rcases oD o with rfl|⟨j',_,o⟩
      . exact⟨.inr ⟨h.n,m,rfl,hm,re S.ok new e 1⟩,fun b K=>by cases K;exact .inl S.fr.n⟩
      . exact T.gown p (Xc o)
    . obtain ⟨F,el,s,H,al⟩:=D;have U:lE F vs.length 0 (d*i.size) new=some (F.pushAll vs.length new,vs.length+new.length):=(by grind[lE,Xj]);refine⟨(h.put b .dead).new (.cells (F.pushAll vs.length new) (vs.length+new.length) e 1),.slice (some ⟨h.n,0,some i.size⟩) (d+m) (d+m),?_,?_⟩
      . unfold pY;simp only [s,U,hf,Xj];rfl
      . have I:eH (v,i.size,vs)=some b:=(by rw [hv];rfl);have ax:=iG S.ok s;have y:=(S.fr.put (A b I) .dead);have V: ∀c∈L.map XO,c≠b:=fun c W e=>(by have f:=S.apart;grind[keys,Xz,Xc]);have l: ∀c,c<h.n->c≠b->((h.put b .dead).new (.cells (F.pushAll vs.length new) (vs.length+new.length) e 1)).get c=h.get c:=fun c W X=>(by rw [Hp.get_new _ _ y.ok,if_neg (by show c≠h.n;omega)];exact dB (Ne.symm X));have w:h.n∉keys L G:=fun z=>(by have:=S.key_lt z;omega);refine⟨y.new _,fun p o=>?_,fun p o=>?_,sC S.apart J (b:=h.n) rfl w⟩
        . have f:=S.own p o;exact⟨f.1,f.2.of_get (l _ (f.2.lt S.ok) (V _ (X7 o)))⟩
        . rcases oD o with rfl|⟨j',Y,o⟩
          . refine⟨.inr ⟨h.n,d+m,rfl,?_,?_⟩,fun b K=>by cases K;exact .inl S.fr.n⟩
            . grind
            . refine⟨F.pushAll vs.length new,e,?_,?_,fun n=>?_⟩
              . rw [Hp.get_new _ _ y.ok];rw [if_pos (show h.n=(h.put b .dead).n from rfl),Xs]
              . rw [Xs];exact Tr.sized_pushAll _ H
              grind[Tr.get_pushAll]
          . have f:=S.gown p (Xc o);refine⟨f.1.of_get fun c W=>l c (f.1.lt S.ok W) fun e=>Y ?_,f.2⟩;subst e
            -- two lists with ay Z
            have Q:=S.apart;unfold keys at Q;have h3:=(List.nodup_append.1 Q).2.1;have aL: ∀(G:List GL) (a c:Nat) (p q:GL),(G.filterMap eH).Nodup->G[a]? =some p->G[c]? =some q-> ∀x,eH p=some x->eH q=some x->a=c:=by
             intro G
             induction G with
             |nil=>grind| cons g G ih=>grind
            grind
 unfold dS;simp only [O];unfold lZ;simp only [hu,hi];rcases hg with⟨k1,k2⟩|⟨b,n,k1,k2,k3⟩
 . grind
 simp_all
end
theorem aX{Q:gH}{k:List Fr}{b:Code}{f:Type}(I:f->(Nat->Value)->Hp->Prop)(m:f->Nat)(l: ∀a,(∀g c h',m g<m a->I g c h'->Run E (lim E) cx Q (.code (.loop b)::k) .normal (LL n c d rc) h')-> ∀ρ h,I a ρ h->Run E (lim E) cx Q (.code b:: .code (.loop b)::k) .normal (LL n ρ d rc) h):
 ∀a ρ h,I a ρ h->Run E (lim E) cx Q (.code (.loop b)::k) .normal (LL n ρ d rc) h:=by
 have e: ∀j a,m a<j-> ∀ρ h,I a ρ h->Run E (lim E) cx Q (.code (.loop b)::k) .normal (LL n ρ d rc) h:=by
  intro j
  induction j with
  |zero=>omega| succ j o=>grind[cE]
 intro a ρ h i;exact e (m a+1) a (by omega) ρ h i
def sI(b:Nat):Deferred:={target:=.collected b,args:=#[]}
section
variable(E:Env)(cx:Cx)(Q:gH)(k:List Fr)
def RangeGo(l:Loc)(h:Hp):Option Code->Prop
 |none=>Run E (lim E) cx Q k .normal l h|some (.exit id)=>Run E (lim E) cx Q k (.exit id) l h|some .ret=>Run E (lim E) cx Q k .ret l h|_=>False
def RangeQ(l:Loc)(b:Nat):Out->Option (Value×Bool)->Hp->Prop
 | .pan v,_,a=>Run E (lim E) cx Q k (.pan v) l a| .ret _,_,a=> ∃x,a.get b=some (.loop x)/\x.st≠1/\RangeGo E cx Q k l (a.put b .dead) x.pending
end
section
variable{E:Env}{cx:Cx}{Q:gH}{k:List Fr}{n:Nat}{ρ:Nat->Value}{d:List Deferred}{rc:Option (Value×Bool)}{M:Nat->Prop}{h0 h:Hp}{L:List (Nat×Ob)}{G:List GL}
theorem ED{f:Operand}{a b:Array Value}{j:Hp}{m:Nat}(hf:(LL n ρ d rc).ev f=.func (.func g) a b)(D:cx.nr=n)(F :(match cx.round with
   |none=>some (h.new .dfr,h.n,({target:=.collected h.n,args:=#[]}:Deferred)::d)| some r=>match h.get r with
     |some (.loop x)=>some (h,x.defers,d)|_=>none)=some (j,m,dfs))(H:eB E g (a.toList++[.func (.yield j.n) #[] #[]]++b.toList) none (j.new (.loop {fn:=cx.fn,regs:=tab n ρ,nr:=n,params,assign,body,st:=0,pending:=none,defers:=m})) (RangeQ E cx Q k (LL n ρ dfs rc) j.n)):Run E (lim E) cx Q (.code (.rangeFunc f params assign body)::k) .normal (LL n ρ d rc) h:=by
 obtain⟨o,I,l,J,y⟩:=H;simp only [Run];have e:aT E (lim E) cx (.rangeFunc f params assign body) (LL n ρ d rc) h=jI (lim E) cx ((LL n ρ d rc).ev f) params assign body (LL n ρ d rc) h:=rfl;rw [e,hf];have K:jI (lim E) cx (.func (.func g) a b) params assign body (LL n ρ d rc) h=(match(some (j,m,dfs):Option (Hp×Nat×List Deferred))with
  |none=>none| some (j,m,dfs)=>
    match(lim E).call g (a.toList++[.func (.yield j.n) #[] #[]]++b.toList) none
     (j.new (.loop {fn:=cx.fn,regs:=tab n ρ,nr:=cx.nr,params,assign,body,st:=0,pending:=none,defers:=m}))with
    |none=>none|some (.pan v,_,l)=>some (.pan v,LL n ρ dfs rc,l)| some (.ret _,_,l)=>match l.get j.n with
      | some (.loop x)=>match x.st with
        |1=>none| _=>match x.pending with
          |none=>some (.normal,LL n ρ dfs rc,l.put j.n .dead)|some (.exit id)=>some (.exit id,LL n ρ dfs rc,l.put j.n .dead)|some .ret=>some (.ret,LL n ρ dfs rc,l.put j.n .dead)|_=>none
      |_=>none):=by rw [<-F];rfl
 rw [K];simp only [D,J];cases o with
 |pan v=>exact⟨_,_,_,rfl,y⟩| ret v=>
   obtain⟨x,N,O,s⟩:=y;simp only [N];obtain⟨P,u,R,p,q,w,S,i,t⟩:=x;simp only []at O s;have z: ∃A B C,(match i with
    |none=>some (Ex.normal,LL n ρ dfs rc,l.put j.n .dead)|some (.exit id)=>some (.exit id,LL n ρ dfs rc,l.put j.n .dead)|some .ret=>some (.ret,LL n ρ dfs rc,l.put j.n .dead)|_=>none)=some (A,B,C)/\Run E (lim E) cx Q k A B C:=by
    cases i with
    |none=>exact⟨_,_,_,rfl,s⟩|some c=>cases c<;>first|exact s.elim|exact⟨_,_,_,rfl,s⟩
   omega
theorem gP(S:St M h0 h L G){f:Operand}{a b:Array Value}(hf:(LL n ρ d rc).ev f=.func (.func g) a b)(j:cx.nr=n)(l:cx.round=none)(m: ∀h' c e,St M h0 h' ((e,.loop {fn:=cx.fn,regs:=tab n ρ,nr:=n,params,assign,body,st:=0,pending:=none,defers:=c})::(c,.dfr)::L) G->h.n<=c->h.n<=e->Gr h h'->
   eB E g (a.toList++[.func (.yield e) #[] #[]]++b.toList) none h' (RangeQ E cx Q k (LL n ρ (sI c::d) rc) e)):Run E (lim E) cx Q (.code (.rangeFunc f params assign body)::k) .normal (LL n ρ d rc) h:=by
 have i:St M h0 (h.new .dfr) ((h.n,.dfr)::L) G:=S.new (by show(h.new _).get h.n=_;rw [h.get_new _ S.ok,if_pos rfl]);have p:=i.new (x:=.loop {fn:=cx.fn,regs:=tab n ρ,nr:=n,params,assign,body,st:=0,pending:=none,defers:=h.n}) (o:=.loop {fn:=cx.fn,regs:=tab n ρ,nr:=n,params,assign,body,st:=0,pending:=none,defers:=h.n})
  (by show(Hp.new _ _).get _=_;rw [Hp.get_new _ _ i.ok,if_pos rfl])
 exact ED hf j (by rw [l];rfl) (m _ _ _ p (Xf _) (Nat.le_succ _) ((Gr.new S.ok _).trans (Gr.new i.ok _)))
end
section
variable(E:Env)(cx:Cx)(lb:Nat)(Q:Out->Hp->Prop)
def tU:gH
 | .normal,_,a=> ∃x,a.get lb=some (.loop x)/\Q (.ret (.bool true)) (a.put lb (.loop {x with st:=0,pending:=none}))
 | .exit id,_,a=> ∃x,a.get lb=some (.loop x)/\Q (.ret (.bool false)) (a.put lb (.loop {x with st:=2,pending:=some (.exit id)}))
 | .ret,_,a=> ∃x,a.get lb=some (.loop x)/\Q (.ret (.bool false)) (a.put lb (.loop {x with st:=2,pending:=some .ret}))
 | .pan v,b,a=>b.dfs=[]/\Q (.pan v) a
def AT(body:Code):gH
 | .normal,l,a=> ∃x,a.get lb=some (.loop x)/\x.st=0/\x.fn=cx.fn/\x.nr=cx.nr/\x.body=body/\Run E (lim E) cx (tU lb Q) [.code body] .normal l (a.put lb (.loop {x with st:=1}))
 |_,_,_=>False
end
def setPs(ρ:Nat->Value):List Tmp->List Value->Option (Nat->Value)
 | [],[]=>some ρ|t::a,v::b=>setPs (aB ρ t v) a b|_,_=>none
theorem uC{n:Nat}: ∀(ts:List Tmp) (vs:List Value) (ρ a:Nat->Value),setPs ρ ts vs=some a->qu (tab n ρ) ts vs=some (tab n a)
 | [],[],ρ,a,h=>by cases h;rfl
 | t::ts,v::vs,ρ,a,h=>by simp only [qu,tab_set];exact uC ts vs _ _ h| [],_::_,_,_,h=>by cases h
 |_::_,[],_,_,h=>by cases h
theorem xx{Q:gH}{c:Code}{l:Loc}(a:Run E (lim E) cx Q [.code c] .normal l h): ∃e l' h',(lim E).code cx c l h=some (e,l',h')/\Q e l' h':=by obtain⟨e,l',h',b,d⟩:=a;exact⟨e,l',h',by rw [Am];exact b,d⟩
theorem gK{Q:Out->Hp->Prop}{fn:FuncId}{ρ a:Nat->Value}{o:Nat}(d:h.get c=some (.loop {fn,regs:=tab n ρ,nr:=n,params,assign,body,st:=0,pending:=none,defers:=o}))(g:(E.fn fn).isSome=true)(p:setPs ρ params.toList args=some a)(q:Run E (lim E) ⟨fn,n,some c⟩ (AT E ⟨fn,n,some c⟩ c Q body) [.code assign] .normal (LL n a [] none) h):nH E c args h Q:=by
 obtain⟨e,l,z,r,f⟩:=xx q;unfold nH kT;rw [d];simp only [g,cond_true,uC _ _ _ _ p];rw [show Loc.mk (tab n a) [] none=LL n a [] none from rfl,r];cases e with
 |exit i=>exact f.elim|ret=>exact f.elim|pan v=>exact f.elim| normal=>
   obtain⟨x,s,t,A,B,C,u⟩:=f;obtain⟨w,D,F,j,b⟩:=xx u;simp only [s,t,j];cases w with
   |normal=>obtain⟨y,k,m⟩:=b;grind
   |exit i=>obtain⟨y,k,m⟩:=b;grind
   |ret=>obtain⟨y,k,m⟩:=b;grind
   |pan v=>obtain⟨k,m⟩:=b;grind
section
variable{E:Env}{cx:Cx}{lb:Nat}{Q:Out->Hp->Prop}{M:Nat->Prop}{h0 h:Hp}{L:List (Nat×Ob)}{G:List GL}{body:Code}{l:Loc}
theorem St.loopPut(S:St M h0 h L G){X Y:fF}(a:L[i]? =some (lb,.loop X)):h.get lb=some (.loop X)/\St M h0 (h.put lb (.loop Y)) (L.set i (lb,.loop Y)) G:=by have b:h.get lb=some (.loop X):=(S.own _ (Xc a)).2;refine⟨b,S.put a ?_⟩;show(h.put lb _).get lb=_;rw [Hp.get_put,if_pos ⟨rfl,by rw [b];rfl⟩]
theorem fG(S:St M h0 h L G){X:fF}(a:L[i]? =some (lb,.loop X))(b:X.st=0)(c:X.fn=cx.fn)(d:X.nr=cx.nr)(e:X.body=body)(f: ∀h',St M h0 h' (L.set i (lb,.loop {X with st:=1})) G->Run E (lim E) cx (tU lb Q) [.code body] .normal l h'):AT E cx lb Q body .normal l h:=by
 obtain⟨g,j⟩:=S.loopPut (Y:={X with st:=1}) a;exact⟨X,g,b,c,d,e,f _ j⟩
theorem dC(S:St M h0 h L G){X:fF}(a:L[i]? =some (lb,.loop X))(b: ∀h',St M h0 h' (L.set i (lb,.loop {X with st:=0,pending:=none})) G->Q (.ret (.bool true)) h'):tU lb Q .normal l h:=by obtain⟨c,d⟩:=S.loopPut (Y:={X with st:=0,pending:=none}) a;exact⟨X,c,b _ d⟩
theorem round_ret(S:St M h0 h L G){X:fF}(a:L[i]? =some (lb,.loop X))(b: ∀h',St M h0 h' (L.set i (lb,.loop {X with st:=2,pending:=some .ret})) G->Q (.ret (.bool false)) h'):tU lb Q .ret l h:=by obtain⟨c,d⟩:=S.loopPut (Y:={X with st:=2,pending:=some .ret}) a;exact⟨X,c,b _ d⟩
end
def Iter(E:Env)(g:FuncId)(d post:List Value)(h0:Hp)(D:Nat->Prop)(xs:List (List Value)):Prop:=
 ∀ (e:Nat) (J:Nat->Hp->List Nat->Prop) (Z:Out->Hp->Prop) (h:Hp) (F:List Nat),
   OZ h->h0.n<=h.n->(∀b,b<h0.n->D b->h.get b=h0.get b)->
   (∀i h F,J i h F->OZ h/\ ∀b∈F,b<h.n)->(∀i h F a,J i h F->Gr h a->J i a F)->(∀h a,Z (.ret (.bool false)) h->Gr h a->Z (.ret (.bool false)) a)->(∀b∈F,¬(b<h0.n/\D b))->
   (∀i x h F,xs[i]? =some x->J i h F->nH E e x h fun o a=>(o=.ret (.bool true)/\ ∃c,J (i+1) a c/\Mo (· ∈F) h a/\ ∀b∈c,b∈F\/h.n<=b)\/(o=.ret (.bool false)/\Z o a/\OZ a)\/((∃v,o=.pan v)/\Z o a))->
   J 0 h F->eB E g (d++[.func (.yield e) #[] #[]]++post) none h fun o f a=>f=none/\((∃u c,o=.ret u/\J xs.length a c)\/(∃u,o=.ret u/\Z (.ret (.bool false)) a)\/(∃v,o=.pan v/\Z o a))
theorem load_len{b o:Nat}(e:h.load b o n=some l):l.length=n:=by grind[Hp.load,Xg,Tr.slice_spec]
theorem rM{b o:Nat}(e:h.load b o n=some l){m:Nat}(g:i+m<=n):h.load b (o+i) m=some ((l.drop i).take m):=by
 unfold Hp.load at e⊢
 split at e
 next t a j p q=>
  cases c:Xg (o+n) a with
  |false=>grind| true=>
    rw [c]at e;have hle:=Xq c;rw [Xd (by omega:o+i+m<=a)];simp only [cond_true]at e⊢;obtain⟨r,f⟩:=Tr.slice_spec e;obtain⟨s,d⟩:=Tr.slice_mk (t:=t) (i:=o+i) (n:=m) (fun k u=>by
     have:=f (i+k) (by omega);grind)
    rw [d];obtain⟨v,w⟩:=Tr.slice_spec d;congr 1;refine Xp fun k=>?_;grind
 next=>cases e
theorem load_join{b o:Nat}{f:Nat->Value}(h0: ∃l,h.load b o 0=some l)(e: ∀i,i<n->h.load b (o+i) 1=some [f i]):h.load b o n=some ((List.range n).map f):=by
 unfold Hp.load at h0 e⊢;cases d:h.get b with
 |none=>grind|some c=>
 cases c with
 |dead=>grind|map=>grind|loop=>grind|dfr=>grind| cells t a q r=>
   rw [d]at h0;simp only [d]at e;simp only []at h0;have hle:o+n<=a:=by
    cases n with
    | zero=>
      obtain⟨l,h0⟩:=h0;cases g:Xg (o+0) a with
      |false=>grind|true=>simp_all
    | succ n=>
      have:=e n (by omega);cases g:Xg (o+n+1) a with
      |false=>grind|true=>have:=Xq g;omega
   have j: ∀i,i<n->t.get (o+i)=some (f i):=(by intro i p;have:=e i p;rw [Xd (by omega:o+i+1<=a)]at this;have:=(Tr.slice_spec this).2 0 (by omega);simpa using this);simp only [];rw [Xd hle];simp only [cond_true];obtain⟨l,m⟩:=Tr.slice_mk (t:=t) (i:=o) (n:=n) (fun k s=>by grind);rw [m];obtain⟨u,v⟩:=Tr.slice_spec m;congr 1;refine Xp fun k=>?_;grind
section
variable{α:Type}
theorem cB{enc:α->List Value}(a: ∀x,(enc x).length=k)(xs:List α):(xs.flatMap enc).length=xs.length*k:=by
 induction xs with
 |nil=>simp|cons x xs b=>grind
theorem E2{enc:α->List Value}(b: ∀x,(enc x).length=k)(xs:List α)(a:i<xs.length):((xs.flatMap enc).drop (i*k)).take k=enc xs[i]:=by
 induction xs generalizing i with
 |nil=>simp at a| cons x xs c=>
   cases i with
   |zero=>grind| succ i=>grind[Yp,Nat.add_comm,List.drop_drop,List.drop,List.flatMap,List.drop_left]
def aw(h:Hp)(k:Nat)(enc:α->List Value)(v:Value)(xs:List α):Prop:=
 (v=.slice none 0 0/\xs=[])\/ ∃b o s c,v=.slice (some ⟨b,o,s⟩) xs.length c/\xs.length<=c/\h.load b o (xs.length*k)=some (xs.flatMap enc)
variable{h:Hp}{k:Nat}{enc:α->List Value}{v:Value}{xs:List α}
theorem aw.gr(g:Gr h h')(s:aw h k enc v xs):aw h' k enc v xs:=by
 rcases s with s|⟨b,o,s,c,a,d,e⟩
 . exact .inl s
 . exact .inr ⟨b,o,s,c,a,d,g.load e⟩
def ar:Value->Nat->Prop
 | .slice (some a) _ _,b=>a.block=b| .pointer (some a),b=>a.block=b|_,_=>False
theorem aw.mo(g:Mo M h h')(s:aw h k enc v xs)(d: ∀b,ar v b-> ¬M b):aw h' k enc v xs:=by
 rcases s with s|⟨b,o,s,c,a,e,f⟩
 . exact .inl s
 . refine .inr ⟨b,o,s,c,a,e,?_⟩;have:=g.get b (aV g.ok0 f) (d b (by rw [a];rfl));grind[Hp.load]
theorem aw.lt(d:OZ h)(s:aw h k enc v xs){b:Nat}(a:ar v b):b<h.n:=by
 rcases s with⟨rfl,_⟩|⟨e,o,s,c,rfl,g,f⟩
 . exact a.elim
 . have:e=b:=a;subst this;exact aV d f
theorem aw.idx(s:aw h k enc v xs)(d: ∀x,(enc x).length=k)(a:i<xs.length): ∃b o s' c,v=.slice (some ⟨b,o,s'⟩) xs.length c/\h.load b (o+i*k) k=some (enc xs[i]):=by
 rcases s with⟨rfl,rfl⟩|⟨b,o,s,c,rfl,f,e⟩
 . simp at a
 . refine⟨b,o,s,c,rfl,?_⟩;have:i*k+k<=xs.length*k:=(by rw [<-Yp];exact X6 _ a);rw [rM e this,E2 d xs a]
theorem aw.at{t e:TypeId}(s:aw h k enc v xs)(d: ∀x,(enc x).length=k)(f:E.und t=some (.slice e))(g:E.sz e=some k)(a:i<xs.length):
 ∃b o,gD E t v (.int kd i)=some (.pointer (some ⟨b,o,none⟩))/\h.load b o k=some (enc xs[i]):=by
 obtain⟨b,o,l,c,rfl,j⟩:=s.idx d a;refine⟨b,o+i*k,?_,j⟩;rw [ia_slice f g,iQ a];rfl
theorem aw.src(s:aw h k enc v xs):aR h k v=some (xs.length,xs.flatMap enc):=by
 rcases s with⟨rfl,rfl⟩|⟨b,o,s,c,rfl,a,d⟩
 . rfl
 grind[List.length_eq_zero_iff,aR,XY]
theorem ij.sl(g:ij h (v,k,vs))(d:vs=xs.flatMap enc)(e: ∀x,(enc x).length=k)(i:0<k):aw h k enc v xs:=by
 rcases g with⟨c,a⟩|⟨b,n,c,a,f⟩
 . simp only []at c a;refine .inl ⟨c,?_⟩;rw [a]at d;have:=cB e xs;rw [<-d]at this;cases xs with
   |nil=>rfl| cons x xs=>grind
 . simp only []at c a f;have j:n=xs.length:=(by rw [d,cB e]at a;exact Nat.eq_of_mul_eq_mul_right i a);subst j;refine .inr ⟨b,0,some k,xs.length,c,Xf _,?_⟩;rw [f.load (by omega),a,Ym,Yf,d]
end
def encI(kd:IntKind)(x:Int):List Value:=[.int kd x]
def encB(x:Bool):List Value:=[.bool x]
theorem bR(kd:IntKind)(x:Int):(encI kd x).length=1:=rfl
theorem Di(x:Bool):(encB x).length=1:=rfl
def agg1:Option (List Value)->Option Value
 |some l=>some (.agg ⟨l⟩)|none=>none
theorem agg1_some:agg1 (some l)=some (.agg ⟨l⟩):=rfl
theorem loadV_agg{t:TypeId}{b o:Nat}(a:E.agg t=some true)(c:E.sz t=some n):gw E h t (.pointer (some ⟨b,o,s⟩))=agg1 (h.load b o n):=by simp only [gw,a,c];cases h.load b o n<;>rfl
def isIface(E:Env)(t:TypeId):Bool:=match E.und t with
 |some (.interface _)=>true|_=>false
def qW(E:Env)(t:TypeId):Bool:=match E.und t with
 |some (.pointer _)=>true|_=>false
def mY(E:Env)(t:TypeId):Bool:=match E.und t with
 |some (.struct _)=>true|some (.int _)=>true|some (.pointer _)=>true|_=>false
section
variable{E:Env}{t:TypeId}{x y:Operand}
theorem rW(b:isIface E t=true): ∃a,E.und t=some (.interface a):=by grind[isIface]
theorem wR(b:qW E t=true): ∃a,E.und t=some (.pointer a):=by grind[qW]
theorem n_iface(a:isIface E t=true){u:TypeId}:ce E .neq t x y (.iface u v) .nilIface=some (.bool true):=by grind[rW,ce,iB,fK]
theorem n_nil(b:isIface E t=true):ce E .neq t x (.const v) .nilIface .nilIface=some (.bool false):=by obtain⟨a,c⟩:=rW b;cases x<;>simp [ce,iB,fK,c]
theorem e_iface(a:isIface E t=true){u:TypeId}:ce E .eql t x y (.iface u v) .nilIface=some (.bool false):=by grind[rW,ce,iB,fK]
theorem e_nil(b:isIface E t=true):ce E .eql t x (.const v) .nilIface .nilIface=some (.bool true):=by obtain⟨a,c⟩:=rW b;cases x<;>simp [ce,iB,fK,c]
theorem n_ptr(b:qW E t=true){a:Addr}:ce E .neq t x y (.pointer (some a)) (.pointer none)=some (.bool true):=by grind[wR,ce,iB,fK]
theorem e_ptr(b:qW E t=true){a:Addr}:ce E .eql t x y (.pointer (some a)) (.pointer none)=some (.bool false):=by grind[wR,ce,iB,fK]
theorem n_pnil(a:qW E t=true):ce E .neq t x y (.pointer none) (.pointer none)=some (.bool false):=by grind[wR,ce,iB,fK]
theorem e_pnil(a:qW E t=true):ce E .eql t x y (.pointer none) (.pointer none)=some (.bool true):=by grind[wR,ce,iB,fK]
theorem xu(b:mY E t=true): ∃d,E.und t=some d/\ ∀a,d≠ .interface a:=by grind[mY]
theorem assert_is(a:mY E t=true):rh E (.iface t v) t true=some (.tuple #[v,.bool true]):=by obtain⟨d,b,c⟩:=xu a;unfold rh;rw [b];cases d<;>first|exact absurd rfl (c _)|simp [wZ]
theorem mk_iface(a:mY E t=true):(match E.und t with|none=>none|some (.interface _)=>none|some _=>some (Value.iface t v))=some (.iface t v):=by obtain⟨d,b,c⟩:=xu a;grind
end
theorem o_recover{ts:Array TypeId}:aop E ρ h (.call ⟨.builtin .recover,as,ts⟩)=some (.recov,h):=rfl
theorem o_deferR{f:Operand}{ts:Array TypeId}:aop E ρ h (.defer ⟨.value f,as,ts⟩)=match ρ f with
 | .func (.func g) a b=>some (.defer {target:=.fn (.func g) b,args:=⟨a.toList++as.toList.map ρ⟩},h)|_=>none:=rfl
def panR(h:Hp):Value->Option (dU×Hp)
 | .iface t v=>some (.panic (.iface t v),h)|_=>none
theorem o_panicR:aop E ρ h (.panic x)=panR h (ρ x):=by rfl
theorem Fg{t:TypeId}:panR h (.iface t v)=some (.panic (.iface t v),h):=rfl
section
variable{E:Env}{cx:Cx}{o:Oper}{K:Ex->Loc->Hp->Prop}{h:Hp}{n:Nat}{ρ:Nat->Value}{d:List Deferred}
theorem yQ:ib E cx o (LL n ρ d (some (v,false))) K (some (.recov,h))↔cx.round=none/\K .normal ((LL n ρ d (some (v,true))).put o.dst v) h:=Xk
theorem zZ:ib E cx o (LL n ρ d none) K (some (.recov,h))↔cx.round=none/\K .normal ((LL n ρ d none).put o.dst .nilIface) h:=Xk
theorem step_defer{x:Deferred}:ib E cx o (LL n ρ d rc) K (some (.defer x,h))↔cx.round=none/\K .normal ((LL n ρ (x::d) rc).put o.dst (.tuple #[])) h:=Xk
theorem uD{l:Loc}{P:Out->Option (Value×Bool)->Hp->Prop}(c:eB E f args none h P)(e: ∀x rc h',P x rc h'->match x with
 | .ret v=>K .normal (l.put o.dst v) h'| .pan v=>K (.pan v) l h'):ib E cx o l K (some (.call f args,h)):=by
 obtain⟨x,rc,h',a,b⟩:=c;exact⟨x,rc,h',a,e x rc h' b⟩
theorem zU{l:Loc}{b:Nat}{P:Out->Hp->Prop}(c:nH E b args h P)(e: ∀x h',P x h'->match x with
 | .ret v=>K .normal (l.put o.dst v) h'| .pan v=>K (.pan v) l h'):ib E cx o l K (some (.yield b args,h)):=by
 obtain⟨x,h',a,b⟩:=c;exact⟨x,h',a,e x h' b⟩
end
theorem Cz{b:Nat}:target (.func (.yield b) #[] #[]) args=some (.yield b args):=rfl
def UnQ(E:Env)(c:List Deferred)(m:Option Value)(h:Hp)(Q:Option Value->Hp->Prop):Prop:= ∃a b,cI (lim E) c m h=some (a,b)/\Q a b
section
variable{E:Env}{rs:List ResultVar}{Q:Out->Option (Value×Bool)->Hp->Prop}{n:Nat}{ρ:Nat->Value}{d:List Deferred}{rc:Option (Value×Bool)}{h:Hp}
theorem df(a:UnQ E d none h fun m h'=>m=none/\ ∃vs,bS E (tab n ρ) h' rs=some vs/\Q (.ret (aa vs)) rc h'):oV E rs Q .ret (LL n ρ d rc) h:=by obtain⟨m,h',b,rfl,c⟩:=a;exact⟨h',b,c⟩
theorem bU(a:UnQ E d none h fun m h'=>m=none/\ ∃vs,bS E (tab n ρ) h' rs=some vs/\Q (.ret (aa vs)) rc h'):oV E rs Q .normal (LL n ρ d rc) h:=df a
theorem iH(a:UnQ E d (some v) h fun m h'=>match m with
 |some v=>Q (.pan v) rc h'|none=> ∃vs,bS E (tab n ρ) h' rs=some vs/\Q (.ret (aa vs)) rc h'):oV E rs Q (.pan v) (LL n ρ d rc) h:=by
 obtain⟨m,h',b,c⟩:=a;exact⟨m,h',b,c⟩
theorem cy{m:Option Value}{P:Option Value->Hp->Prop}(a:P m h):UnQ E [] m h P:=⟨m,h,rfl,a⟩
theorem un_dfr{b:Nat}{a:List Deferred}{m:Option Value}{P:Option Value->Hp->Prop}(i:h.get b=some .dfr)(c:UnQ E a m (h.put b .dead) P):UnQ E (sI b::a) m h P:=by obtain⟨e,f,j,g⟩:=c;refine⟨e,f,?_,g⟩;simp_all[cI,sI]
theorem un_fn{args:Array Value}{a:List Deferred}{P:Option Value->Hp->Prop}(b:eB E f (args.toList++cap.toList) none h fun o rc h'=>(∃v,o=.ret v)/\rc=none/\UnQ E a none h' P):UnQ E ({target:=.fn (.func f) cap,args}::a) none h P:=by obtain⟨o,c,k,e,⟨v,rfl⟩,rfl,g,h',i,j⟩:=b;refine⟨g,h',?_,j⟩;simp only [cI,e];exact i
theorem Bc{args:Array Value}{a:List Deferred}{P:Option Value->Hp->Prop}(c:eB E f (args.toList++cap.toList) (some (v,false)) h fun o rc h'=>(∃u,o=.ret u)/\ ∃v' b,rc=some (v',b)/\UnQ E a (if b=true then none else some v') h' P):UnQ E ({target:=.fn (.func f) cap,args}::a) (some v) h P:=by
 obtain⟨o,e,j,k,⟨u,rfl⟩,v',b,rfl,g,h',l,i⟩:=c;refine⟨g,h',?_,i⟩;grind[cI]
theorem gJ(a:bS E (tab n ρ) h rs=some vs)(hq:Q (.ret (aa vs)) rc h):oV E rs Q .ret (LL n ρ [] rc) h:=df (cy ⟨rfl,vs,a,hq⟩)
end
section
variable{M:Nat->Prop}{h0 h:Hp}{L:List (Nat×Ob)}{G:List GL}{E:Env}
theorem bZ{t e:TypeId}{d cs:List Value}{a:List (Nat×Value)}(f:E.und t=some (.slice e))(g:fV E e c k d)(j:n*k<=16777216)(hf:mq (fun i=>some (i*k,k)) (bJ d n) a=some cs):sc h (fun h=>dH (lU E h t n a)) (fun b=>.slice (some ⟨b,0,none⟩) n n) (.row cs 1):=by
 obtain⟨⟨i,l,rfl,rfl⟩,m,o⟩:=g;have p:E.sz e=some i.size:=by unfold Env.sz;rw [l]
 refine⟨.cells (Tr.ofList cs) cs.length e 1,fun x=>?_,fun q=>re q _ _ _⟩;simp only [lU,f,p,Xd j,m,o,Xj,hf,cond_true];rfl
theorem St.clone(S:St M h0 h L G){t o e:TypeId}{m:Nat}{r new:List Value}{b:Nat}{x:Value}(N:E.und t=some (.slice e))(B:fV E e c k r)(O:0<c)(s:eS E o=some false)(u:aR h k x=some (m,new))(C:m*k=new.length)(D:n*k=vs.length)(v:0<k)(p:(vs.length+new.length)*(c+1)<=70368744177664){ts:List TypeId}(F:Row h b vs md):
 ∃ h' v',dS E h (t::o::ts) (.slice (some ⟨b,0,none⟩) n n) x=some (h',v')/\
   ((m=0/\h'=h/\v'=.slice (some ⟨b,0,none⟩) n n)\/ ∃w,v'=.slice (some ⟨w,0,some k⟩) (n+m) (n+m)/\St M h0 h' ((w,.row (vs++new) 1)::L) G):=by
 obtain⟨⟨i,P,rfl,rfl⟩,Q,H⟩:=B;have q:dS E h (t::o::ts) (.slice (some ⟨b,0,none⟩) n n) x=ig E h e i (some ⟨b,0,none⟩) n n m new:=by grind[dS,lZ]
 rw [q];by_cases y:m=0
 . subst y;have:new=[]:=(by grind);subst this;refine⟨h,_,?_,.inl ⟨rfl,rfl,rfl⟩⟩;grind[ig,Xd]
 . have z:Xg (n+m) n=false:=by
    cases s:Xg (n+m) n with
    |false=>rfl|true=>exact absurd (Xq s) (by omega)
   have d:n+m<=vs.length+new.length:=(by rw [<-D,<-C];have y:=XD n v;have R:=XD m v;omega);have g:(Xg ((n+m)*(i.bytes+1)) 70368744177664&&XP 0 i.bytes)=true:=(by rw [Xd (Xm (X6 _ d) p)];simp_all);have I:Xi r.length i.size=true:=(by simp_all);have a:ig E h e i (some ⟨b,0,none⟩) n n m new=pY h e i.size (some ⟨b,0,none⟩) n m new:=(by unfold ig;grind);rw [a];obtain⟨l,T,A,f,J⟩:=F;have K:lE l vs.length 0 (n*i.size) new=some (l.pushAll vs.length new,vs.length+new.length):=(by grind[lE,Xj]);refine⟨h.new (.cells (l.pushAll vs.length new) (vs.length+new.length) e 1),.slice (some ⟨h.n,0,some i.size⟩) (n+m) (n+m),?_,.inr ⟨h.n,rfl,?_⟩⟩
   . grind[pY]
   . refine S.new ⟨l.pushAll vs.length new,e,?_,?_,fun j=>?_⟩
     . rw [h.get_new _ S.ok,if_pos rfl,Xs]
     . rw [Xs];exact Tr.sized_pushAll _ f
     grind[Tr.get_pushAll]
theorem St.cloneSl{n:Type}{enc:n->List Value}{xs ys:List n}(S:St M h0 h L G){t o e:TypeId}{d:Nat}{B:List Value}{b:Nat}{x:Value}(q:E.und t=some (.slice e))(i:fV E e d k B)(r:0<d)(s:eS E o=some false)(u:aw h k enc x ys)(a: ∀x,(enc x).length=k)(v:0<k)(C:((xs.length+ys.length)*k)*(d+1)<=70368744177664){ts:List TypeId}(j:Row h b (xs.flatMap enc) md):
 ∃h' v',dS E h (t::o::ts) (.slice (some ⟨b,0,none⟩) xs.length xs.length) x=some (h',v')/\St M h0 h' L G/\Gr h h'/\aw h' k enc v' (xs++ys)/\(∀c,ar v' c->c=b\/h.n<=c):=by
 obtain⟨h',v',w,D⟩:=S.clone q i r s u.src (cB a ys).symm (cB a xs).symm v (by grind[cB,Yq]) (ts:=ts) j;refine⟨h',v',w,?_⟩;rcases D with⟨y,rfl,rfl⟩|⟨l,rfl,f⟩
 . have F:ys=[]:=List.length_eq_zero_iff.1 y;subst F;refine⟨S,Gr.refl S.ok,.inr ⟨b,0,none,xs.length,by simp,by simp,?_⟩,fun c m=>.inl (Eq.symm m)⟩;rw [XF,j.load (by rw [cB a];omega),Ym,<-cB a xs,Yf]
 . have H:St M h0 h' L G:=⟨f.fr,fun p I=>f.own p (Xn _ I),f.gown,(List.nodup_cons.1 f.apart).2⟩;have g:Row h' l (xs.flatMap enc++ys.flatMap enc) 1:=f.row m0;have T:=(St.init (M:=NoM) S.ok).clone q i r s u.src (cB a ys).symm (cB a xs).symm v (by grind[cB,Yq]) (ts:=ts) j;obtain⟨J,K,z,N⟩:=T;rw [w]at z;cases z;rcases N with⟨y,_,i⟩|⟨P,O,A⟩
   . grind
   . cases O;refine⟨H,A.gr,.inr ⟨l,0,some k,xs.length+ys.length,by grind,by grind,?_⟩,fun c m=>?_⟩
     . rw [g.load (by grind[Xs,cB,Yq]),Ym,<-List.flatMap_append,<-cB a (xs++ys),Yf]
     . right;have:l=c:=m;subst this;rcases(A.own _ m0).1 with h|h
       . exact h
       . exact h.elim
end
section
variable{E:Env}{t e:TypeId}{h:Hp}{x y:Operand}
noncomputable def lenR(E:Env)(h:Hp)(t:TypeId)(x:Value):Option (dU×Hp):=lenK (match x with
 | .map (some r)=>match h.get r with
   |some (.map a _)=>match E.und t with
    |some (.map _ _)=>some (.val (.int .i64 (.ofNat a.length)),h)|_=>none
   |_=>none
 |_=>none) h (lenP E t x)
theorem o_lenR:aop E ρ h (.call ⟨.builtin .len,#[x],#[t]⟩)=lenR E h t (ρ x):=o_lenK
noncomputable def lenQ(d:Option TypeDesc)(h:Hp)(x:Value):Option (dU×Hp):=match d with
 | some .string=>match x with
   | .string s=>some (.val (.int .i64 (.ofNat s.size)),h)|_=>none
 |some (.array n _)=>some (.val (.int .i64 (.ofNat n)),h)| some (.slice _)=>match x with
   | .slice _ n _=>some (.val (.int .i64 (.ofNat n)),h)|_=>none
 | some (.map _ _)=>match x with
   | .map none=>some (.val (.int .i64 0),h)| .map (some r)=>match h.get r with
     |some (.map a _)=>some (.val (.int .i64 (.ofNat a.length)),h)|_=>none
   |_=>none
 |_=>none
theorem len_q{x:Value}:lenR E h t x=lenQ (E.und t) h x:=by unfold lenR lenP;grind[lenQ,lenK]
theorem Fe{a:Option Addr}:lenQ (some (.slice e)) h (.slice a n c)=some (.val (.int .i64 n),h):=rfl
theorem lenq_str{s:ByteArray}:lenQ (some .string) h (.string s)=some (.val (.int .i64 s.size),h):=rfl
theorem lenq_arr:lenQ (some (.array n e)) h v=some (.val (.int .i64 n),h):=rfl
theorem Ep{k:TypeId}:lenQ (some (.map k e)) h (.map none)=some (.val (.int .i64 0),h):=rfl
theorem lenq_map{k:TypeId}{r:Nat}{a:List (Value×Value×Nat)}(b:h.get r=some (.map a c)):lenQ (some (.map k e)) h (.map (some r))=some (.val (.int .i64 a.length),h):=by simp [lenQ,b]
theorem aw.lenq{a:Type}{enc:a->List Value}{xs:List a}(s:aw h' k enc v xs):lenQ (some (.slice e)) h v=some (.val (.int .i64 xs.length),h):=by rcases s with⟨rfl,rfl⟩|⟨_,_,_,_,rfl,_⟩<;>rfl
def nw(k:Option Nat)(v i:Value):Option Value:=match k with
 |none=>none| some k=>match v with
   | .slice (some a) n _=>match i6 i n with
     |none=>none|some j=>some (.pointer (some (iu a (j*k))))
   |_=>none
def idxA(n:Nat)(k:Option Nat)(v i:Value):Option Value:=match k with
 |none=>none| some k=>match v with
   | .pointer (some a)=>match i6 i n with
     |none=>none|some j=>some (.pointer (some (iu a (j*k))))
   |_=>none
def idxQ(E:Env)(d:Option TypeDesc)(v i:Value):Option Value:=match d with
 |some (.slice e)=>nw (E.sz e) v i|some (.array n e)=>idxA n (E.sz e) v i|_=>none
theorem idx_q{i:Value}:gD E t v i=idxQ E (E.und t) v i:=by
 unfold gD idxQ;cases a:E.und t with
 |none=>rfl| some d=>
   cases d<;>first
    |rfl
    |(simp only [nw];cases b:E.sz _<;>(split<;>first|rfl|(split<;>simp_all)))
    |(simp only [idxA];grind)
theorem EK{i:Value}:idxQ E (some (.slice e)) v i=nw (E.sz e) v i:=rfl
theorem Fp{i:Value}:idxQ E (some (.array n e)) v i=idxA n (E.sz e) v i:=rfl
def putI(a:Addr)(k:Nat):Option Nat->Option Value
 |none=>none|some j=>some (.pointer (some ⟨a.block,a.off+j*k,none⟩))
theorem pk{a:Addr}{i:Value}:nw (some k) (.slice (some a) n c) i=putI a k (i6 i n):=by rfl
theorem idxa_ptr{a:Addr}{i:Value}:idxA n (some k) (.pointer (some a)) i=putI a k (i6 i n):=by rfl
theorem uU{a:Addr}:putI a k (some j)=some (.pointer (some ⟨a.block,a.off+j*k,none⟩)):=rfl
theorem aw.ix{a:Type}{enc:a->List Value}{xs:List a}(s:aw h k enc v xs)(f: ∀x,(enc x).length=k)(d:i<xs.length):
 ∃b o,nw (some k) v (.int kd i)=some (.pointer (some ⟨b,o,none⟩))/\h.load b o k=some (enc xs[i]):=by
 obtain⟨b,o,j,c,rfl,g⟩:=s.idx f d;refine⟨b,o+i*k,?_,g⟩;rw [pk,iQ d];rfl
noncomputable def loadQ(g:Option Bool)(n:Option Nat)(h:Hp)(b o:Nat):Option Value:=match g with
 | some true=>match n with
   |some n=>agg1 (h.load b o n)|none=>none
 |some false=>one1 (h.load b o 1)|none=>none
theorem load_q{b o:Nat}:gw E h t (.pointer (some ⟨b,o,s⟩))=loadQ (E.agg t) (E.sz t) h b o:=by grind[gw,loadQ,EF,loadV_agg]
theorem loadq_f{b o:Nat}{n:Option Nat}:loadQ (some false) n h b o=one1 (h.load b o 1):=rfl
theorem loadq_t{b o:Nat}:loadQ (some true) (some n) h b o=agg1 (h.load b o n):=rfl
def isSl(E:Env)(t:TypeId):Bool:=match E.und t with
 |some (.slice _)=>true|_=>false
theorem sl_und(b:isSl E t=true): ∃a,E.und t=some (.slice a):=by grind[isSl]
theorem e_slice{a:Addr}(b:isSl E t=true):ce E .eql t x y (.slice (some a) n c) (.slice none 0 0)=some (.bool false):=by grind[sl_und,ce,iB,fK]
theorem e_snil(a:isSl E t=true):ce E .eql t x y (.slice none 0 0) (.slice none 0 0)=some (.bool true):=by grind[sl_und,ce,iB,fK]
def Fl(v:Value):Prop:=ac v=[v]/\mr v=true/\ ∀x,v≠ .chan x
theorem aM{k:IntKind}{n:Int}:Fl (.int k n):=⟨rfl,rfl,nofun⟩
theorem oH{b:Bool}:Fl (.bool b):=⟨rfl,rfl,nofun⟩
theorem fl_str{b:ByteArray}:Fl (.string b):=⟨rfl,rfl,nofun⟩
theorem bA{a:Option Addr}:Fl (.pointer a):=⟨rfl,rfl,nofun⟩
theorem bH{a:Option Addr}:Fl (.slice a n c):=⟨rfl,rfl,nofun⟩
theorem yW{a:Option Nat}:Fl (.map a):=⟨rfl,rfl,nofun⟩
theorem dI{f:Fn}{a b:Array Value}:Fl (.func f a b):=⟨rfl,rfl,nofun⟩
theorem fl_nilf:Fl .nilFunc:=⟨rfl,rfl,nofun⟩
theorem fl_nili:Fl .nilIface:=⟨rfl,rfl,nofun⟩
theorem fl_iface{t:TypeId}:Fl (.iface t v):=⟨rfl,rfl,nofun⟩
theorem aw.fl{a:Type}{enc:a->List Value}{xs:List a}(s:aw h k enc v xs):Fl v:=by rcases s with⟨rfl,_⟩|⟨_,_,_,_,rfl,_⟩<;>exact bH
theorem ij.fl{p:GL}(g:ij h p):Fl p.1:=by rcases g with⟨e,_⟩|⟨_,_,e,_⟩<;>rw [e]<;>exact bH
def placesOf(E:Env)(t:TypeId):Option (List (Nat×Nat)):=match E.und t with
 |some (.struct a)=>pI E a.toList|_=>none
def aggO:Option (List Value)->Option Value
 |some l=>some (.agg ⟨l⟩)|none=>none
theorem aggO_some:aggO (some l)=some (.agg ⟨l⟩):=rfl
def oO(ps:List (Nat×Nat))(l:List Value)(a:List (Nat×Value)):Option (List Value):=mq (fun i=>ps[i]?) l a
theorem build_st{c:List Value}{a:List (Nat×Value)}(d:E.zero t=some c)(b:placesOf E t=some ps):jE E t a=aggO (oO ps c a):=by
 unfold placesOf at b;unfold jE oO;rw [d]
 split at b
 . rename_i g f;simp only [f,b];cases mq (fun i=>ps[i]?) c a<;>rfl
 . cases b
theorem fill_nil:oO ps l []=some l:=rfl
def buildQ(z:Option (List Value))(p:Option (List (Nat×Nat)))(a:List (Nat×Value)):Option Value:=match z with
 |none=>none| some z=>match p with
   |none=>none|some p=>aggO (oO p z a)
theorem build_q{a:List (Nat×Value)}(b:(placesOf E t).isSome=true):jE E t a=buildQ (E.zero t) (placesOf E t) a:=by grind[placesOf,jE,buildQ,build_st]
theorem Eo{b:List Value}{a:List (Nat×Value)}:buildQ (some b) (some ps) a=aggO (oO ps b a):=rfl
def fillS(ps:List (Nat×Nat))(l:List Value)(v:Value)(r:List (Nat×Value)):Option (Nat×Nat)->Option (List Value)
 |none=>none|some (o,n)=>match v with
  | .chan _=>none|v=>bif Xi (ac v).length n&&Xg (o+n) l.length then oO ps (cd l o (ac v)) r else none
theorem fill_q:oO ps l ((i,v)::r)=fillS ps l v r (ps[i]?):=by rfl
theorem fills_one{o:Nat}(a:Fl v)(b:o<l.length):fillS ps l v r (some (o,1))=oO ps (l.set o v) r:=by
 have e:(bif Xi (ac v).length 1&&Xg (o+1) l.length then oO ps (cd l o (ac v)) r else none)=oO ps (l.set o v) r:=by rw [a.1];simp only [Yd,XY,XA,Xj,Xd (show o+1<=l.length from b),Bool.and_self,cond_true,cd]
 cases v<;>first|exact e|exact absurd rfl (a.2.2 _)
theorem fills_agg{c:List Value}{o:Nat}(a:c.length=n)(b:o+n<=l.length):fillS ps l (.agg ⟨c⟩) r (some (o,n))=oO ps (cd l o c) r:=by simp only [fillS,ac,a,Xj,Xd b,Bool.and_self,cond_true]
theorem setL_nil{o:Nat}:cd l o []=l:=rfl
theorem setL_cons{o:Nat}:cd l o (v::vs)=cd (l.set o v) (o+1) vs:=rfl
theorem bz(a:Fl v):sc h (fun h=>boxR h t v) ptrTo (.row [v] 1):=by have:=aW (h:=h) (t:=t) a.2.2;rw [a.1]at this;exact this
theorem aA(S:St M h0 h L G){b off:Nat}(f:L[i]? =some (b,.row l md))(g:E.sz t=some 1)(c:Fl v)(k:off<l.length)(d:md≠0): ∃h',jH E h t (.pointer (some ⟨b,off,s⟩)) v=some h'/\St M h0 h' (L.set i (b,.row (l.set off v) md)) G/\Mo (· =b) h h':=by
 have a:ac v=[v]:=c.1;have:=S.store (v:=v) (t:=t) (s:=s) (off:=off) (n:=1) f g c.2.2 (by rw [a];rfl) (by rw [a];simp [c.2.1]) (by omega) d;rw [a]at this;have e:lay l off [v]=l.set off v:=by refine Xp fun j=>?_;rw [lS (by simp;omega),List.getElem?_set];grind
 grind
end
def ifaceR(E:Env)(t:TypeId)(v:Value):Option Value:=match E.und t with
 |none=>none|some (.interface _)=>none|some _=>some (.iface t v)
theorem o_ifaceR{t:TypeId}:aop E ρ h (.makeInterface t x)=di h (ifaceR E t (ρ x)):=rfl
theorem ifaceR_is{t:TypeId}(a:mY E t=true):ifaceR E t v=some (.iface t v):=mk_iface a
def nilcR:Value->Option Value
 | .pointer (some a)=>some (.pointer (some a))| .func (.func f) a b=>some (.func (.func f) a b)|_=>none
theorem o_nilcR:aop E ρ h (.nilCheck x)=di h (nilcR (ρ x)):=rfl
theorem nilcR_ptr{a:Addr}:nilcR (.pointer (some a))=some (.pointer (some a)):=rfl
def pickR(c a b:Value):Option Value:=match c with
 | .bool t=>some (bif t then a else b)
 |_=>none
theorem o_pickR{c a b:Operand}:aop E ρ h (.pick c a b)=di h (pickR (ρ c) (ρ a) (ρ b)):=rfl
theorem pick_t{a b:Value}:pickR (.bool true) a b=some a:=rfl
theorem pick_f{a b:Value}:pickR (.bool false) a b=some b:=rfl
def extrR(i:Nat):Value->Option Value
 | .tuple a=>a.toList[i]?|_=>none
theorem o_extrR:aop E ρ h (.extract x i)=di h (extrR i (ρ x)):=by rfl
theorem extr_0{a:Value}:extrR 0 (.tuple ⟨a::l⟩)=some a:=rfl
theorem extr_1{a b:Value}:extrR 1 (.tuple ⟨a::b::l⟩)=some b:=rfl
theorem extr_2{a b c:Value}:extrR 2 (.tuple ⟨a::b::c::l⟩)=some c:=rfl
noncomputable def delR(E:Env)(h:Hp)(t:TypeId)(m k:Value):Option (dU×Hp):=match oJ E h t m k with
 |none=>none|some a=>some (.val (.tuple #[]),a)
theorem o_delR{m k:Operand}{t:TypeId}{ts:List TypeId}:aop E ρ h (.call ⟨.builtin .delete,#[m,k],⟨t::ts⟩⟩)=delR E h t (ρ m) (ρ k):=rfl
theorem aE{a b:Nat}:((a:Int)<(b:Int))=(a<b):=by simp
def BS:=zM (@run_seq)<|zM (@Fo)<|zM (@r_ops)<|zM (@g_true)<|zM (@g_false)<|zM (@Eg)<|zM (@run_ret)<|zM (@run_nil)<|zM (@run_skip)<|zM (@run_block)<|zM (@run_scope)<|zM (@run_blk)<|zM (@run_exit)<|zM (@B7)<|zM (@By)<|zM (@CI)<|zM (@EL)<|zM (@FB)<|zM (@r_cond)<|zM (@c_true)<|zM (@c_false)<|zM (@r_opsD)<|zM (@dn_loud)<|zM (@dn_quiet)<|zM (@dn_val)<|zM (@dn_skip)<|zM (@d_skip)<|zM (@jD)<|zM (@aJ)<|zM (@aO)<|zM (@C9)<|zM (@guard_no)<|zM (@FH)<|zM (@gj_some)<|zM (@gv_true)<|zM (@gv_false)<|zM (@gv_tuple)<|zM (@o_move)<|zM (@o_assign)<|zM (@o_pickR)<|zM (@pick_t)<|zM (@pick_f)<|zM (@o_load)<|zM (@o_store)<|zM (@o_binOp)<|zM (@o_unOp)<|zM (@o_nilcR)<|zM (@nilcR_ptr)<|zM (@o_ifaceR)<|zM (@E0)<|zM (@o_slice)<|zM (@Ee)<|zM (@o_field)<|zM (@El)<|zM (@o_index)<|zM (@o_extrR)<|zM (@extr_0)<|zM (@extr_1)<|zM (@extr_2)<|zM (@o_build)<|zM (@CL)<|zM (@Ei)<|zM (@E7)<|zM (@Cc)<|zM (@o_convert)<|zM (@o_lookup)<|zM (@Eb)<|zM (@Fk)<|zM (@CP)<|zM (@o_allocR)<|zM (@o_boxR)<|zM (@o_callv)<|zM (@o_max)<|zM (@o_min)<|zM (@o_append)<|zM (@o_copy)<|zM (@o_lenR)<|zM (@o_delR)<|zM (@o_recover)<|zM (@o_deferR)<|zM (@o_panicR)<|zM (@Fg)<|zM (@E1)<|zM (@FO)<|zM (@EV)<|zM (@BC)<|zM (@Af)<|zM (@zT)<|zM (@yQ)<|zM (@zZ)<|zM (@step_defer)<|zM (@target_fn)<|zM (@Cz)<|zM (@b_add)<|zM (@b_sub)<|zM (@b_mul)<|zM (@b_eql)<|zM (@b_neq)<|zM (@b_lss)<|zM (@b_leq)<|zM (@b_gtr)<|zM (@b_geq)<|zM (@b_eqlB)<|zM (@b_neqB)<|zM (@same_bool)<|zM (@u_not)<|zM (@mm_max)<|zM (@mm_min)<|zM (@ah)<|zM (@one1_some)<|zM (@agg1_some)<|zM (@bN)<|zM (@ll_put0)<|zM (@bw)<|zM (@ll_func)<|zM (@c_int)<|zM (@c_bool)<|zM (@c_string)<|zM (@c_nilp)<|zM (@c_nils)<|zM (@c_nilm)<|zM (@c_nilf)<|zM (@c_nili)<|zM (@ll_regs)<|zM (@oI)<|zM (@aD)<|zM (@cK)<|zM (@dE)<|zM (@AG)<|zM (@DC)<|zM (@dP)<|zM (@cu)<|zM (@hush_s)<|zM (@idxP_in)<|zM (@iQ)<|zM (@idx_q)<|zM (@EK)<|zM (@Fp)<|zM (@pk)<|zM (@idxa_ptr)<|zM (@uU)<|zM (@len_q)<|zM (@Fe)<|zM (@lenq_str)<|zM (@lenq_arr)<|zM (@Ep)<|zM (@load_q)<|zM (@loadq_f)<|zM (@loadq_t)<|zM (@n_iface)<|zM (@n_nil)<|zM (@e_iface)<|zM (@e_nil)<|zM (@n_ptr)<|zM (@e_ptr)<|zM (@n_pnil)<|zM (@e_pnil)<|zM (@e_slice)<|zM (@e_snil)<|zM (@assert_is)<|zM (@ifaceR_is)<|zM (@build_q)<|zM (@Eo)<|zM (@aggO_some)<|zM (@fill_nil)<|zM (@fill_q)<|zM (@fills_one)<|zM (@fills_agg)<|zM (@setL_nil)<|zM (@setL_cons)<|zM (@aM)<|zM (@oH)<|zM (@fl_str)<|zM (@bA)<|zM (@bH)<|zM (@yW)<|zM (@dI)<|zM (@fl_nilf)<|zM (@fl_nili)<|(@fl_iface)
structure ItS(h0:Hp)(D:Nat->Prop)(h:Hp)(F:List Nat):Prop where
 ok:OZ h
 n:h0.n<=h.n
 data: ∀b,b<h0.n->D b->h.get b=h0.get b
 apart: ∀b∈F,¬(b<h0.n/\D b)
 lt: ∀b∈F,b<h.n
section
variable{h0 h h':Hp}{D:Nat->Prop}{F F':List Nat}
theorem ItS.gr(s:ItS h0 D h F)(g:Gr h h'):ItS h0 D h' F:=
 ⟨g.ok,Xm s.n g.n,fun b a c=>(g.get b (Xh a s.n)).trans (s.data b a c),s.apart,fun b a=>Xh (s.lt b a) g.n⟩
theorem ItS.mo(s:ItS h0 D h F)(m:Mo (· ∈F) h h')(hf: ∀b∈F',b∈F\/h.n<=b)(d: ∀b∈F',b<h'.n):ItS h0 D h' F':=
 ⟨m.ok,Xm s.n m.n,fun b a c=>(m.get b (Xh a s.n) (fun hf=>s.apart b hf ⟨a,c⟩)).trans (s.data b a c),
  fun b a c=>(hf b a).elim (fun a=>s.apart b a c) (fun a=>by have:=s.n;omega),d⟩
theorem ItS.load(s:ItS h0 D h F){b o n:Nat}{l:List Value}(a:OZ h0)(e:h0.load b o n=some l)(c:D b):h.load b o n=some l:=by have:=s.data b (aV a e) c;grind[Hp.load]
theorem ItS.sl{d:Type}{enc:d->List Value}{xs:List d}(s:ItS h0 D h F)(a:OZ h0)(e:aw h0 k enc v xs)(g: ∀b,ar v b->D b):aw h k enc v xs:=by
 rcases e with e|⟨b,o,i,c,f,j,l⟩
 . exact .inl e
 . exact .inr ⟨b,o,i,c,f,j,s.load a l (g b (by rw [f];rfl))⟩
end
structure Yld(E:Env)(lb:Nat)(J:Nat->Hp->List Nat->Prop)(Z:Out->Hp->Prop)(xs:List (List Value)):Prop where
 lt: ∀i h F,J i h F->OZ h/\ ∀b∈F,b<h.n
 gr: ∀i h F h',J i h F->Gr h h'->J i h' F
 zgr: ∀h h',Z (.ret (.bool false)) h->Gr h h'->Z (.ret (.bool false)) h'
 round: ∀i x h F,xs[i]? =some x->J i h F->nH E lb x h fun o h'=>(o=.ret (.bool true)/\ ∃F',J (i+1) h' F'/\Mo (· ∈F) h h'/\ ∀b∈F',b∈F\/h.n<=b)\/(o=.ret (.bool false)/\Z o h'/\OZ h')\/((∃v,o=.pan v)/\Z o h')
def YQ(J:Nat->Hp->List Nat->Prop)(Z:Out->Hp->Prop)(n:Nat)(o:Out)(rc:Option (Value×Bool))(h':Hp):Prop:=
 rc=none/\((∃u a,o=.ret u/\J n h' a)\/(∃u,o=.ret u/\Z (.ret (.bool false)) h')\/(∃v,o=.pan v/\Z o h'))
theorem wz{a:List Value}{D:Nat->Prop}(H: ∀b J Z,Yld E b J Z xs-> ∀h F,ItS h0 D h F->J 0 h F->eB E g (a++[.func (.yield b) #[] #[]]++post) none h (YQ J Z xs.length)):Iter E g a post h0 D xs:=by
 intro b J Z h F e f i hlt c j k l d;exact H b J Z ⟨hlt,c,j,l⟩ h F ⟨e,f,i,k,(hlt 0 h F d).2⟩ d
theorem Dh{a:List Value}{D:Nat->Prop}(H:Iter E g a post h0 D xs)(Y:Yld E c J Z xs){F:List Nat}(d:Mo (fun b=> ¬D b) h0 h)(f: ∀b∈F,b<h0.n-> ¬D b)(i:J 0 h F):eB E g (a++[.func (.yield c) #[] #[]]++post) none h (YQ J Z xs.length):=
 H c J Z h F d.ok d.n (fun b e j=>d.get b e (fun k=>k j)) Y.lt Y.gr Y.zgr (fun b e h=>f b e h.1 h.2) Y.round i
theorem c7{l:Loc}{K:Ex->Loc->Hp->Prop}{D:Nat->Prop}{d:Nat}{x:List Value}{F:List Nat}(Y:Yld E d J Z xs)(s:ItS h0 D h F)(e:J i h F)(f:xs[i]? =some x)(g: ∀h' F',J (i+1) h' F'->ItS h0 D h' F'->Mo (· ∈F) h h'->(∀b∈F',b∈F\/h.n<=b)->K .normal (l.put o.dst (.bool true)) h')(k2: ∀h',Z (.ret (.bool false)) h'->OZ h'->K .normal (l.put o.dst (.bool false)) h')(j: ∀v h',Z (.pan v) h'->K (.pan v) l h'):ib E cx o l K (some (.yield d x,h)):=by
 refine zU (Y.round i x h F f e) ?_;rintro q h' (⟨rfl,F',a,b,c⟩|⟨rfl,a,b⟩|⟨⟨v,rfl⟩,a⟩)
 . exact g h' F' a (s.mo b c (Y.lt _ _ _ a).2) b c
 . exact k2 h' a b
 grind
section
variable{M:Nat->Prop}{h0 h h':Hp}{L L':List (Nat×Ob)}{G G':List GL}
theorem St.base(S:St M h0 h L G):St (· ∈keys L G) h h L G:=
 ⟨Mo.refl S.ok,fun p a=>⟨.inr (i9 a),(S.own p a).2⟩,fun p a=>⟨(S.gown p a).1,fun b c=>.inr (fJ a c)⟩,S.apart⟩
theorem St.key_own(S:St M h0 h L G){b:Nat}(a:b∈keys L G):h0.n<=b\/M b:=by
 unfold keys at a;rcases List.mem_append.1 a with a|a
 . obtain⟨p,c,rfl⟩:=List.mem_map.1 a;exact(S.own p c).1
 . obtain⟨p,c,d⟩:=List.mem_filterMap.1 a;exact(S.gown p c).2 b d
theorem St.rebase(S:St M h0 h L G)(T:St (· ∈keys L G) h h' L' G'):St M h0 h' L' G':=by have d: ∀b,h.n<=b\/b∈keys L G->h0.n<=b\/M b:=fun b a=>a.elim (fun a=>.inl (Xm S.fr.n a)) S.key_own;exact⟨S.fr.trans T.fr fun b a=>(S.key_own a).symm,fun p c=>⟨d _ (T.own p c).1,(T.own p c).2⟩,fun p c=>⟨(T.gown p c).1,fun b a=>d b ((T.gown p c).2 b a)⟩,T.apart⟩
theorem St.key_new(T:St (· ∈keys L G) h h' L' G'): ∀b∈keys L' G',b∈keys L G\/h.n<=b:=fun _ a=>(T.key_own a).symm
theorem St.sub(S:St M h0 h L G)(b:L'.Sublist L)(c:G'.Sublist G):St M h0 h L' G':=
 ⟨S.fr,fun p a=>S.own p (b.subset a),fun p a=>S.gown p (c.subset a),S.apart.sublist ((b.map _).append (c.filterMap _))⟩
theorem St.drop1{x:Nat×Ob}(S:St M h0 h (x::L) G):St M h0 h L G:=S.sub (List.sublist_cons_self _ _) (List.Sublist.refl _)
end
theorem dh{P Q:Out->Option (Value×Bool)->Hp->Prop}(d:eB E f args rc h P)(e: ∀o c h',P o c h'->Q o c h'):eB E f args rc h Q:=by obtain⟨o,c,h',a,b⟩:=d;exact⟨o,c,h',a,e _ _ _ b⟩
theorem uo{P:Value->Hp->Prop}(a:Ret E f args h P)(b: ∀v h',P v h'->Q v h'):Ret E f args h Q:=Ret.mono b a
theorem iJ{Q:gH}{k:List Fr}{l:Loc}{a:Nat}{o:Out}(y:YQ J (fun _ _=>False) n o rc h)(c: ∀F,J n h F-> ∃x,h.get a=some (.loop x)/\x.st≠1/\RangeGo E cx Q k l (h.put a .dead) x.pending):RangeQ E cx Q k l a o rc h:=by
 obtain⟨_,⟨u,F,rfl,d⟩|⟨u,_,b⟩|⟨v,_,b⟩⟩:=y
 . exact c F d
 . exact b.elim
 . exact b.elim
theorem St.dead{M:Nat->Prop}{h0 h:Hp}{L:List (Nat×Ob)}{G:List GL}{b:Nat}{o:Ob}(S:St M h0 h ((b,o)::L) G):St M h0 (h.put b .dead) L G:=by
 have d:=S.own _ m0;refine⟨S.fr.put d.1 _,fun p a=>⟨(S.own p (.tail _ a)).1,(S.own p (.tail _ a)).2.of_get (dB fun e=>?_)⟩,fun p a=>⟨(S.gown p a).1.of_get fun c f=>dB fun e=>?_,(S.gown p a).2⟩,(List.nodup_cons.1 S.apart).2⟩
 . exact(List.nodup_cons.1 S.apart).1 (by show b∈keys L G;rw [e];exact i9 a)
 . exact(List.nodup_cons.1 S.apart).1 (by show b∈keys L G;rw [e];exact fJ a f)
theorem St.get{M:Nat->Prop}{h0 h:Hp}{L:List (Nat×Ob)}{G:List GL}{b:Nat}{x:fF}(S:St M h0 h L G)(a:(b,Ob.loop x)∈L):h.get b=some (.loop x):=(S.own _ a).2
theorem St.getD{b:Nat}(S:St M h0 h L G)(a:(b,Ob.dfr)∈L):h.get b=some .dfr:=(S.own _ a).2
theorem sK{Q:gH}{k:List Fr}{b:Code}{f:Type}(I:f->(Nat->Value)->List Deferred->Hp->Prop)(m:f->Nat)(o: ∀a,(∀g c i h',m g<m a->I g c i h'->Run E (lim E) cx Q (.code (.loop b)::k) .normal (LL n c i rc) h')-> ∀ρ d h,I a ρ d h->Run E (lim E) cx Q (.code b:: .code (.loop b)::k) .normal (LL n ρ d rc) h):
 ∀a ρ d h,I a ρ d h->Run E (lim E) cx Q (.code (.loop b)::k) .normal (LL n ρ d rc) h:=by
 have e: ∀j a,m a<j-> ∀ρ d h,I a ρ d h->Run E (lim E) cx Q (.code (.loop b)::k) .normal (LL n ρ d rc) h:=by
  intro j
  induction j with
  |zero=>omega| succ j p=>grind[cE]
 intro a ρ d h l;exact e (m a+1) a (by omega) ρ d h l
def dR(a:List Nat):List (Nat×Ob):=a.map fun b=>(b,Ob.dfr)
theorem gm{E:Env}{M:Nat->Prop}{h0:Hp}{L:List (Nat×Ob)}{G:List GL}{m:Option Value}{P:Option Value->Hp->Prop}: ∀(a:List Nat) (h:Hp),St M h0 h (dR a++L) G->(∀h',St M h0 h' L G->P m h')->UnQ E (a.map sI) m h P
 | [],h,S,c=>cy (c h S)|b::a,h,S,c=>un_dfr (S.getD m0) (gm a _ (S.dead) c)
theorem wB{ρ:Nat->Value}{ty:TypeId}(a:t<n)(b:gw E h ty (ρ t)=some v):bS E (tab n ρ) h [.cell t ty]=some [v]:=by simp only [bS,oI,if_pos a,b]
theorem iA{t:TypeId}{b o:Nat}(a:E.agg t=some false)(c:h.load b o 1=some [v]):gw E h t (.pointer (some ⟨b,o,s⟩))=some v:=by rw [load_q,a,loadq_f,c];rfl
theorem bI{t:TypeId}{b o:Nat}(a:E.agg t=some true)(c:E.sz t=some n)(d:h.load b o n=some l):gw E h t (.pointer (some ⟨b,o,s⟩))=some (.agg ⟨l⟩):=by rw [load_q,a,c,loadq_t,d];rfl
theorem St.call1(S:St M h0 h L G){b:Nat}{o o':Ob}(k:L[i]? =some (b,o))(f:Mo (· =b) h h')(q:Has h' b o'):St M h0 h' (L.set i (b,o')) G:=by
 have r:=S.own _ (Xc k);have g:(keys L G)[i]? =some b:=oz k;refine⟨S.fr.trans f (fun c l=>by grind),fun p a=>?_,fun p a=>⟨(S.gown p a).1.of_get fun c l=>?_,(S.gown p a).2⟩,?_⟩
 . rcases oD a with rfl|⟨j,m,a⟩
   . grind
   . have d:=S.own p (Xc a);refine⟨d.1,d.2.of_get (f.get _ (d.2.lt S.ok) fun e=>m ?_)⟩;have n:(keys L G)[j]? =some b:=(by rw [oz a];rw [e]);exact qA S.apart n g
 . refine f.get c ((S.gown p a).1.lt S.ok l) fun e=>?_;subst e;have d:=S.apart;unfold keys at d;rw [Xz]at d;exact d.2.2 c (List.mem_map.2 ⟨_,Xc k,rfl⟩) c (List.mem_filterMap.2 ⟨p,a,l⟩) rfl
 . have:keys (L.set i (b,o')) G=keys L G:=(by unfold keys;congr 1;rw [List.map_set];refine Xp fun j=>?_;grind);rw [this];exact S.apart
theorem St.init1(a:OZ h){b:Nat}{o:Ob}(c:Has h b o):St (· =b) h h [(b,o)] []:=(St.init a).push (.inr rfl) c (by simp [keys])
theorem wrap8(z:Int):0<=am .u8 z/\am .u8 z<256:=by
 unfold am;cases z with
 | ofNat m=>
   simp only [hf,sgn,pw];cases a:XP m 256 with
   | true=>rw [Yb]at a;grind| false=>grind
 | negSucc m=>simp only [hf,sgn,pw,cond_false];grind
theorem aI{a:List (Nat×Tch)}{l:List (Nat×Nat)}:c8 a ((i,j)::l)=(iS (cP i a) (cP j a)&&c8 a l):=rfl
theorem an{a:Nat}(e:leaves h h' a=true):iS (some (.blk a)) (some (.run h h'))=true:=e
theorem aq{a:Nat}(e:leaves h h' a=true):iS (some (.run h h')) (some (.blk a))=true:=e
theorem cS{a b:Nat}(e:a≠b):iS (some (.blk a)) (some (.blk b))=true:=by grind[iS,Xi,absurd,Xa]
theorem aK{b:Tch}{l:List (Nat×Tch)}:cP i ((i,b)::l)=some b:=by simp [cP,Xj]
theorem aH{b:Tch}{l:List (Nat×Tch)}(h:i≠k):cP i ((k,b)::l)=cP i l:=by grind[Xi,cR,cP]
theorem St.leaves{M:Nat->Prop}{h0 h h':Hp}{L:List (Nat×Ob)}{G:List GL}(S:St M h0 h L G){b c:Nat}{o:Ob}(a:(c,o)∈L)(f:Mo (· =b) h h')(d:c≠b):leaves h h' c=true:=
 qf (f.get c ((S.own _ a).2.lt S.ok) d)
theorem aF{x:Option Tch}{a:List (Nat×Tch)}(h:i≠k):cP i (gG k a x)=cP i a:=by
 cases x with
 |none=>rfl|some b=>exact aH h
theorem aU{b:Bool}{t:TypeId}{a:Operand}:cH ρ b (.load t a) h h'=(match ρ a with| .pointer (some a)=>some (.blk a.block)|_=>none):=by simp only [cH,dJ,jo,eR,touch,cond_false];grind
theorem aY{f:Operand}{ts:Array TypeId}:cH ρ false (.call ⟨.value f,as,ts⟩) h h'=some (.run h h'):=rfl
theorem aN{b:Bool}{t:TypeId}:cH ρ b (.alloc t) h h'=some (.blk h.n):=rfl
theorem St.gset(S:St M h0 h L G){t:TypeId}(r:G[j]? =some (v,1,vs))(P:i<vs.length)(D:E.sz t=some 1):
 ∃b,nw (some 1) v (.int kd i)=some (.pointer (some ⟨b,i,none⟩))/\ ∀x,Fl x-> ∃h',jH E h t (.pointer (some ⟨b,i,none⟩)) x=some h'/\St M h0 h' L (G.set j (v,1,vs.set i x)):=by
 obtain⟨F,k⟩:=S.gown _ (Xc r);rcases F with⟨_,s⟩|⟨b,n,A,s,B⟩
 . grind
 . simp only []at A s B;subst A;have Q:n=vs.length:=(by omega);refine⟨b,?_,fun x u=>?_⟩
   . grind[pk,iQ,putI]
   . obtain ⟨y,H,l⟩:=B.store S.ok Nat.one_ne_zero (o:=i) (vs:=[x]) (by simp;omega) (by simp [u.2.1]);have e:lay vs i [x]=vs.set i x:=(by refine Xp fun j=>?_;rw [lS (by simp;omega),List.getElem?_set];grind);rw [e]at l;refine⟨h.put b y,?_,?_⟩
     . have:jH E h t (.pointer (some ⟨b,i,none⟩)) x=h.store b i [x]:=(by simp only [jH,D];have I:ac x=[x]:=u.1;have J:(bif Xi (ac x).length 1 then h.store b i (ac x)else none)=h.store b i [x]:=(by rw [I];rfl);revert J;cases x<;>first|exact fun h=>h|exact absurd rfl (u.2.2 _));grind
     . have m:eH (Value.slice (some ⟨b,0,some 1⟩) n n,1,vs)=some b:=rfl;have C:=k b m;have hlt:=(List.getElem?_eq_some_iff.1 r).1;have K: ∀c∈L.map XO,c≠b:=fun c w e=>(by have H:=S.apart;grind[keys,Xz,Xc]);have f:keys L (G.set j (Value.slice (some ⟨b,0,some 1⟩) n n,1,vs.set i x))=keys L G:=by
        unfold keys;congr 1;have: ∀(G:List GL) (j:Nat) (p q:GL),G[j]? =some p->eH q=eH p->(G.set j q).filterMap eH=G.filterMap eH:=by
         intro G
         induction G with
         |nil=>grind| cons g G N=>
           intro j p q r R;cases j with
           |zero=>grind|succ j=>grind
        exact this G j _ _ r rfl
       refine⟨S.fr.put C y,fun p d=>⟨(S.own p d).1,(S.own p d).2.of_get (dB fun e=>K _ (X7 d) e.symm)⟩,fun p d=>?_,by rw [f];exact S.apart⟩;rcases oD d with rfl|⟨T,z,d⟩
       . exact⟨.inr ⟨b,n,rfl,by simpa using s,l⟩,fun c w=>by cases w;exact C⟩
       . refine⟨(S.gown p (Xc d)).1.of_get fun c w=>dB fun e=>z ?_,(S.gown p (Xc d)).2⟩;subst e;have l:=S.apart;unfold keys at l;have U:=(List.nodup_append.1 l).2.1;have O: ∀(G:List GL) (a c:Nat) (p q:GL),(G.filterMap eH).Nodup->G[a]? =some p->G[c]? =some q-> ∀x,eH p=some x->eH q=some x->a=c:=by
          intro G
          induction G with
          |nil=>grind| cons g G N=>grind
         grind
def JP(n:Nat)(d:List Deferred)(rc:Option (Value×Bool))(J:(Nat->Value)->Hp->Prop):gH:=fun e l h=>e=.normal/\ ∃a,l=LL n a d rc/\J a h
theorem xO{Q:gH}{k:List Fr}{J:(Nat->Value)->Hp->Prop}{c:Code}{l:Loc}(a:Run E (lim E) cx (JP n d rc J) [.code c] .normal l h)(b: ∀ρ h,J ρ h->Run E (lim E) cx Q k .normal (LL n ρ d rc) h):Run E (lim E) cx Q (.code c::k) .normal l h:=by
 obtain⟨j,m,e,f,g⟩:=a;obtain⟨rfl,ρ,rfl,i⟩:=g;exact⟨_,_,_,f,b ρ e i⟩
theorem uq{Q:gH}{k:List Fr}(J:(Nat->Value)->Hp->Prop){a b:Code}{c:Nat->Value}{t:Bool}(f:t=true->Run E (lim E) cx (JP n d rc J) [.code a] .normal (LL n c d rc) h)(g:t=false->Run E (lim E) cx (JP n d rc J) [.code b] .normal (LL n c d rc) h)(e: ∀ρ h,J ρ h->Run E (lim E) cx Q k .normal (LL n ρ d rc) h):CStep E cx Q a b k (LL n c d rc) h (.bool t):=by
 cases t with
 |true=>exact xO (f rfl) e|false=>exact xO (g rfl) e
theorem dL{J:(Nat->Value)->Hp->Prop}{ρ:Nat->Value}(a:J ρ h):JP n d rc J .normal (LL n ρ d rc) h:=⟨rfl,ρ,rfl,a⟩
theorem wS{E:Env}{R:Rec}{cx:Cx}{Q:gH}{k2:List Fr}: ∀(m:List Fr) (e:Ex) (l:Loc) (h:Hp),Run E R cx (fun e l h=>Run E R cx Q k2 e l h) m e l h->Run E R cx Q (m++k2) e l h
 | [],e,l,h,d=>d| f ::m,e,l,h,d=>by
   have g:=wS (E:=E) (R:=R) (cx:=cx) (Q:=Q) (k2:=k2) m;cases f with
   | code c=>
     cases e with
     |normal=>obtain⟨n,j,k,a,b⟩:=d;exact⟨n,j,k,a,g _ _ _ b⟩
     |exit i=>exact g _ _ _ d|ret=>exact g _ _ _ d|pan v=>exact g _ _ _ d
   | blk id=>
     cases e with
     |normal=>exact g _ _ _ d| exit i=>simp only [Run,XK]at d⊢;grind|ret=>exact g _ _ _ d|pan v=>exact g _ _ _ d
   | ops a p=>
     cases e with
     |normal=>obtain⟨n,j,k,a,b⟩:=d;exact⟨n,j,k,a,g _ _ _ b⟩
     |exit i=>exact g _ _ _ d|ret=>exact g _ _ _ d|pan v=>exact g _ _ _ d
   | kill t=>
     cases e with
     |normal=>obtain⟨b,r,c,x,y,z⟩:=d;exact⟨b,r,c,x,y,g _ _ _ z⟩
     |exit i=>exact g _ _ _ d|ret=>exact g _ _ _ d|pan v=>exact g _ _ _ d
   | opsD a q s p i u=>
     cases e with
     |normal=>obtain⟨j,k,o,a,b,c⟩:=d;exact⟨j,k,o,a,b,g _ _ _ c⟩
     |exit i=>exact g _ _ _ d|ret=>exact g _ _ _ d|pan v=>exact g _ _ _ d
theorem run_post{Q n:gH}(hq: ∀e l h,Q e l h->n e l h): ∀(k:List Fr) (e:Ex) (l:Loc) (h:Hp),Run E R cx Q k e l h->Run E R cx n k e l h
 | k, e, l,h,d=>by
   have:=wS (E:=E) (R:=R) (cx:=cx) (Q:=n) (k2:=[]) k e l h;rw [XF]at this;refine this ?_;revert d
   induction k generalizing e l h with
   |nil=>intro d;exact hq _ _ _ d| cons f k g=>
     intro d;have g:=fun e l h d=>g e l h (by have:=wS (E:=E) (R:=R) (cx:=cx) (Q:=n) (k2:=[]) k e l h;grind) d;cases f with
     | code c=>
       cases e with
       |normal=>obtain⟨o,j,m,a,b⟩:=d;exact⟨o,j,m,a,g _ _ _ b⟩
       |exit i=>exact g _ _ _ d|ret=>exact g _ _ _ d|pan v=>exact g _ _ _ d
     | blk id=>
       cases e with
       |normal=>exact g _ _ _ d| exit i=>
         simp only [Run]at d⊢;by_cases r:i=id
         . rw [if_pos r]at d⊢;exact g _ _ _ d
         . rw [if_neg r]at d⊢;exact g _ _ _ d
       |ret=>exact g _ _ _ d|pan v=>exact g _ _ _ d
     | ops a s=>
       cases e with
       |normal=>obtain⟨o,j,m,a,b⟩:=d;exact⟨o,j,m,a,g _ _ _ b⟩
       |exit i=>exact g _ _ _ d|ret=>exact g _ _ _ d|pan v=>exact g _ _ _ d
     | kill t=>
       cases e with
       |normal=>obtain⟨b,u,c,x,y,z⟩:=d;exact⟨b,u,c,x,y,g _ _ _ z⟩
       |exit i=>exact g _ _ _ d|ret=>exact g _ _ _ d|pan v=>exact g _ _ _ d
     | opsD a q w s i A=>
       cases e with
       |normal=>obtain⟨j,m,p,a,b,c⟩:=d;exact⟨j,m,p,a,b,g _ _ _ c⟩
       |exit i=>exact g _ _ _ d|ret=>exact g _ _ _ d|pan v=>exact g _ _ _ d
theorem tW{Q:gH}{k:List Fr}{b:Code}{id:Nat}{f:Type}(J:(Nat->Value)->Hp->Prop)(I:f->(Nat->Value)->Hp->Prop)(m:f->Nat)(j: ∀a,(∀i c h',m i<m a->I i c h'->Run E (lim E) cx (JP n d rc J) [.code (.loop b),.blk id] .normal (LL n c d rc) h')-> ∀ρ h,I a ρ h->Run E (lim E) cx (JP n d rc J) [.code b,.code (.loop b),.blk id] .normal (LL n ρ d rc) h)(o: ∀ρ h,J ρ h->Run E (lim E) cx Q k .normal (LL n ρ d rc) h)(a:f){ρ:Nat->Value}(p:I a ρ h):Run E (lim E) cx Q (.code (.loop b):: .blk id::k) .normal (LL n ρ d rc) h:=by
 have q:=aX I m j a ρ h p;refine wS [.code (.loop b),.blk id] _ _ _ (run_post (fun e l h g=>?_) _ _ _ _ q);obtain⟨rfl,ρ,rfl,g⟩:=g;exact o ρ h g
theorem jG{ops:List Oper}(a:((ops.any vJ||uL ops)&&ops.all (jx ops.length))=true)(b:ordL ops=ord)(c:dW ops ord ord=os):bV ops=os:=by unfold bV;grind
theorem St.gblk(S:St M h0 h L G){p:GL}(d:p∈G)(a:ar p.1 c):(h0.n<=c\/M c)/\c∉L.map XO:=by
 have f:eH p=some c:=by
  rcases(S.gown p d).1 with⟨e,_⟩|⟨b,n,e,_⟩
  . rw [e]at a;exact a.elim
  . obtain⟨v,k,i⟩:=p;simp only []at e a;subst e;exact congrArg some a
 refine⟨(S.gown p d).2 c f,fun j=>?_⟩;have g:=S.apart;unfold keys at g;grind
structure Arc where
 s:Nat
 t:Nat
 w:Nat
deriving Inhabited
def cQ(a:Arc):List Value:=[.int .i64 a.s,.int .i64 a.t,.int .i64 a.w]
theorem jS(a:Arc):(cQ a).length=3:=rfl
structure Gra where
 nodes:Nat
 X:List Int
 Y:List Int
 arcs:List Arc
structure Good(g:Gra):Prop where
 n1:1<=g.nodes
 n2:g.nodes<=12
 lX:g.X.length=g.nodes
 lY:g.Y.length=g.nodes
 cX: ∀x∈g.X,-2147483648<=x/\x<=2147483647
 cY: ∀x∈g.Y,-2147483648<=x/\x<=2147483647
 many:g.arcs.length<=100
 arcs: ∀a∈g.arcs,a.s<g.nodes/\a.t<g.nodes/\a.w<=2147483647
structure mC(g:Gra):Prop where
 n1:1<=g.nodes
 n2:g.nodes<=300
 lX:g.X.length=g.nodes
 lY:g.Y.length=g.nodes
 cX: ∀x∈g.X,-2147483648<=x/\x<=2147483647
 cY: ∀x∈g.Y,-2147483648<=x/\x<=2147483647
 many:g.arcs.length<=400
 arcs: ∀a∈g.arcs,a.s<g.nodes/\a.t<g.nodes/\a.w<=2147483647
theorem Good.b{g:Gra}(h:Good g):mC g:=⟨h.n1,Xm h.n2 (by decide),h.lX,h.lY,h.cX,h.cY,Xm h.many (by decide),h.arcs⟩
structure eg(h:Hp)(vx vy va:Value)(g:Gra):Prop where
 X:aw h 1 (encI .i64) vx g.X
 Y:aw h 1 (encI .i64) vy g.Y
 A:aw h 3 cQ va g.arcs
theorem eg.gr{h h':Hp}{b c d:Value}{g:Gra}(a:eg h b c d g)(r:Gr h h'):eg h' b c d g:=⟨a.X.gr r,a.Y.gr r,a.A.gr r⟩
def ni(g:Gra)(a b c:Value):Value:=.agg ⟨[.int .i64 g.nodes,a,b,c]⟩
structure Pl where
 i:Int
 f:Int
 c:Int
 n:Int
 lo:Int
 hi:Int
def mj(p:Pl):List Value:=[.int .i64 p.i,.int .i64 p.f,.int .i64 p.c,.int .i64 p.n,.int .i64 p.lo,.int .i64 p.hi]
theorem encP_len(p:Pl):(mj p).length=6:=rfl
end Go.Ab

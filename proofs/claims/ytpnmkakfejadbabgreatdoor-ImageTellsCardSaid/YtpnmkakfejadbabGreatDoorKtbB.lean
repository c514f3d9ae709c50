/- A deterministic evaluator of the model's code, and that the model follows it (part 2). -/
import Derived.Test.YtpnmkakfejadbabGreatDoorKtbA
import Derived.Orders
import Derived.ChangeSame
import Derived.RowKit3
import Derived.JoinedOf
import Derived.KernelRfl
import Derived.WalkKit
import Derived.ProofKit
import Derived.OpenShut
import Derived.Carry
open And renaming intro->zB
open Array renaming getElem?_eq_getElem->zM,getD_eq_getD_getElem?->Xe,replicate->Xj,getElem?_toList->Xo,getElem?_push->XA,getElem?_replicate->XK,all_eq_true'->XU,getElem?_eq_none->X6,length_toList->Yc
open Bool renaming and_eq_true->zO,not_eq_true'->Xm,or_eq_true->XQ
open List renaming mem_of_getElem?->Xa,length_append->Xp,mem_cons_of_mem->Xs,getElem?_eq_getElem->Xt,nodup_append->Xv,ext_getElem?->Xw,mem_cons_self->Xx,getElem?_eq_some_iff->Xy,drop_eq_getElem_cons->Xz,map_congr_left->XB,mem_filter->XD,append_nil->XE,mem_range->XG,replicate->XH,all_eq_true->XN,take_append_drop->XP,mem_map_of_mem->XT,getElem?_map->XV,pairwise_iff_getElem->XW,getElem?_append_left->XY,length_cons->XZ,take_length->X2,getElem?_replicate->X3,length_nil->X4,range'->X7,length_replicate->X8,drop_zero->X9,getElem?_of_mem->Ya
open Nat renaming eq_of_beq_eq_true->Xb,le_refl->Xc,ble_eq_true_of_le->Xd,ble->Xf,lt_of_lt_of_le->Xg,beq->Xh,le_trans->Xk,le_of_ble_eq_true->Xl,beq_refl->Xn,zero_add->Xq,lt_or_ge->Xr,lt_trichotomy->Xu,le_mul_of_pos_right->XC,testBit->XF,zero_le->XJ,blt->XL,mul_le_mul_right->XS,blt_eq->XX,min_eq_left->X5,succ_mul->Yd,add_mul->Ye
open Iff renaming rfl->Xi
open Option renaming bind_some->XI,map_eq_some_iff->XM,getD_some->XO,map_some->XR
open Prod renaming fst->Yb
set_option maxHeartbeats 400000
set_option linter.defProp false
set_option linter.unusedVariables false
set_option linter.unusedSimpArgs false
namespace Go.Ab
variable{E:Env}
variable{ops:Array Oper}
variable{c i j k md n p q top:Nat}
variable{ps:List (Nat×Nat)}
variable{a ops' os:List Oper}
variable{x y:Operand}
variable{A h h':Hp}
variable{e mu mu0:Mu}
variable{W w w':World}
variable{ρ:Operand->Value}
variable{d dfs:List Deferred}
variable{op:Op}
variable{cap tmps:Array Value}
variable{F:FC}
variable{cs:List Frame}
variable{ord rest:List Nat}
variable{o:Oper}
variable{v:Value}
variable{args l post vs z:List Value}
variable{S:Nat->Bool}
variable{m:Int}
variable{t:Tmp}
variable{R:Rec}
variable{s:Option Nat}
variable{f g:FuncId}
variable{r:List (Nat×Value)}
variable{K Q:Value->Hp->Prop}
variable{σ:Nat->Nat}
variable{M M':Nat->Prop}
variable{rc:Option (Value×Bool)}
variable{cx:Cx}
variable{P:Program}
variable{assign body:Code}
variable{rs:List ResultVar}
variable{as:Array Operand}
variable{k' kd:IntKind}
variable{params:Array Tmp}
variable{xs:List (List Value)}
variable{J:Nat->Hp->List Nat->Prop}
variable{Z:Out->Hp->Prop}
theorem uP{E:Env}{ops:List Oper}: ∀(os:List Oper) (b:List Nat) (n q:Nat) (l:List (Nat×Nat)) (a:Nat) (l':List (Nat×Nat)),xy E ops os b n (q,l)=some (a,l')->
 Sub q a/\(∀x∈l,x∈l')/\ ∀j o,os[j]? =some o->(cls E o.op=4->a.testBit (n+j)=true)/\
  ∃m,b[j]? =some m/\ ∀i p,i<n+j->ops[i]? =some p->m.testBit i=false->Owe E ops o p i (n+j) a l'
 | [],b,n,q,l,a,l',h=>by cases b<;>(cases h;exact⟨fun _ x=>x,fun _ x=>x,fun j o k=>by simp at k⟩)
 |o::os,[],n,q,l,a,l',h=>by cases h
 | o :: os,m::b,n,q,l,a,l',h=>by
   simp only [xy]at h
   split at h
   next=>cases h
   next r s t=>
    obtain⟨u,v,w⟩:=owed_ok _ _ _ _ _ _ t;obtain⟨e,f,y⟩:=uP os b (n+1) _ s a l' h;have g:Sub r a:=by
     intro x c;apply e;cases Xh (cls E o.op) 4 with
     |true=>simp_all|false=>exact c
    refine⟨fun x c=>g x (u x c),fun x c=>f x (v x c),fun j z d=>?_⟩;cases j with
    | zero=>
      simp at d;subst d;refine⟨fun A=>?_,m,rfl,fun i p B C D=>?_⟩
      . apply e;simp_all
      . have:=w i p (by grind) (by grind);rw [Xq]at this;exact this.mono g f
    | succ j=>grind
theorem Ap{ops:List Oper}(h:im E ops=some (q,ps)):
 ∃ M:List Nat,(∀i,rf ops M i)/\ ∀n o,ops[n]? =some o->(cls E o.op=4->q.testBit n=true)/\
   ∀m,M[n]? =some m-> ∀i p,i<n->ops[i]? =some p->m.testBit i=false->Owe E ops o p i n q ps:=by
 unfold im at h
 split at h
 next=>cases h
 next b a=>
  obtain⟨_,_,d⟩:=xu _ _ _ a;obtain⟨_,_,e⟩:=uP _ _ _ _ _ _ _ h;refine⟨b.reverse,fun i o c=>?_,fun n o c=>?_⟩
  . simp_all
  grind
inductive xo(E:Env)(R:Rec)(ops:List Oper)(q i:Nat)(o:Oper)(l:Loc)(h:Hp):Loc->Hp->Option Nat->Bool->Prop
 |skip:cU ops l.regs o=some false->xo E R ops q i o l h (l.put o.dst (.tuple #[])) h none false
 |exec {v:Value} {h':Hp}:cU ops l.regs o=some true->dw E R (l.evD (tmpsOf o.op.operands.toList)) (fI E q i o.op) o h=some (v,h')->
  xo E R ops q i o l h (l.put o.dst v) h' (mU (l.evD (tmpsOf o.op.operands.toList)) o.op h) true
theorem yt{E:Env}{R:Rec}{ops:List Oper}{q:Nat}: ∀(os:List Oper) (i:Nat) (l:Loc) (h:Hp) (d:List (Nat×Tch)) (l':Loc) (h':Hp) (a:List (Nat×Tch)),cD E R ops q os i l h d=some (l',h',a)->
 (∀k,k<i->di k a=di k d)/\
 ∃ (L:Nat->Loc) (H:Nat->Hp) (T:Nat->Option Nat) (X:Nat->Bool),L i=l/\H i=h/\L (i+os.length)=l'/\H (i+os.length)=h'/\
   (∀j o,os[j]? =some o->xo E R ops q (i+j) o (L (i+j)) (H (i+j)) (L (i+j+1)) (H (i+j+1)) (T (i+j)) (X (i+j)))/\
   (∀j o b,os[j]? =some o->ef o.op=false->T (i+j)=some b->di (i+j) a=some (.blk b))/\
   (∀j o,os[j]? =some o->ef o.op=true->X (i+j)=true->fI E q (i+j) o.op=false->di (i+j) a=some (.run (H (i+j)) (H (i+j+1))))
 | [],i,l,h,d,l',h',a,f=>by
   cases f;exact⟨fun _ _=>rfl,fun _=>l,fun _=>h,fun _=>none,fun _=>false,rfl,rfl,rfl,rfl,fun j o n=>by simp at n,fun j o b n=>by simp at n,fun j o n=>by simp at n⟩
 | o ::os,i,l,h,d,l',h',a,f=>by
   have next: ∀{r:Loc} {m:Hp} {c:List (Nat×Tch)} {t:Option Nat} {x:Bool} {nt:Option Tch},cD E R ops q os (i+1) r m c=some (l',h',a)->c=iF i d nt->xo E R ops q i o l h r m t x->
    (ef o.op=false-> ∀b,t=some b->nt=some (.blk b))->(ef o.op=true->x=true->fI E q i o.op=false->nt=some (.run h m))->
    (∀k,k<i->di k a=di k d)/\
    ∃ (L:Nat->Loc) (H:Nat->Hp) (T:Nat->Option Nat) (X:Nat->Bool),L i=l/\H i=h/\L (i+(o::os).length)=l'/\H (i+(o::os).length)=h'/\
      (∀j o',(o::os)[j]? =some o'->xo E R ops q (i+j) o' (L (i+j)) (H (i+j)) (L (i+j+1)) (H (i+j+1)) (T (i+j)) (X (i+j)))/\
      (∀j o' b,(o::os)[j]? =some o'->ef o'.op=false->T (i+j)=some b->di (i+j) a=some (.blk b))/\
      (∀j o',(o::os)[j]? =some o'->ef o'.op=true->X (i+j)=true->fI E q (i+j) o'.op=false->di (i+j) a=some (.run (H (i+j)) (H (i+j+1)))):=by
    intro r m c t x nt s p G I J;obtain⟨y,L,H,T,X,K,M,N,g4,O,P,Q⟩:=yt os (i+1) r m c l' h' a s;have g: ∀k,k<i->di k c=di k d:=by
     intro k z;rw [p];cases nt with
     |none=>rfl| some b=>
       show(bif Xh k i then some b else di k d)=_;rw [dJ,decide_eq_false (by omega)];rfl
    have A: ∀e,nt=some e->di i a=some e:=(by intro e B;rw [y i (by omega),p,B];show(bif Xh i i then some e else di i d)=_;simp_all);refine⟨fun k z=>(y k (by omega)).trans (g k z),fun k=>if k=i then l else L k,fun k=>if k=i then h else H k,fun k=>if k=i then t else T k,fun k=>if k=i then x else X k,by simp,by simp,?_,?_,?_,?_,?_⟩
    . grind
    . grind
    . grind
    . grind
    grind
   simp only [cD]at f
   split at f
   next=>cases f
   next u=>exact next (t:=none) (nt:=none) f rfl (.skip u) (fun _ b e=>by cases e) (fun _ e=>by cases e)
   next u=>
    split at f
    next=>cases f
    next v m C=>
     refine next f rfl (.exec u C) (fun w b D=>?_) (fun w _ F=>?_)
     . unfold dr;rw [w,D];rfl
     . unfold dr;rw [w,F];rfl
theorem uC{b:List (Nat×Tch)}: ∀{ps:List (Nat×Nat)},dH b ps=true-> ∀{i j:Nat},(i,j)∈ps->mK (di i b) (di j b)=true
 | [],_,i,j,a=>by cases a
 | (c,d)::ps,h,i,j,a=>by
   simp only [dH,zO]at h;rcases List.mem_cons.1 a with e|a
   . cases e;exact h.1
   . exact uC h.2 a
theorem xP{a b:Addr}(h:sameAddr a b=true):a=b:=by
 unfold sameAddr at h;simp only [zO]at h;obtain⟨⟨f,g⟩,c⟩:=h;have d:=Xb f;have e:=Xb g;obtain⟨x,y,z⟩:=a;obtain⟨j,k,i⟩:=b;simp only []at d e c;subst d e;cases z<;>cases i<;>simp at c
 . rfl
 . subst c;rfl
theorem tE{a b:Value}(h:um a b=true):a=b:=by
 unfold um at h
 split at h
 next t c=>subst h;exact zQ c
 next=>
  split at h
  next=>rfl
  next=>rw [xP h]
  next=>simp_all
  next=>simp only [zO]at h;grind[xP,Xb]
  next=>rfl
  next=>simp_all
  next=>rfl
  next=>rfl
  next=>cases h
theorem Bn: ∀{l m:List Value},vV l m=true->l=m
 | [],[],_=>rfl| [],_::_,h=>by cases h
 |_::_,[],h=>by cases h
 | x::l,y::m,h=>by simp only [vV,zO]at h;rw [tE h.1,Bn h.2]
theorem AP{a b:Value}(h:zi a b=true):a=b:=by
 unfold zi at h
 split at h
 next g x y c d e=>simp only [zO]at h;grind[Xb,Array.toList_inj,Bn]
 next=>simp only [zO]at h;rw [Xb h.1,tE h.2]
 next=>exact tE h
theorem yq: ∀{t u:Tr Value},sameT t u=true->t=u
 | .nil,.nil,_=>rfl| .nil,.node ..,h=>by cases h
 | .node ..,.nil,h=>by cases h
 | .node x l r,.node a b c,h=>by simp only [sameT,zO]at h;rw [AP h.1,yq h.2.1,yq h.2.2]
theorem CB: ∀{l m:List (Value×Value×Nat)},sameE l m=true->l=m
 | [],[],_=>rfl| [],_::_,h=>by cases h
 |_::_,[],h=>by cases h
 | (k,x,n)::l,(a,y,m)::b,h=>by simp only [sameE,zO]at h;rw [tE h.1,AP h.2.1,Xb h.2.2.1,CB h.2.2.2]
theorem sameB_ok{x y:Blk}(h:sameB x y=true):x=y:=by
 unfold sameB at h;rw [XQ]at h;rcases h with h|h
 . split at h
   next=>simp only [zO]at h;grind[yq,Xb]
   next=>simp only [zO]at h;rw [Xb h.1,CB h.2]
   next=>cases h
 grind
theorem A5{b:Nat}(e:leaves h h' b=true):h'.get b=h.get b:=by grind[leaves,sameB_ok]
theorem iG{b:Nat}(e:h'.get b=h.get b):leaves h h' b=true:=by
 unfold leaves;rw [e];cases h.get b with
 |none=>rfl| some x=>show sameB x x=true;unfold sameB;grind
theorem hrel_lo(a:bE mu h w)(x:Nat):bE mu {h with lo:=x} w:=⟨a.sized,a.blk,a.dead,a.inj,a.lt⟩
theorem BX{d:Operand->Value}(g: ∀x,aC mu (ρ x) (d x)){b:Nat}(e:touch ρ op=some b):mu b≠ .none:=by
 have j: ∀{x:Operand},(match ρ x with| .pointer (some a)=>some a.block|_=>none)=some b->mu b≠ .none:=by
  intro x f;have:=g x
  split at f
  next a i=>rw [i]at this;cases f;generalize d x=y at this;cases this;rename_i h;exact h.in
  next=>cases f
 have n: ∀{x:Operand},(match ρ x with| .map r=>r|_=>none)=some b->mu b≠ .none:=by
  intro x f;have:=g x
  split at f
  next r k=>rw [k]at this;subst f;generalize d x=y at this;cases this;rename_i h;exact h.in
  next=>cases f
 have o: ∀{x:Operand},(match ρ x with| .slice (some a) _ _=>some a.block|_=>none)=some b->mu b≠ .none:=by
  intro x f;have:=g x
  split at f
  next a l c i=>rw [i]at this;cases f;generalize d x=y at this;cases this;rename_i m h;exact m.in
  next=>cases f
 unfold touch at e;cases op<;>simp only []at e<;>(try (cases e;done))<;>(try exact j e)<;>(try exact n e)<;>(try exact o e)
 split at e
 next x p f=>
  have:=g x
  split at e
  next r k=>rw [k]at this;subst e;generalize d x=y at this;cases this;rename_i h;exact h.in
  next a l c i=>rw [i]at this;cases e;generalize d x=y at this;cases this;rename_i m h;exact m.in
  next=>cases e
 next=>cases e
section
variable{E:Env}{P:Program}(ok:EOk E P){R:Rec}(hc:iX E P R.call)(hcode:kf P R.code)
include ok hc hcode in
theorem s7(n:bE mu h w)(p:oq mu)(j: ∀x,aC mu (ρ x) (eo tmps x)){k:List Item}(q:ops[i]? =some o)(r:Region.wanted o (yielded ops tmps)=true){a:Bool}(f:dw E R ρ a o h=some (v,h')):
 ∃ c w' v',bE c h' w'/\Ext mu h w c h' w'/\aC c v v'/\(a=true-> ∀b,b<h.n->h'.get b=h.get b)/\
   Steps P (lone (F.mk' tmps dfs (.inRegion ops (i::rest)::k)) cs w) (lone (F.mk' (iO tmps o.dst v') dfs (.inRegion ops rest::k)) cs w'):=by
 cases a with
 | false=>
   simp only [dw,cond_false]at f
   split at f
   next u l m=>
    cases f;obtain⟨c,w',s,d,v',t,g4⟩:=sS ok hc hcode n p j (F:=F) (dfs:=dfs) (k:=k) (cs:=cs) (rest:=rest) q r m;grind
   next=>cases f
 | true=>
   simp only [dw,cond_true]at f
   split at f
   next u l m=>
    cases g:Xf h.n l.lo with
    |false=>grind| true=>
      rw [g]at f;cases f;have hle:h.n<=l.lo:=Xl g;obtain⟨c,w',s,d,v',t,g4⟩:=sS ok hc hcode (hrel_lo n h.n) p j (F:=F) (dfs:=dfs) (k:=k) (cs:=cs) (rest:=rest) q r m;have e: ∀b,b<h.n->l.get b=h.get b:=fun b g=>d.same b g (by omega);exact⟨c,w',v',hrel_lo s h.lo,⟨d.n,d.old,d.fresh,Xc _,fun b g _=>e b g,d.frame,d.ro,d.wsize,d.os,d.tape,d.output,d.cover⟩,t,fun _=>e,g4⟩
   next=>cases f
theorem oh(t:Nat): ∀l:List Nat,memb t l=true↔t∈l
 | []=>by simp [memb]| x::l=>by simp_all[memb,XQ,List.mem_cons,oh,Xb,Xn]
theorem re(t:Tmp): ∀l:List Operand,t∈tmpsOf l↔ .tmp t∈l
 | []=>by simp [tmpsOf]| x::l=>by cases x<;>simp [tmpsOf,re t l]
theorem wX{l:Loc}(hs:l.regs.Sized n)(b:tmps.size=n)(ts:List Tmp)(c: ∀t∈ts,∀v,l.regs.get t=some v-> ∃v',tmps[t]? =some v'/\aC mu v v')(d:oq mu)(x:Operand):aC mu (l.evD ts x) (eo tmps x):=by
 cases x with
 | tmp t=>
   simp only [Loc.evD];cases e:memb t ts with
   |false=>exact .poison _| true=>
     simp only [cond_true,Loc.ev,eo];cases h:l.regs.get t with
     | none=>
       have:n<=t:=by
        rcases Xr t n with a|a
        . obtain⟨v,i⟩:=Tr.get_some hs a;grind
        . exact a
       rw [Xe,X6 (by omega)];exact .tuple rfl (by grind)
     | some v=>
       obtain⟨v',a,i⟩:=c t ((oh t ts).1 e) v h;simp_all
 | const v=>
   simp only [Loc.evD,Loc.ev,eo];cases hc:dI v with
   |true=>simp only [cond_true];exact aC.const mu hc|false=>simp only [cond_false];exact .poison v
 | global g=>
   simp only [Loc.evD,Loc.ev,eo];cases j:XL g 16 with
   |true=>simp only [cond_true];exact .ptr (d g (by simp_all))|false=>simp only [cond_false];exact .poison _
 |func f=>exact .fn rfl (by grind) rfl (by grind)
end
theorem cls_le(op:Op):cls E op<=5:=by unfold cls;grind
theorem AK(h:ic op=true):cls E op=4:=by
 unfold ic at h
 split at h
 . rfl
 . cases h
theorem uK(h:cls E op≠4)(ρ:Operand->Value)(a:Hp):mU ρ op a=touch ρ op:=by grind[mU,ic,absurd,AK]
theorem oL(h:cls E op≠3):ef op=false:=by cases op<;>(try rfl);rename_i c;obtain⟨a,b⟩:=c;cases a<;>first|rfl|(exact absurd rfl h)
structure DT(E:Env)(R:Rec)(ops:Array Oper)(q:Nat)(ps:List (Nat×Nat))(M:List Nat)(L:Nat->Loc)(H:Nat->Hp)(T:Nat->Option Nat)(X:Nat->Bool):Prop where
 bef: ∀i,rf ops.toList M i
 four: ∀(n:Nat) o,ops[n]? =some o->cls E o.op=4->q.testBit n=true
 owe: ∀(n:Nat) o m (i:Nat) p,ops[n]? =some o->M[n]? =some m->i<n->ops[i]? =some p->m.testBit i=false->Owe E ops.toList o p i n q ps
 step: ∀(i:Nat) o,ops[i]? =some o->xo E R ops.toList q i o (L i) (H i) (L (i+1)) (H (i+1)) (T i) (X i)
 pair: ∀{i j a b:Nat} {o p:Oper},(i,j)∈ps->ops[i]? =some o->ops[j]? =some p->ef o.op=false->ef p.op=false->T i=some a->T j=some b->a≠b
 leave: ∀{i j a:Nat} {o p:Oper},((i,j)∈ps\/(j,i)∈ps)->ops[i]? =some o->ops[j]? =some p->ef o.op=false->ef p.op=true->X j=true->fI E q j p.op=false->T i=some a->(H (j+1)).get a=(H j).get a
def isW(E:Env)(X:Nat->Bool)(q:Nat)(o:Oper)(i:Nat):Prop:=X i=true/\(cls E o.op=2\/((cls E o.op=3\/cls E o.op=5)/\q.testBit i=false))
def isQ(E:Env)(X:Nat->Bool)(q:Nat)(o:Oper)(i:Nat):Prop:=X i=true/\3<=cls E o.op/\q.testBit i=true
def isR(E:Env)(X:Nat->Bool)(o:Oper)(i:Nat):Prop:=X i=false\/cls E o.op<=1
def ou(ops:Array Oper)(S:Nat->Bool):Prop:= ∀i o,ops[i]? =some o->S i=true-> ∀e∈o.after.toList,binds e=true->S e.on=true
def Ready(o:Oper)(S:Nat->Bool):Prop:= ∀e∈o.after.toList,binds e=true->S e.on=true
section
variable{E:Env}{R:Rec}{ops:Array Oper}{q:Nat}{ps:List (Nat×Nat)}{M:List Nat}{L:Nat->Loc}{H:Nat->Hp}{T:Nat->Option Nat}{X:Nat->Bool}(D:DT E R ops q ps M L H T X)
include D
theorem kinds(c:ops[i]? =some o):isR E X o i\/isQ E X q o i\/isW E X q o i:=by
 cases a:X i with
 |false=>exact .inl (.inl a)| true=>
   have f:=cls_le (E:=E) o.op;rcases Xr (cls E o.op) 2 with h|h
   . exact .inl (.inr (by omega))
   . by_cases d:cls E o.op=2
     . exact .inr (.inr ⟨a,.inl d⟩)
     . cases b:q.testBit i with
       |true=>exact .inr (.inl ⟨a,by omega,b⟩)| false=>have g:cls E o.op≠4:=(by intro e;have:=D.four i o c e;grind);exact .inr (.inr ⟨a,.inr ⟨by omega,b⟩⟩)
theorem qc(c:ou ops S): ∀(n:Nat) (o:Oper) (m i:Nat),ops[n]? =some o->M[n]? =some m->S n=true->m.testBit i=true->S i=true:=by
 intro n
 induction n using Nat.strongRecOn with
 | _ n p=>
   intro o m i d f g h;obtain⟨r,b,s,j⟩:=D.bef n o (by grind);rw [f]at b;cases b;obtain⟨e,k,a,x⟩:=j i h;have l:=c n o d g e k a;grind
theorem qS(h:ou ops S){m:Nat}(j:ops[n]? =some o)(k:M[n]? =some m)(l:Ready o S)(p:m.testBit i=true):S i=true:=by
 obtain⟨t,f,r,s⟩:=D.bef n o (by grind);rw [k]at f;cases f;obtain⟨e,g,a,x⟩:=s i p;have b:=l e g a;rcases x with rfl|⟨m2,c,d⟩
 . exact b
 . have hlt:=r e g a;have u:n<ops.size:=(Array.getElem?_eq_some_iff.1 j).1;exact qc D h e.on ops[e.on] m2 i (zM (by omega)) c b d
theorem mask(a:ops[n]? =some o): ∃m,M[n]? =some m:=by obtain⟨b,c,_⟩:=D.bef n o (by grind);grind
theorem cmpN{p:Oper}{m:Nat}(w:ops[n]? =some o)(z:M[n]? =some m)(A:i<n)(B:ops[i]? =some p)(h:(isW E X q p i/\(isW E X q o n\/isQ E X q o n))\/(isQ E X q p i/\isW E X q o n/\ic p.op=false)):m.testBit i=true\/(isQ E X q p i/\cls E o.op=2/\qI ops.toList o n i=true):=by
 cases C:m.testBit i with
 |true=>exact .inl rfl| false=>
   by_cases r:isQ E X q p i/\cls E o.op=2/\qI ops.toList o n i=true
   . exact .inr r
   exfalso;obtain⟨_,v⟩:=D.owe n o m i p w z A B C;have k: ∀{x y:Oper} {a b:Nat},isW E X q x a->(isW E X q y b\/isQ E X q y b)->cls E x.op≠0/\cls E x.op≠1/\cls E y.op≠0/\cls E y.op≠1:=(by intro x y a b g s;obtain⟨_,g⟩:=g;rcases s with⟨_,s⟩|⟨_,s,_⟩<;>(omega));rcases h with⟨j,l⟩|⟨j,l,F⟩
   . obtain⟨t,e,u,f⟩:=k j l;rcases v with h|h|⟨h,_⟩|⟨_,h,_⟩|⟨h,_⟩|⟨_,h,_⟩|⟨h,_⟩|⟨a,b,c,d⟩|⟨_,h,_⟩|⟨h,_⟩|⟨e3,G,_,e5,_⟩|⟨e6,e7,e8,e9⟩
     . exact u h
     . exact t h
     . exact f h
     . exact e h
     . exact f h
     . exact e h
     . exact f h
     . obtain⟨_,g⟩:=j;grind
     . exact e h
     . exact f h
     . obtain⟨_,g⟩:=j;omega
     . obtain⟨_,g⟩:=j;grind
   . obtain⟨t,e,u,f⟩:=k l (.inr j);rcases v with h|h|⟨h,_⟩|⟨_,h,_⟩|⟨h,_⟩|⟨_,h,_⟩|⟨h,_⟩|⟨a,b,c,d⟩|⟨_,h,_⟩|⟨h,_⟩|⟨e3,G,_,e5,_⟩|⟨e6,e7,e8,e9⟩
     . exact t h
     . exact u h
     . exact e h
     . exact f h
     . exact e h
     . exact f h
     . exact e h
     . obtain⟨_,g⟩:=l;grind
     . exact f h
     . exact e h
     . grind
     grind
theorem cmp{p:Oper}{m:Nat}(a:ops[n]? =some o)(b:M[n]? =some m)(c:i<n)(d:ops[i]? =some p)(h:isW E X q p i/\(isW E X q o n\/isQ E X q o n)):m.testBit i=true:=by
 rcases cmpN D a b c d (.inl h)with x|⟨x,_⟩
 . exact x
 . exfalso;have e:=h.1.2;have f:=x.2.2;rcases e with y|⟨_,y⟩
   . have:=x.2.1;omega
   grind
theorem yL(j:ou ops S)(c:ops[n]? =some o)(k:Ready o S)(s:S n=false)(u:t∈iA ops.toList o):
 ∀(p:Nat) (op:Oper),ops[p]? =some op->op.dst=some t->(p<n↔S p=true):=by
 intro p op b a;obtain⟨m,g⟩:=mask D c;obtain⟨i,e⟩:=mask D b;have l:t∈iA ops.toList op:=by unfold iA;rw [a];simp
 rcases Xu p n with h|h|h
 . refine⟨fun _=>?_,fun _=>h⟩;cases d:m.testBit p with
   |true=>exact qS D j c g k d| false=>
     exfalso;obtain⟨f,_⟩:=D.owe n o m p op c g h b d;simp only [nK,a,zO,Xm]at f;grind[oh]
 . grind
 . refine⟨fun r=>absurd r (by omega),fun v=>?_⟩;exfalso;cases d:i.testBit n with
   |true=>grind[qc]| false=>
     obtain⟨f,_⟩:=D.owe p op i n o b e h c d;simp only [nK,a,zO,Xm]at f;grind[oh]
end
section
variable{E:Env}{P:Program}(ok:EOk E P){R:Rec}(hc:iX E P R.call)(hcode:kf P R.code)
variable{ops:Array Oper}{q:Nat}{ps:List (Nat×Nat)}{M:List Nat}{L:Nat->Loc}{H:Nat->Hp}{T:Nat->Option Nat}{X:Nat->Bool}(D:DT E R ops q ps M L H T X)
def nY(n:Nat)(mu0:Mu)(d:World)(L:Nat->Loc)(H:Nat->Hp)(i:Nat):Prop:=
 ∃a c b,bE a (H i) c/\oq a/\ke a (L i).regs n b/\Ext mu0 (H 0) d a (H i) c
structure qX(ops:Array Oper)(E:Env)(X:Nat->Bool)(q:Nat)(H:Nat->Hp)(T:Nat->Option Nat)(i:Nat)(o:Oper):Prop where
 n:(H i).n<=(H (i+1)).n
 quiet:isQ E X q o i-> ∀b,b<(H i).n->(H (i+1)).get b=(H i).get b
 still:isR E X o i->H (i+1)=H i
theorem EC(c:cls E o.op<=1){a:Bool}(hq:a=false)(b:dw E R ρ a o h=some (v,h')):h'=h:=by
 subst hq;obtain⟨f,d,_,_⟩:=Dp (E:=E) (op:=o.op) (ρ:=ρ) (by omega);simp only [dw,cond_false]at b;rw [d h]at b;cases hf:f h with
 |none=>rw [hf]at b;cases b
 |some u=>rw [hf]at b;cases b;rfl
theorem Bq(a:cls E op<=1):fI E q i op=false:=by grind[fI,Xf,cls,Xl]
theorem rO(a:3<=cls E op)(b:q.testBit i=true):fI E q i op=true:=by unfold fI;simp_all
include ok hc hcode D in
theorem v9{n:Nat}{mu0:Mu}{m:World}: ∀(i:Nat),i<=ops.size->nY n mu0 m L H 0->nY n mu0 m L H i/\(∀j o,j<i->ops[j]? =some o->qX ops E X q H T j o)
 |0,_,p=>⟨p,fun j o K=>absurd K (by omega)⟩
 | i + 1,V,p=>by
   obtain⟨⟨r,N,a,B,g,c,g4⟩,W⟩:=v9 i (by omega) p;have C:ops[i]? =some ops[i]:=zM (by omega);have e:=D.step i ops[i] C
   suffices Y:nY n mu0 m L H (i+1)/\qX ops E X q H T i ops[i] by grind
   generalize G:L (i+1)=Z at e;generalize s:H (i+1)=H1 at e;generalize hT:T i=T1 at e;generalize hX:X i=X1 at e;cases e with
   | skip I=>
     refine⟨⟨r,N,iO a ops[i].dst undef,by grind,g,?_,by grind⟩,⟨by grind,(fun⟨h,_⟩=>by grind),fun _=>s⟩⟩;rw [G];have:=wZ c ops[i].dst (v:=.tuple #[]) (v':=undef) (.tuple rfl (by grind));cases f:ops[i].dst with
     |none=>rw [f]at this;exact this|some d=>rw [f]at this;exact this
   | exec I u=>
     rename_i v;have O:=AY c I;have w:=fun x=>wX (l:=L i) c.sized c.size (tmpsOf ops[i].op.operands.toList) (fun t _ v Q=>c.get t v Q) g x;obtain⟨y,S,v',k1,z,U,k4,_⟩:=s7 ok hc hcode B g w (F:=⟨0,.normal,none⟩) (dfs:=[]) (k:=[]) (cs:=[]) (rest:=[]) C O u;have J:=z.le B;refine⟨⟨y,S,iO a ops[i].dst v',by grind,g.mono J,?_,by rw [s];exact Ext.trans g4 z⟩,⟨by rw [s];exact z.n,?_,?_⟩⟩
     . rw [G];have:=wZ (c.mono J) ops[i].dst U;cases f:ops[i].dst with
       |none=>rw [f]at this;exact this|some d=>rw [f]at this;exact this
     . intro⟨_,h3,hb⟩ b hb';grind[rO]
     . intro A;rcases A with A|A
       . grind
       grind[EC,Bq]
end
theorem w_plain{l:Hp}{i:d6}(g:cls E op=2\/cls E op=5)(d:aop E ρ h op=some (i,l)):(∃v,i=.val v)\/i=.skip:=by
 have m: ∀{r:Option (Hp×Value)},dK r=some (i,l)->(∃v,i=.val v)\/i=.skip:=by
  intro r j;cases r with
  |none=>cases j
  |some q=>obtain⟨a,b⟩:=q;cases j;exact .inl ⟨b,rfl⟩
 have k: ∀{r:Option Hp},iH r=some (i,l)->(∃v,i=.val v)\/i=.skip:=by
  intro r j;cases r with
  |none=>cases j
  |some q=>cases j;exact .inr rfl
 cases op
 case store=>exact k d
 case mapUpdate=>exact k d
 case insert=>exact k d
 case mapEntry=>exact m d
 case entryStore=>exact k d
 case call c=>
  cases e:c.callee with
  |value f=>simp [cls,e]at g|invoke r n=>simp [cls,e]at g| builtin o=>
    cases o<;>(try (simp [cls,e]at g;done))
    case append=>
     simp only [aop,e]at d
     split at d
     next=>exact m d
     next=>cases d
    case copy=>
     simp only [aop,e]at d
     split at d
     next=>exact m d
     next=>cases d
    case delete=>
     simp only [aop,e]at d
     split at d
     next=>
      split at d
      next=>cases d
      next=>cases d;exact .inl ⟨_,rfl⟩
     next=>cases d
 case convert p s x=>
  exfalso;unfold cls at g;simp only []at g
  split at g<;>omega
 all_goals first
  |(exfalso;simp [cls]at g;done)
  |(exfalso;unfold cls at g;simp only []at g;split at g<;>simp at g;done)
theorem Al(b:cls E o.op=2\/cls E o.op=5)(a:dw E R ρ false o h=some (v,h')): ∃d,aop E ρ h o.op=some (d,h'):=by
 simp only [dw,cond_false]at a;cases c:aop E ρ h o.op with
 |none=>rw [c]at a;cases a
 | some p=>
   obtain⟨d,e⟩:=p;rw [c]at a;rcases w_plain b c with⟨u,rfl⟩|rfl
   . cases a;exact⟨_,rfl⟩
   . cases a;exact⟨_,rfl⟩
theorem wrapR_inj{a b:Option Value}(e:dp h a=dp h b):a=b:=by cases a<;>cases b<;>simp [dp]at e⊢;exact e
section
variable{E:Env}{R:Rec}{ops:Array Oper}{q:Nat}{ps:List (Nat×Nat)}{M:List Nat}{L:Nat->Loc}{H:Nat->Hp}{T:Nat->Option Nat}{X:Nat->Bool}(D:DT E R ops q ps M L H T X)
theorem wP(a:isW E X q o i):fI E q i o.op=false:=by
 unfold fI;rcases a.2 with h|⟨_,h⟩
 . rw [h,show Xf 3 2=false from rfl];simp
 . rw [h];simp
theorem fJ(du: ∀j o,j<ops.size->ops[j]? =some o->qX ops E X q H T j o)(a:i<=j)(c:j<=ops.size):(H i).n<=(H j).n:=by
 induction j with
 | zero => have:i=0:=by omega
           subst this;exact Xc _
 | succ j b=>
   by_cases e:i=j+1
   . subst e;exact Xc _
   . exact Xk (b (by omega) (by omega)) (du j ops[j] (by omega) (zM (by omega))).n
theorem walk_eq{c:Type}(b:Nat->c){a:Nat}: ∀(d:Nat),(∀j,a<=j->j<a+d->b (j+1)=b j)->b (a+d)=b a
 |0,_=>rfl| d+1,h=>by have e:=h (a+d) (by omega) (by omega);have f:=walk_eq b d (fun j g i=>h j g (by omega));rw [<-f,<-e];rfl
include D in
theorem w_leaves(u: ∀j,j<=ops.size->(H j).t.Sized (H j).n){s:Oper}(K:ops[p]? =some o)(r:ops[j]? =some s)(N:isW E X q s j)(Y:cls E o.op<=1)(Q:T p=touch ρ o.op)(z:(p<j/\Owe E ops.toList s o p j q ps)\/(j<p/\Owe E ops.toList o s j p q ps))(hlt: ∀b,touch ρ o.op=some b->b<(H j).n){f:Hp->Option Value}(f1: ∀h,aop E ρ h o.op=dp h (f h))(f2:cls E o.op=0-> ∀h O,f h=f O)(Z: ∀h O,(∀b,touch ρ o.op=some b->O.get b=h.get b)->f h=f O):f (H (j+1))=f (H j):=by
 have hp:=(Array.getElem?_eq_some_iff.1 K).1;have aa:=(Array.getElem?_eq_some_iff.1 r).1;by_cases h0:cls E o.op=0
 . exact f2 h0 _ _
 have h1:cls E o.op=1:=by omega
 -- what the writer's step is
 have A:=D.step j s r;generalize hL:L (j+1)=L1 at A;generalize hH:H (j+1)=S at A;generalize B:T j=T1 at A;generalize hX:X j=X1 at A;cases A with
 |skip hg=>exact absurd N.1 (by rw [hX];simp)| exec hg v=>
   rw [wP N]at v;have g:((p,j)∈ps\/(j,p)∈ps)->(cls E s.op=2\/cls E s.op=5)->f S=f (H j):=by
    intro w C;obtain⟨nx,P⟩:=Al C v;refine(Z _ _ fun b F=>?_).symm;refine w_only (u j (by omega)) C P b (hlt b F) ?_;intro e;rcases w with w|w
    . exact D.pair w K r (oL (E:=E) (by omega)) (oL (E:=E) (by omega)) (Q.trans F) ((B.trans (uK (E:=E) (by omega) _ _)).trans e) rfl
    . exact D.pair w r K (oL (E:=E) (by omega)) (oL (E:=E) (by omega)) ((B.trans (uK (E:=E) (by omega) _ _)).trans e) (Q.trans F) rfl
   have n:((p,j)∈ps\/(j,p)∈ps)->ef s.op=true->f S=f (H j):=(by intro w x;refine(Z _ _ fun b F=>?_).symm;rw [<-hH];exact D.leave w K r (oL (E:=E) (by omega)) x hX (wP N) (Q.trans F));have l:rW s.op o.op=true->f S=f (H j):=by
    intro hle;unfold rW at hle
    split at hle
    next t m k t' m' k' U e1 e2=>
     simp only [zO,Xm]at hle;have V:t=t':=Xb hle.2;have W:U=false:=hle.1;subst V;subst W;obtain⟨nx,P⟩:=Al (.inl (by rw [e1];rfl)) v;have hf: ∀h,f h=fi E h t (ρ m') (ρ k') false:=(by intro h;have:=f1 h;rw [e2]at this;exact wrapR_inj this.symm);rw [e1]at P;rw [hf,hf];exact look_ent P _ _
    next=>cases hle
   have G:=N.2;rcases z with⟨I,z⟩|⟨I,z⟩
   . rcases z.2 with h|h|⟨h,_⟩|⟨h,_,i⟩|⟨h,_⟩|⟨h,_,i⟩|⟨h,_⟩|⟨a,b,c,d⟩|⟨_,_,x,i⟩|⟨h,_,x,i⟩|⟨_,h,_⟩|⟨_,h,_⟩
     . omega
     . omega
     . omega
     . rcases i with i|i
       . exact l i
       . exact g (.inl i) (.inl h)
     . omega
     . exact g (.inl i) (.inr h)
     . omega
     . rcases G with y|⟨y,J⟩
       . exact absurd y a
       . rw [d y]at J;cases J
     . exact n (.inl i) x
     . omega
     . omega
     . omega
   . rcases z.2 with h|h|⟨_,h⟩|⟨h,_⟩|⟨_,h,i⟩|⟨h,_⟩|⟨_,h,i⟩|⟨a,b,c,d⟩|⟨_,h,x,i⟩|⟨_,_,x,i⟩|⟨h,_⟩|⟨h,_⟩
     . omega
     . omega
     . omega
     . omega
     . rcases i with i|i
       . exact l i
       . exact g (.inr i) (.inl h)
     . omega
     . exact g (.inr i) (.inr h)
     . rcases G with y|⟨y,J⟩
       . exact absurd y b
       . rw [c y]at J;cases J
     . omega
     . exact n (.inr i) x
     . omega
     . omega
end
structure WExt(mu0:Mu)(h0:Hp)(w0:World)(mu:Mu)(w:World):Prop where
 old: ∀b,b<h0.n->mu b=mu0 b\/(mu0 b≠ .none/\mu b=.dead)
 fresh: ∀b c base top,h0.n<=b->mu b=.blk c base top->w0.heap.size<=c\/ ∃b0 base0 top0,b0<h0.n/\mu0 b0=.blk c base0 top0/\mu b0=.dead
 frame: ∀c,c<w0.heap.size->(∀b base top,mu0 b≠ .blk c base top)->w.heap[c]? =w0.heap[c]?
 ro: ∀b c base top t sz el,mu0 b=.blk c base top->h0.get b=some (.cells t sz el 0)->w.heap[c]? =w0.heap[c]? /\mu b=mu0 b
 wsize:w0.heap.size<=w.heap.size
 os:w.os=w0.os
 tape:w.tape=w0.tape
 output:w.output=w0.output
theorem WExt.refl(d:bE mu h w):WExt mu h w mu w:=
 ⟨fun _ _=>.inl rfl,fun b c a e f g=>absurd (d.lt b (by grind)) (by omega),fun _ _ _=>rfl,fun _ _ _ _ _ _ _ _ _=>⟨rfl,rfl⟩,Xc _,rfl,rfl,rfl⟩
theorem WExt.step{n i:Mu}{j l:Hp}{s:World}(W:WExt mu0 j s mu w)(B: ∀b,mu0 b≠ .none->b<j.n)(T:j.n<=l.n)(e:Ext (cut mu l.n) l w n A w')(C: ∀b c base top t r el,mu0 b=.blk c base top->j.get b=some (.cells t r el 0)->l.get b=some (.cells t r el 0))(o: ∀b,b<A.n->i b=n b)(O: ∀b,A.n<=b->i b=mu b):WExt mu0 j s i w':=by
 have U:=e.n;have D: ∀g,g<j.n->mu g=.dead->i g=.dead:=by
  intro g u P;rw [o g (by omega)];rcases e.old g (by omega)with x|⟨_,x⟩
  . rw [x,fK (by omega)];exact P
  . exact x
 have E: ∀c,c<s.heap.size->(∀b base top,mu0 b≠ .blk c base top)-> ∀b base top,cut mu l.n b≠ .blk c base top:=by
  intro c F p b base top k;by_cases q:b<l.n
  . rw [fK q]at k;by_cases u:b<j.n
    . rcases W.old b u with x|⟨_,x⟩
      . grind
      grind
    . rcases W.fresh b c base top (by omega) k with x|⟨g,a,d,_,x,_⟩
      . omega
      grind
  grind[qP]
 refine⟨?_,?_,?_,?_,Xk W.wsize e.wsize,e.os.trans W.os,e.tape.trans W.tape,e.output.trans W.output⟩
 . intro b q;rw [o b (by omega)];rcases e.old b (by omega)with x|⟨x,y⟩
   . rw [x,fK (by omega)];exact W.old b q
   . rw [fK (by omega)]at x;rcases W.old b q with z|⟨z,_⟩
     . grind
     grind
 . intro b c base top q k;have Q: ∀m f h,mu m=.blk c f h->m<l.n->n m=.dead->s.heap.size<=c\/ ∃g a d,g<j.n/\mu0 g=.blk c a d/\i g=.dead:=by
    intro m f h R V X;by_cases G:m<j.n
    . rcases W.old m G with x|⟨_,x⟩
      . grind
      grind
    . rcases W.fresh m c f h (by omega) R with x|⟨g,a,d,J,K,L⟩
      . exact .inl x
      grind
   have M:mu b=.blk c base top->s.heap.size<=c\/ ∃g a d,g<j.n/\mu0 g=.blk c a d/\i g=.dead:=by
    intro H;rcases W.fresh b c base top q H with x|⟨g,a,d,J,K,L⟩
    . exact .inl x
    grind
   by_cases I:b<A.n
   . rw [o b I]at k;by_cases v:b<l.n
     . rcases e.old b v with x|⟨_,x⟩
       . rw [x,fK v]at k;grind
       grind
     . rcases e.fresh b c base top (by omega) k with x|⟨m,f,h,J,K,L⟩
       . exact .inl (Xk W.wsize x)
       grind[fK]
   grind
 . intro c F p;rw [<-W.frame c F p];exact e.frame c (by have:=W.wsize;omega) (E c F p)
 . intro b c base top t r el k N;have q:=B b (by grind);obtain⟨Y,S⟩:=W.ro b c base top t r el k N;obtain⟨Z,_,s3⟩:=e.ro b c base top t r el (by rw [fK (by omega),S];exact k) (C b c base top t r el k N);grind[fK]
section
variable(E:Env)(ops:Array Oper)(q:Nat)(L:Nat->Loc)(H:Nat->Hp)(X:Nat->Bool)(nr:Nat)(mu0:Mu)(w0:World)
def AtC(S:Nat->Bool)(c:Nat):Prop:=c<=ops.size/\(c=ops.size\/ ∃o,ops[c]? =some o/\isW E X q o c/\S c=false)/\ ∀(i:Nat) o,i<c->ops[i]? =some o->isW E X q o i->S i=true
def RegsAt(S:Nat->Bool)(mu:Mu)(tmps:Array Value):Prop:= ∀(i:Nat),i<=ops.size-> ∀(t:Tmp) v,(∀(p:Nat) (o:Oper),ops[p]? =some o->o.dst=some t->(p<i↔S p=true))->
 (L i).regs.get t=some v-> ∃a,tmps[t]? =some a/\aC mu v a
structure Inv(S:Nat->Bool)(mu:Mu)(w:World)(tmps:Array Value):Prop where
 c: ∃c,AtC E ops q X S c/\bE mu (H c) w
 glob:oq mu
 non: ∀p,p<ops.size->S p=false-> ∀b,(H p).n<=b->b<(H (p+1)).n->mu b=.none
 size:tmps.size=nr
 regs:RegsAt ops L S mu tmps
 ext:WExt mu0 (H 0) w0 mu w
 cov: ∀p,p<ops.size->S p=true-> ∀b,(H p).n<=b->b<(H (p+1)).n->mu b≠ .none
end
def kR(S:Nat->Bool)(p:Nat):Nat->Bool:=fun i=>if i=p then true else S i
theorem iM(S:Nat->Bool)(p:Nat):kR S p p=true:=by simp [kR]
theorem cB(S:Nat->Bool)(h:i≠p):kR S p i=S i:=by simp [kR,h]
section
variable{E:Env}{R:Rec}{ops:Array Oper}{q:Nat}{ps:List (Nat×Nat)}{M:List Nat}{L:Nat->Loc}{H:Nat->Hp}{T:Nat->Option Nat}{X:Nat->Bool}(D:DT E R ops q ps M L H T X)
theorem pG{l:Loc}{d:Option Tmp}(h:d≠some t):(l.put d v).regs.get t=l.regs.get t:=by
 cases d with
 |none=>rfl| some d=>show(l.regs.set d v).get t=_;simp_all[Tr.get_set,if_neg]
include D in
theorem rh(b:ops[j]? =some o)(h:o.dst≠some t):(L (j+1)).regs.get t=(L j).regs.get t:=by
 have a:=D.step j o b;generalize L (j+1)=e at a;generalize H (j+1)=f at a;generalize T j=g at a;generalize X j=i at a;cases a with
 |skip c=>exact pG h|exec c d=>exact pG h
include D in
theorem qT{r:Nat}(z:ou ops S)(s:ops[p]? =some o)(A:Ready o S)(B:S p=false)(C:Le mu e)(k:tmps.size=r)(l:(L p).regs.Sized r){v':Value}(Q:aC e v v')(F:L (p+1)=(L p).put o.dst v)(f:RegsAt ops L S mu tmps):RegsAt ops L (kR S p) e (iO tmps o.dst v'):=by
 intro i G t u g m;by_cases n:o.dst=some t
 . have I:p<i:=(g p o s n).2 (iM S p);have b:t∈iA ops.toList o:=(by unfold iA;rw [n];simp);have J:=yL D z s A B b;have h:(L i).regs.get t=(L (p+1)).regs.get t:=by
    have:=walk_eq (fun j=>(L j).regs.get t) (a:=p+1) (i-(p+1)) (fun j w x=>by
     have U:j<i:=(by omega);grind[zM,cB,rh])
    grind
   rw [h,F,n]at m;have c:((L p).regs.set t v).get t=some u:=m;rw [Tr.get_set]at c;cases y:(L p).regs.get t with
   |none=>grind| some V=>rw [y]at c;simp at c;subst c;have:t<tmps.size:=(by rw [k];exact(l t).1 (by rw [y];rfl));grind[iO]
 . obtain⟨K,w,x⟩:=f i G t u (fun j W N O=>by
    grind[cB]) m
   refine⟨K,?_,x.mono C⟩;cases P:o.dst with
   |none=>exact w| some d=>show(tmps.setIfInBounds d v')[t]? =_;grind
theorem qQ(tmps:Array Value)(d:Option Tmp)(v:Value):(iO tmps d v).size=tmps.size:=by cases d<;>simp [iO]
end
theorem next_W{E:Env}{ops:Array Oper}{q:Nat}{X:Nat->Bool}: ∀(d c:Nat),c+d=ops.size-> ∃a,c<=a/\a<=ops.size/\(a=ops.size\/ ∃o,ops[a]? =some o/\isW E X q o a)/\ ∀i o,c<=i->i<a->ops[i]? =some o-> ¬isW E X q o i
 |0,c,h=>⟨c,Xc _,by omega,.inl (by omega),fun i o e f=>by omega⟩
 | d +1,c,h=>by
   obtain⟨b,g⟩: ∃b,ops[c]? =some b:=⟨_,zM (xs:=ops) (i:=c) (by omega)⟩;by_cases j:isW E X q b c
   . exact⟨c,Xc _,by omega,.inr ⟨_,g,j⟩,fun i o e f=>by omega⟩
   . obtain⟨a,e,f,k,l⟩:=next_W (E:=E) (ops:=ops) (q:=q) (X:=X) d (c+1) (by omega);grind
section
variable{E:Env}{P:Program}(ok:EOk E P){R:Rec}(hc:iX E P R.call)(hcode:kf P R.code)
variable{ops:Array Oper}{q:Nat}{ps:List (Nat×Nat)}{M:List Nat}{L:Nat->Loc}{H:Nat->Hp}{T:Nat->Option Nat}{X:Nat->Bool}(D:DT E R ops q ps M L H T X)
variable{nr:Nat}{mu0:Mu}{w0:World}
include D in
theorem Es(du: ∀j o,j<ops.size->ops[j]? =some o->qX ops E X q H T j o)(V:ops[n]? =some o)(W:cls E o.op=2)(F:qI ops.toList o n i=true){b:Nat}(Y:touch ((L n).evD (tmpsOf o.op.operands.toList)) o.op=some b):(H (i+1)).n<=b:=by
 have hn:=(Array.getElem?_eq_some_iff.1 V).1;unfold qI at F;cases u:mapArg o.op with
 |none=>grind| some t=>
   rw [u]at F;simp only [List.any_eq_true,XG,zO,XN,XQ,Xm]at F;obtain⟨k,hk,w,f,y⟩:=F;have w:i<k:=(by simp_all);have l:ops[k]? =some ops[k]:=zM (by omega);unfold atIs at f;rw [Xo,l]at f;simp only [zO]at f;have I: ∀{p:Oper},dstIs t p=true->p.dst=some t:=(by grind[dstIs,Xb]);have Z:=I f.2
   -- what the temporary holds at n
   have J:(L n).regs.get t=(L (k+1)).regs.get t:=by
    have:=walk_eq (fun j=>(L j).regs.get t) (a:=k+1) (n-(k+1)) (fun j h1 W=>by
     have K:ops[j]? =some ops[j]:=zM (by omega);refine rh D K fun hd=>?_;rcases y j (by omega)with x|x
     . have:=Xl x;omega
     grind[atIs,dstIs,Xn])
    grind
   -- what the touched block is
   have ht:touch ((L n).evD (tmpsOf o.op.operands.toList)) o.op=some b->(L n).ev (.tmp t)=.map (some b):=by
    intro h;have z: ∀(N:List Tmp) (v:Value),(L n).evD N (.tmp t)=.map (some b)->(L n).ev (.tmp t)=.map (some b):=by
     intro N v h;unfold Loc.evD at h;cases O:memb t N with
     |true=>grind|false=>simp only [O,cond_false]at h;cases h
    cases g:o.op<;>rw [g]at u<;>(try (cases u;done))
    all_goals
     rename_i ty m kk vv;cases m<;>(try (cases u;done));cases u;rw [g]at h;unfold touch at h;simp only []at h
     split at h
     next r hr=>subst h;exact z _ .nilIface hr
     next=>cases h
   have Q:=ht Y;have A:=D.step k ops[k] l;generalize hL:L (k+1)=L1 at A;generalize hH:H (k+1)=H1 at A;generalize T k=T1 at A;generalize hX:X k=X1 at A;have B: ∀v,L1=(L k).put ops[k].dst v-> ∀b,(L n).ev (.tmp t)=.map (some b)->v=.map (some b):=(by grind[Loc.ev,Loc.put,Tr.get_set]);cases A with
   |skip hg=>grind| exec hg c=>
     rename_i v;have hv:=B _ rfl b Q;subst hv;have d:=f.1;have h4:cls E ops[k].op=4:=by
      unfold isMk at d
      split at d
      . next h=>rw [h];rfl
      . cases d
     have hq:=rO (q:=q) (i:=k) (op:=ops[k].op) (E:=E) (by omega) (D.four k _ l h4);rw [hq]at c;have hle:=fJ du (show i+1<=k from w) (by omega);have C: ∀(h:Hp) (G:d6) (S:Hp),aop E ((L k).evD (tmpsOf ops[k].op.operands.toList)) h ops[k].op=some (G,S)->G=.val (.map (some h.n)):=by
      intro h G S U;unfold isMk at d
      split at d
      . next ty sz g=>
        rw [g]at U;cases sz<;>cases U;rfl
      . cases d
     unfold dw at c;simp only [cond_true]at c;cases s:aop E ((L k).evD (tmpsOf ops[k].op.operands.toList)) {H k with lo:=(H k).n} ops[k].op with
     |none=>rw [s]at c;cases c
     | some r=>
       obtain⟨G,S⟩:=r;have e:=C _ _ _ s;subst e;rw [s]at c;simp only [dc]at c;grind
include D in
theorem wr_new(d: ∀j,j<=ops.size->(H j).t.Sized (H j).n)(du: ∀j o,j<ops.size->ops[j]? =some o->qX ops E X q H T j o)(e:ops[n]? =some o)(h:isW E X q o n)(g:cls E o.op=2)(k:qI ops.toList o n i=true)(f:i<n){b:Nat}(p:b<(H (i+1)).n):(H (n+1)).get b=(H n).get b:=by
 have r:=(Array.getElem?_eq_some_iff.1 e).1;have l:=fun b=>Es D du e g k (b:=b);have a:=D.step n o e;generalize L (n+1)=s at a;generalize t:H (n+1)=u at a;generalize T n=v at a;generalize w:X n=x at a;cases a with
 |skip m=>rfl| exec m c=>
   rw [wP h]at c;obtain⟨y,z⟩:=Al (.inl g) c;have hle:=fJ du (show i+1<=n from f) (by omega);grind[w_only]
theorem stand(du: ∀j o,j<ops.size->ops[j]? =some o->qX ops E X q H T j o){a:Nat}(k:a<=c)(l:c<=ops.size)(e: ∀j o,a<=j->j<c->ops[j]? =some o->isR E X o j\/isQ E X q o j\/ ∀b,b<(H a).n->(H (j+1)).get b=(H j).get b){b:Nat}(f:b<(H a).n):(H c).get b=(H a).get b:=by
 have:=walk_eq (fun j=>(H j).get b) (a:=a) (c-a) (fun j g m=>by
  have d:ops[j]? =some ops[j]:=zM (by omega);have i:=du j _ (by omega) d;rcases e j _ g (by omega) d with h|h|h
  rotate_right
  . exact h b f
  . show(H (j+1)).get b=(H j).get b;rw [i.still h]
  . exact i.quiet h b (Xg f (fJ du g (by omega))))
 grind
include D in
theorem after_c(g:ou ops S)(h:AtC E ops q X S c)(s:c<=i)(a:ops[i]? =some o)(j:isW E X q o i\/isQ E X q o i)(k:isQ E X q o i->c≠i):S i=false:=by
 have l:=(Array.getElem?_eq_some_iff.1 a).1;rcases h.2.1 with e|⟨t,b,d,n⟩
 . omega
 . by_cases p:c=i
   . grind
   . cases r:S i with
     |false=>rfl| true=>
       obtain⟨m,f⟩:=mask D a;have:=qc D g i o m c a f r (cmp D a f (by omega) b ⟨d,j⟩);grind
include D in
theorem read_at(du: ∀j o,j<ops.size->ops[j]? =some o->qX ops E X q H T j o)(k: ∀j,j<=ops.size->(H j).t.Sized (H j).n)(J:ou ops S)(y:AtC E ops q X S c)(l:ops[p]? =some o)(W:Ready o S)(Y:S p=false)(r:cls E o.op<=1)(K:T p=touch ρ o.op)(s: ∀b,touch ρ o.op=some b->b<(H p).n)(t: ∀b,touch ρ o.op=some b->b<(H c).n){f:Hp->Option Value}(N: ∀h,aop E ρ h o.op=dp h (f h))(O:cls E o.op=0-> ∀h i,f h=f i)(C: ∀h i,(∀b,touch ρ o.op=some b->i.get b=h.get b)->f h=f i):f (H c)=f (H p):=by
 have Q:=(Array.getElem?_eq_some_iff.1 l).1;have U:=y.1;have u: ∀j,j<ops.size->(∀b,touch ρ o.op=some b->b<(H j).n)->(∀v,ops[j]? =some v->isW E X q v j->(p<j/\S j=true)\/(j<p/\S j=false))->f (H (j+1))=f (H j):=by
  intro j F hlt z;have d:ops[j]? =some ops[j]:=zM F;have G:=du j _ F d;rcases kinds D d with h|h|h
  . rw [G.still h]
  . exact(C _ _ fun b w=>G.quiet h b (hlt b w)).symm
  . refine w_leaves D k l d h r K ?_ hlt N O C;rcases z _ d h with⟨g,i⟩|⟨g,i⟩
    . obtain⟨m,A⟩:=mask D d;refine .inl ⟨g,D.owe j _ m p o d A g l ?_⟩;grind[qc]
    . obtain⟨m,A⟩:=mask D l;refine .inr ⟨g,D.owe p o m j _ l A g d ?_⟩;grind[qS]
 rcases Nat.le_total p c with B|B
 . have:=walk_eq (fun j=>f (H j)) (a:=p) (c-p) (fun j g i=>u j (by omega) (fun b w=>Xg (s b w) (fJ du g (by omega))) (fun v d n=>by
    have V:p≠j:=(by intro e;subst e;rw [l]at d;cases d;rcases n.2 with x|⟨x,_⟩<;>omega);exact .inl ⟨by omega,y.2.2 j v (by omega) d n⟩))
   simp_all
 . have:=walk_eq (fun j=>f (H j)) (a:=c) (p-c) (fun j g i=>u j (by omega) (fun b w=>Xg (t b w) (fJ du g (by omega))) (fun v d n=>
    .inr ⟨by omega,after_c D J y g d (.inl n) (fun I=>by
     intro _;have:=n.2;have:=I.2.2;rcases n.2 with x|⟨_,x⟩
     . have:=I.2.1;omega
     grind)⟩))
   simp_all
end
section
variable{E:Env}{P:Program}(ok:EOk E P){R:Rec}(hc:iX E P R.call)(hcode:kf P R.code)
variable{ops:Array Oper}{q:Nat}{ps:List (Nat×Nat)}{M:List Nat}{L:Nat->Loc}{H:Nat->Hp}{T:Nat->Option Nat}{X:Nat->Bool}(D:DT E R ops q ps M L H T X)
variable{nr:Nat}{mu0:Mu}{w0:World}
theorem CR(h: ∀b,mu b≠ .none->b<n):cut mu n=mu:=by grind[fK,qP,absurd]
theorem xt(h:AtC E ops q X S c)(f:p≠c):AtC E ops q X (kR S p) c:=by
 refine⟨h.1,h.2.1.imp id fun⟨o,a,b,e⟩=>⟨o,a,b,by rw [cB S (Ne.symm f)];exact e⟩,fun i o g j k=>?_⟩;by_cases d:i=p
 . subst d;exact iM S i
 . rw [cB S d];exact h.2.2 i o g j k
theorem yQ{e:Hp}(d:bE mu h w)(hs:OZ e)(k:h.n<=e.n)(j: ∀b,b<h.n->e.get b=h.get b):bE mu e w:=by
 refine⟨hs,fun b c f g a=>?_,fun b a=>?_,d.inj,fun b a=>Xg (d.lt b a) k⟩
 . obtain⟨x,o,l,i,m⟩:=d.blk b c f g a;exact⟨x,o,by rw [j b (d.lt b (by rw [a];simp))];exact l,i,m⟩
 . rw [j b (d.lt b (by rw [a];simp))];exact d.dead b a
theorem ke.cut{mu d:Mu}{n:Nat}(g: ∀b,d b≠ .none->b<n){t:Tr Value}{m:Nat}{ts e:Array Value}(h:ke mu t m ts)(j:ke d t m e):ke (cut mu n) t m ts:=by refine⟨h.size,h.sized,fun i v f=>?_⟩;obtain⟨k,a,b⟩:=h.get i v f;obtain⟨l,_,c⟩:=j.get i v f;exact⟨k,a,aC.cut g c b⟩
theorem oz.cut{mu f:Mu}{n:Nat}(z: ∀b,f b≠ .none->b<n){x:Blk}{base top d g:Nat}{o B:Obj}(h:oz mu x base top o)(m:oz f x d g B):oz (cut mu n) x base top o:=by
 cases x with
 |dead=>exact h| cells t Q S U=>
   obtain⟨C,p,F,e,r⟩:=h;obtain⟨G,I,J,A,j⟩:=m;refine⟨C,p,F,e,r.whole,r.fits,r.sized,fun i v k=>?_,r.free⟩;obtain⟨s,a,b⟩:=r.get i v k;obtain⟨K,_,c⟩:=j.get i v k;exact⟨s,a,aC.cut z c b⟩
 | map V c=>
   obtain⟨u,w,e,r⟩:=h;obtain⟨_,N,A,j⟩:=m;refine⟨u,w,e,r.1,fun i v s k y=>?_⟩;obtain⟨W,Y,Z,a4⟩:=r.2 i v s k y;obtain⟨K,b1,b2⟩:=j.get k;grind[aC.cut]
 | loop l=>
   obtain⟨u,O,e,r⟩:=h;obtain⟨_,lT,A,j⟩:=m;exact⟨u,O,e,r.fn,r.regs.cut z j.regs,r.params,r.assign,r.body,r.st,r.pending⟩
 |dfr=>exact h
def glue(a mu:Mu)(n:Nat):Mu:=fun b=>if b<n then a b else mu b
theorem lj{a:Mu}{b:Nat}(h:b<n):glue a mu n b=a b:=by simp [glue,h]
theorem m9{a:Mu}{b:Nat}(h:n<=b):glue a mu n b=mu b:=by simp [glue,Nat.not_lt.2 h]
theorem glue_rel{hc r f:Hp}{z:World}(l:bE mu hc w)(y:bE e f z)(k2:Ext (cut mu r.n) r w e f z)(K: ∀b,r.n<=b->b<f.n->mu b=.none)(U:f.n<=hc.n)(s: ∀b,b<f.n->hc.get b=f.get b):bE (glue e mu f.n) hc z/\Le mu (glue e mu f.n)/\Le e (glue e mu f.n):=by
 have N:=k2.n;have F:Le mu (glue e mu f.n):=by
  intro b t;by_cases h:b<f.n
  . rw [lj h];by_cases m:b<r.n
    . rcases k2.old b m with x|⟨_,x⟩
      . left;rw [x,fK m]
      grind
    grind
  . rw [m9 (by omega)];exact .inl rfl
 have u:Le e (glue e mu f.n):=by intro b t;left;exact lj (y.lt b t)
 refine⟨⟨l.sized,fun b c a g j=>?_,fun b j=>?_,?_,fun b j=>?_⟩,F,u⟩
 . by_cases h:b<f.n
   . rw [lj h]at j;obtain⟨x,o,G,A,B⟩:=y.blk b c a g j;exact⟨x,o,by grind,A,B.mono u⟩
   . rw [m9 (by omega)]at j;obtain⟨x,o,G,A,B⟩:=l.blk b c a g j;refine⟨x,o,G,?_,B.mono F⟩;rw [k2.frame c (l.clt j) (fun k d i v=>?_)]
     . exact A
     . by_cases m:k<r.n
       . rw [fK m]at v;have:=l.inj b k c a g d i j v;omega
       grind[qP]
 . by_cases h:b<f.n
   . rw [lj h]at j;rw [s b h];exact y.dead b j
   . rw [m9 (by omega)]at j;exact l.dead b j
 . have O: ∀b k c a g d i,b<f.n->f.n<=k->e b=.blk c a g->mu k=.blk c d i->False:=by
    intro b k c a g d i h m n p;by_cases t:b<r.n
    . rcases k2.old b t with x|⟨_,x⟩
      . rw [x,fK t]at n;have:=l.inj b k c _ _ _ _ n p;omega
      grind
    . rcases k2.fresh b c a g (by omega) n with x|⟨Q,C,I,S,J,_⟩
      . have:=l.clt p;omega
      . rw [fK S]at J;have:=l.inj Q k c _ _ _ _ J p;omega
   intro b k c a g d i n p;by_cases h:b<f.n
   . rw [lj h]at n;by_cases m:k<f.n
     . rw [lj m]at p;exact y.inj b k c _ _ _ _ n p
     grind[m9]
   . rw [m9 (by omega)]at n;by_cases m:k<f.n
     . grind[lj]
     . rw [m9 (by omega)]at p;exact l.inj b k c _ _ _ _ n p
 . by_cases h:b<f.n
   . omega
   . rw [m9 (by omega)]at j;exact l.lt b j
structure nS(ops opsM:Array Oper)(σ:Nat->Nat):Prop where
 op: ∀p o,ops[p]? =some o-> ∃oM,opsM[σ p]? =some oM/\oM.op=o.op/\oM.dst=o.dst/\((o.guard=none/\oM.guard=none)\/ ∃j want,o.guard=some (j,want)/\oM.guard=some (σ j,want))
 no: ∀(p:Nat) (o:Oper) (j:Nat) (want:Bool),ops[p]? =some o->o.guard=some (j,want)->ops[j]? =none->opsM[σ j]? =none
theorem E4{e:Array Oper}{u:Nat->Nat}(g:nS ops e u){t:Tr Value}{k:Oper}{b:Bool}(l:ops[p]? =some o)(m:(o.guard=none/\k.guard=none)\/ ∃j a,o.guard=some (j,a)/\k.guard=some (u j,a))(w: ∀j a o' d,o.guard=some (j,a)->ops[j]? =some o'->o'.dst=some d-> ∀v,t.get d=some v-> ∃v',tmps[d]? =some v'/\aC mu v v')(c:cU ops.toList t o=some b):Region.wanted k (yielded e tmps)=b:=by
 unfold cU at c;unfold Region.wanted;rcases m with⟨h,y⟩|⟨j,a,h,y⟩
 . grind
 . rw [h]at c;rw [y];simp only []at c⊢;unfold yielded;cases f:ops[j]? with
   |none=>rw [Xo,f]at c;cases c;rw [g.no p o j a l h f];rfl
   | some o'=>
     obtain⟨B,z,_,A,_⟩:=g.op j o' f;rw [Xo,f]at c;rw [z];simp only [XI]at c⊢;cases i:o'.dst with
     |none=>grind| some d=>
       rw [i]at c;rw [A,i];simp only [XI]at c⊢
       split at c
       next C n=>
        obtain⟨v',r,s⟩:=w j a o' d h f i _ n;cases s;rw [r];cases c;grind
       next x n=>
        obtain⟨v',r,s⟩:=w j a o' d h f i _ n;rw [r];cases c;cases s;rfl
       next=>cases c
theorem uR{b:Bool}{a:Oper}(e:a.op=o.op):dw E R ρ b a h=dw E R ρ b o h:=by unfold dw;rw [e]
theorem alloc_at(g:bE mu h w){b:Nat}(J:mu b=.none)(K:b<h.n){x:Blk}{o:Obj}(n:h.get b=some x)(B:WNew w w' o)(r:oz mu x 0 top o):bE (upd mu b (.blk w.heap.size 0 top)) h w'/\Le mu (upd mu b (.blk w.heap.size 0 top)):=by
 have C: ∀j,w'.heap[j]? =if j=w.heap.size then some o else w.heap[j]? :=by intro j;rw [B.heap,XA]
 have hle:Le mu (upd mu b (.blk w.heap.size 0 top)):=by intro f F;grind[bG]
 refine⟨⟨g.sized,?_,?_,?_,?_⟩,hle⟩
 . intro f c i p d;by_cases a:f=b
   . subst a;rw [upd_same]at d;cases d;exact⟨x,o,n,by rw [C];simp,r.mono hle⟩
   . rw [bG _ _ a]at d;obtain⟨y,G,k,l,I⟩:=g.blk f c i p d;have:=g.clt d;exact⟨y,G,k,by grind,I.mono hle⟩
 . intro f d;by_cases a:f=b
   . grind[upd_same]
   . rw [bG _ _ a]at d;exact g.dead f d
 . intro v s c t z u A k l;by_cases m:v=b
   . by_cases e:s=b
     . rw [m,e]
     . subst m;rw [upd_same]at k;rw [bG _ _ e]at l;cases k;have:=g.clt l;omega
   . rw [bG _ _ m]at k;by_cases e:s=b
     . subst e;rw [upd_same]at l;cases l;have:=g.clt k;omega
     . rw [bG _ _ e]at l;exact g.inj v s c _ _ _ _ k l
 . intro f d;by_cases a:f=b
   . omega
   . rw [bG _ _ a]at d;exact g.lt f d
theorem WExt.alloc{i:Hp}{w0:World}(W:WExt mu0 i w0 mu w)(p: ∀b,mu0 b≠ .none->b<i.n)(m: ∀b c base top,mu0 b=.blk c base top->c<w0.heap.size){b:Nat}{o:Obj}(A:i.n<=b)(h:WNew w w' o):WExt mu0 i w0 (upd mu b (.blk w.heap.size 0 top)) w':=by
 have r: ∀j,j<w.heap.size->w'.heap[j]? =w.heap[j]? :=by intro j B;rw [h.heap,XA,if_neg (by omega)]
 refine⟨fun f d=>?_,fun f c base a d g=>?_,fun c hc s=>?_,fun f c base a t u v g k=>?_,?_,h.os.trans W.os,h.tape.trans W.tape,h.output.trans W.output⟩
 . rw [bG _ _ (by omega)];exact W.old f d
 . by_cases e:f=b
   . subst e;rw [upd_same]at g;cases g;exact .inl W.wsize
   . rw [bG _ _ e]at g;rcases W.fresh f c base a d g with x|⟨C,l,n,x,y,z⟩
     . exact .inl x
     grind[bG]
 . rw [r c (Xg hc W.wsize)];exact W.frame c hc s
 . obtain⟨x,y⟩:=W.ro f c base a t u v g k;grind[bG,Xr]
 . rw [h.heap];simp;have:=W.wsize;omega
include ok in
theorem ER{b:Nat}{e:TypeId}(j:E.zero e=some z)(k:bE mu h w)(l:mu b=.none)(m:b<h.n)(c:h.get b=some (.cells (Tr.ofList z) z.length e 1))(d:Operand->Value)(t:o.op=.alloc e):
 ∃w' top n,(execOp d o).run P w=.ok (.value (.pointer (some ⟨w.heap.size,0,none⟩))) w'/\WNew w w' n/\bE (upd mu b (.blk w.heap.size 0 top)) h w'/\Le mu (upd mu b (.blk w.heap.size 0 top)):=by
 obtain⟨a,u,x,y,A⟩:=pX ok j w;have p:VL mu z a.cells.toList:=by grind[LR.refl,aC.const,XN]
 have f:oz mu (.cells (Tr.ofList z) z.length e 1) 0 a.cells.size (.cells a.cells e):=by
  refine⟨a.cells,e,(0,0),rfl,rfl,?_,Tr.sized_ofList z,?_,?_⟩
  . grind
  . intro i v g;rw [Tr.get_ofList]at g;obtain⟨B,C,F⟩:=p.get g;grind
  omega
 obtain⟨r,s⟩:=alloc_at k l m c (jd w (.cells a.cells e)) f;refine⟨_,_,_,?_,jd w (.cells a.cells e),r,s⟩;simp_all[guard,execOp,Instr.alloc,newVar,newRow]
include ok hc hcode D in
theorem BR(du: ∀j o,j<ops.size->ops[j]? =some o->qX ops E X q H T j o)(bd: ∀i,i<=ops.size->nY nr mu0 w0 L H i)(a1: ∀b,mu0 b≠ .none->b<(H 0).n)(bs: ∀b c base top,mu0 b=.blk c base top->c<w0.heap.size){K:Array Oper}(bt:nS ops K σ)(l:Inv E ops q L H X nr mu0 w0 S mu w tmps)(hd:ou ops S)(J:ops[p]? =some o)(hr:Ready o S)(hp:S p=false){k:List Item}:
 ∃ b4 w' ak,Inv E ops q L H X nr mu0 w0 (kR S p) b4 w' ak/\
   Steps P (lone (F.mk' tmps dfs (.inRegion K (σ p::rest)::k)) cs w) (lone (F.mk' ak dfs (.inRegion K rest::k)) cs w'):=by
 obtain⟨oM,al,e1,e2,e3⟩:=bt.op p o J;have be:=(Array.getElem?_eq_some_iff.1 J).1;obtain⟨bf,wT,bh,t1,t2,t3,t4⟩:=bd p (by omega);obtain⟨c,N,Z⟩:=l.c;have an: ∀t∈iA ops.toList o,∀v,(L p).regs.get t=some v-> ∃v',tmps[t]? =some v'/\aC mu v v':=
  fun t ht v hv=>l.regs p (by omega) t v (yL D hd J hr hp ht) hv
 have a2: ∀{b:Bool},cU ops.toList (L p).regs o=some b->Region.wanted oM (yielded K tmps)=b:=by intro b hg;refine E4 (mu:=mu) bt J e3 (fun j cn o' d cp hj cr v hv=>an d ?_ v hv) hg;grind[iA]
 have a3: ∀x,aC mu ((L p).evD (tmpsOf o.op.operands.toList) x) (eo tmps x):=
  fun x=>wX t3.sized l.size _ (fun t ht v hv=>an t (by
   unfold iA;have:Operand.tmp t∈o.op.operands.toList:=(re t _).1 ht;grind) v hv) l.glob x
 have a6: ∀x,aC bf ((L p).evD (tmpsOf o.op.operands.toList) x) (eo bh x):=
  fun x=>wX t3.sized t3.size _ (fun t ht v hv=>t3.get t v hv) t2 x
 have U: ∀j,j<=ops.size->(H j).t.Sized (H j).n:=fun j hj=>by obtain⟨_,_,_,g,_⟩:=bd j hj;exact g.sized
 have tp:=du p o be J;have hs:=D.step p o J;have bi: ∀j,j<=ops.size-> ∀b c base top t sz el,mu0 b=.blk c base top->(H 0).get b=some (.cells t sz el 0)->(H j).get b=some (.cells t sz el 0):=by intro j hj b c base top t sz el O hg;obtain⟨_,_,_,_,_,_,e⟩:=bd j hj;exact((e.ro b c base top t sz el O hg).2.1).trans hg
 have cW: ∀{i:Nat} {oi:Oper},ops[i]? =some oi->c=i->isW E X q oi i:=by
  intro i oi bu b5;subst b5;rcases N.2.1 with e|⟨oc,af,ai,_⟩
  . grind
  grind
 generalize hL:L (p+1)=L1 at hs;generalize hH:H (p+1)=H1 at hs;generalize bv:T p=T1 at hs;generalize b6:X p=X1 at hs;cases hs with
 | skip hg=>
   have aa:p≠c:=(by intro e;have:=(cW J e.symm).1;grind);have r:=yP (P:=P) (F:=F) (tmps:=tmps) (dfs:=dfs) (k:=k) (cs:=cs) (w:=w) (ops:=K) (i:=σ p) (rest:=rest) (by grind);rw [al,show(some oM).bind (·.dst)=oM.dst from rfl,e2]at r;refine⟨mu,w,_,⟨⟨c,xt N aa,Z⟩,l.glob,fun A s n b I B=>?_,by rw [qQ];exact l.size,?_,l.ext,?_⟩,.one r⟩
   . refine l.non A s ?_ b I B;grind[cB]
   . exact qT D hd J hr hp (Le.refl mu) l.size t3.sized (v:=.tuple #[]) (v':=undef) (.tuple rfl (by grind)) hL l.regs
   . intro A s n b I B;by_cases e:A=p
     . grind
     . rw [cB S e]at n;exact l.cov A s n b I B
 | exec hg r=>
   rename_i v;have V:=a2 hg;cases a4:ic o.op with
   | true =>
     obtain⟨e,bw⟩: ∃e,o.op=.alloc e:=(by unfold ic at a4;grind);have h4:=AK (E:=E) a4;have bx:=D.four p o J h4;have Y:isQ E X q o p:=⟨b6,by omega,bx⟩;rw [rO (by omega) bx]at r;obtain⟨z,hz,hv,bB⟩: ∃z,E.zero e=some z/\v=ptrTo (H p).n/\H1=(H p).new (.cells (Tr.ofList z) z.length e 1):=by
      unfold dw at r;simp only [cond_true,bw,aop]at r;cases hz:E.zero e with
      |none=>rw [hz]at r;cases r
      | some z=>
        rw [hz]at r;simp only [dK,dc,uJ]at r;rw [show Xf (H p).n (({H p with lo:=(H p).n}:Hp).new (.cells (Tr.ofList z) z.length e 1)).lo=true from Xd (Xc _)]at r;cases r;exact⟨z,rfl,rfl,rfl⟩
     have hT:T p=some (H p).n:=(by rw [bv];unfold mU;rw [a4];rfl);have b7:(H (p+1)).get (H p).n=some (.cells (Tr.ofList z) z.length e 1):=(by rw [hH,bB,Hp.get_new _ _ (U p (by omega)),if_pos rfl]);have cv:(H (p+1)).n=(H p).n+1:=(by rw [hH,bB];rfl);have aa:p<c:=by
      rcases Xu p c with h|h|h
      . exact h
      . exfalso;have hw:=cW J h.symm;rcases hw.2 with x|⟨_,x⟩
        . omega
        omega
      . exfalso;rcases N.2.1 with e|⟨oc,af,ai,bL⟩
        . omega
        . obtain⟨m,O⟩:=mask D J;have:=qS D hd J O hr (cmp D J O h af ⟨ai,.inr Y⟩);grind
     have a7:(H (p+1)).n<=(H c).n:=fJ du (by omega) N.1;have bk:(H c).get (H p).n=some (.cells (Tr.ofList z) z.length e 1):=by
      have:=walk_eq (fun j=>(H j).get (H p).n) (a:=p+1) (c-(p+1)) (fun j I B=>by
       have hj:j<ops.size:=(by have:=N.1;omega);have C:ops[j]? =some ops[j]:=zM hj;have tj:=du j _ hj C;show(H (j+1)).get (H p).n=(H j).get (H p).n;rcases kinds D C with x|x|x
       . rw [tj.still x]
       . refine tj.quiet x _ ?_;have:=fJ du I (by omega);omega
       . obtain⟨m,O⟩:=mask D C;have cx:=N.2.2 j _ (by omega) C x;have G:m.testBit p=false:=(by grind[qc]);obtain⟨_,hu⟩:=D.owe j _ m p o C O (by omega) J G;have cz:=x.2;have h5:=cls_le (E:=E) ops[j].op;rcases hu with h|h|⟨_,h⟩|⟨_,h,_⟩|⟨_,h,_⟩|⟨_,h,_⟩|⟨_,h,_⟩|⟨a,b,c',d⟩|⟨_,h,_⟩|⟨_,h,_⟩|⟨_,_,bM,_,b8⟩|⟨_,h,_⟩
         . omega
         . omega
         . omega
         . omega
         . omega
         . omega
         . omega
         . grind
         . omega
         . omega
         . exact D.leave (.inl b8) J C (oL (E:=E) (by omega)) bM x.1 (wP x) hT
         . omega)
      grind
     have b9:=l.non p be hp (H p).n (Xc _) (by omega);obtain⟨w',top,ob,r1,r2,r3,r4⟩:=ER (P:=P) ok hz Z b9 (by omega) bk (eo tmps) (o:=oM) (e1.trans bw);have a8:=Dh (P:=P) (F:=F) (dfs:=dfs) (k:=k) (cs:=cs) (rest:=rest) al V (.inr fun cc cA=>by grind) r1;rw [e2]at a8;refine⟨upd mu (H p).n (.blk w.heap.size 0 top),w',_,⟨⟨c,xt N (by omega),r3⟩,l.glob.mono r4,fun A s n b I B=>?_,by rw [qQ];exact l.size,?_,?_,?_⟩,.one a8⟩
     . have aL:A≠p:=(by grind[iM]);rw [cB S aL]at n;rw [bG _ _ (by
        rcases Xr p A with x|x
        . have:=fJ du (show p+1<=A from x) (by omega);omega
        . have:=fJ du (show A+1<=p by omega) (by omega);omega)]
       exact l.non A s n b I B
     . refine qT D hd J hr hp r4 l.size t3.sized (v:=v) (v':=.pointer (some ⟨w.heap.size,0,none⟩)) ?_ hL l.regs;rw [hv];exact .ptr (zZ mu (H p).n w.heap.size 0 _)
     . exact l.ext.alloc a1 bs (fJ du (XJ p) (by omega)) r2
     . intro A s n b I B W;by_cases e:A=p
       . grind[upd_same]
       . rw [cB S e]at n;have Q:=l.cov A s n b I B;rcases r4 b Q with x|x
         . grind
         grind
   |false=>
   rcases kinds D J with Y|Y|Y
   . -- a read
     have ba:cls E o.op<=1:=by
      rcases Y with x|x
      . grind
      . exact x
     have aa:p≠c:=(by intro e;rcases(cW J e.symm).2 with x|⟨x,_⟩<;>omega);obtain⟨f,f1,f2,f3⟩:=Dp (E:=E) (op:=o.op) (ρ:=(L p).evD (tmpsOf o.op.operands.toList)) (by omega);rw [Bq ba]at r;have ca:f (H p)=some v:=by
      simp only [dw,cond_false]at r;rw [f1 (H p)]at r;cases hf:f (H p)with
      |none=>rw [hf]at r;cases r
      |some u=>rw [hf]at r;cases r;rfl
     have cb:f (H c)=some v:=(by rw [<-ca];exact read_at D du U hd N J hr hp ba (bv.trans (uK (E:=E) (by omega) _ _)) (fun b G=>t1.lt b (BX a6 G)) (fun b G=>Z.lt b (BX a3 G)) f1 f2 f3);have bO:dw E R ((L p).evD (tmpsOf o.op.operands.toList)) false o (H c)=some (v,H c):=(by simp only [dw,cond_false];rw [f1 (H c),cb];rfl);obtain⟨ac,w1,v',k1,k2,k3,_,k4⟩:=s7 ok hc hcode Z l.glob a3 (F:=F) (ops:=K) (i:=σ p) (dfs:=dfs) (k:=k) (cs:=cs) (rest:=rest) al V ((uR e1).trans bO);rw [e2]at k4;have le:=k2.le Z;have bl: ∀b,mu b=.none->ac b=.none:=by
      intro b G;by_cases cf:b<(H c).n
      . rcases k2.old b cf with x|⟨x,_⟩
        . rw [x];exact G
        grind
      . exact k1.none_ge (by omega)
     refine⟨ac,w1,_,⟨⟨c,xt N aa,k1⟩,l.glob.mono le,fun A s n b I B=>?_,by rw [qQ];exact l.size,?_,?_,?_⟩,k4⟩
     . refine bl b (l.non A s ?_ b I B);grind[cB]
     . exact qT D hd J hr hp le l.size t3.sized k3 hL l.regs
     . refine l.ext.step a1 (fJ du (XJ c) N.1) (by rw [CR Z.lt];exact k2) (bi c N.1) (fun _ _=>rfl) (fun b G=>?_);rw [k1.none_ge G,Z.none_ge G]
     . intro A s n b I B W;by_cases e:A=p
       . subst e;rw [tp.still Y]at B;omega
       . rw [cB S e]at n;have Q:=l.cov A s n b I B;rcases le b Q with x|x
         . grind
         grind
   . -- a quiet one:it runs at p,below c
     have aa:p<c:=by
      rcases Xu p c with h|h|h
      . exact h
      . exfalso;have hw:=cW J h.symm;rcases hw.2 with x|⟨_,x⟩
        . have:=Y.2.1;omega
        . rw [Y.2.2]at x;cases x
      . exfalso;rcases N.2.1 with e|⟨oc,af,ai,bL⟩
        . omega
        . obtain⟨m,O⟩:=mask D J;have:=qS D hd J O hr (cmp D J O h af ⟨ai,.inr Y⟩);grind
     have bb: ∀j oj,p<=j->j<c->ops[j]? =some oj->isR E X oj j\/isQ E X q oj j\/ ∀b,b<(H (p+1)).n->(H (j+1)).get b=(H j).get b:=by
      intro j oj I B C;rcases kinds D C with x|x|x
      . exact .inl x
      . grind
      . refine .inr (.inr ?_);by_cases e:j=p
        . subst e;rw [J]at C;cases C;exfalso;rcases x.2 with y|⟨_,y⟩
          . have:=Y.2.1;omega
          . rw [Y.2.2]at y;cases y
        . obtain⟨m,O⟩:=mask D C;rcases cmpN D C O (by omega) J (.inr ⟨Y,x,a4⟩)with y|⟨_,y2,y3⟩
          . have:=qc D hd j oj m p C O (N.2.2 j oj B C x) y;grind
          grind[wr_new]
     have ad: ∀b,b<(H p).n->(H c).get b=(H p).get b:=fun b G=>stand du (by omega) N.1 (fun j oj I B C=>(bb j oj I B C).imp id (.imp id fun f b G=>f b (by have:=tp.n;omega))) G;have a5: ∀b,b<(H (p+1)).n->(H c).get b=(H (p+1)).get b:=fun b G=>stand du (by omega) N.1 (fun j oj I B=>bb j oj (by omega) B) G;have cN:(H p).n<=(H c).n:=fJ du (by omega) N.1;have a7:(H (p+1)).n<=(H c).n:=fJ du (by omega) N.1;have bP:bE (cut mu (H p).n) (H p) w:=by
      refine⟨U p (by omega),fun b c0 base top O=>?_,fun b O=>?_,fun b b' c0 base top bm bT I B=>?_,fun b O=>?_⟩
      . by_cases G:b<(H p).n
        . rw [fK G]at O;obtain⟨x,ob,g1,g2,g3⟩:=Z.blk b c0 base top O;refine⟨x,ob,by grind,g2,?_⟩;have cO:bf b≠ .none:=by
           by_cases W:b<(H 0).n
           . have cQ:mu0 b≠ .none:=by
              rcases l.ext.old b W with y|⟨y,_⟩
              . grind
              . exact y
             rcases t4.old b W with y|⟨_,y⟩
             . grind
             . rw [y];simp
           . exact t4.cover b (by omega) G
          cases bX:bf b with
          |none=>grind| dead=>
            have:=t1.dead b bX;rw [<-ad b G,g1]at this;cases this;exact g3.elim
          | blk cT bn bY=>
            obtain⟨xT,oT,j1,j2,j3⟩:=t1.blk b cT bn bY bX;rw [<-ad b G,g1]at j1;cases j1;exact oz.cut (fun b' bp=>t1.lt b' bp) g3 j3
        grind[qP]
      . by_cases G:b<(H p).n
        . rw [fK G]at O;rw [<-ad b G];exact Z.dead b O
        grind[qP]
      . exact Z.inj b b' c0 base top bm bT (by
         grind[fK,qP]) (by
         grind[fK,qP])
      . by_cases G:b<(H p).n
        . exact G
        . rw [qP (by omega)]at O;grind
     have b0: ∀x,aC (cut mu (H p).n) ((L p).evD (tmpsOf o.op.operands.toList) x) (eo tmps x):=fun x=>aC.cut (fun b' bp=>t1.lt b' bp) (a6 x) (a3 x);have ch:oq (cut mu (H p).n):=fun g hg=>(l.glob g hg).cut (t1.lt _ (t2 g hg).in);have bc:=r;rw [rO Y.2.1 Y.2.2]at bc;obtain⟨ac,w1,v',k1,k2,k3,_,k4⟩:=s7 ok hc hcode bP ch b0 (F:=F) (ops:=K) (i:=σ p) (dfs:=dfs) (k:=k) (cs:=cs) (rest:=rest) al V ((uR e1).trans bc);rw [e2]at k4;rw [<-hH]at k1 k2;obtain⟨gh,le,cl⟩:=glue_rel Z k1 k2 (fun b I B=>l.non p be hp b I B) a7 a5;refine⟨glue ac mu (H (p+1)).n,w1,_,⟨⟨c,xt N (by omega),gh⟩,l.glob.mono le,fun A s n b I B=>?_,by rw [qQ];exact l.size,?_,?_,?_⟩,k4⟩
     . have aL:A≠p:=(by grind[iM]);rw [cB S aL]at n;have Q:=l.non A s n b I B;rcases Xr p A with x|x
       . rw [m9 (Xk (fJ du (show p+1<=A from x) (by omega)) I)];exact Q
       . have a0:b<(H p).n:=Xg B (fJ du (show A+1<=p by omega) (by omega));rw [lj (Xg a0 tp.n)];rcases k2.old b a0 with y|⟨y,_⟩
         . rw [y,fK a0];exact Q
         grind[fK,absurd]
     . exact qT D hd J hr hp le l.size t3.sized (k3.mono cl) hL l.regs
     . exact l.ext.step a1 (fJ du (XJ p) (by omega)) k2 (bi p (by omega)) (fun b G=>lj G) (fun b G=>m9 G)
     . intro A s n b I B W;by_cases e:A=p
       . subst e;rw [lj B]at W;exact k2.cover b I B W
       . rw [cB S e]at n;have Q:=l.cov A s n b I B;rcases le b Q with x|x
         . grind
         grind
   . -- a writer:it is the one at c
     have aa:p=c:=by
      rcases Xu p c with h|h|h
      . have:=N.2.2 p o h J Y;grind
      . exact h
      . rcases N.2.1 with e|⟨oc,af,ai,bL⟩
        . omega
        . obtain⟨m,O⟩:=mask D J;have:=qS D hd J O hr (cmp D J O h af ⟨ai,.inl Y⟩);grind
     subst aa;rw [wP Y]at r;obtain⟨ac,w1,v',k1,k2,k3,_,k4⟩:=s7 ok hc hcode Z l.glob a3 (F:=F) (ops:=K) (i:=σ p) (dfs:=dfs) (k:=k) (cs:=cs) (rest:=rest) al V ((uR e1).trans r);rw [e2]at k4;have le:=k2.le Z;rw [<-hH]at k1 k2;obtain⟨c',d1,d2,d3,d4⟩:=next_W (E:=E) (ops:=ops) (q:=q) (X:=X) (ops.size-(p+1)) (p+1) (by omega);have br:bE ac (H c') w1:=(by refine yQ k1 (U c' d2) (fJ du d1 d2) (fun b G=>stand du d1 d2 (fun j oj I B C=>?_) G);grind[kinds,absurd]);refine⟨ac,w1,_,⟨⟨c',⟨d2,?_,?_⟩,br⟩,l.glob.mono le,fun A s n b I B=>?_,by rw [qQ];exact l.size,?_,?_,?_⟩,k4⟩
     . rcases d3 with e|⟨o',b1,b2⟩
       . exact .inl e
       . refine .inr ⟨o',b1,b2,?_⟩;rw [cB S (by omega)];exact after_c D hd N (by omega) b1 (.inl b2) (fun _=>by omega)
     . intro i oi hi bu cm;by_cases b3:i=p
       . subst b3;exact iM S i
       . rw [cB S b3];rcases Xr i p with x|x
         . exact N.2.2 i oi x bu cm
         grind
     . have aL:A≠p:=(by grind[iM]);rw [cB S aL]at n;rcases Xr p A with x|x
       . exact k1.none_ge (Xk (fJ du (show p+1<=A from x) (by omega)) I)
       . have a0:b<(H p).n:=Xg B (fJ du (show A+1<=p by omega) (by omega));have Q:=l.non A s n b I B;rcases k2.old b a0 with y|⟨y,_⟩
         . grind
         grind
     . exact qT D hd J hr hp le l.size t3.sized k3 hL l.regs
     . refine l.ext.step a1 (fJ du (XJ p) N.1) (by rw [CR Z.lt];exact k2) (bi p N.1) (fun _ _=>rfl) (fun b G=>?_);rw [k1.none_ge G,Z.none_ge (Xk tp.n G)]
     . intro A s n b I B W;by_cases e:A=p
       . subst e;exact k2.cover b I B W
       . rw [cB S e]at n;have Q:=l.cov A s n b I B;rcases le b Q with x|x
         . grind
         grind
end
theorem sa{e a:Edge}(h:e.ground=a.ground):binds e=binds a:=by unfold binds Region.binds;rw [h]
structure Ord(ops opsM:Array Oper)(σ τ:Nat->Nat):Prop where
 size:ops.size=opsM.size
 lt: ∀p,p<ops.size↔σ p<ops.size
 st: ∀i,σ (τ i)=i
 ts: ∀p,τ (σ p)=p
 op: ∀p o,ops[p]? =some o-> ∃oM,opsM[σ p]? =some oM/\oM.op=o.op/\oM.dst=o.dst/\((o.guard=none/\oM.guard=none)\/ ∃j want,o.guard=some (j,want)/\oM.guard=some (σ j,want))/\
  (∀e∈o.after.toList,∃eM∈oM.after.toList,e.ground=eM.ground/\(eM.on<ops.size->e.on=τ eM.on)/\(ops.size<=eM.on->ops.size<=e.on))/\
  ∀eM∈oM.after.toList,∃e∈o.after.toList,e.ground=eM.ground/\(eM.on<ops.size->e.on=τ eM.on)/\(ops.size<=eM.on->ops.size<=e.on)
theorem Ord.same{e:Array Oper}{f g:Nat->Nat}(o:Ord ops e f g):nS ops e f:=by
 refine⟨fun p x h=>?_,fun _ _ p _ _ _ j=>?_⟩
 . obtain⟨k,a,b,c,d,_⟩:=o.op p x h;grind
 . have i: ¬p<ops.size:=(by grind);refine X6 ?_;rw [<-o.size];have:=mt (o.lt p).2 i;omega
theorem Ord.part{f g:Array Oper}{h q:Nat->Nat}(o:Ord ops f h q)(u: ∀(i:Nat),i<f.size->g[i]? =f[i]?)(r: ∀x∈f.toList,jH f.size x=true):nS ops g h:=by
 refine⟨fun p x k=>?_,fun p x j n k l v=>?_⟩
 . obtain⟨m,a,b,c,d,_⟩:=o.op p x k;grind
 . exfalso;obtain⟨m,a,_,_,d,_⟩:=o.op p x k;rcases d with⟨d,_⟩|⟨w,y,d,e⟩
   . grind
   . rw [l]at d;cases d;have s:m∈f.toList:=(by grind);have:=r m s;unfold jH at this;rw [e]at this;have t:h j<ops.size:=(by rw [o.size];simp_all);have z:=(o.lt j).2 t;grind
theorem Ord.id(ops:Array Oper):Ord ops ops (fun i=>i) (fun i=>i):=by
 refine⟨rfl,fun _=>Xi,fun _=>rfl,fun _=>rfl,fun p o b=>⟨o,b,rfl,rfl,?_,fun e a=>⟨e,a,rfl,fun _=>rfl,fun h=>h⟩,fun e a=>⟨e,a,rfl,fun _=>rfl,fun h=>h⟩⟩⟩;cases c:o.guard with
 |none=>grind|some q=>grind
theorem vh{i:Nat}: ∀{l:List Nat},i∈l->hU i l<l.length/\l[hU i l]? =some i
 | [],h=>by cases h
 | x ::l,h=>by
   unfold hU;cases d:Xh i x with
   | true=>simp_all| false=>
     have c:i≠x:=(by grind[Xn]);rcases List.mem_cons.1 h with e|h
     . omega
     . obtain⟨a,b⟩:=vh h;grind
theorem wL{i:Nat}: ∀{l:List Nat},i∉l->hU i l=l.length
 | [],_=>rfl| x::l,h=>by unfold hU;have a:Xh i x=false:=(by grind[Xh,absurd,Xb]);simp_all[cond_false,XZ,wL,Xs]
theorem ordL_mem(ops:List Oper)(i:Nat):i∈ordL ops↔i<ops.length:=by grind[ordL,yI,lateAt]
theorem Fo(ops:List Oper):(ordL ops).Nodup:=by
 unfold ordL;rw [Xv,Xv];refine⟨List.nodup_range.filter _,⟨List.nodup_range.filter _,List.nodup_range.filter _,fun a c b d e=>?_⟩,fun a c b d e=>?_⟩
 . grind
 grind
theorem ordL_len(ops:List Oper):(ordL ops).length=ops.length:=by
 unfold ordL;rw [Xp,Xp];have a: ∀(l:List Nat) (f g:Nat->Bool),(l.filter f).length+((l.filter fun i=>!f i&& !g i).length+(l.filter fun i=>!f i&&g i).length)=l.length:=by
  intro l f g
  induction l with
  |nil=>rfl| cons x l b=>grind
 simp_all
theorem Be(ops:List Oper)(ord:List Nat): ∀(l:List Nat),(∀i∈l,i<ops.length)-> ∀(p:Nat),(gQ ops ord l)[p]? =(l[p]?).bind fun(i:Nat)=>(ops[i]?).map (reix ord)
 | [],_,p=>by simp [gQ]| i ::l,h,p=>by
   have a:i<ops.length:=h i Xx;unfold gQ;rw [Xt a];simp only [];cases p with
   |zero=>simp [a]| succ p=>
     simp only [List.getElem?_cons_succ];exact Be ops ord l (fun j b=>h j (Xs _ b)) p
theorem posOf_at(c:ord.Nodup)(d:ord[p]? =some i):hU i ord=p:=by have e:i∈ord:=Xa d;obtain⟨a,b⟩:=vh e;grind[Xy,Xu,hU,absurd,XW]
theorem Cy(ops:Array Oper)(ord:List Nat)(c: ∀i,i∈ord↔i<ops.toList.length)(m:ord.Nodup)(f:ord.length=ops.toList.length)(u:ops.toList.all (jH ops.toList.length)=true):Ord (gQ ops.toList ord ord).toArray ops (fun p=>(ord[p]?).getD p) (fun i=>if i<ops.size then hU i ord else i):=by
 have v:ops.toList.length=ops.size:=by simp
 rw [v]at f c;have g:=Be ops.toList ord ord (fun i B=>by grind);have n:(gQ ops.toList ord ord).length=ops.size:=by
  have j: ∀p,p<(gQ ops.toList ord ord).length↔p<ops.size:=by intro p;have C:p<(gQ ops.toList ord ord).length↔((gQ ops.toList ord ord)[p]?).isSome=true:=(by simp);grind
  have a:=j (gQ ops.toList ord ord).length;have b:=j ops.size;omega
 have D: ∀p,p<ops.size-> ∃i,ord[p]? =some i/\i<ops.size:=fun p q=>⟨ord[p]'(by omega),Xt _,(c _).1 (List.getElem_mem _)⟩;have w: ∀p i,ord[p]? =some i->hU i ord=p:=fun p i q=>posOf_at m q;have d:(gQ ops.toList ord ord).toArray.size=ops.size:=by simp [n]
 refine⟨d,fun p=>?_,fun i=>?_,fun p=>?_,fun p o x=>?_⟩
 . grind
 . by_cases h:i<ops.size
   . simp_all[if_pos,vh]
   grind
 . grind
 . have k:(gQ ops.toList ord ord)[p]? =some o:=(by simpa using x);rw [g]at k;obtain⟨i,E,y⟩:=Option.bind_eq_some_iff.1 k;obtain⟨r,z,rfl⟩:=Option.map_eq_some_iff.1 y;have A:ops[i]? =some r:=(by simpa using z);refine⟨r,by grind,rfl,rfl,?_,?_,?_⟩
   . grind[XN,Xa,jH,reix,XX,hU,vh]
   . intro e s;simp only [reix,Array.toList_map,List.mem_map]at s;obtain⟨l,t,rfl⟩:=s;refine⟨l,t,rfl,fun h=>?_,fun h=>?_⟩
     . grind
     simp_all[hU,wL,Xc]
   . intro l t;refine⟨{l with on:=hU l.on ord},by simp only [reix,Array.toList_map,List.mem_map];grind,rfl,fun h=>?_,fun h=>?_⟩
     . grind
     simp_all[hU,wL,Xc]
theorem hoist_ord(ops:Array Oper): ∃(a:Array Oper) (c d:Nat->Nat),a.toList=dy ops.toList/\Ord a ops c d:=by
 unfold dy;cases b:(ops.toList.any wQ||wC ops.toList)&&ops.toList.all (jH ops.toList.length)with
 |false=>exact⟨ops,_,_,rfl,Ord.id ops⟩| true=>simp only [zO]at b;exact⟨_,_,_,rfl,Cy ops _ (ordL_mem ops.toList) (Fo ops.toList) (ordL_len ops.toList) b.2⟩
def j8(S:Nat->Bool):Nat->Nat
 |0=>0|n+1=>j8 S n+(if S n=true then 0 else 1)
theorem ru{S:Nat->Bool}: ∀{n:Nat},j8 S n=0-> ∀i,i<n->S i=true
 |0,_,i,a=>by omega| n +1,h,i,a=>by
   simp only [j8]at h;by_cases b:S n=true
   . rw [if_pos b]at h;by_cases e:i=n
     . grind
     . exact ru (n:=n) (by omega) i (by omega)
   grind
theorem ti{S:Nat->Bool}: ∀{n:Nat},j8 S n≠0-> ∃i,i<n/\S i=false/\ ∀j,j<i->S j=true
 |0,h=>absurd rfl h| n +1,h=>by
   by_cases a:j8 S n=0
   . have b:=ru a;simp only [j8,a]at h;grind
   . obtain⟨i,e,c,d⟩:=ti a;exact⟨i,by omega,c,d⟩
theorem B9{S:Nat->Bool}{p:Nat}: ∀{n:Nat},n<=p->j8 (kR S p) n=j8 S n
 |0,_=>rfl| n+1,h=>by simp only [j8];rw [B9 (by omega),cB S (by omega)]
theorem vC{S:Nat->Bool}{p:Nat}(a:S p=false): ∀{n:Nat},p<n->j8 (kR S p) n+1=j8 S n
 |0,h=>by omega| n +1,h=>by
   simp only [j8];by_cases e:p=n
   . simp_all[B9,Xc,iM]
   . have:=vC a (n:=n) (by omega);rw [cB S (by omega)];omega
theorem ry: ∀(n:Nat),j8 (fun _=>false) n=n
 |0=>rfl|n+1=>by simp [j8,ry n]
def cH(listed:Array Bool):Nat->Bool:=fun i=>listed.getD i false
theorem xV{listed:Array Bool}(a:p<listed.size):cH (listed.setIfInBounds p true)=kR (cH listed) p:=by funext i;simp only [cH,kR,Xe,Array.getElem?_setIfInBounds];grind
theorem Au(l:Loc)(d:Option Tmp)(v:Value):(l.put d v).dfs=l.dfs/\(l.put d v).rc=l.rc:=by cases d<;>exact⟨rfl,rfl⟩
def uS(ops:Array Oper):(Nat->Bool)->List Nat->Prop
 |S,[]=> ∀i,i<ops.size->S i=true|S,p::a=>p<ops.size/\S p=false/\(∀o,ops[p]? =some o->Ready o S)/\uS ops (kR S p) a
theorem yB{ops a:Array Oper}{d f:Nat->Nat}(c:Ord ops a d f){M:List Nat}(h: ∀i,rf ops.toList M i): ∀(b t:Nat) (listed:Array Bool),listed.size=ops.size->j8 (fun p=>cH listed (d p)) ops.size=b->
 uS ops (fun p=>cH listed (d p)) ((Region.linearise.go .any a b t listed []).map f)
 |0,t,listed,r,K=>ru K| b + 1,t,listed,r,K=>by
   have s: ∀i,i<ops.size->f i<ops.size:=fun i k=>(c.lt (f i)).2 (by rw [c.st];exact k);have u: ∀i,i∈Region.ready .any a listed->i<ops.size/\cH listed i=false/\ ∀o,ops[f i]? =some o->Ready o (fun p=>cH listed (d p)):=by
    intro i k;unfold Region.ready at k;simp only [XD,XG,zO,Xm]at k;obtain⟨g,B,j⟩:=k;rw [<-c.size]at g;refine⟨g,?_,fun o C e y l=>?_⟩
    . grind[cH,Xe,zM]
    . obtain⟨O,z,_,_,_,P,_⟩:=c.op (f i) o C;rw [c.st]at z;rw [z]at j;simp only [XR,XO]at j;obtain⟨q,D,A,E,Q⟩:=P e y;have:=(Array.all_eq_true'.1 j) q (by simpa using D);rw [sa A]at l;unfold binds at l;rw [l]at this;obtain⟨m,_,v,_⟩:=h (f i) o (by grind);have w:=v e y (by rw [sa A];unfold binds;exact l);have:=s i g;have hlt:q.on<ops.size:=(by omega);show cH listed (d e.on)=true;rw [E hlt,c.st];grind[cH,XU]
   have F:Region.ready .any a listed≠ []:=by
    obtain⟨p,g,B,j⟩:=ti (S:=fun p=>cH listed (d p)) (n:=ops.size) (by omega);intro e;have C:ops[p]? =some ops[p]:=zM g;obtain⟨m,_,l,_⟩:=h p ops[p] (by grind);obtain⟨O,z,_,_,_,_,R⟩:=c.op p _ C;have L:=(c.lt p).1 g;have :d p∈Region.ready .any a listed:=by
     unfold Region.ready;simp only [XD,XG,zO,Xm];refine⟨by grind,?_,?_⟩
     . grind[cH,Xe,zM]
     . rw [z];simp only [XR,XO];refine Array.all_eq_true'.2 fun q y=>?_;cases G:Region.binds .any q with
       |false=>rfl| true=>
         obtain⟨N,D,A,E,Q⟩:=R q (by simpa using y);have w:=l N D (by rw [sa A];unfold binds;exact G);have hlt:q.on<ops.size:=(by omega);have:=j N.on w;rw [E hlt,c.st]at this;simpa [cH]using this
    grind
   simp only [Region.linearise.go];change uS ops (fun p=>cH listed (d p)) (List.map f (match(Region.ready .any a listed)[t%(Region.ready .any a listed).length]? with
    |some i=>Region.linearise.go .any a b (t/(Region.ready .any a listed).length) (listed.setIfInBounds i true) [i]|none=>[].reverse))
   have x:0<(Region.ready .any a listed).length:=List.length_pos_iff.2 F;have hlt:=Nat.mod_lt t x;rw [Xt hlt];simp only [];generalize k:(Region.ready .any a listed)[t%(Region.ready .any a listed).length]=i;have H:i∈Region.ready .any a listed:=(by grind);obtain⟨g,B,j⟩:=u i H;have I:=s i g;have J:(fun p=>cH listed (d p)) (f i)=false:=(by show cH listed (d (f i))=false;rw [c.st];exact B);rw [linearise_go_acc,List.reverse_singleton,List.singleton_append,List.map_cons];have T:(fun p=>cH (listed.setIfInBounds i true) (d p))=kR (fun p=>cH listed (d p)) (f i):=by
    funext p;rw [xV (listed:=listed) (p:=i) (by omega)];by_cases e:p=f i
    . subst e;rw [c.st,iM,iM]
    . rw [cB _ e,cB _ (by intro U;exact e (by rw [<-U,c.ts]))]
   refine⟨I,J,j,?_⟩;rw [<-T];exact yB c h b _ _ (by simpa using r) (by grind[vC,cH])
section
variable{E:Env}{P:Program}(ok:EOk E P){R:Rec}(hc:iX E P R.call)(hcode:kf P R.code)
variable{ops:Array Oper}{q:Nat}{ps:List (Nat×Nat)}{M:List Nat}{L:Nat->Loc}{H:Nat->Hp}{T:Nat->Option Nat}{X:Nat->Bool}(D:DT E R ops q ps M L H T X)
variable{nr:Nat}{mu0:Mu}{w0:World}
include D in
theorem CG(g:ou ops S)(h:ops[p]? =some o)(j:Ready o S):ou ops (kR S p):=by
 intro i k a f e c d;by_cases b:i=p
 . subst b;rw [h]at a;cases a;obtain⟨m,_,l,_⟩:=D.bef i o (by grind);have:=l e c d;rw [cB S (by omega)];exact j e c d
 . rw [cB S b]at f;have:=g i k a f e c d;grind[iM,cB]
include ok hc hcode D in
theorem go_list(du: ∀j o,j<ops.size->ops[j]? =some o->qX ops E X q H T j o)(l: ∀i,i<=ops.size->nY nr mu0 w0 L H i)(m: ∀b,mu0 b≠ .none->b<(H 0).n)(e: ∀b c base top,mu0 b=.blk c base top->c<w0.heap.size){d:Array Oper}{t:Nat->Nat}(A:nS ops d t){tl:List Nat}{F:FC}{dfs:List Deferred}{k:List Item}{cs:List Frame}: ∀(n:List Nat) (S:Nat->Bool) (mu:Mu) (w:World) (tmps:Array Value),uS ops S n->ou ops S->
  Inv E ops q L H X nr mu0 w0 S mu w tmps->
  ∃ s f w' a,Inv E ops q L H X nr mu0 w0 s f w' a/\(∀i,i<ops.size->s i=true)/\
    Steps P (lone (F.mk' tmps dfs (.inRegion d (n.map t++tl)::k)) cs w) (lone (F.mk' a dfs (.inRegion d tl::k)) cs w')
 | [],S,mu,w,tmps,u,v,g=>⟨S,mu,w,tmps,g,u,Steps.refl _ _⟩| p::n,S,mu,w,tmps,u,v,g=>by obtain⟨C,G,I,J⟩:=u;have x:ops[p]? =some ops[p]:=zM C;have B:=I _ x;obtain⟨y,K,h,r,z⟩:=BR ok hc hcode D du l m e A g v x B G (F:=F) (dfs:=dfs) (k:=k) (cs:=cs) (rest:=n.map t++tl);obtain⟨s,f,w',a,N,O,Q⟩:=go_list du l m e A n _ y K h J (CG D v x B) r;exact⟨s,f,w',a,N,O,Steps.trans z Q⟩
include ok hc hcode in
theorem AF(cx:Cx)(ops z:Array Oper)(sm:nS ops z σ)(ls:List Nat)(hg:uS ops (fun _=>false) ls)(tl:List Nat)(l:Loc)(h:Hp)(l':Loc)(h':Hp)(q:Nat)(ps:List (Nat×Nat))(tr:List (Nat×Tch))(hp:im E ops.toList=some (q,ps))(he:cD E R ops.toList q ops.toList 0 l h []=some (l',h',tr))(O:dH tr ps=true)(mu:Mu)(w:World)(F:FC)(A:List Frame)(tmps:Array Value)(dfs:List Deferred)(B:Option (Value×Bool))(k:List Item)(s:SR P cx l h mu w F A tmps dfs B):
 ∃ r w' d,SR P cx l' h' r w' F A d dfs B/\Ext mu h w r h' w'/\
   Steps P (lone (F.mk' tmps dfs (.inRegion z (ls.map σ++tl)::k)) (bg B A) {w with drawn:=w.drawn+1})
    (lone (F.mk' d dfs (.inRegion z tl::k)) (bg B A) w'):=by
 obtain⟨M,aL,a5⟩:=Ap hp;obtain⟨_,L,H,T,X,ad,K,Q,S,a0,U,af⟩:=yt _ _ _ _ _ _ _ _ he;rw [Xq,Yc]at Q S;have D:DT E R ops q ps M L H T X:=by
  refine⟨aL,fun n o I h4=>?_,fun n o m i p I hm V a6 Y=>?_,fun i o I=>?_,fun {i j a b o p} u I hp ro rp ha Y=>?_,fun {i j a o p} u I hp ro rp hx hh ha=>?_⟩
  . grind
  . grind
  . grind
  . have e1:=U i o a (by grind) ro (by grind);have e2:=U j p b (by grind) rp (by grind);rw [Xq]at e1 e2;have:=uC O u;grind[mK,Xn]
  . have e1:=U i o a (by grind) ro (by grind);have e2:=af j p (by grind) rp (by grind) (by grind);rw [Xq]at e1 e2;rcases u with u|u
    . have:=uC O u;rw [e1,e2]at this;exact A5 this
    . have:=uC O u;rw [e1,e2]at this;exact A5 this
 let w0:World:={w with drawn:=w.drawn+1}
 have N:bE mu h w0:=sW s.hr rfl;have e0:Ext mu h w mu h w0:=uL s.hr rfl rfl rfl rfl;have ai:nY cx.nr mu w0 L H 0:=⟨mu,w0,tmps,by grind,s.glob,by rw [ad];exact s.regs,by rw [K];exact Ext.refl mu h w0 N⟩;have Z: ∀i,i<=ops.size->nY cx.nr mu w0 L H i:=fun i V=>(v9 ok hc hcode D i V ai).1;have du: ∀j o,j<ops.size->ops[j]? =some o->qX ops E X q H T j o:=fun j o hj I=>(v9 ok hc hcode D ops.size (Xc _) ai).2 j o hj I;have ak: ∀b,mu b≠ .none->b<(H 0).n:=by rw [K];exact s.hr.lt
 have al: ∀b c f C,mu b=.blk c f C->c<w0.heap.size:=fun b c f C hm=>N.clt hm;have aa: ∀j,j<=ops.size->(H j).t.Sized (H j).n:=fun j hj=>by obtain⟨_,_,_,g,_⟩:=Z j hj;exact g.sized
 have an:Inv E ops q L H X cx.nr mu w0 (fun _=>false) mu w0 tmps:=by
  obtain⟨c',d1,d2,d3,d4⟩:=next_W (E:=E) (ops:=ops) (q:=q) (X:=X) ops.size 0 (by omega);refine⟨⟨c',⟨d2,?_,fun i o V I hw=>absurd hw (d4 i o (XJ _) V I)⟩,?_⟩,s.glob,fun p a7 _ b h1 h2=>?_,s.regs.size,fun i V t v a1 hv=>?_,by rw [K];exact WExt.refl N,fun p _ J=>by cases J⟩
  . grind
  . refine yQ (h:=H 0) (by grind) (aa c' d2) (fJ du d1 d2) (fun b Y=>stand du d1 d2 (fun j oj h1 h2 a2=>?_) Y);grind[kinds,absurd]
  . exact N.none_ge (by
     have:=fJ du (XJ p) (by omega);grind)
  . have G:(L (0+i)).regs.get t=(L 0).regs.get t:=(by refine walk_eq (fun j=>(L j).regs.get t) (a:=0) i (fun j h1 h2=>?_);have a2:ops[j]? =some ops[j]:=zM (by omega);grind[rh]);rw [Xq]at G;rw [G,ad]at hv;exact s.regs.get t v hv
 obtain⟨S',r,w',d,g1,g2,g3⟩:=go_list ok hc hcode D du Z ak al sm (tl:=tl) (F:=F) (dfs:=dfs) (k:=k) (cs:=bg B A) ls _ mu w0 tmps hg (fun i o _ J=>by cases J) an;obtain⟨c,hC,hh⟩:=g1.c;have a3:c=ops.size:=by
  rcases hC.2.1 with e|⟨o,I,_,J⟩
  . exact e
  grind
 subst a3;rw [S]at hh;obtain⟨a8,wT,a4,t1,t2,t3,t4⟩:=Z ops.size (Xc _);rw [Q]at t3;rw [S]at t1 t4;have le:Le mu r:=by
  intro b Y;rcases g1.ext.old b (ak b Y)with x|⟨_,x⟩
  . exact .inl x
  . exact .inr x
 have ac: ∀i,i<=ops.size->(L i).dfs=l.dfs/\(L i).rc=l.rc:=by
  intro i
  induction i with
  |zero=>grind| succ i ih=>
    intro V;have:=ih (by omega);have J:=D.step i ops[i] (zM (by omega));generalize L (i+1)=L1 at J⊢;generalize H (i+1)=H1 at J;generalize T i=T1 at J;generalize X i=X1 at J;cases J with
    |skip hg=>grind[Au,trans]|exec hg ba=>grind[Au,trans]
 have hk:=ac ops.size (Xc _);rw [Q]at hk;have ext:Ext mu h w0 r h' w':=by
  have W:=g1.ext;rw [K]at W t4;refine⟨t4.n,W.old,W.fresh,t4.lo,t4.same,W.frame,fun b c f C t sz el hm hg=>?_,W.wsize,W.os,W.tape,W.output,fun b h1 h2=>?_⟩
  . obtain⟨x,y⟩:=W.ro b c f C t sz el hm hg;exact⟨x,(t4.ro b c f C t sz el hm hg).2.1,y⟩
  . have bb: ∀i,i<=ops.size->b<(H i).n->r b≠ .none:=by
     intro i
     induction i with
     |zero=>grind| succ i ih=>
       intro V Y;by_cases bc:b<(H i).n
       . grind
       . exact g1.cov i (by omega) (g2 i (by omega)) b (by omega) Y
    grind
 refine⟨r,w',d,⟨hh,g1.glob,⟨g1.size,t3.sized,fun i v hv=>?_⟩,?_,?_,s.ko,s.fn,s.rd.mono le,s.rn,s.fs⟩,Ext.trans e0 ext,g3⟩
 . refine g1.regs ops.size (Xc _) i v (fun p o I _=>?_) (by grind);grind
 . rw [hk.1];exact LR.mono s.dfs fun _ _=>oJ.mono le
 . rw [hk.2];exact s.rc.mono le
include ok hc hcode in
theorem Bu(cx:Cx)(a b:Array Oper)(A:b=a\/(∀(i:Nat),i<a.size->b[i]? =a[i]?)/\ ∀x∈a.toList,jH a.size x=true)(tl:List Nat)(l:Loc)(h:Hp)(l':Loc)(h':Hp)(q:Nat)(ps:List (Nat×Nat))(m:List (Nat×Tch))(n:im E (dy a.toList)=some (q,ps))(y:cD E R (dy a.toList) q (dy a.toList) 0 l h []=some (l',h',m))(o:dH m ps=true)(mu:Mu)(w:World)(F:FC)(c:List Frame)(tmps:Array Value)(dfs:List Deferred)(d:Option (Value×Bool))(k:List Item)(s:SR P cx l h mu w F c tmps dfs d)(t:Nat):
 ∃ g w' e,SR P cx l' h' g w' F c e dfs d/\Ext mu h w g h' w'/\
   Steps P (lone (F.mk' tmps dfs (.inRegion b (Region.linearise.go .any a a.size t (Xj a.size false) []++tl)::k)) (bg d c) {w with drawn:=w.drawn+1})
    (lone (F.mk' e dfs (.inRegion b tl::k)) (bg d c) w'):=by
 obtain⟨ops,u,B,C,f⟩:=hoist_ord a;have G:nS ops b u:=by
  rcases A with rfl|⟨I,J⟩
  . exact f.same
  . exact f.part I J
 rw [<-C]at n y;have j:(fun p=>cH (Xj a.size false) (u p))=fun _=>false:=by
  funext i;simp only [cH,Xe,XK]
  split<;>rfl
 obtain⟨M,v,_⟩:=Ap n;have z:=yB f v a.size t (Xj a.size false) (by simp [f.size]) (by rw [j,<-f.size];exact ry _);rw [j]at z;have r:=AF ok hc hcode cx ops b G _ z tl l h l' h' q ps m n y o mu w F c tmps dfs d k s;rw [List.map_map,show(u∘B)=id from funext f.st,List.map_id]at r;exact r
include ok hc hcode in
theorem draw_ok:DrawOk E P R:=by
 intro n id a l h o p q ps r t u g v w F i d e f k s;have b:Region.schedule (P.follows .mixedOrders) a (w.tape w.drawn (.order F.fn id))=Region.linearise.go .any a a.size (w.tape w.drawn (.order F.fn id)) (Xj a.size false) []:=by rw [ok.mixed];rfl
 obtain⟨j,x,c,y,z,m⟩:=Bu ok hc hcode n a a (.inl rfl) [] l h o p q ps r t u g v w F i d e f k s (w.tape w.drawn (.order F.fn id));rw [XE]at m;refine⟨j,x,c,e,f,y,z,Steps.trans (.one ?_) (Steps.trans m (.one qU))⟩;rw [<-b];rfl
theorem Ai{M:List Nat}(p: ∀i,rf ops.toList M i){N:Nat}(r: ∀(i:Nat) o,i<N->ops[i]? =some o->S i=true-> ∀e∈o.after.toList,binds e=true->S e.on=true): ∀(n:Nat) (o:Oper) (m i:Nat),n<=N->ops[n]? =some o->M[n]? =some m->Ready o S->m.testBit i=true->S i=true:=by
 intro n
 induction n using Nat.strongRecOn with
 | _ n s=>
   intro o m i B t u v f;obtain⟨C,k,w,y⟩:=p n o (by grind);rw [u]at k;cases k;obtain⟨e,l,a,x⟩:=y i f;have b:=v e l a;rcases x with rfl|⟨m2,g,h⟩
   . exact b
   . have hlt:=w e l a;have z:n<ops.size:=(Array.getElem?_eq_some_iff.1 t).1;have c:ops[e.on]? =some ops[e.on]:=zM (by omega);exact s e.on hlt ops[e.on] m2 i (by omega) c g (fun A j d=>r e.on _ (by omega) c b A j d) h
theorem AL(l:Array Bool)(i:Nat):(l.push false).getD i false=l.getD i false:=by simp only [Xe,XA];grind
theorem zV{A:Array Oper}(c:A.size=n)(d:ops.size=n+1)(a: ∀i,i<n->ops[i]? =A[i]?)(l:Array Bool)(g:l.size=n):Region.ready .any ops (l.push false)=Region.ready .any A l++(if((ops[n]?).map (·.after.all fun e=>!Region.binds .any e||l.getD e.on false)).getD false=true then [n]else []):=by
 unfold Region.ready;rw [d,c,List.range_succ,List.filter_append];congr 1
 . refine List.filter_congr fun i f=>?_;have b:i<n:=List.mem_range.1 f;rw [a i b];simp only [AL];congr 2;simp only [Xe,XA];grind
 . simp only [AL];simp_all[Xe,XA,if_pos,List.filter_cons,List.filter_nil,Bool.not_false,Bool.true_and]
theorem lin_pop{A:Array Oper}(v:A.size=n)(O:ops.size=n+1)(b: ∀i,i<n->ops[i]? =A[i]?){M:List Nat}(w: ∀i,rf ops.toList M i){x:Nat}(y:M[n]? =some x)(f: ∀i,i<n->x.testBit i=true):
 ∀ (a t:Nat) (l:Array Bool),l.size=n->(∀(i:Nat) o,i<n->ops[i]? =some o->cH l i=true-> ∀e∈o.after.toList,binds e=true->cH l e.on=true)->j8 (cH l) n=a->
   Region.linearise.go .any ops (a+1) t (l.push false) []=Region.linearise.go .any A a t l []++[n]:=by
 have z:ops[n]? =some (ops[n]'(by omega)):=zM _;obtain⟨m0,k1,W,_⟩:=w n _ (by rw [Xo];exact z);have g: ∀(B:Array Oper) (a t:Nat) (l:Array Bool),Region.linearise.go .any B (a+1) t l []=(match(Region.ready .any B l)[t%(Region.ready .any B l).length]? with
  |some i=>Region.linearise.go .any B a (t/(Region.ready .any B l).length) (l.setIfInBounds i true) [i]|none=>[]):=fun _ _ _ _=>rfl
 intro a
 induction a with
 | zero=>
   intro t l s Q h;have U:=ru h;have C:Region.ready .any A l=[]:=(by grind[Region.ready,List.filter_eq_nil_iff,cH,Xe,zM]);have F:Region.ready .any ops (l.push false)=[n]:=by
    rw [zV v O b l s,C,z];simp only [XR,XO,List.nil_append];rw [if_pos];refine Array.all_eq_true'.2 fun e u=>?_;cases d:Region.binds .any e with
    |false=>rfl| true=>have:=W e (by simpa using u) d;grind[cH]
   rw [g,F];simp [Region.linearise.go,Nat.mod_one]
 | succ a Y=>
   intro t l s Q h;have G:Region.ready .any ops (l.push false)=Region.ready .any A l:=(by rw [zV v O b l s,if_neg,XE];intro hc;obtain⟨p,I,Z,_⟩:=ti (S:=cH l) (n:=n) (by omega);have:cH l p=true:=(by refine Ai w Q n _ x p (Xc _) z y (fun e u d=>?_) (f p I);grind[XU,binds,cH]);grind);rw [g,g,G];have J:Region.ready .any A l≠ []:=by
    obtain⟨p,I,Z,p3⟩:=ti (S:=cH l) (n:=n) (by omega);have V:ops[p]? =some (ops[p]'(by omega)):=zM _;obtain⟨m,_,K,_⟩:=w p _ (by rw [Xo];exact V);have :p∈Region.ready .any A l:=by
     unfold Region.ready;simp only [XD,XG,zO,Xm];refine⟨by omega,?_,?_⟩
     . grind[cH,Xe,zM]
     . rw [<-b p I,V];simp only [XR,XO];refine Array.all_eq_true'.2 fun e u=>?_;cases d:Region.binds .any e with
       |false=>rfl| true=>have:=p3 e.on (K e (by simpa using u) d);simpa [cH]using this
    grind
   have j:0<(Region.ready .any A l).length:=List.length_pos_iff.2 J;have hlt:=Nat.mod_lt t j;rw [Xt hlt];simp only [];generalize hi:(Region.ready .any A l)[t%(Region.ready .any A l).length]=i;have N:i∈Region.ready .any A l:=(by grind);have c:=N;unfold Region.ready at c;simp only [XD,XG,zO,Xm]at c;obtain⟨h1,h2,h3⟩:=c;rw [v]at h1;have aa:cH l i=false:=(by grind[cH,Xe,zM]);have k:(l.push false).setIfInBounds i true=(l.setIfInBounds i true).push false:=(by grind);have r:=xV (listed:=l) (p:=i) (by omega);rw [linearise_go_acc,linearise_go_acc (acc:=[i]),List.append_assoc,k];rw [Y _ (l.setIfInBounds i true) (by simpa using s) ?_ ?_]
   . rw [r];grind[XU,binds,cH,kR,cB]
   grind[vC,cH]
theorem xJ(w:ops.size=n+1)(a:lN ops.toList n=true)(t:Nat):Region.linearise.go .any ops (n+1) t (Xj (n+1) false) []=Region.linearise.go .any (ops.extract 0 n) n t (Xj n false) []++[n]:=by
 unfold lN at a;simp only [zO]at a;obtain⟨b,j⟩:=a;unfold fullM at b;have e:ops.toList.length=ops.size:=by simp
 split at b
 next m f c=>
  obtain⟨k,_,g⟩:=xu _ _ _ c;simp only [X4,Xq]at k g;have l: ∀i,rf ops.toList (m::f).reverse i:=fun i o p=>g i o p;have r:(m::f).reverse[n]? =some m:=by grind
  have d: ∀i,i<n->m.testBit i=true:=fun i s=>List.all_eq_true.1 b i (List.mem_range.2 s);have u:(ops.extract 0 n).size=n:=by simp;omega
  have h: ∀i,i<n->ops[i]? =(ops.extract 0 n)[i]? :=by grind
  generalize ops.extract 0 n=A at*
  have v:cH (Xj n false)=fun _=>false:=by
   funext i;simp only [cH,Xe,XK]
   split<;>rfl
  rw [Array.replicate_succ];grind[lin_pop,ry]
 grind
include ok hc hcode in
theorem Bk(cx:Cx)(id:Nat)(ops:Array Oper)(l:Loc)(h:Hp)(l':Loc)(h':Hp)(x:Ex)(mu:Mu)(w:World)(F:FC)(c:List Frame)(tmps:Array Value)(dfs:List Deferred)(d:Option (Value×Bool))(k:List Item)(s:SR P cx l h mu w F c tmps dfs d)(n:Nat)(Q:n<=ops.size)(m:(ops.toList.take n).all (jH n)=true)(a: ∀t,Region.linearise.go .any ops ops.size t (Xj ops.size false) []=Region.linearise.go .any (ops.extract 0 n) n t (Xj n false) []++X7 n (ops.size-n))(b :(match im E (dy (ops.toList.take n))with
   |none=>none| some (q,ps)=>match cD E R (dy (ops.toList.take n)) q (dy (ops.toList.take n)) 0 l h []with
     |none=>none|some (l',h',j)=>bif dH j ps then jy E R cx ops.toList (ops.toList.drop n) l' h' else none)=some (x,l',h')):Sim P cx h mu w F c tmps dfs d (.code (.region id ops true)::k) k x l' h':=by
 have o:(ops.extract 0 n).toList=ops.toList.take n:=by simp
 have p:(ops.extract 0 n).size=n:=by simp;omega
 have e: ∀i,i<n->ops[i]? =(ops.extract 0 n)[i]? :=by grind
 rw [<-o]at b m;generalize ops.extract 0 n=A at*
 cases y:im E (dy A.toList)with
 |none=>grind| some B=>
   obtain⟨q,ps⟩:=B;rw [y]at b;simp only []at b;cases z:cD E R (dy A.toList) q (dy A.toList) 0 l h []with
   |none=>grind| some C=>
     obtain⟨G,I,j⟩:=C;rw [z]at b;simp only []at b;cases f:dH j ps with
     |false=>grind| true=>
       rw [f]at b;simp only [cond_true]at b;have J:Region.schedule (P.follows .mixedOrders) ops (w.tape w.drawn (.order F.fn id))=Region.linearise.go .any A A.size (w.tape w.drawn (.order F.fn id)) (Xj A.size false) []++X7 n (ops.size-n):=(by rw [ok.mixed,p];exact a _);obtain⟨K,S,u,N,O,g⟩:=Bu ok hc hcode cx A ops (.inr ⟨fun i U=>e i (by omega),fun x V=>by grind⟩) (X7 n (ops.size-n)) l h G I q ps j y z f mu w F c tmps dfs d k s (w.tape w.drawn (.order F.fn id));have r:=AS ok hc hcode (ops:=ops) (k:=k) (ops.toList.drop n) n _ _ _ _ _ _ _ _ _ _ rfl N b;have v:(ops.toList.drop n).length=ops.size-n:=(by grind);rw [v]at r;refine Sim.pre (Steps.trans (.one ?_) g) O r;grind[z9]
include ok hc hcode in
theorem EJ(cx:Cx)(id:Nat)(ops:Array Oper)(l:Loc)(h:Hp)(l':Loc)(h':Hp)(x:Ex)(c:wE E R cx ops.toList l h=some (x,l',h'))(mu:Mu)(w:World)(F:FC)(d:List Frame)(tmps:Array Value)(dfs:List Deferred)(e:Option (Value×Bool))(k:List Item)(s:SR P cx l h mu w F d tmps dfs e):Sim P cx h mu w F d tmps dfs e (.code (.region id ops true)::k) k x l' h':=by
 unfold wE at c;have z:ops.toList.length=ops.size:=by simp
 cases a:lN ops.toList (ops.toList.length-1)with
 |false=>grind| true =>
   rw [a]at c;simp only [cond_true]at c;have A:0<ops.size:=by
    rcases Nat.eq_zero_or_pos ops.size with i|i
    . have:ops.toList=[]:=(by grind);rw [this]at a;cases a
    . exact i
   obtain⟨n,B⟩: ∃n,ops.size=n+1:=⟨ops.size-1,by omega⟩;have o:ops.toList.length-1=n:=(by omega);unfold cutN at c;rw [o]at c a;have C:=xJ B a;cases g:tail2 ops.toList&&lN (ops.toList.take n) (n-1)with
   | false=>
     rw [g]at c;refine Bk ok hc hcode cx id ops l h l' h' x mu w F d tmps dfs e k s n (by omega) (Bool.and_eq_true_iff.1 a).2 (fun t=>?_) c;rw [show ops.size-n=1 by omega];grind
   | true=>
     rw [g]at c;have b:lN (ops.toList.take n) (n-1)=true:=(Bool.and_eq_true_iff.1 g).2;have j:(ops.extract 0 n).toList=ops.toList.take n:=(by simp);have p:(ops.extract 0 n).size=n:=(by simp;omega);rw [<-j]at b;have G:0<n:=by
      rcases Nat.eq_zero_or_pos n with i|i
      . have:(ops.extract 0 n).toList=[]:=(by grind);rw [this]at b;cases b
      . exact i
     obtain⟨f,r⟩: ∃f,n=f+1:=⟨n-1,by omega⟩;have u:n-1=f:=(by omega);rw [u]at c b;have v:=xJ (p.trans r) b;have m:=(Bool.and_eq_true_iff.1 b).2;have I:(ops.extract 0 n).extract 0 f=ops.extract 0 f:=(by grind);have y:(ops.extract 0 n).toList.take f=ops.toList.take f:=(by rw [j,List.take_take,X5 (by omega)]);rw [I]at v;rw [y]at m;refine Bk ok hc hcode cx id ops l h l' h' x mu w F d tmps dfs e k s f (by omega) m (fun t=>?_) c;rw [show ops.size-f=2 by omega,B,C,r];rw [r]at v;rw [v];simp [X7]
end
theorem AN{E:Env}{R:Rec}{q:Nat}{ops ops':List Oper}: ∀(os a:List Oper) (i:Nat) (l:Loc) (h:Hp) (c:List (Nat×Tch)),os.map (fun o=>(o.op,o.dst))=a.map (fun o=>(o.op,o.dst))->(∀o∈os,o.guard=none)->(∀o∈a,o.guard=none)->
 cD E R ops q os i l h c=cD E R ops' q a i l h c
 | [],[],_,_,_,_,_,_,_=>rfl| [],_::_,_,_,_,_,b,_,_=>by simp at b|_::_,[],_,_,_,_,b,_,_=>by simp at b| o::os,o'::a,i,l,h,c,b,e,f=>by simp only [List.map_cons,List.cons.injEq,Prod.mk.injEq]at b;obtain⟨⟨g,j⟩,e3⟩:=b;have k:=e o Xx;have m:=f o' Xx;have n:=fun i l h c=>AN (E:=E) (R:=R) (q:=q) (ops:=ops) (ops':=ops') os a i l h c e3 (fun o d=>e o (Xs _ d)) (fun o d=>f o (Xs _ d));simp only [cD,cU,k,m,uR g,g,j,n]
theorem rx{E:Env}{R:Rec}{q:Nat}{ops:List Oper}: ∀(xs ys:List Oper) (i:Nat) (l:Loc) (h:Hp) (a:List (Nat×Tch)),
 cD E R ops q (xs++ys) i l h a=(cD E R ops q xs i l h a).bind fun r=>cD E R ops q ys (i+xs.length) r.1 r.2.1 r.2.2
 | [],ys,i,l,h,a=>rfl| o ::xs,ys,i,l,h,a=>by
   have e: ∀n,i+1+n=i+(n+1):=fun n=>(by omega);simp only [List.cons_append,cD,XZ];cases cU ops l.regs o with
   |none=>rfl| some b=>
     cases b with
     |false=>simp only [];rw [rx xs ys,e]| true=>
       simp only [];cases dw E R (l.evD (tmpsOf o.op.operands.toList)) (fI E q i o.op) o h with
       |none=>rfl|some r=>obtain⟨v,c⟩:=r;simp only [];rw [rx xs ys,e]
def GoodP(ops:Array Oper):(Nat->Bool)->List Nat->Prop
 |_,[]=>True|S,p::a=>p<ops.size/\S p=false/\(∀o,ops[p]? =some o->Ready o S)/\GoodP ops (kR S p) a
def addL(S:Nat->Bool):List Nat->Nat->Bool
 | []=>S|p::a=>addL (kR S p) a
theorem down_add0{M:List Nat}(g: ∀i,rf ops.toList M i)(h:ou ops S)(j:ops[p]? =some o)(k:Ready o S):ou ops (kR S p):=by
 intro i l a f e d b;by_cases c:i=p
 . subst c;rw [j]at a;cases a;obtain⟨m,_,n,_⟩:=g i o (by grind);have:=n e d b;rw [cB S (by omega)];exact k e d b
 . rw [cB S c]at f;have:=h i l a f e d b;grind[iM,cB]
theorem mid_cut{ops:Array Oper}{n:Nat}{M:List Nat}(d: ∀i,rf ops.toList M i)(u:n<ops.size)(a: ∀(i:Nat) m,n<i->i<ops.size->M[i]? =some m->m.testBit n=true):
 ∀ (v:List Nat) (S:Nat->Bool),uS ops S v->ou ops S->S n=false->(∀p,S p=true->p<n)->
   ∃b h,v=b++n::h/\GoodP (ops.extract 0 n) S b/\(∀o,ops[n]? =some o->Ready o (addL S b))/\ou ops (addL S b)
 | [],S,j,_,hs,_=>by
   have:=j n u;rw [hs]at this;cases this
 | p ::r,S,j,k,hs,hlt=>by
   obtain⟨w,A,f,B⟩:=j;have c:ops[p]? =some ops[p]:=zM w;rcases Xu p n with g|g|g
   . obtain⟨b,h,e,C,D,E⟩:=mid_cut d u a r (kR S p) B (down_add0 d k c (f _ c)) (by rw [cB S (by omega)];exact hs) (fun x y=>by
      by_cases e:x=p
      . omega
      . rw [cB S e]at y;exact hlt x y)
     refine⟨p::b,h,by rw [e];rfl,⟨by simp;omega,A,fun o l=>f o ?_,C⟩,D,E⟩;rw [<-l];grind
   . subst g;exact⟨[],r,rfl,trivial,f,k⟩
   . exfalso;obtain⟨m,z,_⟩:=d p _ (by rw [Xo];exact c);have:=Ai (N:=ops.size) d (S:=S) (fun i o _ q s e F t=>k i o q s e F t) p _ m n (by omega) c z (f _ c) (a p m g w z);rw [hs]at this;cases this
theorem AD: ∀(os:List Oper) (l:Loc),(pJ os l).dfs=l.dfs/\(pJ os l).rc=l.rc
 | [],_=>⟨rfl,rfl⟩| o::os,l=>by have a:=AD os (l.put o.dst poison);have b:=Au l o.dst poison;exact⟨a.1.trans b.1,a.2.trans b.2⟩
theorem Ay{n:Nat}: ∀(os:List Oper) (l:Loc),l.regs.Sized n->(pJ os l).regs.Sized n/\ ∀t v,(pJ os l).regs.get t=some v->v=poison\/((∀o∈os,o.dst≠some t)/\l.regs.get t=some v)
 | [],l,hs=>⟨hs,fun t v c=>.inr ⟨fun o i=>(by cases i),c⟩⟩
 | o :: os,l,hs=>by
   have f:(l.put o.dst poison).regs.Sized n:=by
    cases a:o.dst with
    |none=>exact hs|some d=>exact Tr.sized_set d poison hs
   obtain⟨j,k⟩:=Ay os (l.put o.dst poison) f;refine⟨j,fun t v c=>?_⟩;rcases k t v c with e|⟨m,b⟩
   . exact .inl e
   . by_cases a:o.dst=some t
     . left;rw [a]at b;have g:(l.regs.set t poison).get t=some v:=b;rw [Tr.get_set]at g;grind
     . rw [pG a]at b;exact .inr ⟨fun x h=>by
        rcases List.mem_cons.1 h with rfl|h
        . exact a
        . exact m x h,b⟩
theorem xL{ops:List Oper}(a:o.guard=none):iA ops o=iA ops' o:=by unfold iA;rw [a]
theorem DX{ops:List Oper}{p:Oper}(a:o.guard=none)(b:p.guard=none):nK ops o p=nK ops' o p:=by unfold nK;rw [xL a (ops':=ops'),xL b (ops':=ops')]
section
variable{E:Env}{P:Program}(ok:EOk E P){R:Rec}(hc:iX E P R.call)(hcode:kf P R.code)
section
variable{ops:Array Oper}{q:Nat}{ps:List (Nat×Nat)}{M:List Nat}{L:Nat->Loc}{H:Nat->Hp}{T:Nat->Option Nat}{X:Nat->Bool}(D:DT E R ops q ps M L H T X)
variable{nr:Nat}{mu0:Mu}{w0:World}
include ok hc hcode D in
theorem go_part(du: ∀j o,j<ops.size->ops[j]? =some o->qX ops E X q H T j o)(m: ∀i,i<=ops.size->nY nr mu0 w0 L H i)(n: ∀b,mu0 b≠ .none->b<(H 0).n)(e: ∀b c base top,mu0 b=.blk c base top->c<w0.heap.size){d:Array Oper}{s:Nat->Nat}(y:nS ops d s){tl:List Nat}{F:FC}{dfs:List Deferred}{k:List Item}{cs:List Frame}: ∀(l:List Nat) (S:Nat->Bool) (mu:Mu) (w:World) (tmps:Array Value),GoodP ops S l->ou ops S->
  Inv E ops q L H X nr mu0 w0 S mu w tmps->
  ∃ f w' a,Inv E ops q L H X nr mu0 w0 (addL S l) f w' a/\
    Steps P (lone (F.mk' tmps dfs (.inRegion d (l.map s++tl)::k)) cs w) (lone (F.mk' a dfs (.inRegion d tl::k)) cs w')
 | [],S,mu,w,tmps,z,t,g=>⟨mu,w,tmps,g,Steps.refl _ _⟩| p::l,S,mu,w,tmps,z,t,g=>by obtain⟨B,C,G,I⟩:=z;have u:ops[p]? =some ops[p]:=zM B;have A:=G _ u;obtain⟨v,J,h,r,x⟩:=BR ok hc hcode D du m n e y g t u A C (F:=F) (dfs:=dfs) (k:=k) (cs:=cs) (rest:=l.map s++tl);obtain⟨f,w',a,K,N⟩:=go_part du m n e y l _ v J h I (CG D t u A) r;exact⟨f,w',a,K,Steps.trans x N⟩
end
include ok hc hcode in
theorem mid_pan(cx:Cx)(ops J:Array Oper)(sm:nS ops J σ)(ls:List Nat)(hg:uS ops (fun _=>false) ls)(n:Nat)(c:Oper)(Q:ops[n]? =some c)(B: ∀(i:Nat) o,i<n->ops[i]? =some o->cls E o.op<=1/\o.guard=none)(bt:c.guard=none)(q:Nat)(ps:List (Nat×Nat))(hp:im E ops.toList=some (q,ps))(a1: ∀i,n<i->i<ops.size->behD ops.toList n i=true)(l:Loc)(h:Hp)(l1:Loc)(h1:Hp)(bd:List (Nat×Tch))(he:cD E R ops.toList q (ops.toList.take n) 0 l h []=some (l1,h1,bd))(v:Value)(h':Hp)(hv:dc E R (aop E (l1.evD (tmpsOf c.op.operands.toList)) h1 c.op)=some (.pan v,h'))(mu:Mu)(w:World)(F:FC)(U:List Frame)(tmps:Array Value)(dfs:List Deferred)(V:Option (Value×Bool))(k:List Item)(s:SR P cx l h mu w F U tmps dfs V):
 ∃ a3 w' aa v' todo,SR P cx (pJ ops.toList l) h' a3 w' F U aa dfs V/\Ext mu h w a3 h' w'/\aC a3 v v'/\
   Steps P (lone (F.mk' tmps dfs (.inRegion J (ls.map σ)::k)) (bg V U) {w with drawn:=w.drawn+1})
    (lone {F.mk' aa dfs todo with mode:=.panicking [{v:=v',recovered:=false}]} (bg V U) w'):=by
 have bu:n<ops.size:=(Array.getElem?_eq_some_iff.1 Q).1
 -- the im
 have hp0:=hp;unfold im at hp0
 split at hp0
 next=>cases hp0
 next ms be=>
 obtain⟨_,_,f3⟩:=xu _ _ _ be;obtain⟨_,_,g3⟩:=uP _ _ _ _ _ _ _ hp0;generalize hM:ms.reverse=M at*
 have K: ∀i,rf ops.toList M i:=fun i o g=>by simp_all
 have a0: ∀(j:Nat) o m (i:Nat) p,ops[j]? =some o->M[j]? =some m->i<j->ops[i]? =some p->m.testBit i=false->nK ops.toList o p=true:=by intro j o m i p g hm I bf hb;obtain⟨_,m',C,G⟩:=g3 j o (by grind);rw [hm]at C;cases C;exact(G i p (by omega) (by grind) hb).1
 -- the part ahead
 have bv:(ops.extract 0 n).size=n:=by simp;omega
 have a4:(ops.extract 0 n).toList=ops.toList.take n:=by simp
 have r: ∀i o,(ops.extract 0 n)[i]? =some o->i<n/\ops[i]? =some o:=by
  intro i o g;have I:i<n:=by have:=(Array.getElem?_eq_some_iff.1 g).1;omega
  exact⟨I,by rw [<-g];grind⟩
 have bw:cD E R (ops.extract 0 n).toList q (ops.extract 0 n).toList 0 l h []=some (l1,h1,bd):=by
  rw [<-he,a4];exact AN _ _ _ _ _ _ rfl (fun o g=>by
   rw [<-a4]at g;obtain⟨i,I⟩:=Ya g;rw [Xo]at I;obtain⟨a,b⟩:=r i o I;exact(B i o a b).2) (fun o g=>by
   rw [<-a4]at g;obtain⟨i,I⟩:=Ya g;rw [Xo]at I;obtain⟨a,b⟩:=r i o I;exact(B i o a b).2)
 obtain⟨a5,a6,bx,g1,g2,g4⟩:=mid_cut K bu (fun i m C G hm=>by
  have:=a1 i C G;unfold behD at this;rw [be]at this;simp only [hM,hm]at this;exact this) ls (fun _=>false) hg (fun i o _ hs=>by cases hs) rfl (fun p hs=>by cases hs)
 generalize hA:ops.extract 0 n=A at*
 obtain⟨_,L,H,T,X,a7,Y,a8,bh,ba,b6,b5⟩:=yt _ _ _ _ _ _ _ _ bw;rw [Xq,Yc,bv]at a8 bh;have D:DT E R A q [] M L H T X:=by
  refine⟨fun i o g=>?_,fun i o g h4=>?_,fun j o m i p g hm I bf hb=>?_,fun i o g=>?_,fun {i j a b o p} Z=>?_,fun {i j a o p} Z=>?_⟩
  . obtain⟨a,b⟩:=r i o (by simpa using g);exact K i o (by simpa using b)
  . obtain⟨a,b⟩:=r i o g;have:=(B i o a b).1;omega
  . obtain⟨a,b⟩:=r j o g;obtain⟨a2,b2⟩:=r i p bf;have C:=B j o a b;have G:=B i p a2 b2;refine⟨by rw [DX C.2 G.2 (ops':=ops.toList)];exact a0 j o m i p b hm I b2 hb,?_⟩;have:=C.1;have:=G.1;omega
  . have:=ba i o (by simpa using g);rw [Xq]at this;exact this
  . cases Z
  . rcases Z with Z|Z<;>cases Z
 let w0:World:={w with drawn:=w.drawn+1}
 have ac:bE mu h w0:=sW s.hr rfl;have e0:Ext mu h w mu h w0:=uL s.hr rfl rfl rfl rfl;have bi:nY cx.nr mu w0 L H 0:=⟨mu,w0,tmps,by grind,s.glob,by rw [a7];exact s.regs,by rw [Y];exact Ext.refl mu h w0 ac⟩;have bk: ∀i,i<=A.size->nY cx.nr mu w0 L H i:=fun i I=>(v9 ok hc hcode D i I bi).1;have du: ∀j o,j<A.size->A[j]? =some o->qX A E X q H T j o:=fun j o hj g=>(v9 ok hc hcode D A.size (Xc _) bi).2 j o hj g;have bB: ∀b,mu b≠ .none->b<(H 0).n:=by rw [Y];exact s.hr.lt
 have bl: ∀b c O ak,mu b=.blk c O ak->c<w0.heap.size:=fun b c O ak hm=>ac.clt hm
 -- the heap stands
 have d: ∀i,i<=A.size->H i=h:=by
  intro i
  induction i with
  |zero=>intro _;exact Y| succ i ih=>
    intro I;have al:A[i]? =some A[i]:=zM (by omega);obtain⟨a,b⟩:=r i _ al;exact((du i _ (by omega) al).still (.inr (B i _ a b).1)).trans (ih (by omega))
 have bL:h1=h:=by rw [<-bh];exact d n (by omega)
 subst bL;have bM: ∀(i:Nat) o,A[i]? =some o-> ¬isW E X q o i:=by intro i o g hw;obtain⟨a,b⟩:=r i o g;have:=(B i o a b).1;have:=hw.2;omega
 have bO:nS A J σ:=by
  refine⟨fun p o g=>?_,fun p o j bm g bn=>?_⟩
  . obtain⟨a,b⟩:=r p o g;exact sm.op p o b
  . obtain⟨a,b⟩:=r p o g;rw [(B p o a b).2]at bn;cases bn
 have bp:Inv E A q L H X cx.nr mu w0 (fun _=>false) mu w0 tmps:=by
  refine⟨⟨A.size,⟨Xc _,.inl rfl,fun i o I g hw=>absurd hw (bM i o g)⟩,by rw [d _ (Xc _)];exact ac⟩,s.glob,fun p b7 _ b h1 h2=>?_,s.regs.size,fun i I t v bP hv=>?_,by rw [Y];exact WExt.refl ac,fun p _ hs=>by cases hs⟩
  . rw [d p (by omega)]at h1;rw [d (p+1) (by omega)]at h2;omega
  . have ad:(L (0+i)).regs.get t=(L 0).regs.get t:=(by refine walk_eq (fun j=>(L j).regs.get t) (a:=0) i (fun j h1 h2=>?_);have b8:A[j]? =some A[j]:=zM (by omega);grind[rh]);rw [Xq]at ad;rw [ad,a7]at hv;exact s.regs.get t v hv
 obtain⟨af,w1,z,f,bT⟩:=go_part ok hc hcode D du bk bB bl bO (tl:=σ n::a6.map σ) (F:=F) (dfs:=dfs) (k:=k) (cs:=bg V U) a5 _ mu w0 tmps g1 (fun i o _ hs=>by cases hs) bp;generalize addL (fun _=>false) a5=S at*
 obtain⟨c',hC,hh⟩:=f.c;rw [d c' hC.1]at hh
 -- the call's own temporaries
 obtain⟨b9,wT,bX,t1,t2,t3,t4⟩:=bk n (by omega);rw [a8]at t3;obtain⟨mc,br,_⟩:=K n c (by simpa using Q);have an: ∀t∈iA ops.toList c,∀u,l1.regs.get t=some u-> ∃u',z[t]? =some u'/\aC af u u':=by
  intro t ht u hu;refine f.regs n (by omega) t u (fun p o aL bb=>⟨fun bY=>?_,fun _=>(r p o aL).1⟩) (by rw [a8];exact hu);cases hb:mc.testBit p with
  |true=>exact Ai (N:=ops.size) K (fun i o _ al b0 e he b1=>g4 i o al b0 e he b1) n c mc p (by omega) Q br (g2 c Q) hb
  | false=>
    exfalso;have ha:=a0 n c mc p o Q br bY (r p o aL).2 hb;simp only [nK,bb,zO,Xm]at ha;have:=(oh t _).2 ht;rw [ha.2]at this;cases this
 have b3: ∀x,aC af (l1.evD (tmpsOf c.op.operands.toList) x) (eo z x):=
  fun x=>wX t3.sized f.size _ (fun t ht u hu=>an t (by
   unfold iA;have:Operand.tmp t∈c.op.operands.toList:=(re t _).1 ht;grind) u hu) f.glob x
 obtain⟨oM,b4,e1,e2,e3⟩:=sm.op n c Q;have bc:Region.wanted oM (yielded J z)=true:=by
  rcases e3 with⟨_,e3⟩|⟨j,bm,e3,_⟩
  . unfold Region.wanted;rw [e3]
  . rw [bt]at e3;cases e3
 obtain⟨bs,w2,k1,k2,v',k3,k4⟩:=sS ok hc hcode hh f.glob b3 (F:=F) (dfs:=dfs) (k:=k) (cs:=bg V U) (rest:=a6.map σ) b4 bc (out:=.pan v) (h':=h') (by rw [e1];exact hv);have W:=f.ext;rw [Y]at W;rw [d n (by omega)]at t4;rw [Y]at t4;have ext:Ext mu h1 w0 af h1 w1:=by refine⟨Xc _,W.old,W.fresh,Xc _,fun b _ _=>rfl,W.frame,fun b c O ak t sz el hm hg=>?_,W.wsize,W.os,W.tape,W.output,fun b h1 h2=>by omega⟩;obtain⟨x,y⟩:=W.ro b c O ak t sz el hm hg;exact⟨x,rfl,y⟩
 have le:Le mu af:=ext.le ac;have ai:Le af bs:=k2.le hh;obtain⟨p1,p2⟩:=Ay (n:=cx.nr) ops.toList l s.regs.sized;obtain⟨p3,p4⟩:=AD ops.toList l;refine⟨bs,w2,z,v',_,⟨k1,f.glob.mono ai,⟨f.size,p1,fun t u hu=>?_⟩,?_,?_,s.ko,s.fn,s.rd.mono (le.trans ai),s.rn,s.fs⟩,Ext.trans e0 (Ext.trans ext k2),k3,Steps.trans ?_ k4⟩
 . rcases p2 t u hu with rfl|⟨q1,q2⟩
   . have:t<cx.nr:=(p1 t).1 (by rw [hu];rfl);have hlt:t<z.size:=(by rw [f.size];exact this);exact⟨z[t],zM hlt,.poison _⟩
   . obtain⟨u',C,G⟩:=f.regs 0 (XJ _) t u (fun p o aL bb=>by
      obtain⟨a,b⟩:=r p o aL;exact absurd bb (q1 o (by
       have:ops.toList[p]? =some o:=(by simpa using b);exact Xa this))) (by rw [a7];exact q2)
     exact⟨u',C,G.mono ai⟩
 . rw [p3];exact LR.mono s.dfs fun _ _=>oJ.mono (le.trans ai)
 . rw [p4];exact s.rc.mono (le.trans ai)
 . have:ls.map σ=a5.map σ++σ n::a6.map σ:=(by rw [bx];simp);rw [this];exact bT
theorem ordM_mem(ops:List Oper)(i:Nat):i∈qZ ops↔i<ops.length:=by unfold qZ;simp only [List.mem_append,XD,XG];cases(Xh i (g9 ops)||behD ops (g9 ops) i)<;>simp
theorem EV(ops:List Oper):(qZ ops).Nodup:=by unfold qZ;rw [Xv];refine⟨List.nodup_range.filter _,List.nodup_range.filter _,fun a c b d e=>?_⟩;subst e;simp only [XD]at c d;have:=c.2;rw [d.2]at this;cases this
theorem ordM_len(ops:List Oper):(qZ ops).length=ops.length:=by
 unfold qZ;rw [Xp];have a: ∀(l:List Nat) (f:Nat->Bool),(l.filter fun i=>!f i).length+(l.filter f).length=l.length:=by
  intro l f
  induction l with
  |nil=>rfl|cons x l b=>grind
 rw [a _ fun i=>Xh i (g9 ops)||behD ops (g9 ops) i,List.length_range]
include ok hc hcode in
theorem midD_sim(cx:Cx)(id:Nat)(ops:Array Oper)(l:Loc)(h:Hp)(l':Loc)(h':Hp)(x:Ex)(I:oR E ops.toList=true)(d:midD E R ops.toList l h=some (x,l',h'))(mu:Mu)(w:World)(F:FC)(m:List Frame)(tmps:Array Value)(dfs:List Deferred)(f:Option (Value×Bool))(k:List Item)(s:SR P cx l h mu w F m tmps dfs f):Sim P cx h mu w F m tmps dfs f (.code (.region id ops true)::k) k x l' h':=by
 unfold midD at d;unfold oR at I;have J:=Bool.and_eq_true_iff.1 (Bool.and_eq_true_iff.1 I).2;have V:=J.1;have t:=J.2;unfold midOk at t;simp only [zO]at t;obtain⟨W,y,X⟩:=t;have D:=Cy ops (qZ ops.toList) (ordM_mem ops.toList) (EV ops.toList) (ordM_len ops.toList) V;generalize a0:(fun(p:Nat)=>((qZ ops.toList)[p]?).getD p)=σ at*
 generalize a1:(fun(i:Nat)=>if i<ops.size then hU i (qZ ops.toList)else i)=τ at*
 change Ord (lV ops.toList).toArray ops σ τ at D;generalize an:lV ops.toList=g at*
 generalize hn:g9 g=n at*
 cases K:im E g with
 |none=>rw [K]at d;cases d
 |some qp=>
 obtain⟨q,Y⟩:=qp;rw [K]at d;simp only []at d;cases Z:XF q n with
 |true=>rw [Z]at d;cases d
 |false=>
 rw [Z]at d;simp only [cond_false]at d;obtain⟨M,aa,a2⟩:=Ap K;have L:(fun p=>cH (Xj ops.size false) (σ p))=fun _=>false:=by
  funext i;simp only [cH,Xe,XK]
  split<;>rfl
 have hg:=yB D aa ops.size (w.tape w.drawn (.order F.fn id)) (Xj ops.size false) (by simp [D.size]) (by rw [L,<-D.size];exact ry _);rw [L]at hg;have z:Region.schedule (P.follows .mixedOrders) ops (w.tape w.drawn (.order F.fn id))=Region.linearise.go .any ops ops.size (w.tape w.drawn (.order F.fn id)) (Xj ops.size false) []:=by rw [ok.mixed];rfl
 generalize aL:Region.linearise.go .any ops ops.size (w.tape w.drawn (.order F.fn id)) (Xj ops.size false) []=A at*
 have C:(A.map τ).map σ=A:=by rw [List.map_map,show(σ∘τ)=fun i=>i from funext D.st];simp
 have N:Steps P (lone (F.mk' tmps dfs (.code (.region id ops true)::k)) (bg f m) w) (lone (F.mk' tmps dfs (.inRegion ops A::k)) (bg f m) {w with drawn:=w.drawn+1}):=by refine .one ?_;rw [<-z];rfl
 cases T:cD E R g q (g.take n) 0 l h []with
 |none=>rw [T]at d;cases d
 |some r=>
 obtain⟨l1,h1,ac⟩:=r;rw [T]at d;simp only [xw]at d;unfold atIs at y;cases u:g[n]? with
 |none=>rw [u]at d;cases d
 |some c=>
 rw [u]at d y;simp only [zO]at d y;have O:c.guard=none:=by simpa using y.2
 cases U:dc E R (aop E (l1.evD (tmpsOf c.op.operands.toList)) h1 c.op)with
 |none=>rw [U]at d;cases d
 |some r=>
 obtain⟨ad,h2⟩:=r;rw [U]at d;cases ad with
 | pan v=>
   cases d;obtain⟨G,w',j,v',Q,s',e',af,st⟩:=mid_pan ok hc hcode cx g.toArray ops D.same (A.map τ) hg n c (by simpa using u) (fun i o hi ho=>by
    have hm:o∈g.take n:=(by refine Xa (i:=i) ?_;rw [List.getElem?_take,if_pos hi];simpa using ho);have:=List.all_eq_true.1 W o hm;unfold readsO at this;simp only [zO]at this;exact⟨Xl this.1,by simpa using this.2⟩) O q Y K (fun i h1 h2=>by
    have:=List.all_eq_true.1 X i (List.mem_range.2 (by simpa using h2));simp only [XQ]at this;rcases this with e|e
    . have:=Xl e;omega
    . exact e) l h l1 h1 ac T v _ U mu w F m tmps dfs f k s
   rw [C]at st;exact⟨G,w',j,dfs,f,s',e',v',Q,af,Steps.trans N st⟩
 | ret v=>
   simp only []at d
   split at d
   next=>cases d
   next l2 h3 B ai=>
   cases H:dH B Y with
   |false=>rw [H]at d;cases d
   |true=>
   rw [H]at d;cases d;have ak:n<g.length:=(by have:=(List.getElem?_eq_some_iff.1 u).1;exact this);have S:cD E R g q g 0 l h []=some (l',h',B):=(by have al:g=g.take n++c::g.drop (n+1):=(by have:=List.getElem?_eq_some_iff.1 u;obtain⟨a,b⟩:=this;rw [<-b,<-Xz a,XP]);have:cD E R g q (g.take n++c::g.drop (n+1)) 0 l h []=some (l',h',B):=(by rw [rx,T];simp only [XI,List.length_take,Xq,X5 (Nat.le_of_lt ak),cD,cU,O];have hh:fI E q n c.op=false:=(by unfold fI;rw [Z];rfl);simp only [hh,dw,cond_false,U];exact ai);rw [<-al]at this;exact this);obtain⟨G,w',j,s',e',g3⟩:=AF ok hc hcode cx g.toArray ops D.same _ hg [] l h l' h' q Y B K S H mu w F m tmps dfs f k s;rw [XE,C]at g3;exact⟨G,w',j,dfs,f,s',e',Steps.trans N (Steps.trans g3 (.one qU))⟩
include ok hc hcode in
theorem Cc:yp E P R:=by
 intro i id b l h j m x c n w F d a e f k s;unfold cutD at c;cases g:oR E b.toList with
 |true=>rw [g]at c;exact midD_sim ok hc hcode i id b l h j m x g c n w F d a e f k s|false=>rw [g]at c;exact EJ ok hc hcode i id b l h j m x c n w F d a e f k s
end
def RLe(R b:Rec):Prop:=(∀f a d h o,R.call f a d h=some o->b.call f a d h=some o)/\(∀e c l h o,R.code e c l h=some o->b.code e c l h=some o)
def rz{b:Type}(F:Rec->Option b):Prop:= ∀R a,RLe R a-> ∀o,F R=some o->F a=some o
theorem rz.const{a:Type}(x:Option a):rz (fun _=>x):=fun _ _ _ _ h=>h
theorem rz.bind{c β:Type}{F:Rec->Option c}{G:c->Rec->Option β}(f:rz F)(g: ∀a,rz (G a)):rz (fun R=>(F R).bind fun a=>G a R):=by
 intro R d e o h;simp only []at h⊢;cases b:F R with
 |none=>rw [b]at h;cases h
 | some a=>rw [b]at h;rw [f R d e a b];exact g a R d e o h
theorem RLe.refl(R:Rec):RLe R R:=⟨fun _ _ _ _ _ h=>h,fun _ _ _ _ _ h=>h⟩
theorem RLe.trans{a b c:Rec}(h:RLe a b)(k:RLe b c):RLe a c:=⟨fun f x g d o e=>k.1 _ _ _ _ _ (h.1 _ _ _ _ _ e),fun i x l d o e=>k.2 _ _ _ _ _ (h.2 _ _ _ _ _ e)⟩
def MC(E:Env)(W:Rec){a:Type}(F:Rec->Option a):Prop:=rz F/\ ∀o,F W=some o-> ∃n,F (run E n)=some o
section
variable{E:Env}{W:Rec}
theorem MC.const{a:Type}(x:Option a):MC E W (fun _=>x):=⟨.const x,fun _ h=>⟨0,h⟩⟩
theorem MC.bind(e: ∀n m,n<=m->RLe (run E n) (run E m)){f β:Type}{F:Rec->Option f}{G:f->Rec->Option β}(b:MC E W F)(c: ∀a,MC E W (G a)):MC E W (fun R=>(F R).bind fun a=>G a R):=by
 refine⟨b.1.bind fun a=>(c a).1,fun o h=>?_⟩;simp only []at h;cases d:F W with
 |none=>rw [d]at h;cases h
 | some a=>
   rw [d]at h;obtain⟨n,g⟩:=b.2 a d;obtain⟨m,i⟩:=(c a).2 o h;refine⟨n+m,?_⟩;simp only [];rw [b.1 _ _ (e n (n+m) (by omega)) a g];exact(c a).1 _ _ (e m (n+m) (by omega)) o i
theorem MC.congr{a:Type}{F F':Rec->Option a}(e: ∀R,F' R=F R)(h:MC E W F):MC E W F':=by have:F'=F:=funext e;rw [this];exact h
end
section
variable(E:Env)
structure Closed(E:Env)(K: ∀{α:Type},(Rec->Option α)->Prop):Prop where
 const: ∀{α:Type} (x:Option α),K (fun _=>x)
 bind: ∀{α β:Type} {F:Rec->Option α} {G:α->Rec->Option β},K F->(∀a,K (G a))->K (fun R=>(F R).bind fun a=>G a R)
 congr: ∀{α:Type} {F F':Rec->Option α},(∀R,F' R=F R)->K F->K F'
 call: ∀f a rc h,K (fun R=>R.call f a rc h)
 code: ∀cx c l h,K (fun R=>R.code cx c l h)
end
section
variable{E:Env}{K: ∀{α:Type},(Rec->Option α)->Prop}(C:Closed E K)
include C
theorem k_round(b:Nat)(args:List Value)(h:Hp):K (fun R=>kG E R b args h):=by
 unfold kG;cases m:h.get b with
 |none=>exact C.const _| some x =>
   cases x<;>(try exact C.const _);rename_i r;simp only [];cases(E.fn r.fn).isSome with
   |false=>exact C.const _| true =>
     simp only [cond_true]
     split
     next l =>
      split
      next=>exact C.const _
      next c i=>
       refine C.congr (F:=fun R=>(R.code ⟨r.fn,r.nr,some b⟩ r.assign ⟨c,[],none⟩ h).bind fun q=>match q with
        | (.normal,g,d)=>match d.get b with
          | some (.loop e)=>match e.st with
            | 0 =>(R.code ⟨r.fn,r.nr,some b⟩ r.body g (d.put b (.loop {e with st:=1}))).bind fun q=>match q with
              | (.normal,_,a)=>match a.get b with
                |some (.loop f)=>some (.ret (.bool true),a.put b (.loop {f with st:=0,pending:=none}))
                |_=>none
              | (.exit id,_,a)=>match a.get b with
                |some (.loop f)=>some (.ret (.bool false),a.put b (.loop {f with st:=2,pending:=some (.exit id)}))
                |_=>none
              | (.ret,_,a)=>match a.get b with
                |some (.loop f)=>some (.ret (.bool false),a.put b (.loop {f with st:=2,pending:=some .ret}))
                |_=>none
              | (.pan v,j,a)=>match j.dfs with
                | []=>some (.pan v,a)|_=>none
            |_=>none
          |_=>none
        |_=>none) ?_ ?_
       . intro R;cases R.code ⟨r.fn,r.nr,some b⟩ r.assign ⟨c,[],none⟩ h with
         |none=>rfl| some q=>
           obtain⟨x,g,d⟩:=q;cases x<;>(try rfl);simp only [XI];cases d.get b with
           |none=>rfl| some y=>
             cases y<;>(try rfl);rename_i e;simp only [];cases k:e.st with
             | zero=>
               simp only [];cases R.code ⟨r.fn,r.nr,some b⟩ r.body g (d.put b (.loop {e with st:=1}))with
               |none=>rfl|some q=>obtain⟨x,j,a⟩:=q;cases x<;>rfl
             |succ n=>rfl
       . refine C.bind (C.code _ _ _ _) fun q=>?_;obtain⟨x,g,d⟩:=q;cases x<;>(try exact C.const _);simp only [];cases d.get b with
         |none=>exact C.const _| some y=>
           cases y<;>(try exact C.const _);simp only []
           split
           . refine C.bind (C.code _ _ _ _) fun q=>?_;exact C.const _
           . exact C.const _
     next=>exact C.const _
theorem xi(x:Option (d6×Hp)):K (fun R=>dc E R x):=by
 cases x with
 |none=>exact C.const _| some q=>
   obtain⟨e,h⟩:=q;cases e<;>(try exact C.const _)
   . rename_i f d;refine C.congr (F:=fun R=>(R.call f d none h).bind fun q=>some (q.1,q.2.2)) (fun R=>?_) (C.bind (C.call _ _ _ _) fun _=>C.const _);simp only [dc];cases R.call f d none h with
     |none=>rfl|some q=>obtain⟨a,b,c⟩:=q;rfl
   . exact k_round C _ _ _
theorem k_stepOp(cx:Cx)(o:Oper)(l:Loc)(h:Hp):K (fun R=>fm E R cx o l h):=by
 unfold fm;have a:K (fun R=>qD o l (dc E R (aop E l.ev h o.op))):=by refine C.congr (F:=fun R=>(dc E R (aop E l.ev h o.op)).bind fun q=>qD o l (some q)) (fun R=>?_) (C.bind (xi C _) fun _=>C.const _);cases dc E R (aop E l.ev h o.op)<;>rfl
 cases b:aop E l.ev h o.op with
 |none=>exact C.const _| some q=>
   rw [b]at a;obtain⟨c,d⟩:=q;cases c<;>(try exact a)
   . cases cx.round<;>exact C.const _
   . cases cx.round<;>exact C.const _
theorem xp(cx:Cx)(ops:List Oper): ∀(os:List Oper) (l:Loc) (h:Hp),K (fun R=>jy E R cx ops os l h)
 | [],l,h=>C.const _| o :: os,l,h=>by
   simp only [jy];cases cU ops l.regs o with
   |none=>exact C.const _| some b=>
     cases b with
     |false=>exact xp cx ops os _ _| true=>
       refine C.congr (F:=fun R=>(fm E R cx o l h).bind fun q=>match q with
        |(.normal,l',h')=>jy E R cx ops os l' h'|q=>some q) (fun R=>?_) (C.bind (k_stepOp C _ _ _ _) fun q=>?_)
       . cases fm E R cx o l h with
         |none=>rfl|some q=>obtain⟨x,l',h'⟩:=q;cases x<;>rfl
       . obtain⟨x,l',h'⟩:=q;cases x<;>first|exact xp cx ops os _ _|exact C.const _
theorem k_stepD(ρ:Operand->Value)(a:Bool)(o:Oper)(h:Hp):K (fun R=>dw E R ρ a o h):=by
 unfold dw;cases a with
 | true=>
   refine C.congr (F:=fun R=>(dc E R (aop E ρ {h with lo:=h.n} o.op)).bind fun q=>match q with
    |(.ret v,b)=>bif Xf h.n b.lo then some (v,{b with lo:=h.lo})else none
    |_=>none) (fun R=>?_) (C.bind (xi C _) fun _=>C.const _)
   simp only [cond_true];cases dc E R (aop E ρ {h with lo:=h.n} o.op)with
   |none=>rfl|some q=>obtain⟨x,b⟩:=q;cases x<;>rfl
 | false=>
   refine C.congr (F:=fun R=>(dc E R (aop E ρ h o.op)).bind fun q=>match q with
    |(.ret v,b)=>some (v,b)|_=>none) (fun R=>?_) (C.bind (xi C _) fun _=>C.const _)
   simp only [cond_false];cases dc E R (aop E ρ h o.op)with
   |none=>rfl|some q=>obtain⟨x,b⟩:=q;cases x<;>rfl
theorem pN(ops:List Oper)(q:Nat): ∀(os:List Oper) (i:Nat) (l:Loc) (h:Hp) (c:List (Nat×Tch)),K (fun R=>cD E R ops q os i l h c)
 | [],i,l,h,c=>C.const _| o :: os,i,l,h,c=>by
   simp only [cD];cases cU ops l.regs o with
   |none=>exact C.const _| some b=>
     cases b with
     |false=>exact pN ops q os _ _ _ _| true=>
       refine C.congr (F:=fun R=>(dw E R (l.evD (tmpsOf o.op.operands.toList)) (fI E q i o.op) o h).bind fun p=>
        cD E R ops q os (i+1) (l.put o.dst p.1) p.2 (iF i c (dr (l.evD (tmpsOf o.op.operands.toList)) (fI E q i o.op) o.op h p.2))) (fun R=>?_) (C.bind (k_stepD C _ _ _ _) fun q=>pN ops _ os _ _ _ _)
       cases dw E R (l.evD (tmpsOf o.op.operands.toList)) (fI E q i o.op) o h with
       |none=>rfl|some p=>obtain⟨a,b⟩:=p;rfl
theorem k_mid(ops:List Oper)(l:Loc)(h:Hp):K (fun R=>midD E R ops l h):=by
 unfold midD;generalize lV ops=B;cases im E B with
 |none=>exact C.const _| some p =>
   obtain⟨q,g⟩:=p;simp only [];cases XF q (g9 B)with
   |true=>exact C.const _| false =>
     simp only [cond_false];generalize g9 B=n;refine C.congr (F:=fun R=>(cD E R B q (B.take n) 0 l h []).bind fun x=>xw E R B q g n l (some x)) (fun R=>?_) (C.bind (pN C _ _ _ _ _ _ _) fun x=>?_)
     . cases cD E R B q (B.take n) 0 l h []<;>rfl
     . obtain ⟨e,f,i⟩:=x;simp only [xw];cases B[n]? with
       |none=>exact C.const _| some o=>
         simp only [];refine C.congr (F:=fun R=>(dc E R (aop E (e.evD (tmpsOf o.op.operands.toList)) f o.op)).bind fun y=>match y with
          |(.pan v,d)=>some (.pan v,pJ B l,d)|(.ret v,d)=>(cD E R B q (B.drop (n+1)) (n+1) (e.put o.dst v) d (iF n i (dr (e.evD (tmpsOf o.op.operands.toList)) false o.op f d))).bind fun z=>bif dH z.2.2 g then some (.normal,z.1,z.2.1)else none) (fun R=>?_) (C.bind (xi C _) fun y=>?_)
         . cases dc E R (aop E (e.evD (tmpsOf o.op.operands.toList)) f o.op)with
           |none=>rfl| some y=>
             obtain⟨x,d⟩:=y;cases x with
             |pan v=>rfl| ret v=>
               simp only [XI];cases cD E R B q (B.drop (n+1)) (n+1) (e.put o.dst v) d (iF n i (dr (e.evD (tmpsOf o.op.operands.toList)) false o.op f d))with
               |none=>rfl|some z=>obtain⟨a,b,c⟩:=z;rfl
         . obtain⟨x,d⟩:=y;cases x with
           |pan v=>exact C.const _|ret v=>exact C.bind (pN C _ _ _ _ _ _ _) fun _=>C.const _
theorem k_range(cx:Cx)(f:Value)(params:Array Tmp)(assign body:Code)(l:Loc)(h:Hp):K (fun R=>jS R cx f params assign body l h):=by
 unfold jS;cases f<;>(try exact C.const _);rename_i t a b;cases t<;>(try exact C.const _);rename_i g;simp only []
 split
 . exact C.const _
 . rename_i e d c _;refine C.congr (F:=fun R=>(R.call g (a.toList++[.func (.yield e.n) #[] #[]]++b.toList) none
    (e.new (.loop {fn:=cx.fn,regs:=l.regs,nr:=cx.nr,params,assign,body,st:=0,pending:=none,defers:=d}))).bind fun q=>match q with
    |(.pan v,_,i)=>some (.pan v,{l with dfs:=c},i)
    | (.ret _,_,i)=>match i.get e.n with
      | some (.loop x)=>match x.st with
        |1=>none| _=>match x.pending with
          |none=>some (.normal,{l with dfs:=c},i.put e.n .dead)
          |some (.exit id)=>some (.exit id,{l with dfs:=c},i.put e.n .dead)
          |some .ret=>some (.ret,{l with dfs:=c},i.put e.n .dead)
          |_=>none
      |_=>none) (fun R=>?_) (C.bind (C.call _ _ _ _) fun _=>C.const _)
   cases R.call g (a.toList++[.func (.yield e.n) #[] #[]]++b.toList) none
         (e.new (.loop {fn:=cx.fn,regs:=l.regs,nr:=cx.nr,params,assign,body,st:=0,pending:=none,defers:=d}))with
   |none=>rfl|some q=>obtain⟨x,y,z⟩:=q;cases x<;>rfl
theorem k_code(cx:Cx): ∀(c:Code) (l:Loc) (h:Hp),K (fun R=>aX E R cx c l h):=by
 intro c
 induction c with
 |skip=>intro l h;exact C.const _|label n=>intro l h;exact C.const _| region id d o=>
   intro l h;simp only [aX];cases o with
   |false=>exact xp C _ _ _ _ _| true=>
     simp only [cond_true];cases E.cut cx.fn with
     | false=>
       simp only [cond_false];cases im E (dy d.toList)with
       |none=>exact C.const _| some p=>
         obtain⟨q,s⟩:=p;simp only [];refine C.congr (F:=fun R=>(cD E R (dy d.toList) q (dy d.toList) 0 l h []).bind fun x=>bif dH x.2.2 s then some (.normal,x.1,x.2.1)else none) (fun R=>?_) (C.bind (pN C _ _ _ _ _ _ _) fun _=>C.const _);cases cD E R (dy d.toList) q (dy d.toList) 0 l h []with
         |none=>rfl|some x=>obtain⟨a,b,c⟩:=x;rfl
     | true=>
       simp only [cond_true,cutD];cases oR E d.toList with
       |true=>exact k_mid C _ _ _|false=>
       simp only [cond_false,wE];cases lN d.toList (d.toList.length-1)with
       |false=>exact C.const _| true=>
         simp only [cond_true];generalize dy (d.toList.take (cutN d.toList))=A;cases im E A with
         |none=>exact C.const _| some p=>
           obtain⟨q,s⟩:=p;simp only [];refine C.congr (F:=fun R=>(cD E R A q A 0 l h []).bind fun x=>bif dH x.2.2 s then jy E R cx d.toList (d.toList.drop (cutN d.toList)) x.1 x.2.1 else none) (fun R=>?_) (C.bind (pN C _ _ _ _ _ _ _) fun x=>?_)
           . cases cD E R A q A 0 l h []with
             |none=>rfl|some x=>obtain⟨a,b,c⟩:=x;rfl
           . cases dH x.2.2 s with
             |false=>exact C.const _|true=>exact xp C _ _ _ _ _
 | seq a b j k=>
   intro l h;simp only [aX];refine C.congr (F:=fun R=>(aX E R cx a l h).bind fun q=>match q with
    |(.normal,e,g)=>aX E R cx b e g|q=>some q) (fun R=>?_) (C.bind (j _ _) fun q=>?_)
   . cases aX E R cx a l h with
     |none=>rfl|some q=>obtain⟨x,e,g⟩:=q;cases x<;>rfl
   . obtain⟨x,e,g⟩:=q;cases x<;>first|exact k _ _|exact C.const _
 | cond c a b j k=>
   intro l h;simp only [aX];cases l.ev c<;>(try exact C.const _);rename_i t;cases t
   . exact k _ _
   . exact j _ _
 | block id b r=>
   intro l h;simp only [aX];refine C.congr (F:=fun R=>(aX E R cx b l h).bind fun q=>match q with
    |(.exit i,e,g)=>bif Xh i id then some (.normal,e,g)else some (.exit i,e,g)
    |q=>some q) (fun R=>?_) (C.bind (r _ _) fun _=>C.const _)
   cases aX E R cx b l h with
   |none=>rfl|some q=>obtain⟨x,e,g⟩:=q;cases x<;>rfl
 | loop b r=>
   intro l h;simp only [aX];refine C.congr (F:=fun R=>(aX E R cx b l h).bind fun q=>match q with
    |(.normal,e,g)=>R.code cx (.loop b) e g|q=>some q) (fun R=>?_) (C.bind (r _ _) fun q=>?_)
   . cases aX E R cx b l h with
     |none=>rfl|some q=>obtain⟨x,e,g⟩:=q;cases x<;>rfl
   . obtain⟨x,e,g⟩:=q;cases x<;>first|exact C.code _ _ _ _|exact C.const _
 |rangeFunc f u v w _ _=>intro l h;exact k_range C _ _ _ _ _ _ _|exit id=>intro l h;exact C.const _|scope b r=>intro l h;exact r _ _|goto n=>intro l h;exact C.const _|ret=>intro l h;exact C.const _|refuse m=>intro l h;exact C.const _
theorem sd : ∀(e:List Deferred) (m:Option Value) (h:Hp),K (fun R=>cM R e m h)
 | [],m,h=>C.const _| d :: e,m,h=>by
   simp only [cM];cases d.target with
   |nil=>exact C.const _|builtin a b c d=>exact C.const _|coroexit=>exact C.const _| collected b=>
     simp only [];cases h.get b with
     |none=>exact C.const _|some x=>cases x<;>first|exact sd e _ _|exact C.const _
   | fn t cap=>
     cases t<;>(try exact C.const _);rename_i f;simp only [];refine C.congr (F:=fun R=>(R.call f (d.args.toList++cap.toList) (match m with|none=>none|some v=>some (v,false)) h).bind fun q=>match q with
      | (.ret _,rc,h')=>match m,rc with
        |none,none=>cM R e none h'|some _,some (_,true)=>cM R e none h'|some _,some (v,false)=>cM R e (some v) h'|_,_=>none
      |_=>none) (fun R=>?_) (C.bind (C.call _ _ _ _) fun q=>?_)
     . cases R.call f (d.args.toList++cap.toList) (match m with|none=>none|some v=>some (v,false)) h with
       |none=>rfl|some q=>obtain⟨x,y,z⟩:=q;cases x<;>rfl
     . obtain⟨x,rc,h'⟩:=q;cases x with
       |pan v=>exact C.const _| ret v=>
         simp only [];cases m with
         |none=>cases rc<;>first|exact sd e _ _|exact C.const _
         | some g=>
           cases rc with
           |none=>exact C.const _|some y=>obtain⟨i,b⟩:=y;cases b<;>exact sd e _ _
theorem k_body(f:FuncId)(args:List Value)(rc:Option (Value×Bool))(h:Hp):K (fun R=>mP E R f args rc h):=by
 unfold mP;cases E.fn f with
 |none=>exact C.const _| some b =>
   simp only [];cases b.body with
   |none=>exact C.const _| some e=>
     simp only [];cases Xf args.length b.ntmps with
     |false=>exact C.const _| true =>
       simp only [cond_true];have g: ∀(l:Loc) (c:Hp),K (fun R=>match cM R l.dfs none c with
        | some (none,a)=>match cu E l.regs a b.results.toList with
          |none=>none|some d=>some (Out.ret (ab d),l.rc,a)
        |_=>none):=by
        intro l c;refine C.congr (F:=fun R=>(cM R l.dfs none c).bind fun q=>match q with
         | (none,a)=>match cu E l.regs a b.results.toList with
           |none=>none|some d=>some (Out.ret (ab d),l.rc,a)
         |_=>none) (fun R=>?_) (C.bind (sd C _ _ _) fun _=>C.const _)
        cases cM R l.dfs none c with
        |none=>rfl|some q=>obtain⟨x,y⟩:=q;cases x<;>rfl
       refine C.congr (F:=fun R=>(R.code ⟨f,b.ntmps,none⟩ e ⟨(Tr.blank (.tuple #[]) b.ntmps b.ntmps).setAll 0 args,[],rc⟩ h).bind fun q=>match q with
        |(.exit _,_,_)=>none| (.pan v,l,c)=>match cM R l.dfs (some v) c with
          |none=>none|some (some v,a)=>some (Out.pan v,l.rc,a)| some (none,a)=>match cu E l.regs a b.results.toList with
            |none=>none|some d=>some (Out.ret (ab d),l.rc,a)
        | (_,l,c)=>match cM R l.dfs none c with
          | some (none,a)=>match cu E l.regs a b.results.toList with
            |none=>none|some d=>some (Out.ret (ab d),l.rc,a)
          |_=>none) (fun R=>?_) (C.bind (C.code _ _ _ _) fun q=>?_)
       . cases R.code ⟨f,b.ntmps,none⟩ e ⟨(Tr.blank (.tuple #[]) b.ntmps b.ntmps).setAll 0 args,[],rc⟩ h with
         |none=>rfl|some q=>obtain⟨x,y,z⟩:=q;cases x<;>rfl
       . obtain⟨x,l,c⟩:=q;cases x with
         |exit id=>exact C.const _|normal=>exact g l c|ret=>exact g l c| pan v=>
           simp only [];refine C.congr (F:=fun R=>(cM R l.dfs (some v) c).bind fun q=>match q with
            |(some v,a)=>some (Out.pan v,l.rc,a)| (none,a)=>match cu E l.regs a b.results.toList with
              |none=>none|some d=>some (Out.ret (ab d),l.rc,a)) (fun R=>?_) (C.bind (sd C _ _ _) fun _=>C.const _)
           cases cM R l.dfs (some v) c with
           |none=>rfl|some q=>obtain⟨x,y⟩:=q;cases x<;>rfl
theorem k_call(f:FuncId)(args:List Value)(rc:Option (Value×Bool))(h:Hp):K (fun R=>jU E R f args rc h):=by
 unfold jU;cases E.orc f args with
 |none=>exact k_body C f args rc h|some v=>cases rc<;>exact C.const _
end
theorem lI(E:Env):Closed E (fun F=>rz F)where
 const:=rz.const
 bind:=fun hF hG=>hF.bind hG
 congr:=fun e h=>by have:=funext e;rw [this];exact h
 call:=fun f a rc h R R' le o=>le.1 f a rc h o
 code:=fun cx c l h R R' le o=>le.2 cx c l h o
theorem next_mono{b:Rec}(h:RLe R b):RLe (next E R) (next E b):=
 ⟨fun f a g d o e=>k_call (lI E) f a g d R b h o e,fun i c l d o e=>k_code (lI E) i c l d R b h o e⟩
theorem Cv{E:Env}: ∀n,RLe (run E n) (run E (n+1))
 | 0=>by
   constructor
   . intro f a b h o e;cases e
   . intro d c l h o e;cases e
 |n+1=>next_mono (Cv n)
theorem run_up(n m:Nat)(h:n<=m):RLe (run E n) (run E m):=by
 induction m with
 | zero => have:n=0:=by omega
           subst this;exact RLe.refl _
 | succ m a=>
   by_cases e:n=m+1
   . subst e;exact RLe.refl _
   . exact(a (by omega)).trans (Cv m)
open Classical in
noncomputable def limOf{a:Type}(F:Nat->Option a):Option a:=if h: ∃n o,F n=some o then some (Classical.choose (Classical.choose_spec h))else none
theorem za{d:Type}{F:Nat->Option d}(e: ∀n m,n<=m-> ∀o,F n=some o->F m=some o){o:d}:limOf F=some o↔ ∃n,F n=some o:=by
 constructor
 . intro h;unfold limOf at h
   split at h
   . rename_i c;cases h;exact⟨_,Classical.choose_spec (Classical.choose_spec c)⟩
   . cases h
 . intro⟨n,h⟩;unfold limOf;have c: ∃n o,F n=some o:=⟨n,o,h⟩;rw [dif_pos c];have f:=Classical.choose_spec (Classical.choose_spec c);have a:=e _ (n+Classical.choose c) (by omega) _ h;have b:=e _ (n+Classical.choose c) (by omega) _ f;rw [a]at b;cases b;rfl
noncomputable def lim(E:Env):Rec where
 call:=fun f a rc h=>limOf fun n=>(run E n).call f a rc h
 code:=fun cx c l h=>limOf fun n=>(run E n).code cx c l h
theorem sH{a:List Value}{o:Out×Option (Value×Bool)×Hp}:(lim E).call f a rc h=some o↔ ∃n,(run E n).call f a rc h=some o:=
 za fun n m b o e=>(run_up n m b).1 _ _ _ _ _ e
theorem u9{c:Code}{l:Loc}{o:Ex×Loc×Hp}:(lim E).code cx c l h=some o↔ ∃n,(run E n).code cx c l h=some o:=
 za fun n m a o e=>(run_up n m a).2 _ _ _ _ _ e
theorem run_lim(n:Nat):RLe (run E n) (lim E):=⟨fun _ _ _ _ _ h=>sH.2 ⟨n,h⟩,fun _ _ _ _ _ h=>u9.2 ⟨n,h⟩⟩
theorem yT(E:Env):Closed E (fun F=>MC E (lim E) F)where
 const:=MC.const
 bind:=fun hF hG=>MC.bind run_up hF hG
 congr:=fun e h=>MC.congr e h
 call:=fun f a rc h=>⟨(lI E).call f a rc h,fun _ e=>sH.1 e⟩
 code:=fun cx c l h=>⟨(lI E).code cx c l h,fun _ e=>u9.1 e⟩
theorem zW{c:Type}{x y:Option c}(h: ∀o,x=some o↔y=some o):x=y:=by
 cases x with
 | none=>cases y with
   |none=>rfl|some b=>exact absurd ((h b).2 rfl) (by simp)
 |some a=>exact((h a).1 rfl).symm
theorem call_eq(E:Env)(f:FuncId)(a:List Value)(rc:Option (Value×Bool))(h:Hp):(lim E).call f a rc h=jU E (lim E) f a rc h:=by
 refine zW fun o=>⟨fun e=>?_,fun e=>?_⟩
 . obtain⟨n,b⟩:=sH.1 e;cases n with
   |zero=>cases b
   |succ n=>exact k_call (lI E) f a rc h _ _ (run_lim n) o b
 . obtain⟨n,b⟩:=(k_call (yT E) f a rc h).2 o e;exact sH.2 ⟨n+1,b⟩
theorem Ag(E:Env)(cx:Cx)(c:Code)(l:Loc)(h:Hp):(lim E).code cx c l h=aX E (lim E) cx c l h:=by
 refine zW fun o=>⟨fun e=>?_,fun e=>?_⟩
 . obtain⟨n,a⟩:=u9.1 e;cases n with
   |zero=>cases a
   |succ n=>exact k_code (lI E) cx c l h _ _ (run_lim n) o a
 . obtain⟨n,a⟩:=(k_code (yT E) cx c l h).2 o e;exact u9.2 ⟨n+1,a⟩
theorem lim_ok(a:EOk E P):iX E P (lim E).call:=by intro g b j h o e k f;obtain⟨n,i⟩:=sH.1 f;exact(run_ok a (fun _ c d=>⟨draw_ok a c d,Cc a c d⟩) n).1 _ _ _ _ _ _ _ i
theorem Ed(p:iX E P R.call)(i:args.all dI=true)(l:dI v=true)(q:R.call f args none hp0=some (.ret v,none,h')):(∃m,E.fn f=some m/\m.body.isSome=true)/\OrcAt P f args v:=by
 obtain⟨r,s⟩:=p _ _ _ _ _ _ _ q;refine⟨r,i,l,fun w j d t=>?_⟩;obtain⟨u,y,e,z,I,g,A,J,B,C,D⟩:=s mu0 w ⟨args⟩ none j d (hrel0 w) glob0 (LR.refl fun a k=>aC.const mu0 (by simp only [XN]at i;exact i a k)) trivial t;cases e with
 |some x=>exact A.elim| none=>
   obtain⟨K,n,F⟩:=C;rw [aC.const_eq l F]at n;exact⟨y,z,⟨fun c G=>g.frame c G (by intro b o H h;unfold mu0 at h;split at h<;>cases h),g.wsize,g.os,g.tape,g.output⟩,B,n,D⟩
theorem Fq(a:EOk E P)(e:args.all dI=true)(g:dI v=true)(h:(run E n).call f args none hp0=some (.ret v,none,h')):(∃b,E.fn f=some b/\b.body.isSome=true)/\OrcAt P f args v:=
 Ed (R:=run E n) (run_ok a (fun _ c d=>⟨draw_ok a c d,Cc a c d⟩) n).1 e g h
def tabF:Nat->Nat->(Nat->Value)->Tr Value
 |0,_,_=>.nil| f+1,n,a=>match n with
   |0=>.nil|k+1=>.node (a 0) (tabF f ((k+1)/2) fun i=>a (2*i+1)) (tabF f (k/2) fun i=>a (2*i+2))
def tab(n:Nat)(ρ:Nat->Value):Tr Value:=tabF n n ρ
theorem get_tabF(f n:Nat)(ρ:Nat->Value)(h:n<=f)(j:Nat):(tabF f n ρ).get j=if j<n then some (ρ j)else none:=by
 induction f generalizing n j ρ with
 |zero=>grind[tabF,Tr.get_nil]| succ f a=>
   cases n with
   |zero=>rfl| succ k=>simp only [tabF];rw [Tr.get_node];grind
theorem lq(n:Nat)(ρ:Nat->Value)(j:Nat):(tab n ρ).get j=if j<n then some (ρ j)else none:=get_tabF n n ρ (Xc _) j
theorem Tr.ext{d:Type}{t t':Tr d}(h: ∀i,t.get i=t'.get i):t=t':=by
 induction t generalizing t' with
 | nil=>
   cases t' with
   |nil=>rfl|node y l r=>have:=h 0;simp [Tr.get_nil,Tr.get_node]at this
 | node x l r a b=>
   cases t' with
   |nil=>have:=h 0;simp [Tr.get_nil,Tr.get_node]at this| node y e f=>
     have c:=h 0;simp [Tr.get_node]at c;subst c;rw [a (t':=e) (fun i=>by have:=h (2*i+1);simp_all[Tr.get_node,if_pos]),
      b (t':=f) (fun i=>by have:=h (2*i+2);simp only [Tr.get_node]at this;grind)]
def ao(ρ:Nat->Value)(t:Nat)(v:Value):Nat->Value:=fun i=>if i=t then v else ρ i
theorem az(ρ:Nat->Value)(t:Nat)(v:Value)(i:Nat):ao ρ t v i=if i=t then v else ρ i:=rfl
theorem tab_set(n:Nat)(ρ:Nat->Value)(t:Nat)(v:Value):(tab n ρ).set t v=tab n (ao ρ t v):=by
 apply Tr.ext;intro i;rw [Tr.get_set,lq,lq];by_cases a:i<n
 . by_cases e:t=i
   . subst e;simp [a,ao]
   . simp [a,e,ao,Ne.symm e]
 . simp [a]
def cC:List Value->Nat->Value
 | [],_=>.tuple #[]| v::l,i=>match i with
   |0=>v|i+1=>cC l i
theorem argR_eq(l:List Value)(i:Nat):cC l i=(l[i]?).getD (.tuple #[]):=by
 induction l generalizing i with
 |nil=>rfl| cons v l a=>cases i with
   |zero=>rfl|succ i=>simp [cC,a]
theorem args_tab(h:args.length<=n):(Tr.blank (.tuple #[]) n n:Tr Value).setAll 0 args=tab n (cC args):=by apply Tr.ext;intro i;rw [Tr.get_setAll _ 0 args n (Tr.sized_blank _ _ _ (Xc _)) (by omega),lq,Tr.get_blank _ _ _ (Xc _),argR_eq];grind
def LL(n:Nat)(ρ:Nat->Value)(d:List Deferred)(rc:Option (Value×Bool)):Loc:=⟨tab n ρ,d,rc⟩
theorem cq(n:Nat)(ρ:Nat->Value)(d:List Deferred)(rc:Option (Value×Bool))(t:Nat)(v:Value):(LL n ρ d rc).put (some t) v=LL n (ao ρ t v) d rc:=by simp only [LL,Loc.put,tab_set]
theorem ll_put0(l:Loc)(v:Value):l.put none v=l:=rfl
theorem bS(n:Nat)(ρ:Nat->Value)(d:List Deferred)(rc:Option (Value×Bool))(t:Nat)(h:t<n):(LL n ρ d rc).ev (.tmp t)=ρ t:=by simp only [LL,Loc.ev,lq,if_pos h]
theorem ll_func(l:Loc)(f:Nat):l.ev (.func f)=.func (.func f) #[] #[]:=rfl
theorem ll_regs(n:Nat)(ρ:Nat->Value)(d:List Deferred)(rc:Option (Value×Bool)):(LL n ρ d rc).regs=tab n ρ:=rfl
def Then(x:Option (Ex×Loc×Hp))(K:Ex->Loc->Hp->Prop):Prop:= ∃e l h,x=some (e,l,h)/\K e l h
theorem jK{e:Ex}{l:Loc}{K:Ex->Loc->Hp->Prop}:Then (some (e,l,h)) K↔K e l h:=by
 constructor
 . intro⟨_,_,_,h1,a⟩;grind
 . intro a;exact⟨_,_,_,rfl,a⟩
abbrev dW:=Ex->Loc->Hp->Prop
inductive Fr where
 |code (c:Code)
 |blk (id:Nat)
 |ops (all os:List Oper)
 |opsD (all:List Oper) (q:Nat) (ps:List (Nat×Nat)) (os:List Oper) (i:Nat) (tr:List (Nat×Tch))
 |kill (t:Tmp)
 |midP (o:Oper) (os:List Oper) (l0:Loc)
section
variable(E:Env)(R:Rec)(cx:Cx)(Q:dW)
def Run:List Fr->Ex->Loc->Hp->Prop
 | [],e,l,h=>Q e l h| .code c::k,.normal,l,h=> ∃g f d,aX E R cx c l h=some (g,f,d)/\Run k g f d| .ops a j::k,.normal,l,h=> ∃g f d,jy E R cx a j l h=some (g,f,d)/\Run k g f d| .opsD a q n j i p::k,.normal,l,h=> ∃f d m,cD E R a q j i l h p=some (f,d,m)/\dH m n=true/\Run k .normal f d| .kill t::k,.normal,l,h=> ∃b r c,l.ev (.tmp t)=.map (some b)/\h.get b=some (.map r c)/\Run k .normal l (h.put b .dead)| .midP o j s::k,.normal,l,h=> ∃v d,dc E R (aop E (l.evD (tmpsOf o.op.operands.toList)) h o.op)=some (.pan v,d)/\Run k (.pan v) (pJ j s) d| .blk _::k,.normal,l,h=>Run k .normal l h| .blk id::k,.exit i,l,h=>if i=id then Run k .normal l h else Run k (.exit i) l h
 |_::k,.exit i,l,h=>Run k (.exit i) l h|_::k,.ret,l,h=>Run k .ret l h|_::k,.pan v,l,h=>Run k (.pan v) l h
end
section
variable{E:Env}{R:Rec}{cx:Cx}{Q:dW}{k:List Fr}{l:Loc}{h:Hp}
theorem run_nil{e:Ex}:Run E R cx Q [] e l h↔Q e l h:=Xi
theorem run_skip:Run E R cx Q (.code .skip::k) .normal l h↔Run E R cx Q k .normal l h:=by simp only [Run,aX];exact jK
theorem uf{a b:Code}:Run E R cx Q (.code (.seq a b)::k) .normal l h↔Run E R cx Q (.code a:: .code b::k) .normal l h:=by
 simp only [Run,aX];constructor
 . intro⟨e',l',h',c,h2⟩;cases e:aX E R cx a l h with
   |none=>grind| some q=>
     obtain⟨x,f,d⟩:=q;rw [e]at c;refine⟨x,f,d,rfl,?_⟩;cases x with
     |normal=>exact⟨e',l',h',c,h2⟩|exit i=>cases c;exact h2
     |ret=>cases c;exact h2
     |pan v=>cases c;exact h2
 . intro⟨x,f,d,e,h2⟩;rw [e];cases x with
   |normal=>exact h2|exit i=>exact⟨_,_,_,rfl,h2⟩|ret=>exact⟨_,_,_,rfl,h2⟩|pan v=>exact⟨_,_,_,rfl,h2⟩
theorem run_block{id:Nat}{b:Code}:Run E R cx Q (.code (.block id b)::k) .normal l h↔Run E R cx Q (.code b:: .blk id::k) .normal l h:=by
 simp only [Run,aX];constructor
 . intro ⟨e',l',h',a,h2⟩;cases e:aX E R cx b l h with
   |none=>grind| some q=>
     obtain⟨x,f,c⟩:=q;rw [e]at a;refine⟨x,f,c,rfl,?_⟩;cases x with
     |normal=>cases a;exact h2
     | exit i=>
       simp only []at a;cases d:Xh i id with
       |true=>simp_all[Xb,Run,if_true]| false=>
         rw [d]at a;cases a;simp only [Run];rw [if_neg (by grind[Xn])];exact h2
     |ret=>cases a;exact h2
     |pan v=>cases a;exact h2
 . intro⟨x,f,c,e,h2⟩;rw [e];cases x with
   |normal=>exact⟨_,_,_,rfl,h2⟩| exit i=>
     simp only [Run]at h2;simp only [];by_cases d:i=id
     . subst d;rw [if_pos rfl]at h2;rw [Xn];grind
     . rw [if_neg d]at h2;have:Xh i id=false:=(by grind[Xh,id,absurd,Xb]);grind
   |ret=>exact⟨_,_,_,rfl,h2⟩|pan v=>exact⟨_,_,_,rfl,h2⟩
theorem run_scope{b:Code}:Run E R cx Q (.code (.scope b)::k) .normal l h↔Run E R cx Q (.code b::k) .normal l h:=Xi
theorem run_blk{id:Nat}:Run E R cx Q (.blk id::k) .normal l h↔Run E R cx Q k .normal l h:=Xi
theorem run_exit{id:Nat}:Run E R cx Q (.code (.exit id)::k) .normal l h↔Run E R cx Q k (.exit id) l h:=by simp only [Run,aX];exact jK
theorem run_ret:Run E R cx Q (.code .ret::k) .normal l h↔Run E R cx Q k .ret l h:=by simp only [Run,aX];exact jK
theorem CT{id:Nat}:Run E R cx Q (.blk id::k) (.exit i) l h↔if i=id then Run E R cx Q k .normal l h else Run E R cx Q k (.exit i) l h:=Xi
theorem BB{c:Code}:Run E R cx Q (.code c::k) (.exit i) l h↔Run E R cx Q k (.exit i) l h:=Xi
theorem Co:Run E R cx Q (.ops a os::k) (.exit i) l h↔Run E R cx Q k (.exit i) l h:=Xi
theorem EW{f:Fr}:Run E R cx Q (f::k) .ret l h↔Run E R cx Q k .ret l h:=by cases f<;>exact Xi
theorem zu{f:Fr}:Run E R cx Q (f::k) (.pan v) l h↔Run E R cx Q k (.pan v) l h:=by cases f<;>exact Xi
theorem run_cond{c:Operand}{a b:Code}:Run E R cx Q (.code (.cond c a b)::k) .normal l h↔ ∃t,l.ev c=.bool t/\if t=true then Run E R cx Q (.code a::k) .normal l h else Run E R cx Q (.code b::k) .normal l h:=by simp only [Run,aX];grind
theorem EQ{id:Nat}:Run E R cx Q (.code (.region id ops false)::k) .normal l h↔Run E R cx Q (.ops ops.toList ops.toList::k) .normal l h:=by rfl
theorem tO:Run E R cx Q (.ops a []::k) .normal l h↔Run E R cx Q k .normal l h:=by simp only [Run,jy];exact jK
theorem Dy:Run E R cx Q (.ops a (o::os)::k) .normal l h↔ ∃b,cU a l.regs o=some b/\
 (if b=true then Then (fm E R cx o l h) fun e l' h'=>Run E R cx Q (.ops a os::k) e l' h' else Run E R cx Q (.ops a os::k) .normal (l.put o.dst (.tuple #[])) h):=by
 simp only [Run,jy];constructor
 . intro ⟨e',l',h',d,c⟩;cases g:cU a l.regs o with
   |none=>grind| some b=>
     rw [g]at d;refine⟨b,rfl,?_⟩;cases b with
     |false=>grind| true=>
       rw [if_pos rfl];simp only []at d;cases j:fm E R cx o l h with
       |none=>grind| some q=>
         obtain⟨x,m,f⟩:=q;rw [j]at d;refine⟨x,m,f,rfl,?_⟩;cases x with
         |normal=>exact⟨e',l',h',d,c⟩|exit i=>cases d;exact c
         |ret=>cases d;exact c
         |pan v=>cases d;exact c
 . intro⟨b,g,c⟩;rw [g];cases b with
   |false=>grind| true=>
     rw [if_pos rfl]at c;obtain⟨x,m,f,j,c⟩:=c;simp only [j];cases x with
     |normal=>exact c|exit i=>exact⟨_,_,_,rfl,c⟩|ret=>exact⟨_,_,_,rfl,c⟩|pan v=>exact⟨_,_,_,rfl,c⟩
theorem run_draw{id:Nat}(a:E.cut cx.fn=false)(b:dy ops.toList=os)(c:im E os=some (q,ps)):Run E R cx Q (.code (.region id ops true)::k) .normal l h↔Run E R cx Q (.opsD os q ps os 0 []::k) .normal l h:=by simp only [Run,aX,cond_true,a,cond_false,b,c];grind
theorem run_split{id:Nat}(a:E.cut cx.fn=true)(hs:lN ops.toList (ops.toList.length-1)=true)(hf:tZ E ops.toList=false)(b:oR E ops.toList=false)(c:cutN ops.toList=n)(d:dy (ops.toList.take n)=os)(e:im E os=some (q,ps))(f:Run E R cx Q (.opsD os q ps os 0 []:: .ops ops.toList (ops.toList.drop n)::k) .normal l h):Run E R cx Q (.code (.region id ops true)::k) .normal l h:=by
 obtain⟨o,p,g,i,j,r,s,t,m,u⟩:=f;simp only [Run,aX,cond_true,a,cutD,hf,b,cond_false,wE,hs,c,d,e,i,j];grind
theorem run_mid{id:Nat}(i:E.cut cx.fn=true)(hf:tZ E ops.toList=false)(hs:oR E ops.toList=true)(u:lV ops.toList=os)(w:g9 os=n)(g:midOk E os n=true)(z:im E os=some (q,ps))(hq:XF q n=false)(A:Run E R cx Q (.opsD os q ps os 0 []::k) .normal l h):Run E R cx Q (.code (.region id ops true)::k) .normal l h:=by
 obtain⟨r,s,j,B,C,D⟩:=A;simp only [Run,aX,cond_true,i,cutD,hf,cond_false,hs,midD,u,w,z,hq];refine⟨.normal,r,s,?_,D⟩;unfold midOk atIs at g;simp only [zO]at g;obtain⟨_,e,_⟩:=g;cases f:os[n]? with
 |none=>rw [f]at e;cases e
 | some c=>
   rw [f]at e;simp only [zO]at e;have m:c.guard=none:=(by simpa using e.2);have o:n<os.length:=(List.getElem?_eq_some_iff.1 f).1;have p:os.take n++c::os.drop (n+1)=os:=(by obtain⟨a,b⟩:=List.getElem?_eq_some_iff.1 f;rw [<-b,<-Xz a,XP]);have d:cD E R os q (os.take n++c::os.drop (n+1)) 0 l h []=some (r,s,j):=(by rw [p];exact B);rw [rx]at d;obtain⟨⟨F,G,H⟩,I,d⟩:=Option.bind_eq_some_iff.1 d;have J:fI E q n c.op=false:=(by unfold fI;rw [hq];rfl);simp only [List.length_take,Xq,X5 (Nat.le_of_lt o),cD,cU,m,J,dw,cond_false]at d;rw [I];simp only [xw,f];cases t:dc E R (aop E (F.evD (tmpsOf c.op.operands.toList)) G c.op)with
   |none=>rw [t]at d;cases d
   | some y=>
     obtain⟨x,K⟩:=y;rw [t]at d;cases x with
     |pan v=>cases d
     | ret v=>simp only []at d⊢;rw [d];simp only [C,cond_true]
theorem run_midP{id:Nat}{c:Oper}(a:E.cut cx.fn=true)(hf:tZ E ops.toList=false)(hs:oR E ops.toList=true)(b:lV ops.toList=os)(d:g9 os=n)(e:im E os=some (q,ps))(hq:XF q n=false)(f:os[n]? =some c)(g:Run E R cx Q (.opsD os q [] (os.take n) 0 []:: .midP c os l::k) .normal l h):Run E R cx Q (.code (.region id ops true)::k) .normal l h:=by
 obtain⟨p,r,i,j,_,v,s,m,o⟩:=g;simp only [Run,aX,cond_true,a,cutD,hf,cond_false,hs,midD,b,d,e,hq,j,xw,f,m];exact⟨_,_,_,rfl,o⟩
theorem Dc{b:List (Nat×Tch)}:Run E R cx Q (.opsD a q ps [] i b::k) .normal l h↔dH b ps=true/\Run E R cx Q k .normal l h:=by simp only [Run,cD];grind
theorem By{c:List (Nat×Tch)}:Run E R cx Q (.opsD a q ps (o::os) i c::k) .normal l h↔ ∃b,cU a l.regs o=some b/\
 (if b=true then∃v h',dw E R (l.evD (tmpsOf o.op.operands.toList)) (fI E q i o.op) o h=some (v,h')/\
     Run E R cx Q (.opsD a q ps os (i+1) (iF i c (dr (l.evD (tmpsOf o.op.operands.toList)) (fI E q i o.op) o.op h h'))::k) .normal (l.put o.dst v) h'
   else Run E R cx Q (.opsD a q ps os (i+1) c::k) .normal (l.put o.dst (.tuple #[])) h):=by
 simp only [Run,cD];grind
end
noncomputable def envOf(a:Tr Func)(b:Tr TypeInfo)(c:List Nat):Env:={fn:=fun f=>a.get f,ty:=fun t=>b.get t,eqok:=fun t=>memb t c}
theorem De{b:Func}(hf:P.funcs[f]? =some b)(e:b.body.isSome=true)(c:(b.name== "runtime.NumGoroutine")=false)(args:Array Value)(w:World):(callFunc f args).run P w=.ok (.enter f args) w:=by
 have a:b.body.isNone=false:=by cases h:b.body<;>simp_all
 unfold callFunc;have d:program.run P w=.ok P w:=rfl;simp only [Sem.run_bind,d,Result.andThen_ok,hf,c,a,Bool.false_eq_true,if_false,Sem.run_pure]
theorem eok_of{fns:Tr Func}{tys:Tr TypeInfo}{eqs:List Nat}(h1:fns=Tr.ofList P.funcs.toList)(h2:tys=Tr.ofList P.types.toList)(h3:(P.funcs.toList.all fun fn=>fn.body.isNone|| !(fn.name== "runtime.NumGoroutine"))=true)(h4:(eqs.all fun t=>!P.stoodInHeld t&& !P.eqGuardType P.depth t)=true)(h5:P.follows .mixedOrders=true):EOk (envOf fns tys eqs) P where
 fn:=by intro f fn h;have h':fns.get f=some fn:=h;rw [h1,Tr.get_ofList]at h';simpa using h'
 call:=by
  intro f fn args w h hb;have h':fns.get f=some fn:=h;rw [h1,Tr.get_ofList]at h';have hm:=Xa h';have:=(List.all_eq_true.1 h3) fn hm;refine De (by simpa using h') hb ?_ args w;cases hn:(fn.name== "runtime.NumGoroutine")with
  |false=>rfl|true=>rw [hn]at this;cases hx:fn.body<;>simp_all
 ty:=by
  intro t i h;have h':tys.get t=some i:=h;rw [h2,Tr.get_ofList]at h';show P.toTables.info? t=some i;have hk:P.types[t]? =some i:=by simpa using h'
  unfold Tables.info?;rw [if_pos (Array.getElem?_eq_some_iff.1 hk).1];exact hk
 eq:=by intro t h;have hm:t∈eqs:=(oh t eqs).1 h;have:=(List.all_eq_true.1 h4) t hm;simp only [zO,Xm]at this;exact this
 mixed:=h5
 orc:=by intro g args v h;cases h
noncomputable def Ac(E:Env)(o:Nat->List Value->Option Value):Env:={E with orc:=o}
noncomputable def withCut(E:Env)(c:Nat->Bool):Env:={E with cut:=c}
theorem eok_cut(ok:EOk E P)(c:Nat->Bool):EOk (withCut E c) P where
 fn:=ok.fn
 call:=ok.call
 ty:=ok.ty
 eq:=ok.eq
 mixed:=ok.mixed
 orc:=ok.orc
theorem eok_with(ok:EOk E P){o:Nat->List Value->Option Value}(ho: ∀g args v,o g args=some v->(∃fn,E.fn g=some fn/\fn.body.isSome=true)/\OrcAt P g args v):EOk (Ac E o) P where
 fn:=ok.fn
 call:=ok.call
 ty:=ok.ty
 eq:=ok.eq
 mixed:=ok.mixed
 orc:=ho
section
open Go.ChangeShapes Go.WideShapes
variable{H:Type}{enc:TypeId×Value->H}{P:Program}
end
def dE(E:Env)(f:FuncId)(args:List Value)(rc:Option (Value×Bool))(h:Hp)(Q:Out->Option (Value×Bool)->Hp->Prop):Prop:= ∃o a b,(lim E).call f args rc h=some (o,a,b)/\Q o a b
def Ret(E:Env)(f:FuncId)(args:List Value)(h:Hp)(Q:Value->Hp->Prop):Prop:= ∃v a,(lim E).call f args none h=some (.ret v,none,a)/\Q v a
theorem Ret.mono{c:Value->Hp->Prop}(k: ∀v h',Q v h'->c v h')(r:Ret E f args h Q):Ret E f args h c:=by obtain⟨v,h',a,b⟩:=r;exact⟨v,h',a,k v h' b⟩
def mN(E:Env)(b:Nat)(args:List Value)(h:Hp)(Q:Out->Hp->Prop):Prop:= ∃o a,kG E (lim E) b args h=some (o,a)/\Q o a
section
variable(E:Env)(cx:Cx)(o:Oper)(l:Loc)(K:Ex->Loc->Hp->Prop)
def gK:Option (d6×Hp)->Prop
 |some (.val v,a)=>K .normal (l.put o.dst v) a|some (.skip,a)=>K .normal (l.put o.dst (.tuple #[])) a| some (.call f c,a)=>dE E f c none a fun x _ e=>match x with
   | .ret v=>K .normal (l.put o.dst v) e| .pan v=>K (.pan v) l e
 | some (.yield b c,a)=>mN E b c a fun x e=>match x with
   | .ret v=>K .normal (l.put o.dst v) e| .pan v=>K (.pan v) l e
 |some (.panic v,a)=>K (.pan v) l a| some (.recov,a)=>cx.round=none/\match l.rc with
   |some (v,false)=>K .normal (({l with rc:=some (v,true)}:Loc).put o.dst v) a
   |_=>K .normal (l.put o.dst .nilIface) a
 |some (.defer d,a)=>cx.round=none/\K .normal (({l with dfs:=d::l.dfs}:Loc).put o.dst (.tuple #[])) a
 |none=>False
end
section
variable{E:Env}{cx:Cx}{o:Oper}{l:Loc}{K:Ex->Loc->Hp->Prop}{h:Hp}
theorem then_step:Then (fm E (lim E) cx o l h) K↔gK E cx o l K (aop E l.ev h o.op):=by
 unfold fm;cases p:aop E l.ev h o.op with
 | none=>
   simp only [gK,dc,qD];exact⟨fun⟨_,_,_,i,_⟩=>(by cases i),fun h=>h.elim⟩
 | some q=>
   obtain⟨m,i⟩:=q;cases m with
   |val v=>exact jK|skip=>exact jK|panic v=>exact jK| call f g=>
     simp only [gK,dc,dE];constructor
     . intro⟨e,l',h',a,b⟩;cases j:(lim E).call f g none i with
       |none=>rw [j]at a;cases a
       | some q=>
         obtain⟨x,n,k⟩:=q;rw [j]at a;cases x<;>(cases a;grind)
     . intro⟨x,n,k,a,b⟩;rw [a];cases x<;>exact⟨_,_,_,rfl,b⟩
   | yield b g=>
     simp only [gK,dc,mN];constructor
     . intro⟨e,l',h',a,c⟩;cases j:kG E (lim E) b g i with
       |none=>rw [j]at a;cases a
       | some q=>
         obtain⟨x,k⟩:=q;rw [j]at a;cases x<;>(cases a;grind)
     . intro⟨x,k,a,c⟩;rw [a];cases x<;>exact⟨_,_,_,rfl,c⟩
   | recov=>
     simp only [gK];cases cx.round with
     |some r=>simp only [];exact⟨fun⟨_,_,_,i,_⟩=>(by cases i),fun h=>(by cases h.1)⟩
     | none=>simp only [true_and];grind[jK]
   | defer d=>
     simp only [gK];cases cx.round with
     |some r=>simp only [];exact⟨fun⟨_,_,_,i,_⟩=>(by cases i),fun h=>(by cases h.1)⟩
     |none=>simp only [true_and];exact jK
theorem BD:gK E cx o l K (some (.val v,h))↔K .normal (l.put o.dst v) h:=Xi
theorem Ar:gK E cx o l K (some (.skip,h))↔K .normal (l.put o.dst (.tuple #[])) h:=Xi
theorem zD:gK E cx o l K (some (.panic v,h))↔K (.pan v) l h:=Xi
theorem step_ret(c:Ret E f args h Q)(d: ∀v h',Q v h'->K .normal (l.put o.dst v) h'):gK E cx o l K (some (.call f args,h)):=by obtain⟨v,h',a,b⟩:=c;exact⟨.ret v,none,h',a,d v h' b⟩
end
def mw(E:Env)(rs:List ResultVar)(Q:Out->Option (Value×Bool)->Hp->Prop):dW
 | .exit _,_,_=>False| .pan v,l,h=> ∃m a,cM (lim E) l.dfs (some v) h=some (m,a)/\match m with
   |some v=>Q (.pan v) l.rc a|none=> ∃b,cu E l.regs a rs=some b/\Q (.ret (ab b)) l.rc a
 | .normal,l,h=> ∃a,cM (lim E) l.dfs none h=some (none,a)/\ ∃b,cu E l.regs a rs=some b/\Q (.ret (ab b)) l.rc a| .ret,l,h=> ∃a,cM (lim E) l.dfs none h=some (none,a)/\ ∃b,cu E l.regs a rs=some b/\Q (.ret (ab b)) l.rc a
theorem enter{k:Func}{Q:Out->Option (Value×Bool)->Hp->Prop}(q:E.orc f args=none)(hf:E.fn f=some k)(r:k.body=some body)(s:k.ntmps=n)(o:k.results.toList=rs)(hle:args.length<=n)(t:Run E (lim E) ⟨f,n,none⟩ (mw E rs Q) [.code body] .normal (LL n (cC args) [] rc) h):dE E f args rc h Q:=by
 obtain⟨e,l,u,w,j⟩:=t;simp only [Run]at j;unfold dE;rw [call_eq];unfold jU;rw [q];simp only [];unfold mP;rw [hf];simp only [];rw [r];simp only [];rw [s,Xd hle];simp only [cond_true];rw [args_tab hle];have g:(lim E).code ⟨f,n,none⟩ body ⟨tab n (cC args),[],rc⟩ h=some (e,l,u):=by rw [Ag];exact w
 rw [g,o];cases e with
 |exit i=>exact j.elim| pan v=>
   obtain⟨m,p,a,b⟩:=j;grind
 |normal=>obtain⟨p,a,x,c,d⟩:=j;grind
 |ret=>obtain⟨p,a,x,c,d⟩:=j;grind
def RetQ(Q:Value->Hp->Prop):Out->Option (Value×Bool)->Hp->Prop
 | .ret v,none,h=>Q v h|_,_,_=>False
theorem ret_of(hq:dE E f args none h (RetQ Q)):Ret E f args h Q:=by
 obtain⟨o,c,d,a,b⟩:=hq;cases o with
 |pan v=>exact b.elim| ret v=>cases c with
   |none=>exact⟨v,d,a,b⟩|some y=>exact b.elim
theorem enter_ret{a:Func}(c:E.orc f args=none)(hf:E.fn f=some a)(d:a.body=some body)(e:a.ntmps=n)(b:a.results.toList=rs)(hle:args.length<=n)(g:Run E (lim E) ⟨f,n,none⟩ (mw E rs (RetQ Q)) [.code body] .normal (LL n (cC args) [] none) h):Ret E f args h Q:=ret_of (enter c hf d e b hle g)
theorem ret_orc(a:E.orc f args=some v)(hq:Q v h):Ret E f args h Q:=by refine⟨v,h,?_,hq⟩;rw [call_eq];unfold jU;rw [a]
section
variable{E:Env}{rs:List ResultVar}{Q:Value->Hp->Prop}{n:Nat}{ρ:Nat->Value}{h:Hp}
theorem Bj:mw E rs (RetQ Q) .ret (LL n ρ [] none) h↔ ∃vs,cu E (tab n ρ) h rs=some vs/\Q (ab vs) h:=by
 simp only [mw,LL,cM];constructor
 . intro⟨h',a,b⟩;cases a;exact b
 . intro b;exact⟨h,rfl,b⟩
theorem CP:mw E rs (RetQ Q) .normal (LL n ρ [] none) h↔ ∃vs,cu E (tab n ρ) h rs=some vs/\Q (ab vs) h:=Bj
theorem bV{P:List Value->Prop}:(∃vs,cu E (tab n ρ) h []=some vs/\P vs)↔P []:=by simp only [cu];grind
theorem dk{P:List Value->Prop}(a:t<n):(∃vs,cu E (tab n ρ) h (.tmp t::rs)=some vs/\P vs)↔ ∃vs,cu E (tab n ρ) h rs=some vs/\P (ρ t::vs):=by simp only [cu,lq,if_pos a];grind
theorem bF{ty:TypeId}{P:List Value->Prop}(a:t<n)(b:gm E h ty (ρ t)=some v):(∃vs,cu E (tab n ρ) h (.cell t ty::rs)=some vs/\P vs)↔ ∃vs,cu E (tab n ρ) h rs=some vs/\P (v::vs):=by simp only [cu,lq,if_pos a,b];grind
end
structure Gr(h h':Hp):Prop where
 ok0:OZ h
 ok:OZ h'
 n:h.n<=h'.n
 get: ∀b,b<h.n->h'.get b=h.get b
 lo: ∀x,x<=h.n->x<=h.lo->x<=h'.lo
theorem Gr.refl(a:OZ h):Gr h h:=⟨a,a,Xc _,fun _ _=>rfl,fun _ _ h=>h⟩
theorem Gr.trans{a b c:Hp}(x:Gr a b)(y:Gr b c):Gr a c:=
 ⟨x.ok0,y.ok,Xk x.n y.n,fun i d=>(y.get i (Xg d x.n)).trans (x.get i d),fun i e f=>y.lo i (Xk e x.n) (x.lo i e f)⟩
theorem new_ok(a:OZ h)(x:Blk):(h.new x).t.Sized (h.new x).n:=Tr.sized_push x a
theorem put_ok(a:OZ h)(b:Nat)(x:Blk):(h.put b x).t.Sized (h.put b x).n:=Tr.sized_set b x a
theorem Gr.new{h:Hp}(a:OZ h)(x:Blk):Gr h (h.new x):=
 ⟨a,new_ok a x,Nat.le_succ _,fun b c=>by rw [h.get_new x a,if_neg (by omega)],fun _ _ h=>h⟩
theorem jO(a:OZ h){b:Nat}{x:Blk}(e:h.get b=some x):b<h.n:=(a b).1 (by show(h.get b).isSome=true;rw [e];rfl)
theorem Gr.at(g:Gr h h'){b:Nat}{x:Blk}(e:h.get b=some x):h'.get b=some x:=by rw [g.get b (jO g.ok0 e)];exact e
theorem bU(a:OZ h){b o:Nat}(e:h.load b o n=some l):b<h.n:=by
 unfold Hp.load at e
 split at e
 next c=>exact jO a c
 next=>cases e
theorem Gr.load{h h':Hp}(g:Gr h h'){b o n:Nat}{l:List Value}(e:h.load b o n=some l):h'.load b o n=some l:=by have:=g.get b (bU g.ok0 e);grind[Hp.load]
theorem Gr.hlo(g:Gr {h with lo:=h.n} h'):Xf h.n h'.lo=true:=Xd (g.lo h.n (Xc _) (Xc _))
def Row(h:Hp)(b:Nat)(l:List Value)(md:Nat):Prop:= ∃t a,h.get b=some (.cells t l.length a md)/\t.Sized l.length/\ ∀i:Nat,t.get i=l[i]?
theorem Row.gr(g:Gr h h'){b:Nat}(r:Row h b l md):Row h' b l md:=by obtain⟨t,d,a,b,c⟩:=r;exact⟨t,d,g.at a,b,c⟩
theorem Row.lt(c:OZ h){b:Nat}(r:Row h b l md):b<h.n:=by obtain⟨t,d,a,_,_⟩:=r;exact jO c a
theorem Cb{a:Type}{t:Tr a}{l:List a}(b: ∀i:Nat,t.get i=l[i]?): ∀(n o:Nat),o+n<=l.length->t.slice o n=some ((l.drop o).take n)
 |0,o,_=>by simp [Tr.slice]| n+1,o,h=>by simp only [Tr.slice];have:l[o]? =some l[o]:=Xt (by omega);rw [b o,this,Cb b n (o+1) (by omega)];simp only [];congr 1;rw [show List.drop o l=l[o]::List.drop (o+1) l from Xz (by omega)];rfl
theorem Row.load{h:Hp}{b:Nat}{l:List Value}{md:Nat}(r:Row h b l md){o n:Nat}(d:o+n<=l.length):h.load b o n=some ((l.drop o).take n):=by obtain⟨t,e,a,_,c⟩:=r;grind[Hp.load,Xd,Cb]
theorem Row.load1{b:Nat}(r:Row h b l md){o:Nat}(a:l[o]? =some v):h.load b o 1=some [v]:=by have hlt:=(List.getElem?_eq_some_iff.1 a).1;rw [r.load (by omega)];grind[Xz,Xy]
theorem qm(a:OZ h)(l:List Value)(el md:Nat):Row (h.new (.cells (Tr.ofList l) l.length el md)) h.n l md:=
 ⟨Tr.ofList l,el,by rw [h.get_new _ a,if_pos rfl],Tr.sized_ofList l,fun i=>Tr.get_ofList l i⟩
def lay(l:List Value)(o:Nat)(vs:List Value):List Value:=l.take o++vs++l.drop (o+vs.length)
theorem rP{o:Nat}(h:o+vs.length<=l.length):(lay l o vs).length=l.length:=by simp [lay];omega
theorem lH{o:Nat}(h:o+vs.length<=l.length)(i:Nat):(lay l o vs)[i]? =if o<=i/\i<o+vs.length then vs[i-o]? else l[i]? :=by
 unfold lay;by_cases a:i<o
 . grind
 grind
theorem Row.store{h:Hp}(j:OZ h){b:Nat}{l:List Value}{md:Nat}(r:Row h b l md)(g:md≠0){o:Nat}{vs:List Value}(e:o+vs.length<=l.length)(k:vs.all jx=true):
 ∃x,h.store b o vs=some (h.put b x)/\Row (h.put b x) b (lay l o vs) md:=by
 obtain⟨t,f,a,d,c⟩:=r;refine⟨.cells (t.setAll o vs) l.length f md,?_,?_⟩
 . grind[Hp.store,Xh,absurd,Xb,Xd]
 . refine⟨t.setAll o vs,f,?_,?_,fun i=>?_⟩
   . rw [Hp.get_put,if_pos ⟨rfl,by rw [a];rfl⟩,rP e]
   . rw [rP e];exact Tr.sized_setAll o vs d
   grind[Tr.get_setAll,lH]
theorem pop_ext{d:Operand->Value}(e: ∀x∈op.operands.toList,ρ x=d x):pop E ρ op=pop E d op:=by
 cases op
 case build t g=>grind[pop,XB,Op.operands]
 case makeFunc f a b=>
  cases f<;>(try rfl);grind[pop,Array.map_congr_left,Op.operands]
 case slice t x l h m=>
  simp only [pop];have i:=e x (by simp [Op.operands]);have j:l.map ρ=l.map d:=by cases l with|none=>rfl|some y=>simp [e y (by simp [Op.operands])]
  have k:h.map ρ=h.map d:=by cases h with|none=>rfl|some y=>simp [e y (by simp [Op.operands])]
  have n:m.map ρ=m.map d:=by cases m with|none=>rfl|some y=>simp [e y (by simp [Op.operands])]
  grind
 case call c=>
  have o:c.args.toList.map ρ=c.args.toList.map d:=by grind[XB,Op.operands,Call.operands]
  grind[pop,invoke,builtin,Xx,Op.operands,Call.operands]
 all_goals (try rfl)
 all_goals first
  |(unfold Op.operands at e;simp at e;simp only [pop];simp [e];done)
  |(simp only [pop];done)
  |(cases ‹Fn› <;>simp only [pop];done)
theorem ul{a:Operand->Value}(e: ∀x∈op.operands.toList,ρ x=a x):aop E ρ h op=aop E a h op:=by
 have d:=pop_ext (E:=E) e;cases op
 case buildSlice t n j=>grind[aop,XB,Op.operands]
 case makeMap t r=>cases r<;>simp only [aop,d]
 case call c=>
  have i:c.args.toList.map ρ=c.args.toList.map a:=by grind[XB,Op.operands,Call.operands]
  have k: ∀x∈c.args.toList,ρ x=a x:=by simp_all
  cases g:c.callee with
  | value f=>grind[hf,Op.operands,Call.operands,aop]|invoke r n=>simp only [aop,g]| builtin b=>
    cases b<;>simp only [aop,g,d]<;>(try rfl)
    all_goals grind
 case defer c=>
  have i:c.args.toList.map ρ=c.args.toList.map a:=by grind[XB,Op.operands,Call.operands]
  grind[hf,Op.operands,Call.operands,aop,invoke,builtin]
 all_goals first
  |(simp only [aop];done)
  |(simp only [aop,d];done)
  |(unfold Op.operands at e;simp at e;simp only [aop,e];done)
theorem touch_ext{a:Operand->Value}(e: ∀x∈op.operands.toList,ρ x=a x):touch ρ op=touch a op:=by
 cases op
 case call c=>grind[touch,Op.operands,Call.operands]
 all_goals first
  |rfl
  |(unfold Op.operands at e;simp at e;simp only [touch,e];done)
  |(simp only [touch];done)
theorem uk(l:Loc)(op:Op): ∀x∈op.operands.toList,l.evD (tmpsOf op.operands.toList) x=l.ev x:=by
 intro x a;cases x with
 | tmp t=>grind[Loc.evD,oh,re]|_=>rfl
def mj(E:Env)(K:Value->Hp->Prop):Option (d6×Hp)->Prop
 |some (.val v,c)=>K v c|some (.skip,c)=>K (.tuple #[]) c| some (.call f a,c)=>dE E f a none c fun x _ d=>match x with
   | .ret v=>K v d| .pan _=>False
 | some (.yield b a,c)=>mN E b a c fun x d=>match x with
   | .ret v=>K v d| .pan _=>False
 |_=>False
theorem opVal_n{x:Option (d6×Hp)}:(∃v h',dc E (lim E) x=some (.ret v,h')/\K v h')↔mj E K x:=by
 cases x with
 |none=>exact⟨fun⟨_,_,a,_⟩=>(by cases a),fun h=>h.elim⟩
 | some q=>
   obtain⟨e,g⟩:=q;cases e with
   |val v=>exact⟨fun⟨_,_,a,b⟩=>(by cases a;exact b),fun h=>⟨_,_,rfl,h⟩⟩
   |skip=>exact⟨fun⟨_,_,a,b⟩=>(by cases a;exact b),fun h=>⟨_,_,rfl,h⟩⟩
   |panic v=>exact⟨fun⟨_,_,a,_⟩=>(by cases a),fun h=>h.elim⟩
   |recov=>exact⟨fun⟨_,_,a,_⟩=>(by cases a),fun h=>h.elim⟩
   |defer d=>exact⟨fun⟨_,_,a,_⟩=>(by cases a),fun h=>h.elim⟩
   | call f c=>simp only [mj,dc,dE];grind| yield b c=>grind[mj,dc,mN]
theorem stepD_iff{l:Loc}{a:Bool}:(∃v h',dw E (lim E) (l.evD (tmpsOf o.op.operands.toList)) a o h=some (v,h')/\K v h')↔
 (if a=true then mj E (fun v h'=>Xf h.n h'.lo=true/\K v {h' with lo:=h.lo}) (aop E l.ev {h with lo:=h.n} o.op)else mj E K (aop E l.ev h o.op)):=by
 have e:=uk l o.op;unfold dw;cases a with
 | false=>rw [if_neg (by simp)];simp only [cond_false];rw [ul e,<-opVal_n];grind| true=>rw [if_pos rfl];simp only [cond_true];rw [ul e,<-opVal_n];grind
theorem E3{a:Operand->Value}{b:Bool}(e: ∀x∈op.operands.toList,ρ x=a x):dr ρ b op h h'=dr a b op h h':=by unfold dr mU;rw [touch_ext e]
theorem run_opsD{Q:dW}{k:List Fr}{l:Loc}{c:List (Nat×Tch)}:Run E (lim E) cx Q (.opsD a q ps (o::os) i c::k) .normal l h↔ ∃b,cU a l.regs o=some b/\
 (if b =true then(if fI E q i o.op=true then
       mj E (fun v h'=>Xf h.n h'.lo=true/\Run E (lim E) cx Q (.opsD a q ps os (i+1) (iF i c (dr l.ev true o.op h h))::k) .normal (l.put o.dst v) {h' with lo:=h.lo}) (aop E l.ev {h with lo:=h.n} o.op)
     else mj E (fun v h'=>Run E (lim E) cx Q (.opsD a q ps os (i+1) (iF i c (dr l.ev false o.op h h'))::k) .normal (l.put o.dst v) h') (aop E l.ev h o.op))
   else Run E (lim E) cx Q (.opsD a q ps os (i+1) c::k) .normal (l.put o.dst (.tuple #[])) h):=by
 rw [By];simp only [E3 (uk l o.op),stepD_iff];cases fI E q i o.op with
 | true=>rfl|false=>exact Xi
theorem Bc(c:Ret E f args h Q)(d: ∀v h',Q v h'->K v h'):mj E K (some (.call f args,h)):=by obtain⟨v,h',a,b⟩:=c;exact⟨.ret v,none,h',a,d v h' b⟩
noncomputable section
abbrev Opt:=Option (Ex×Loc×Hp)
def getK{a:Type}(t:Tr a):Nat->Option a:=Tr.rec (motive:=fun _=>Nat->Option a) (fun _=>none)
 (fun x _ _ b c i=>Nat.rec (some x) (fun n _=>Bool.rec (c (n/2)) (b (n/2)) (Xh (n%2) 0)) i) t
def setK{a:Type}(t:Tr a):Nat->a->Tr a:=Tr.rec (motive:=fun _=>Nat->a->Tr a) (fun _ _=>.nil)
 (fun y l r b c i x=>Nat.rec (.node x l r) (fun n _=>Bool.rec (.node y l (c (n/2) x)) (.node y (b (n/2) x) r) (Xh (n%2) 0)) i) t
def iT(l:Loc)(d:Option Tmp)(v:Value):Loc:=Option.rec l (fun t=>Loc.mk (setK l.regs t v) l.dfs l.rc) d
def evK(l:Loc)(x:Operand):Value:=Operand.rec (motive:=fun _=>Loc->Value) (fun t l=>Option.rec (.tuple #[]) (fun v=>v) (getK l.regs t)) (fun v _=>Bool.rec poison v (dI v))
 (fun g _=>Bool.rec poison (.pointer (some ⟨g,0,none⟩)) (XL g 16)) (fun f _=>.func (.func f) #[] #[]) x l
def exK(e:Ex):(Loc->Hp->Opt)->(Ex->Loc->Hp->Opt)->Loc->Hp->Opt:=Ex.rec (motive:=fun _=>(Loc->Hp->Opt)->(Ex->Loc->Hp->Opt)->Loc->Hp->Opt)
 (fun b _ l h=>b l h) (fun id _ a l h=>a (.exit id) l h) (fun _ a l h=>a .ret l h) (fun v _ a l h=>a (.pan v) l h) e
def eZ(x:Opt)(a:Loc->Hp->Opt)(b:Ex->Loc->Hp->Opt):Opt:=Option.rec none (fun q=>Prod.rec (fun e c=>Prod.rec (fun l h=>exK e a b l h) c) q) x
def asInt:Value->Option (IntKind×Int)
 | .int k n=>some (k,n)|_=>none
abbrev BM:=IntKind->Int->IntKind->Int->Option Value->Option Value
def arK(f:IntKind->Int->Int->Option Value):BM:=fun k m a n _=>Bool.rec none (f k m n) (kr k a)
def binI(op:BinOp):BM:=BinOp.rec (motive:=fun _=>BM)
 (add:=arK fun k x y=>some (.int k (am k (x+y)))) (sub:=arK fun k x y=>some (.int k (am k (x-y)))) (mul:=arK fun k x y=>some (.int k (am k (x*y))))
 (quo:=fun _ _ _ _ s=>s) (rem:=fun _ _ _ _ s=>s) (and:=fun _ _ _ _ s=>s) (or:=fun _ _ _ _ s=>s) (xor:=fun _ _ _ _ s=>s) (andNot:=fun _ _ _ _ s=>s) (shl:=fun _ _ _ _ s=>s) (shr:=fun _ _ _ _ s=>s)
 (eql:=arK fun _ x y=>some (.bool (iW x y))) (neq:=arK fun _ x y=>some (.bool (!iW x y))) (lss:=arK fun _ x y=>some (.bool (pz x y))) (leq:=arK fun _ x y=>some (.bool (!pz y x)))
 (gtr:=arK fun _ x y=>some (.bool (pz y x))) (geq:=arK fun _ x y=>some (.bool (!pz x y))) op
def binK(E:Env)(op:BinOp)(t:TypeId)(x y:Operand)(a b:Value):Option Value:=
 Option.rec (bQ E op t x y a b) (fun p=>Option.rec (bQ E op t x y a b) (fun q=>binI op p.1 p.2 q.1 q.2 (bQ E op t x y a b)) (asInt b)) (asInt a)
abbrev OpM:=Env->Rec->Cx->Option Tmp->Loc->Hp->(Loc->Hp->Opt)->(Ex->Loc->Hp->Opt)->Opt
def lS(r:Option Value)(d:Option Tmp)(l:Loc)(h:Hp)(a:Loc->Hp->Opt):Opt:=Option.rec none (fun v=>a (iT l d v) h) r
def retHK(r:Option (Hp×Value))(d:Option Tmp)(l:Loc)(a:Loc->Hp->Opt):Opt:=Option.rec none (fun p=>Prod.rec (fun h v=>a (iT l d v) h) p) r
def xb(r:Option Hp)(d:Option Tmp)(l:Loc)(a:Loc->Hp->Opt):Opt:=Option.rec none (fun h=>a (iT l d (.tuple #[])) h) r
def dX(op:Op):OpM:=fun E R a d l h b c=>eZ (fm E R a ⟨d,op,0,"",#[],none⟩ l h) b c
def outK(o:Out):Option Tmp->Loc->Hp->(Loc->Hp->Opt)->(Ex->Loc->Hp->Opt)->Opt:=Out.rec (motive:=fun _=>Option Tmp->Loc->Hp->(Loc->Hp->Opt)->(Ex->Loc->Hp->Opt)->Opt)
 (fun v d l h a _=>a (iT l d v) h) (fun v _ l h _ b=>b (.pan v) l h) o
def resK(r:Option (Out×Option (Value×Bool)×Hp))(d:Option Tmp)(l:Loc)(a:Loc->Hp->Opt)(b:Ex->Loc->Hp->Opt):Opt:=Option.rec none (fun q=>Prod.rec (fun o c=>Prod.rec (fun _ h=>outK o d l h a b) c) q) r
def asFn:Value->Option (FuncId×Array Value×Array Value)
 | .func (.func g) a b=>some (g,a,b)|_=>none
def callK(c:Call):OpM:=fun E R e d l h a b=>Callee.rec (motive:=fun _=>Opt)
 (fun f=>Option.rec (dX (.call c) E R e d l h a b) (fun p=>resK (R.call p.1 (p.2.1.toList++c.args.toList.map (evK l)++p.2.2.toList) none h) d l a b) (asFn (evK l f)))
 (fun _ _=>dX (.call c) E R e d l h a b) (fun _=>dX (.call c) E R e d l h a b) c.callee
def opK(op:Op):OpM:=Op.rec (motive:=fun _=>OpM)
 (move:=fun x _ _ _ d l h j _=>j (iT l d (evK l x)) h)
 (assign:=fun x _ _ _ d l h j _=>j (iT l d (evK l x)) h)
 (pick:=fun c a b=>dX (.pick c a b))
 (alloc:=fun e=>dX (.alloc e))
 (box:=fun e v=>dX (.box e v))
 (build:=fun t p=>dX (.build t p))
 (buildSlice:=fun t n p=>dX (.buildSlice t n p))
 (insert:=fun t m k v=>dX (.insert t m k v))
 (load:=fun t a E _ _ d l h j _=>lS (gm E h t (evK l a)) d l h j)
 (store:=fun t a v E _ _ d l h j _=>xb (jT E h t (evK l a) (evK l v)) d l j)
 (ready:=fun g=>dX (.ready g))
 (waits:=fun g=>dX (.waits g))
 (nilCheck:=fun x=>dX (.nilCheck x))
 (binOp:=fun op t x y u E _ _ d l h j _=>lS (binK E op t x y (evK l x) (evK l y)) d l h j)
 (unOp:=fun op t x E _ _ d l h j _=>lS (unP op (evK l x)) d l h j)
 (convert:=fun s t x=>dX (.convert s t x))
 (sliceToArrayPointer:=fun t x=>dX (.sliceToArrayPointer t x))
 (makeInterface:=fun t x=>dX (.makeInterface t x))
 (makeFunc:=fun f a b=>dX (.makeFunc f a b))
 (makeMap:=fun t r=>dX (.makeMap t r))
 (makeChan:=fun t s=>dX (.makeChan t s))
 (makeSlice:=fun t a c=>dX (.makeSlice t a c))
 (slice:=fun t x a b c=>dX (.slice t x a b c))
 (fieldAddr:=fun s x i E _ _ d l h j _=>lS (aN E s (evK l x) i) d l h j)
 (field:=fun t x i E _ _ d l h j _=>lS (bZ E t (evK l x) i) d l h j)
 (indexAddr:=fun t x i E _ _ d l h j _=>lS (gu E t (evK l x) (evK l i)) d l h j)
 (index:=fun t x i E _ _ d l h j _=>lS (kZ E t (evK l x) (evK l i)) d l h j)
 (lookup:=fun t m k o E _ _ d l h j _=>lS (fi E h t (evK l m) (evK l k) o) d l h j)
 (mapUpdate:=fun t m k v E _ _ d l h j _=>xb (ki E h t (evK l m) (evK l k) (evK l v)) d l j)
 (mapEntry:=fun t m k E _ _ d l h j _=>retHK (k9 E h t (evK l m) (evK l k)) d l j)
 (entryStore:=fun t m s v=>dX (.entryStore t m s v))
 (range:=fun t x=>dX (.range t x))
 (next:=fun i s=>dX (.next i s))
 (entry:=fun i=>dX (.entry i))
 (typeAssert:=fun x s t o=>dX (.typeAssert x s t o))
 (extract:=fun t i=>dX (.extract t i))
 (call:=fun c=>callK c)
 (go:=fun c=>dX (.go c))
 (defer:=fun c=>dX (.defer c))
 (panic:=fun x=>dX (.panic x))
 (send:=fun c x=>dX (.send c x))
 (recv:=fun t c o=>dX (.recv t c o))
 (select:=fun q b=>dX (.select q b)) op
def uq(ops:List Oper)(l:Loc)(o:Oper):Option Bool:=Option.rec (some true) (fun _=>cU ops l.regs o) o.guard
def opsK(E:Env)(R:Rec)(cx:Cx)(ops:List Oper)(c:Loc->Hp->Opt)(d:Ex->Loc->Hp->Opt)(os:List Oper):Loc->Hp->Opt:=List.rec (motive:=fun _=>Loc->Hp->Opt) c
 (fun o _ a l h=>Option.rec none (fun b=>Bool.rec (a (iT l o.dst (.tuple #[])) h) (opK o.op E R cx o.dst l h a d) b) (uq ops l o)) os
def uc(op:Op):Bool:=Op.rec (motive:=fun _=>Bool)
 (move:=fun _=>true) (assign:=fun _=>true) (pick:=fun _ _ _=>false) (alloc:=fun _=>false) (box:=fun _ _=>false) (build:=fun _ _=>false) (buildSlice:=fun _ _ _=>false)
 (insert:=fun _ _ _ _=>false) (load:=fun _ _=>true) (store:=fun _ _ _=>true) (ready:=fun _=>false) (waits:=fun _=>false) (nilCheck:=fun _=>false) (binOp:=fun _ _ _ _ _=>true)
 (unOp:=fun _ _ _=>true) (convert:=fun _ _ _=>false) (sliceToArrayPointer:=fun _ _=>false) (makeInterface:=fun _ _=>false) (makeFunc:=fun _ _ _=>false) (makeMap:=fun _ _=>false)
 (makeChan:=fun _ _=>false) (makeSlice:=fun _ _ _=>false) (slice:=fun _ _ _ _ _=>false) (fieldAddr:=fun _ _ _=>true) (field:=fun _ _ _=>true) (indexAddr:=fun _ _ _=>true) (index:=fun _ _ _=>true)
 (lookup:=fun _ _ _ _=>true) (mapUpdate:=fun _ _ _ _=>true) (mapEntry:=fun _ _ _=>true) (entryStore:=fun _ _ _ _=>false) (range:=fun _ _=>false) (next:=fun _ _=>false) (entry:=fun _=>false)
 (typeAssert:=fun _ _ _ _=>false) (extract:=fun _ _=>false) (call:=fun _=>false) (go:=fun _=>false) (defer:=fun _=>false) (panic:=fun _=>false) (send:=fun _ _=>false) (recv:=fun _ _ _=>false)
 (select:=fun _ _=>false) op
def uw(E:Env)(q i:Nat)(op:Op):Bool:=Bool.rec (Bool.rec false (Xf 3 (cls E op)) (XF q i)) false (Xh q 0)
def outDK(o:Out):(Value->Hp->Opt)->Hp->Opt:=Out.rec (motive:=fun _=>(Value->Hp->Opt)->Hp->Opt) (fun v k h=>k v h) (fun _ _ _=>none) o
def resDK(r:Option (Out×Option (Value×Bool)×Hp))(k:Value->Hp->Opt):Opt:=Option.rec none (fun q=>Prod.rec (fun o a=>Prod.rec (fun _ h=>outDK o k h) a) q) r
def nU(E:Env)(R:Rec)(a:Bool)(o:Oper)(l:Loc)(h:Hp)(k:Value->Hp->Opt):Opt:=Option.rec none (fun p=>k p.1 p.2) (dw E R l.ev a o h)
def yG(h:Hp)(k:Value->Hp->Opt)(v:Value)(h':Hp):Opt:=Bool.rec none (k v {h' with lo:=h.lo}) (Xf h.n h'.lo)
def callDK(E:Env)(R:Rec)(a:Bool)(o:Oper)(c:Call)(l:Loc)(h:Hp)(k:Value->Hp->Opt):Opt:=Callee.rec (motive:=fun _=>Opt)
 (fun f=>Option.rec (nU E R a o l h k) (fun p=>Bool.rec (resDK (R.call p.1 (p.2.1.toList++c.args.toList.map (evK l)++p.2.2.toList) none h) k)
   (resDK (R.call p.1 (p.2.1.toList++c.args.toList.map (evK l)++p.2.2.toList) none {h with lo:=h.n}) (yG h k)) a) (asFn (evK l f)))
 (fun _ _=>nU E R a o l h k) (fun _=>nU E R a o l h k) c.callee
def asCall(op:Op):Option Call:=match op with
 | .call c=>some c|_=>none
def zT(E:Env)(R:Rec)(a:Bool)(o:Oper)(l:Loc)(h:Hp)(k:Value->Hp->Opt):Opt:=Option.rec (nU E R a o l h k) (fun c=>callDK E R a o c l h k) (asCall o.op)
def zo(l:Loc)(op:Op):Option Tch:=match touch (l.evD (tmpsOf op.operands.toList)) op with
 |none=>none|some b=>some (.blk b)
abbrev DM:=Nat->Loc->Hp->List (Nat×Tch)->Opt
def zF(E:Env)(R:Rec)(cx:Cx)(q:Nat)(o:Oper)(b:DM)(i:Nat)(l:Loc)(h:Hp)(c:List (Nat×Tch)):Opt:=
 Bool.rec (zT E R (uw E q i o.op) o l h fun v a=>b (i+1) (iT l o.dst v) a (iF i c (dr (l.evD (tmpsOf o.op.operands.toList)) (uw E q i o.op) o.op h a)))
  (Bool.rec (opK o.op E R cx o.dst l h (fun d a=>b (i+1) d a (iF i c (zo l o.op))) (fun _ _ _=>none))
    (nU E R true o l h fun v a=>b (i+1) (iT l o.dst v) a (iF i c (zo l o.op))) (uw E q i o.op)) (uc o.op)
def rN(E:Env)(R:Rec)(cx:Cx)(ops:List Oper)(q:Nat)(a:DM)(os:List Oper):DM:=List.rec (motive:=fun _=>DM) a
 (fun o _ c i l h d=>Option.rec none (fun b=>Bool.rec (c (i+1) (iT l o.dst (.tuple #[])) h d) (zF E R cx q o c i l h d) b) (uq ops l o)) os
def drawKo(E:Env)(R:Rec)(cx:Cx)(ops:List Oper)(l:Loc)(h:Hp)(a:Loc->Hp->Opt):Opt:=
 Option.rec none (fun p=>rN E R cx ops p.1 (fun _ l h b=>Bool.rec none (a l h) (dH b p.2)) ops 0 l h []) (im E ops)
def drawK(E:Env)(R:Rec)(cx:Cx)(ops:List Oper)(l:Loc)(h:Hp)(a:Loc->Hp->Opt):Opt:=drawKo E R cx (dy ops) l h a
abbrev CodeM:=Cx->Code->Loc->Hp->(Loc->Hp->Opt)->(Ex->Loc->Hp->Opt)->Opt
def asBool:Value->Option Bool
 | .bool b=>some b|_=>none
def blkK(e:Ex):Nat->(Loc->Hp->Opt)->(Ex->Loc->Hp->Opt)->Loc->Hp->Opt:=Ex.rec (motive:=fun _=>Nat->(Loc->Hp->Opt)->(Ex->Loc->Hp->Opt)->Loc->Hp->Opt)
 (fun _ b _ l h=>b l h) (fun i id b a l h=>Bool.rec (a (.exit i) l h) (b l h) (Xh i id)) (fun _ _ a l h=>a .ret l h) (fun v _ _ a l h=>a (.pan v) l h) e
def qu(E:Env)(R:Rec)(M:CodeM)(cx:Cx)(c:Code):Loc->Hp->(Loc->Hp->Opt)->(Ex->Loc->Hp->Opt)->Opt:=Code.rec (motive:=fun _=>Loc->Hp->(Loc->Hp->Opt)->(Ex->Loc->Hp->Opt)->Opt)
 (skip:=fun l h a _=>a l h)
 (region:=fun _ g k l h a d=>Bool.rec (opsK E R cx g.toList a d g.toList l h) (Bool.rec (drawK E R cx g.toList l h a) (eZ (cutD E R cx g.toList l h) a d) (E.cut cx.fn)) k)
 (seq:=fun _ _ i j l h a d=>i l h (fun l h=>j l h a d) d)
 (cond:=fun c _ _ i j l h a d=>Option.rec none (fun t=>Bool.rec (j l h a d) (i l h a d) t) (asBool (evK l c)))
 (block:=fun id _ m l h a d=>m l h a (fun e l h=>blkK e id a d l h))
 (loop:=fun b m l h a d=>m l h (fun l h=>M cx (.loop b) l h a d) d)
 (rangeFunc:=fun f p o n _ _ l h a d=>eZ (jS R cx (evK l f) p o n l h) a d)
 (exit:=fun id l h _ d=>d (.exit id) l h)
 (scope:=fun _ m l h a d=>m l h a d)
 (label:=fun _ l h a _=>a l h)
 (goto:=fun _ _ _ _ _=>none)
 (ret:=fun l h _ d=>d .ret l h)
 (refuse:=fun _ _ _ _ _=>none) c
abbrev qV:=Option (Out×Option (Value×Bool)×Hp)
def yb(E:Env)(R:Rec)(b:Func)(l:Loc)(h':Hp):qV:=match cM R l.dfs none h' with
 | some (none,a)=>match cu E l.regs a b.results.toList with
   |none=>none|some c=>some (.ret (ab c),l.rc,a)
 |_=>none
def doneK(E:Env)(R:Rec)(a:Func)(l:Loc)(h:Hp):qV:=List.rec (motive:=fun _=>qV)
 (Option.rec none (fun b=>some (.ret (ab b),l.rc,h)) (cu E l.regs h a.results.toList)) (fun _ _ _=>yb E R a l h) l.dfs
def slowPan(E:Env)(R:Rec)(b:Func)(v:Value)(l:Loc)(h':Hp):qV:=match cM R l.dfs (some v) h' with
 |none=>none|some (some v,a)=>some (.pan v,l.rc,a)| some (none,a)=>match cu E l.regs a b.results.toList with
   |none=>none|some c=>some (.ret (ab c),l.rc,a)
def exLeave(e:Ex):Env->Rec->Func->Loc->Hp->qV:=Ex.rec (motive:=fun _=>Env->Rec->Func->Loc->Hp->qV) doneK (fun _ _ _ _ _ _=>none) doneK (fun v E R a l h=>slowPan E R a v l h) e
def leaveK(E:Env)(R:Rec)(a:Func)(r:Opt):qV:=Option.rec none (fun q=>Prod.rec (fun e b=>Prod.rec (fun l h=>exLeave e E R a l h) b) q) r
def yY(E:Env)(R:Rec)(f:FuncId)(args:List Value)(rc:Option (Value×Bool))(h:Hp)(a:Func)(body:Code):qV:=
 Bool.rec none (leaveK E R a (R.code ⟨f,a.ntmps,none⟩ body ⟨(Tr.blank (.tuple #[]) a.ntmps a.ntmps).setAll 0 args,[],rc⟩ h)) (Xf args.length a.ntmps)
def callBK(E:Env)(R:Rec)(f:FuncId)(args:List Value)(rc:Option (Value×Bool))(h:Hp):qV:=
 Option.rec none (fun b=>Option.rec none (fun a=>yY E R f args rc h b a) b.body) (E.fn f)
def y5(E:Env)(R:Rec)(f:FuncId)(args:List Value)(rc:Option (Value×Bool))(h:Hp):qV:=
 Option.rec (callBK E R f args rc h) (fun v=>Option.rec (some (.ret v,none,h)) (fun _=>none) rc) (E.orc f args)
structure RK where
 call:FuncId->List Value->Option (Value×Bool)->Hp->qV
 code:CodeM
def RK.rec'(K:RK):Rec:=⟨K.call,fun a c l h=>K.code a c l h (fun l h=>some (.normal,l,h)) (fun e l h=>some (e,l,h))⟩
def botK:RK:=⟨fun _ _ _ _=>none,fun _ _ _ _ _ _=>none⟩
def nextRK(E:Env)(K:RK):RK:=⟨fun f a b h=>y5 E K.rec' f a b h,fun d c l h e g=>qu E K.rec' K.code d c l h e g⟩
def runK(E:Env)(n:Nat):RK:=Nat.rec botK (fun _ K=>nextRK E K) n
def envK(a:Tr Func)(b:Tr TypeInfo)(c:List Nat):Env:={fn:=fun f=>getK a f,ty:=fun t=>getK b t,eqok:=fun t=>memb t c}
end
noncomputable section
theorem getK_eq{a:Type}(t:Tr a)(i:Nat):getK t i=t.get i:=rfl
theorem setK_eq{a:Type}(t:Tr a)(i:Nat)(x:a):setK t i x=t.set i x:=rfl
theorem pI(l:Loc)(d:Option Tmp)(v:Value):iT l d v=l.put d v:=by
 cases d with
 |none=>rfl|some t=>show Loc.mk (setK l.regs t v) l.dfs l.rc=_;rw [setK_eq];rfl
theorem iN(l:Loc):evK l=l.ev:=by
 funext x;cases x with
 | tmp t=>
   show Option.rec (motive:=fun _=>Value) _ _ (getK l.regs t)=_;rw [getK_eq];simp only [Loc.ev];cases l.regs.get t<;>rfl
 |const v=>simp only [Loc.ev];show Bool.rec (motive:=fun _=>Value) poison v (dI v)=_;cases dI v<;>rfl
 |global g=>simp only [Loc.ev];show Bool.rec (motive:=fun _=>Value) poison _ (XL g 16)=_;cases XL g 16<;>rfl
 |func f=>rfl
theorem bind2_id(x:Opt):eZ x (fun l h=>some (.normal,l,h)) (fun e l h=>some (e,l,h))=x:=by
 cases x with
 |none=>rfl|some q=>obtain⟨e,l,h⟩:=q;cases e<;>rfl
theorem uW(x:Opt)(c:Loc->Hp->Opt)(d:Ex->Loc->Hp->Opt)(f:Loc->Hp->Opt)(a:Ex->Loc->Hp->Opt)(b: ∀e l h,e≠ .normal->d e l h=a e l h):eZ x (fun l h=>eZ (c l h) f a) d=eZ (match x with
  |some (.normal,l,h)=>c l h|r=>r) f a:=by
 cases x with
 |none=>rfl| some q=>
   obtain⟨e,l,h⟩:=q;cases e with
   |normal=>rfl|exit i=>exact b _ _ _ (by simp)|ret=>exact b _ _ _ (by simp)|pan v=>exact b _ _ _ (by simp)
theorem binK_eq(E:Env)(op:BinOp)(t:TypeId)(x y:Operand)(a b:Value):binK E op t x y a b=bQ E op t x y a b:=by
 cases a<;>(try rfl);cases b<;>(try rfl);rename_i k m c n;cases op<;>(try rfl)
 all_goals (show Bool.rec (motive:=fun _=>Option Value) none _ (kr k c)=(bif kr k c then _ else none);cases kr k c<;>rfl)
theorem retK_eq(r:Option Value)(o:Oper)(l:Loc)(h:Hp)(E:Env)(R:Rec)(a:Loc->Hp->Opt)(b:Ex->Loc->Hp->Opt):lS r o.dst l h a=eZ (qD o l (dc E R (dp h r))) a b:=by
 cases r with
 |none=>rfl|some v=>show a (iT l o.dst v) h=a (l.put o.dst v) h;rw [pI]
theorem retHK_eq(r:Option (Hp×Value))(o:Oper)(l:Loc)(E:Env)(R:Rec)(a:Loc->Hp->Opt)(b:Ex->Loc->Hp->Opt):retHK r o.dst l a=eZ (qD o l (dc E R (dK r))) a b:=by
 cases r with
 |none=>rfl|some p=>obtain⟨h,v⟩:=p;show a (iT l o.dst v) h=a (l.put o.dst v) h;rw [pI]
theorem retUK_eq(r:Option Hp)(o:Oper)(l:Loc)(E:Env)(R:Rec)(a:Loc->Hp->Opt)(b:Ex->Loc->Hp->Opt):xb r o.dst l a=eZ (qD o l (dc E R (iH r))) a b:=by
 cases r with
 |none=>rfl|some h=>show a (iT l o.dst (.tuple #[])) h=a (l.put o.dst (.tuple #[])) h;rw [pI]
theorem resK_eq(R:Rec)(g:FuncId)(args:List Value)(o:Oper)(l:Loc)(h:Hp)(E:Env)(a:Loc->Hp->Opt)(b:Ex->Loc->Hp->Opt):resK (R.call g args none h) o.dst l a b=eZ (qD o l (dc E R (some (.call g args,h)))) a b:=by
 simp only [dc];cases R.call g args none h with
 |none=>rfl| some q=>
   obtain⟨x,d,c⟩:=q;cases x with
   |ret v=>show a (iT l o.dst v) c=a (l.put o.dst v) c;rw [pI]|pan v=>rfl
theorem oP{l:Loc}{x:Option (d6×Hp)}(a:aop E l.ev h o.op=x)(b: ∀h',x≠some (.recov,h'))(c: ∀d h',x≠some (.defer d,h')):fm E R cx o l h=qD o l (dc E R x):=by
 unfold fm;rw [a]
 split
 . exact absurd rfl (b _)
 . exact absurd rfl (c _ _)
 . rfl
theorem yh{r:Option Value}:(∀h',dp h r≠some (.recov,h'))/\ ∀d h',dp h r≠some (.defer d,h'):=by cases r<;>exact⟨by intros;simp [dp],by intros;simp [dp]⟩
theorem yy{r:Option (Hp×Value)}:(∀h',dK r≠some (.recov,h'))/\ ∀d h',dK r≠some (.defer d,h'):=by cases r<;>exact⟨by intros;simp [dK],by intros;simp [dK]⟩
theorem yi{r:Option Hp}:(∀h',iH r≠some (.recov,h'))/\ ∀d h',iH r≠some (.defer d,h'):=by cases r<;>exact⟨by intros;simp [iH],by intros;simp [iH]⟩
theorem opK_eq(E:Env)(R:Rec)(cx:Cx)(o:Oper)(l:Loc)(h:Hp)(q:Loc->Hp->Opt)(s:Ex->Loc->Hp->Opt):opK o.op E R cx o.dst l h q s=eZ (fm E R cx o l h) q s:=by
 have w: ∀r,aop E l.ev h o.op=dp h r->lS r o.dst l h q=eZ (fm E R cx o l h) q s:=fun r A=>by rw [oP A yh.1 yh.2];exact retK_eq r o l h E R q s
 have B: ∀r,aop E l.ev h o.op=dK r->retHK r o.dst l q=eZ (fm E R cx o l h) q s:=fun r A=>by rw [oP A yy.1 yy.2];exact retHK_eq r o l E R q s
 have C: ∀r,aop E l.ev h o.op=iH r->xb r o.dst l q=eZ (fm E R cx o l h) q s:=fun r A=>by rw [oP A yi.1 yi.2];exact retUK_eq r o l E R q s
 obtain⟨j,op,D,pos,z,guard⟩:=o;simp only []at w B C⊢;cases op
 case move x=>have:=w (some (l.ev x)) rfl;rw [<-this];show q (iT l j (evK l x)) h=q (iT l j (l.ev x)) h;rw [iN]
 case assign x=>have:=w (some (l.ev x)) rfl;rw [<-this];show q (iT l j (evK l x)) h=q (iT l j (l.ev x)) h;rw [iN]
 case load t a=>rw [<-w _ rfl];show lS (gm E h t (evK l a)) j l h q=_;rw [iN]
 case store t a v=>rw [<-C _ rfl];show xb (jT E h t (evK l a) (evK l v)) j l q=_;rw [iN]
 case binOp b t x y u=>rw [<-w (bQ E b t x y (l.ev x) (l.ev y)) rfl];show lS (binK E b t x y (evK l x) (evK l y)) j l h q=_;rw [iN,binK_eq]
 case unOp b t x=>rw [<-w (unP b (l.ev x)) rfl];show lS (unP b (evK l x)) j l h q=_;rw [iN]
 case fieldAddr t x i=>rw [<-w (aN E t (l.ev x) i) rfl];show lS (aN E t (evK l x) i) j l h q=_;rw [iN]
 case field t x i=>rw [<-w (bZ E t (l.ev x) i) rfl];show lS (bZ E t (evK l x) i) j l h q=_;rw [iN]
 case indexAddr t x i=>rw [<-w (gu E t (l.ev x) (l.ev i)) rfl];show lS (gu E t (evK l x) (evK l i)) j l h q=_;rw [iN]
 case index t x i=>rw [<-w (kZ E t (l.ev x) (l.ev i)) rfl];show lS (kZ E t (evK l x) (evK l i)) j l h q=_;rw [iN]
 case lookup t m k b=>rw [<-w _ rfl];show lS (fi E h t (evK l m) (evK l k) b) j l h q=_;rw [iN]
 case mapUpdate t m k v=>rw [<-C _ rfl];show xb (ki E h t (evK l m) (evK l k) (evK l v)) j l q=_;rw [iN]
 case mapEntry t m k=>rw [<-B _ rfl];show retHK (k9 E h t (evK l m) (evK l k)) j l q=_;rw [iN]
 case call c=>
  show callK c E R cx j l h q s=_;unfold callK;cases F:c.callee with
  |invoke r n=>rfl|builtin b=>rfl| value f=>
    show Option.rec (motive:=fun _=>Opt) (dX (.call c) E R cx j l h q s) _ (asFn (evK l f))=_;rw [iN];cases hf:asFn (l.ev f)with
    |none=>rfl| some p=>
      obtain⟨g,a,b⟩:=p;have B:l.ev f=.func (.func g) a b:=by
       unfold asFn at hf
       split at hf
       . rename_i G;cases hf;exact G
       . cases hf
      have A:aop E l.ev h (.call c)=some (.call g (a.toList++c.args.toList.map l.ev++b.toList),h):=(by simp only [aop,F,B,target]);rw [oP (o:=⟨j,.call c,D,pos,z,guard⟩) A (by intro H e;cases e) (by intro d H e;cases e)];exact resK_eq R g _ ⟨j,.call c,D,pos,z,guard⟩ l h E q s
 all_goals rfl
theorem AV(ops:List Oper)(l:Loc)(o:Oper):uq ops l o=cU ops l.regs o:=by
 unfold uq;cases a:o.guard with
 |none=>unfold cU;rw [a]|some q=>rfl
theorem opsK_eq(E:Env)(R:Rec)(cx:Cx)(ops:List Oper)(c:Loc->Hp->Opt)(a:Ex->Loc->Hp->Opt): ∀(os:List Oper) (l:Loc) (h:Hp),opsK E R cx ops c a os l h=eZ (jy E R cx ops os l h) c a
 | [],l,h=>rfl| o ::os,l,h=>by
   have d:=opsK_eq E R cx ops c a os;show Option.rec (motive:=fun _=>Opt) none (fun b=>Bool.rec (opsK E R cx ops c a os (iT l o.dst (.tuple #[])) h) (opK o.op E R cx o.dst l h (opsK E R cx ops c a os) a) b) (uq ops l o)=_;rw [AV];simp only [jy];cases cU ops l.regs o with
   |none=>rfl| some b=>
     cases b with
     |false=>show opsK E R cx ops c a os (iT l o.dst (.tuple #[])) h=_;rw [d,pI]| true=>
       show opK o.op E R cx o.dst l h (opsK E R cx ops c a os) a=_;rw [opK_eq,show opsK E R cx ops c a os=fun l h=>eZ (jy E R cx ops os l h) c a from funext fun l=>funext fun h=>d l h];rw [uW _ _ _ _ _ (fun _ _ _ _=>rfl)];simp only [];cases fm E R cx o l h with
       |none=>rfl|some q=>obtain⟨e,f,g⟩:=q;cases e<;>rfl
end
noncomputable section
theorem AQ(E:Env)(R:Rec)(l:Loc)(a:Bool)(o:Oper)(h:Hp):dw E R (l.evD (tmpsOf o.op.operands.toList)) a o h=dw E R l.ev a o h:=by unfold dw;rw [ul (uk l o.op),ul (uk l o.op)]
theorem fast_step{l:Loc}(hf:uc o.op=true){K:Value->Hp->Opt}:eZ (fm E R cx o l h) (fun l' h'=>none) (fun _ _ _=>none)=none/\
 ∀ b:Loc->Hp->Opt,eZ (fm E R cx o l h) b (fun _ _ _=>none)=(match dw E R l.ev false o h with
   |none=>none|some (v,h')=>b (l.put o.dst v) h'):=by
 have c: ∀x,aop E l.ev h o.op=x->((∃e r,x=dp e r)\/(∃r,x=dK r)\/ ∃r,x=iH r)-> ∀b:Loc->Hp->Opt,eZ (fm E R cx o l h) b (fun _ _ _=>none)=(match dw E R l.ev false o h with
  |none=>none|some (v,h')=>b (l.put o.dst v) h'):=by
  intro x g i b;have j:(∀h',x≠some (.recov,h'))/\ ∀d h',x≠some (.defer d,h'):=by
   rcases i with⟨e,r,rfl⟩|⟨r,rfl⟩|⟨r,rfl⟩
   . exact yh
   . exact yy
   . exact yi
  rw [oP g j.1 j.2];simp only [dw,cond_false,g];rcases i with⟨e,r,rfl⟩|⟨r,rfl⟩|⟨r,rfl⟩<;>cases r<;>rfl
 have a:(∃e r,aop E l.ev h o.op=dp e r)\/(∃r,aop E l.ev h o.op=dK r)\/ ∃r,aop E l.ev h o.op=iH r:=by
  obtain⟨k,op,m,pos,f,guard⟩:=o;simp only []at hf⊢;cases op<;>(try (cases hf;done))
  all_goals first
   |exact .inl ⟨h,some (l.ev _),rfl⟩
   |exact .inl ⟨h,_,rfl⟩
   |exact .inr (.inl ⟨_,rfl⟩)
   |exact .inr (.inr ⟨_,rfl⟩)
 refine⟨?_,c _ rfl a⟩;rw [c _ rfl a];cases dw E R l.ev false o h<;>rfl
theorem yC(E:Env)(q i:Nat)(op:Op):uw E q i op=fI E q i op:=by
 unfold uw fI;cases a:Xh q 0 with
 | true=>have:q=0:=Xb a;subst this;simp|false=>cases XF q i<;>rfl
theorem elseDK_eq(E:Env)(R:Rec)(d:Bool)(o:Oper)(l:Loc)(h:Hp)(k:Value->Hp->Opt):zT E R d o l h k=nU E R d o l h k:=by
 unfold zT;cases e:asCall o.op with
 |none=>rfl| some c=>
   show callDK E R d o c l h k=_;have t:o.op=.call c:=by
    unfold asCall at e
    split at e
    . rename_i i;cases e;exact i
    . cases e
   unfold callDK;cases j:c.callee with
   |invoke r n=>rfl|builtin b=>rfl| value f =>
     show Option.rec (motive:=fun _=>Opt) (nU E R d o l h k) _ (asFn (evK l f))=_;rw [iN];cases hf:asFn (l.ev f)with
     |none=>rfl| some p=>
       obtain⟨g,a,b⟩:=p;have u:l.ev f=.func (.func g) a b:=by
        unfold asFn at hf
        split at hf
        . rename_i i;cases hf;exact i
        . cases hf
       have s: ∀h,aop E l.ev h o.op=some (.call g (a.toList++c.args.toList.map l.ev++b.toList),h):=(by intro h;rw [t];simp only [aop,j,u,target]);unfold nU dw;cases d with
       | false=>
         simp only [cond_false,s,dc];show resDK (R.call g (a.toList++c.args.toList.map l.ev++b.toList) none h) k=_;cases R.call g (a.toList++c.args.toList.map l.ev++b.toList) none h with
         |none=>rfl|some q=>obtain⟨x,w,m⟩:=q;cases x<;>rfl
       | true=>
         simp only [cond_true,s,dc];show resDK (R.call g (a.toList++c.args.toList.map l.ev++b.toList) none {h with lo:=h.n}) (yG h k)=_;cases R.call g (a.toList++c.args.toList.map l.ev++b.toList) none {h with lo:=h.n}with
         |none=>rfl| some q=>
           obtain⟨x,w,m⟩:=q;cases x with
           |pan v=>rfl| ret v=>
             show yG h k v m=_;simp only [yG];cases Xf h.n m.lo<;>rfl
theorem DH(h:uc op=true):ef op=false:=by cases op<;>first|rfl|exact absurd h (by simp [uc])
theorem Cn(E:Env)(R:Rec)(cx:Cx)(ops:List Oper)(q:Nat)(K:Loc->Hp->List (Nat×Tch)->Opt): ∀(os:List Oper) (i:Nat) (l:Loc) (h:Hp) (a:List (Nat×Tch)),
 rN E R cx ops q (fun _ l h a=>K l h a) os i l h a=(match cD E R ops q os i l h a with
  |none=>none|some (l',h',d)=>K l' h' d)
 | [],i,l,h,a=>rfl| o :: os,i,l,h,a=>by
   have g:=Cn E R cx ops q K os;show Option.rec (motive:=fun _=>Opt) none (fun b=>Bool.rec (rN E R cx ops q (fun _ l h a=>K l h a) os (i+1) (iT l o.dst (.tuple #[])) h a) (zF E R cx q o (rN E R cx ops q (fun _ l h a=>K l h a) os) i l h a) b) (uq ops l o)=_;rw [AV];simp only [cD];cases cU ops l.regs o with
   |none=>rfl| some b=>
     cases b with
     |false=>show rN E R cx ops q (fun _ l h a=>K l h a) os (i+1) (iT l o.dst (.tuple #[])) h a=_;rw [g,pI]
     | true=>
       show zF E R cx q o (rN E R cx ops q (fun _ l h a=>K l h a) os) i l h a=_;simp only [];have c: ∀f,fI E q i o.op=f->nU E R f o l h (fun v h'=>rN E R cx ops q (fun _ l h a=>K l h a) os (i+1) (iT l o.dst v) h' (iF i a (dr (l.evD (tmpsOf o.op.operands.toList)) f o.op h h')))=
        (match(match dw E R (l.evD (tmpsOf o.op.operands.toList)) (fI E q i o.op) o h with
          |none=>none|some (v,h')=>cD E R ops q os (i+1) (l.put o.dst v) h' (iF i a (dr (l.evD (tmpsOf o.op.operands.toList)) (fI E q i o.op) o.op h h')))with
          |none=>none|some (l',h',d)=>K l' h' d):=by
        intro f e;rw [e,AQ];unfold nU;cases dw E R l.ev f o h with
        |none=>rfl|some p=>obtain⟨v,h'⟩:=p;show rN E R cx ops q _ os (i+1) (iT l o.dst v) h' _=_;rw [g,pI]
       unfold zF;cases hf:uc o.op with
       | false=>show zT E R (uw E q i o.op) o l h _=_;rw [elseDK_eq,yC];exact c _ rfl| true=>
         have k: ∀b (h h':Hp),dr (l.evD (tmpsOf o.op.operands.toList)) b o.op h h'=zo l o.op:=(by intro b h h';have j:ic o.op=false:=(by cases m:o.op<;>first|rfl|(rw [m]at hf;simp [uc]at hf));unfold dr zo mU;rw [DH hf,j];rfl);simp only [k]at c⊢;cases e:uw E q i o.op with
         | true=>rw [yC]at e;exact c true e| false=>
           rw [yC]at e;show opK o.op E R cx o.dst l h _ _=_;rw [opK_eq,(fast_step (R:=R) hf (K:=fun _ _=>none)).2,AQ,e];cases dw E R l.ev false o h with
           |none=>rfl|some p=>obtain⟨v,h'⟩:=p;simp only [];rw [g]
theorem codeK_eq(E:Env)(R:Rec)(M:CodeM)(D: ∀cx c l h d g,M cx c l h d g=eZ (R.code cx c l h) d g)(cx:Cx): ∀(c:Code) (l:Loc) (h:Hp) (d:Loc->Hp->Opt) (g:Ex->Loc->Hp->Opt),
 qu E R M cx c l h d g=eZ (aX E R cx c l h) d g:=by
 intro c
 induction c with
 |skip=>intro l h d g;rfl|label n=>intro l h d g;rfl| region id j s=>
   intro l h d g;cases s with
   |false=>exact opsK_eq E R cx j.toList d g j.toList l h| true=>
     show(Bool.rec (motive:=fun _=>Opt) (drawK E R cx j.toList l h d) (eZ (cutD E R cx j.toList l h) d g) (E.cut cx.fn):Opt)=_;simp only [aX,cond_true];cases E.cut cx.fn with
     |true=>rfl|false=>
     show drawK E R cx j.toList l h d=_;simp only [cond_false];unfold drawK drawKo;generalize dy j.toList=r;cases im E r with
     |none=>rfl| some p=>
       obtain⟨q,u⟩:=p;show rN E R cx r q (fun _ l h B=>Bool.rec none (d l h) (dH B u)) r 0 l h []=_;rw [Cn E R cx r q (fun l h B=>Bool.rec none (d l h) (dH B u))];simp only [];cases cD E R r q r 0 l h []with
       |none=>rfl| some x=>
         obtain⟨a,b,c⟩:=x;simp only [];cases dH c u<;>rfl
 | seq a b k o=>
   intro l h d g;show qu E R M cx a l h (fun l h=>qu E R M cx b l h d g) g=_;rw [k,show(fun l h=>qu E R M cx b l h d g)=fun l h=>eZ (aX E R cx b l h) d g from funext fun l=>funext fun h=>o l h d g];rw [uW _ _ _ _ _ (fun _ _ _ _=>rfl)];simp only [aX];cases aX E R cx a l h with
   |none=>rfl|some q=>obtain⟨e,z,A⟩:=q;cases e<;>rfl
 | cond c a b k o=>
   intro l h d g;show Option.rec (motive:=fun _=>Opt) none (fun t=>Bool.rec (qu E R M cx b l h d g) (qu E R M cx a l h d g) t) (asBool (evK l c))=_;rw [iN,k,o];simp only [aX];cases l.ev c<;>(try rfl);rename_i t;cases t<;>rfl
 | block id b w=>
   intro l h d g;show qu E R M cx b l h d (fun e l h=>blkK e id d g l h)=_;rw [w];simp only [aX];cases aX E R cx b l h with
   |none=>rfl| some q=>
     obtain⟨e,z,A⟩:=q;cases e with
     |normal=>rfl|ret=>rfl|pan v=>rfl| exit i=>
       show Bool.rec (motive:=fun _=>Opt) (g (.exit i) z A) (d z A) (Xh i id)=_;simp only [];cases Xh i id<;>rfl
 | loop b w=>
   intro l h d g;show qu E R M cx b l h (fun l h=>M cx (.loop b) l h d g) g=_;rw [w,show(fun l h=>M cx (.loop b) l h d g)=fun l h=>eZ (R.code cx (.loop b) l h) d g from funext fun l=>funext fun h=>D cx (.loop b) l h d g];rw [uW _ _ _ _ _ (fun _ _ _ _=>rfl)];simp only [aX];cases aX E R cx b l h with
   |none=>rfl|some q=>obtain⟨e,z,A⟩:=q;cases e<;>rfl
 | rangeFunc f u C y _ _=>intro l h d g;show eZ (jS R cx (evK l f) u C y l h) d g=_;rw [iN];rfl|exit id=>intro l h d g;rfl|scope b w=>intro l h d g;exact w l h d g|goto n=>intro l h d g;rfl|ret=>intro l h d g;rfl|refuse m=>intro l h d g;rfl
theorem C7(E:Env)(R:Rec)(a:Func)(l:Loc)(h:Hp):doneK E R a l h=yb E R a l h:=by
 unfold doneK yb;cases b:l.dfs with
 |cons d c=>rfl| nil=>
   simp only [cM];cases cu E l.regs h a.results.toList<;>rfl
theorem callBK_eq(E:Env)(R:Rec)(f:FuncId)(args:List Value)(rc:Option (Value×Bool))(h:Hp):callBK E R f args rc h=mP E R f args rc h:=by
 unfold callBK mP;cases E.fn f with
 |none=>rfl| some b=>
   show Option.rec (motive:=fun _=>qV) none (fun a=>yY E R f args rc h b a) b.body=_;simp only [];cases b.body with
   |none=>rfl| some a=>
     show yY E R f args rc h b a=_;unfold yY;simp only [];cases Xf args.length b.ntmps with
     |false=>rfl| true=>
       show leaveK E R b _=_;simp only [cond_true];cases R.code ⟨f,b.ntmps,none⟩ a ⟨(Tr.blank (.tuple #[]) b.ntmps b.ntmps).setAll 0 args,[],rc⟩ h with
       |none=>rfl| some q=>
         obtain⟨e,l,c⟩:=q;cases e with
         |exit i=>rfl|pan v=>rfl|normal=>exact C7 E R b l c|ret=>exact C7 E R b l c
theorem callSK_eq(E:Env)(R:Rec)(f:FuncId)(args:List Value)(rc:Option (Value×Bool))(h:Hp):y5 E R f args rc h=jU E R f args rc h:=by
 unfold y5 jU;cases E.orc f args with
 |none=>exact callBK_eq E R f args rc h|some v=>cases rc<;>rfl
theorem BO(E:Env): ∀n,(runK E n).rec'=run E n/\ ∀cx c l h b d,(runK E n).code cx c l h b d=eZ ((run E n).code cx c l h) b d
 |0=>⟨rfl,fun _ _ _ _ _ _=>rfl⟩
 | n+1=>by
   obtain⟨i,k⟩:=BO E n;have j: ∀cx c l h b d,(runK E (n+1)).code cx c l h b d=eZ ((run E (n+1)).code cx c l h) b d:=(by intro cx c l h b d;show qu E (runK E n).rec' (runK E n).code cx c l h b d=eZ (aX E (run E n) cx c l h) b d;rw [i];exact codeK_eq E (run E n) (runK E n).code k cx c l h b d);refine⟨?_,j⟩;show Rec.mk (fun f a g h=>y5 E (runK E n).rec' f a g h) (fun cx c l h=>(runK E (n+1)).code cx c l h (fun l h=>some (.normal,l,h)) (fun e l h=>some (e,l,h)))=next E (run E n)
   rw [i];unfold next
   congr 1
   . funext f a g h;exact callSK_eq E (run E n) f a g h
   . funext cx c l h;rw [j,bind2_id];rfl
theorem runK_call(E:Env)(n:Nat)(f:FuncId)(args:List Value)(rc:Option (Value×Bool))(h:Hp):(runK E n).call f args rc h=(run E n).call f args rc h:=by rw [<-(BO E n).1];rfl
theorem envK_eq(a:Tr Func)(b:Tr TypeInfo)(c:List Nat):envK a b c=envOf a b c:=rfl
end
section
variable{E:Env}{ρ:Operand->Value}{h:Hp}
theorem o_move:aop E ρ h (.move x)=some (.val (ρ x),h):=rfl
theorem o_assign:aop E ρ h (.assign x)=some (.val (ρ x),h):=rfl
theorem o_load{t:TypeId}{a:Operand}:aop E ρ h (.load t a)=dp h (gm E h t (ρ a)):=rfl
theorem o_store{t:TypeId}{a:Operand}:aop E ρ h (.store t a x)=iH (jT E h t (ρ a) (ρ x)):=rfl
theorem o_binOp{op:BinOp}{t u:TypeId}:aop E ρ h (.binOp op t x y u)=dp h (bQ E op t x y (ρ x) (ρ y)):=rfl
theorem o_unOp{op:UnOp}{t:TypeId}:aop E ρ h (.unOp op t x)=dp h (unP op (ρ x)):=rfl
theorem E8{a b:Array Operand}:aop E ρ h (.makeFunc (.func f) a b)=some (.val (.func (.func f) (a.map ρ) (b.map ρ)),h):=rfl
theorem o_slice{t:TypeId}{l u m:Option Operand}:aop E ρ h (.slice t x l u m)=dp h (cZ E t (ρ x) (l.map ρ) (u.map ρ) (m.map ρ)):=rfl
theorem Ee{s:TypeId}:aop E ρ h (.fieldAddr s x i)=dp h (aN E s (ρ x) i):=rfl
theorem o_field{s:TypeId}:aop E ρ h (.field s x i)=dp h (bZ E s (ρ x) i):=rfl
theorem Ec{t:TypeId}{i:Operand}:aop E ρ h (.indexAddr t x i)=dp h (gu E t (ρ x) (ρ i)):=rfl
theorem o_index{t:TypeId}{i:Operand}:aop E ρ h (.index t x i)=dp h (kZ E t (ρ x) (ρ i)):=rfl
theorem o_build{t:TypeId}{ps:Array (Nat×Operand)}:aop E ρ h (.build t ps)=dp h (nR E t (ps.toList.map fun p=>(p.1,ρ p.2))):=rfl
theorem Db{t:TypeId}{ps:Array (Nat×Operand)}:aop E ρ h (.buildSlice t n ps)=dK (li E h t n (ps.toList.map fun p=>(p.1,ρ p.2))):=rfl
theorem D8{t:TypeId}{l c:Operand}:aop E ρ h (.makeSlice t l c)=dK (kP E h t (ρ l) (ρ c)):=rfl
theorem BQ{s t:TypeId}{a:Bool}:aop E ρ h (.typeAssert x s t a)=dp h (rX E (ρ x) t a):=rfl
theorem o_convert{s t:TypeId}:aop E ρ h (.convert s t x)=dK (aV E h s t (ρ x)):=rfl
theorem o_lookup{t:TypeId}{m k:Operand}{a:Bool}:aop E ρ h (.lookup t m k a)=dp h (fi E h t (ρ m) (ρ k) a):=rfl
theorem DZ{t:TypeId}{m k v:Operand}:aop E ρ h (.mapUpdate t m k v)=iH (ki E h t (ρ m) (ρ k) (ρ v)):=rfl
theorem E0{t:TypeId}{m k:Operand}:aop E ρ h (.mapEntry t m k)=dK (k9 E h t (ρ m) (ρ k)):=rfl
theorem Dr{t:TypeId}{m s v:Operand}:aop E ρ h (.entryStore t m s v)=iH (oI h (ρ m) (ρ s) (ρ v)):=rfl
theorem o_callv{f:Operand}{ts:Array TypeId}:aop E ρ h (.call ⟨.value f,as,ts⟩)=match target (ρ f) (as.toList.map ρ)with|none=>none|some x=>some (x,h):=rfl
theorem o_max{ts:Array TypeId}:aop E ρ h (.call ⟨.builtin .max,#[x,y],ts⟩)=dp h (iY true (ρ x) [ρ y]):=rfl
theorem o_min{ts:Array TypeId}:aop E ρ h (.call ⟨.builtin .min,#[x,y],ts⟩)=dp h (iY false (ρ x) [ρ y]):=rfl
theorem o_append{s:Operand}{ts:Array TypeId}:aop E ρ h (.call ⟨.builtin .append,#[s,x],ts⟩)=dK (dP E h ts.toList (ρ s) (ρ x)):=rfl
theorem o_copy{s:Operand}{ts:Array TypeId}:aop E ρ h (.call ⟨.builtin .copy,#[s,x],ts⟩)=dK (copyV E h ts.toList (ρ s) (ρ x)):=rfl
end
theorem Fi:dp h (some v)=some (.val v,h):=rfl
theorem EK:dK (some (h,v))=some (.val v,h):=rfl
theorem Et:iH (some h)=some (.skip,h):=rfl
theorem fU(k:IntKind):kr k k=true:=by rw [jf];simp
theorem b_add{t:TypeId}{k:IntKind}{n:Int}:bQ E .add t x y (.int k m) (.int k n)=some (.int k (am k (m+n))):=by simp [bQ,fU,ju]
theorem b_sub{t:TypeId}{k:IntKind}{n:Int}:bQ E .sub t x y (.int k m) (.int k n)=some (.int k (am k (m-n))):=by simp [bQ,fU,ju]
theorem b_mul{t:TypeId}{k:IntKind}{n:Int}:bQ E .mul t x y (.int k m) (.int k n)=some (.int k (am k (m*n))):=by simp [bQ,fU,ju]
theorem oG(m n:Int):iW m n=decide (m=n):=by rw [jh];by_cases h:m=n<;>simp [h]
theorem b_eql{t:TypeId}{k:IntKind}{n:Int}:bQ E .eql t x y (.int k m) (.int k n)=some (.bool (decide (m=n))):=by simp [bQ,fU,ju,oG]
theorem b_neq{t:TypeId}{k:IntKind}{n:Int}:bQ E .neq t x y (.int k m) (.int k n)=some (.bool (!decide (m=n))):=by simp [bQ,fU,ju,oG]
theorem b_lss{t:TypeId}{k:IntKind}{n:Int}:bQ E .lss t x y (.int k m) (.int k n)=some (.bool (decide (m<n))):=by simp [bQ,fU,ju,jE]
theorem b_leq{t:TypeId}{k:IntKind}{n:Int}:bQ E .leq t x y (.int k m) (.int k n)=some (.bool (decide (m<=n))):=by
 simp only [bQ,fU,ju,jE,cond_true];by_cases a:m<=n
 . rw [decide_eq_true a,decide_eq_false (by omega)];rfl
 . rw [decide_eq_false a,decide_eq_true (by omega)];rfl
theorem b_gtr{t:TypeId}{k:IntKind}{n:Int}:bQ E .gtr t x y (.int k m) (.int k n)=some (.bool (decide (n<m))):=by simp [bQ,fU,ju,jE]
theorem b_geq{t:TypeId}{k:IntKind}{n:Int}:bQ E .geq t x y (.int k m) (.int k n)=some (.bool (decide (n<=m))):=by
 simp only [bQ,fU,ju,jE,cond_true];by_cases a:n<=m
 . rw [decide_eq_true a,decide_eq_false (by omega)];rfl
 . rw [decide_eq_false a,decide_eq_true (by omega)];rfl
theorem iD{t:TypeId}{k:IntKind}{n:Int}(h:n≠0):bQ E .quo t x y (.int k m) (.int k n)=some (.int k (am k (m.tdiv n))):=by simp [bQ,fU,ju,oG,h]
theorem fS{t:TypeId}{k:IntKind}{n:Int}(h:n≠0):bQ E .rem t x y (.int k m) (.int k n)=some (.int k (m.tmod n)):=by simp [bQ,fU,ju,oG,h]
theorem mm_max{k:IntKind}{a b:Int}:iY true (.int k a) [.int k' b]=some (.int k (max a b)):=by
 simp only [iY,jE,cond_true];by_cases h:a<b
 . rw [decide_eq_true h];simp only [cond_true];rw [Int.max_eq_right (by omega)]
 . rw [decide_eq_false h];simp only [cond_false];rw [Int.max_eq_left (by omega)]
theorem mm_min{k:IntKind}{a b:Int}:iY false (.int k a) [.int k' b]=some (.int k (min a b)):=by
 simp only [iY,jE,cond_false];by_cases h:b<a
 . rw [decide_eq_true h];simp only [cond_true];rw [Int.min_eq_right (by omega)]
 . rw [decide_eq_false h];simp only [cond_false];rw [Int.min_eq_left (by omega)]
theorem jb{t:TypeId}{b o:Nat}(a:E.agg t=some false)(c:h.load b o 1=some [v]):gm E h t (.pointer (some ⟨b,o,s⟩))=some v:=by simp [gm,a,c]
theorem wrap64{n:Int}(a: -9223372036854775808<=n)(b:n<9223372036854775808):am .i64 n=n:=by
 unfold am;cases n with
 | ofNat m=>have:XL m (hf .i64)=true:=(by rw [XX];simp only [hf];have c:(m:Int)<9223372036854775808:=b;omega);simp only [this,cond_true]| negSucc m=>have:XL m (hf .i64)=true:=(by rw [XX];simp only [hf];have: -9223372036854775808<=Int.negSucc m:=a;omega);simp only [sgn,this,cond_true]
theorem xM{c:Type}{a:c}{P:c->Prop}:(∃b,some a=some b/\P b)↔P a:=⟨fun⟨b,d,e⟩=>by cases d;exact e,fun h=>⟨a,rfl,h⟩⟩
theorem Eb{a:Bool}{P:Bool->Prop}:(∃t,Value.bool a=Value.bool t/\P t)↔P a:=⟨fun⟨b,c,d⟩=>by cases c;exact d,fun h=>⟨a,rfl,h⟩⟩
theorem ct:cC (v::l) 0=v:=rfl
theorem cP:cC (v::l) (i+1)=cC l i:=rfl
section
variable{l:Loc}
theorem c_int{k:IntKind}{n:Int}:l.ev (.const (.int k n))=.int k n:=rfl
theorem c_bool{b:Bool}:l.ev (.const (.bool b))=.bool b:=rfl
theorem c_string{s:ByteArray}:l.ev (.const (.string s))=.string s:=rfl
theorem c_nilp:l.ev (.const (.pointer none))=.pointer none:=rfl
theorem c_nils:l.ev (.const (.slice none 0 0))=.slice none 0 0:=rfl
theorem c_nilm:l.ev (.const (.map none))=.map none:=rfl
theorem c_nilf:l.ev (.const .nilFunc)=.nilFunc:=rfl
theorem c_nili:l.ev (.const .nilIface)=.nilIface:=rfl
end
def one1:Option (List Value)->Option Value
 |some [v]=>some v|_=>none
theorem one1_some:one1 (some [v])=some v:=rfl
theorem Fm{t:TypeId}{b o:Nat}(a:E.agg t=some false):gm E h t (.pointer (some ⟨b,o,s⟩))=one1 (h.load b o 1):=by simp only [gm,a];unfold one1;rfl
def gv(a:Bool):Option Value->Option Bool
 |some (.bool b)=>some (bif b then a else !a)
 |some (.tuple _)=>some false|_=>none
noncomputable def gj(a:Bool)(b:Tr Value):Option Oper->Option Bool
 |none=>some false| some o=>match o.dst with
   |none=>some false|some d=>gv a (b.get d)
theorem E7{c:Tr Value}{d:Option Tmp}{t:TypeId}{p:String}{e:Array Edge}{b:Bool}:cU a c ⟨d,op,t,p,e,some (j,b)⟩=gj b c (a[j]?):=by
 simp only [cU,gj];cases a[j]? with
 |none=>rfl| some o=>
   simp only [];cases o.dst with
   |none=>rfl| some d=>
     simp only [gv];cases c.get d with
     |none=>rfl|some v=>cases v<;>rfl
theorem gj_some{a:Bool}{b:Tr Value}{d:Tmp}{t:TypeId}{p:String}{c:Array Edge}{g:Option (Nat×Bool)}:gj a b (some ⟨some d,op,t,p,c,g⟩)=gv a (b.get d):=rfl
theorem gv_true{b:Bool}:gv true (some (.bool b))=some b:=by cases b<;>rfl
theorem gv_false{b:Bool}:gv false (some (.bool b))=some (!b):=by cases b<;>rfl
theorem gv_tuple{a:Bool}{x:Array Value}:gv a (some (.tuple x))=some false:=rfl
theorem u_not{b:Bool}:unP .not (.bool b)=some (.bool (!b)):=rfl
theorem target_fn{a b:Array Value}:target (.func (.func g) a b) args=some (.call g (a.toList++args++b.toList)):=rfl
def cj(E:Env)(f:FuncId)(args:List Value)(h:Hp)(v:Value):Prop:=Ret E f args h fun a b=>a=v/\Gr h b
theorem d9{Q:dW}{k:List Fr}{l:Loc}{b:Code}:Run E (lim E) cx Q (.code (.loop b)::k) .normal l h↔Run E (lim E) cx Q (.code b:: .code (.loop b)::k) .normal l h:=by
 rw [<-uf];simp only [Run];have:aX E (lim E) cx (.loop b) l h=aX E (lim E) cx (.seq b (.loop b)) l h:=by
  simp only [aX];cases aX E (lim E) cx b l h with
  |none=>rfl| some q=>
    obtain⟨e,a,c⟩:=q;cases e with
    |normal=>show(lim E).code cx (.loop b) a c=_;rw [Ag];rfl|exit i=>rfl|ret=>rfl|pan v=>rfl
 rw [this]
def lenK(r:Option (d6×Hp))(h:Hp):Option Value->Option (d6×Hp)
 |some v=>some (.val v,h)|none=>r
theorem o_lenK{t:TypeId}:aop E ρ h (.call ⟨.builtin .len,#[x],#[t]⟩)=lenK (match ρ x with
 | .map (some r)=>match h.get r with
   |some (.map a _)=>match E.und t with
    |some (.map _ _)=>some (.val (.int .i64 (.ofNat a.length)),h)|_=>none
   |_=>none
 |_=>none) h (lenP E t (ρ x)):=by
 simp only [aop,pop];cases lenP E t (ρ x)with
 |some v=>rfl| none=>
   simp only [lenK];cases ρ x<;>rfl
theorem natOf_nn{i:Int}(h:0<=i):gM i=some i.toNat:=by
 cases i with
 |ofNat n=>rfl|negSucc n=>exact absurd h (by simp)
theorem idxP_in{k:IntKind}{i:Int}(a:0<=i)(b:i<n):i7 (.int k i) n=some i.toNat:=by
 simp only [i7,natOf_nn a];have:XL i.toNat n=true:=by rw [XX];omega
 rw [this];rfl
theorem ey{k:IntKind}(a:i<n):i7 (.int k (i:Int)) n=some i:=by rw [idxP_in (Int.natCast_nonneg i) (by omega)];simp
theorem ia_slice{t e:TypeId}{a:Addr}(b:E.und t=some (.slice e))(hs:E.sz e=some k):gu E t (.slice (some a) n c) v=(i7 v n).map fun i=>.pointer (some (iR a (i*k))):=by simp only [gu,b,hs];cases i7 v n<;>rfl
theorem ar{l:Loc}{K:Ex->Loc->Hp->Prop}(a:cj E f args h v)(b: ∀h',Gr h h'->K .normal (l.put o.dst v) h'):gK E cx o l K (some (.call f args,h)):=
 step_ret a fun c h' ⟨e,g⟩=>by rw [e];exact b h' g
theorem zP(a:cj E f args h v)(b: ∀h',Gr h h'->K v h'):mj E K (some (.call f args,h)):=
 Bc a fun c h' ⟨e,g⟩=>by rw [e];exact b h' g
section
variable(E:Env)(cx:Cx)(Q:dW)
def GStep(a:List Oper)(o:Oper)(os:List Oper)(k:List Fr)(l:Loc)(h:Hp):Option Bool->Prop
 |some true=>gK E cx o l (fun e b c=>Run E (lim E) cx Q (.ops a os::k) e b c) (aop E l.ev h o.op)
 |some false=>Run E (lim E) cx Q (.ops a os::k) .normal (l.put o.dst (.tuple #[])) h|none=>False
def CStep(a b:Code)(k:List Fr)(l:Loc)(h:Hp):Value->Prop
 | .bool true=>Run E (lim E) cx Q (.code a::k) .normal l h| .bool false=>Run E (lim E) cx Q (.code b::k) .normal l h|_=>False
def y8(a:List Oper)(q:Nat)(ps:List (Nat×Nat))(o:Oper)(os:List Oper)(i:Nat)(c:List (Nat×Tch))(k:List Fr)(l:Loc)(h:Hp):Option Bool->Bool->Prop
 |some true,false=>mj E (fun v b=>Run E (lim E) cx Q (.opsD a q ps os (i+1) (iF i c (dr l.ev false o.op h b))::k) .normal (l.put o.dst v) b) (aop E l.ev h o.op)
 |some true,true=>mj E (fun v b=>Xf h.n b.lo=true/\Run E (lim E) cx Q (.opsD a q ps os (i+1) (iF i c (dr l.ev true o.op h h))::k) .normal (l.put o.dst v) {b with lo:=h.lo}) (aop E l.ev {h with lo:=h.n} o.op)
 |some false,_=>Run E (lim E) cx Q (.opsD a q ps os (i+1) c::k) .normal (l.put o.dst (.tuple #[])) h|none,_=>False
end
section
variable{E:Env}{cx:Cx}{Q:dW}{k:List Fr}{l:Loc}{h:Hp}
theorem r_ops:Run E (lim E) cx Q (.ops a (o::os)::k) .normal l h↔GStep E cx Q a o os k l h (cU a l.regs o):=by
 rw [Dy];cases cU a l.regs o with
 |none=>exact⟨fun⟨_,e,_⟩=>(by cases e),fun h=>h.elim⟩
 | some b=>
   rw [xM];cases b with
   |true=>rw [if_pos rfl];exact then_step|false=>rw [if_neg (by simp)];exact Xi
theorem g_true:GStep E cx Q a o os k l h (some true)↔gK E cx o l (fun e l' h'=>Run E (lim E) cx Q (.ops a os::k) e l' h') (aop E l.ev h o.op):=Xi
theorem g_false:GStep E cx Q a o os k l h (some false)↔Run E (lim E) cx Q (.ops a os::k) .normal (l.put o.dst (.tuple #[])) h:=Xi
theorem r_cond{c:Operand}{a b:Code}:Run E (lim E) cx Q (.code (.cond c a b)::k) .normal l h↔CStep E cx Q a b k l h (l.ev c):=by
 rw [run_cond];cases l.ev c<;>(try (exact⟨fun⟨_,e,_⟩=>(by cases e),fun h=>h.elim⟩));rename_i t;rw [Eb];cases t with
 |true=>rw [if_pos rfl];exact Xi|false=>rw [if_neg (by simp)];exact Xi
theorem c_true{a b:Code}:CStep E cx Q a b k l h (.bool true)↔Run E (lim E) cx Q (.code a::k) .normal l h:=Xi
theorem c_false{a b:Code}:CStep E cx Q a b k l h (.bool false)↔Run E (lim E) cx Q (.code b::k) .normal l h:=Xi
theorem r_opsD{c:List (Nat×Tch)}:Run E (lim E) cx Q (.opsD a q ps (o::os) i c::k) .normal l h↔y8 E cx Q a q ps o os i c k l h (cU a l.regs o) (fI E q i o.op):=by
 rw [run_opsD];cases cU a l.regs o with
 |none=>exact⟨fun⟨_,e,_⟩=>(by cases e),fun h=>h.elim⟩
 | some b=>
   rw [xM];cases b with
   | true=>
     rw [if_pos rfl];cases fI E q i o.op with
     |true=>rw [if_pos rfl];exact Xi|false=>rw [if_neg (by simp)];exact Xi
   |false=>rw [if_neg (by simp)];exact Xi
theorem d_skip{c:List (Nat×Tch)}{b:Bool}:y8 E cx Q a q ps o os i c k l h (some false) b↔Run E (lim E) cx Q (.opsD a q ps os (i+1) c::k) .normal (l.put o.dst (.tuple #[])) h:=Xi
theorem kQ{a:List (Nat×Tch)}:iF i a none=a:=rfl
theorem aO{b:Tch}{a:List (Nat×Tch)}:iF i a (some b)=(i,b)::a:=rfl
theorem aZ{a:List (Nat×Tch)}:dH a []=true:=rfl
theorem guard_no{b:Tr Value}{d:Option Tmp}{t:TypeId}{p:String}{c:Array Edge}:cU a b ⟨d,op,t,p,c,none⟩=some true:=rfl
end
theorem b_eqlB{t:TypeId}{a b:Bool}(c:E.und t=some .bool):bQ E .eql t x y (.bool a) (.bool b)=some (.bool (bif a then b else !b)):=by simp [bQ,iq,fo,c]
theorem b_neqB{t:TypeId}{a b:Bool}(c:E.und t=some .bool):bQ E .neq t x y (.bool a) (.bool b)=some (.bool (!(bif a then b else !b))):=by simp [bQ,iq,fo,c]
theorem same_bool{d:Bool}:(bif d then d else !d)=true:=by cases d<;>rfl
noncomputable def boxR(h:Hp)(t:TypeId):Value->Option (d6×Hp)
 | .chan _=>none|v=>some (.val (ptrTo h.n),h.new (.cells (Tr.ofList (ae v)) (ae v).length t 1))
theorem o_boxR{t:TypeId}:aop E ρ h (.box t x)=boxR h t (ρ x):=by simp only [aop];cases ρ x<;>rfl
noncomputable def allocR(h:Hp)(t:TypeId):Option (List Value)->Option (d6×Hp)
 |none=>none|some z=>some (.val (ptrTo h.n),h.new (.cells (Tr.ofList z) z.length t 1))
theorem o_allocR{t:TypeId}:aop E ρ h (.alloc t)=allocR h t (E.zero t):=by simp only [aop];cases E.zero t<;>rfl
section
variable{E:Env}{cx:Cx}{o:Oper}{l:Loc}{K:Ex->Loc->Hp->Prop}{h:Hp}
theorem aB{ops:List Oper}(h:((ops.any wQ||wC ops)&&ops.all (jH ops.length))=false):dy ops=ops:=by unfold dy;rw [h];rfl
theorem av{Q:dW}{k:List Fr}{id:Nat}(b:dy ops.toList=os)(c:im E os=some (q,ps))(d:Run E (lim E) cx Q (.opsD os q ps os 0 []::k) .normal l h)(a:E.cut cx.fn=false:=by rfl):Run E (lim E) cx Q (.code (.region id ops true)::k) .normal l h:=(run_draw a b c).2 d
theorem uI{ops:List Oper}(h:qZ ops=ord)(a:gQ ops ord ord=os):lV ops=os:=by unfold lV;rw [h,a]
theorem mid_step{Q:dW}{k:List Fr}{id:Nat}(c:lV ops.toList=os)(d:g9 os=n)(a:midOk E os n=true)(e:im E os=some (q,ps))(hq:XF q n=false)(f:Run E (lim E) cx Q (.opsD os q ps os 0 []::k) .normal l h)(b:E.cut cx.fn=true:=by rfl)(hf:tZ E ops.toList=false:=by rfl)(hs:oR E ops.toList=true:=by rfl):Run E (lim E) cx Q (.code (.region id ops true)::k) .normal l h:=run_mid b hf hs c d a e hq f
theorem Bg{Q:dW}{k:List Fr}{id:Nat}{c:Oper}(d:lV ops.toList=os)(e:g9 os=n)(f:im E os=some (q,ps))(hq:XF q n=false)(g:os[n]? =some c)(i:os.take n=a)(j:Run E (lim E) cx Q (.opsD os q [] a 0 []:: .midP c os l::k) .normal l h)(b:E.cut cx.fn=true:=by rfl)(hf:tZ E ops.toList=false:=by rfl)(hs:oR E ops.toList=true:=by rfl):Run E (lim E) cx Q (.code (.region id ops true)::k) .normal l h:=by
 subst i;exact run_midP b hf hs d e f hq g j
theorem rJ{Q:dW}{k:List Fr}{id:Nat}(hs:lN ops.toList (ops.toList.length-1)=true)(c:cutN ops.toList=n)(d:dy (ops.toList.take n)=os)(e:im E os=some (q,ps))(f:Run E (lim E) cx Q (.opsD os q ps os 0 []:: .ops ops.toList (ops.toList.drop n)::k) .normal l h)(a:E.cut cx.fn=true:=by rfl)(hf:tZ E ops.toList=false:=by rfl)(b:oR E ops.toList=false:=by rfl):Run E (lim E) cx Q (.code (.region id ops true)::k) .normal l h:=run_split a hs hf b c d e f
end
theorem quiet_ok(g:Gr {h with lo:=h.n} h'):Xf h.n h'.lo=true:=g.hlo
theorem gr_lo(g:Gr {h with lo:=h.n} h'):Gr h {h' with lo:=h.lo}:=
 ⟨g.ok0,g.ok,g.n,g.get,fun _ _ h=>h⟩
theorem hush_s:fI E q i op=(decide (q/2 ^i%2=1)&&decide (3<=cls E op)):=by unfold fI;rw [Nat.testBit_eq_decide_div_mod_eq,fH]
theorem D6(a:cj E f args {h with lo:=h.n} v)(b: ∀h',Gr h h'->K v h'):mj E (fun v h'=>Xf h.n h'.lo=true/\K v {h' with lo:=h.lo}) (some (.call f args,{h with lo:=h.n})):=
 zP a fun h' g=>⟨quiet_ok g,b _ (gr_lo g)⟩
section
variable(E:Env)(cx:Cx)(Q:dW)(a:List Oper)(q:Nat)(ps:List (Nat×Nat))(o:Oper)(os:List Oper)(i:Nat)(k:List Fr)(l:Loc)
def DN(c:Hp->List (Nat×Tch))(x:Option (d6×Hp)):Prop:=mj E (fun v b=>Run E (lim E) cx Q (.opsD a q ps os (i+1) (c b)::k) .normal (l.put o.dst v) b) x
def MP(b:List Oper)(d:Loc)(x:Option (d6×Hp)):Prop:= ∃v c,dc E (lim E) x=some (.pan v,c)/\Run E (lim E) cx Q k (.pan v) (pJ b d) c
def DQ(h:Hp)(c:List (Nat×Tch))(x:Option (d6×Hp)):Prop:=mj E (fun v b=>Xf h.n b.lo=true/\Run E (lim E) cx Q (.opsD a q ps os (i+1) c::k) .normal (l.put o.dst v) {b with lo:=h.lo}) x
end
section
variable{E:Env}{cx:Cx}{Q:dW}{a:List Oper}{q:Nat}{ps:List (Nat×Nat)}{o:Oper}{os:List Oper}{i:Nat}{k:List Fr}{l:Loc}{h:Hp}{tr:List (Nat×Tch)}{tf:Hp->List (Nat×Tch)}
theorem run_mp{c:Loc}{b:List Oper}:Run E (lim E) cx Q (.midP o b c::k) .normal l h↔MP E cx Q k b c (aop E l.ev h o.op):=by show(∃v d,dc E (lim E) (aop E (l.evD (tmpsOf o.op.operands.toList)) h o.op)=some (.pan v,d)/\Run E (lim E) cx Q k (.pan v) (pJ b c) d)↔_;rw [ul (uk l o.op)];rfl
theorem mp_pan{d:Loc}{c:List Oper}{P:Out->Option (Value×Bool)->Hp->Prop}(e:dE E f args none h P)(g: ∀x rc h',P x rc h'-> ∃v,x=.pan v/\Run E (lim E) cx Q k (.pan v) (pJ c d) h'):MP E cx Q k c d (some (.call f args,h)):=by obtain⟨x,rc,h',a,b⟩:=e;obtain⟨v,rfl,r⟩:=g x rc h' b;refine⟨v,h',?_,r⟩;simp only [dc,a]
theorem dn_loud:y8 E cx Q a q ps o os i tr k l h (some true) false↔DN E cx Q a q ps o os i k l (fun h'=>iF i tr (dr l.ev false o.op h h')) (aop E l.ev h o.op):=Xi
theorem dn_quiet:y8 E cx Q a q ps o os i tr k l h (some true) true↔DQ E cx Q a q ps o os i k l h (iF i tr (dr l.ev true o.op h h)) (aop E l.ev {h with lo:=h.n} o.op):=Xi
theorem dn_val:DN E cx Q a q ps o os i k l tf (some (.val v,h'))↔Run E (lim E) cx Q (.opsD a q ps os (i+1) (tf h')::k) .normal (l.put o.dst v) h':=Xi
theorem dn_skip:DN E cx Q a q ps o os i k l tf (some (.skip,h'))↔Run E (lim E) cx Q (.opsD a q ps os (i+1) (tf h')::k) .normal (l.put o.dst (.tuple #[])) h':=Xi
theorem cF{P:Value->Hp->Prop}(b:Ret E f args h P)(c: ∀v h',P v h'->Run E (lim E) cx Q (.opsD a q ps os (i+1) (tf h')::k) .normal (l.put o.dst v) h'):DN E cx Q a q ps o os i k l tf (some (.call f args,h)):=Bc b c
theorem da(b:cj E f args h v)(c: ∀h',Gr h h'->Run E (lim E) cx Q (.opsD a q ps os (i+1) (tf h')::k) .normal (l.put o.dst v) h'):DN E cx Q a q ps o os i k l tf (some (.call f args,h)):=zP b c
theorem dq_pure(b:cj E f args {h with lo:=h.n} v)(c: ∀h',Gr h h'->Run E (lim E) cx Q (.opsD a q ps os (i+1) tr::k) .normal (l.put o.dst v) h'):DQ E cx Q a q ps o os i k l h tr (some (.call f args,{h with lo:=h.n})):=D6 b c
end
theorem ah{b:Nat}:ptrTo b=.pointer (some ⟨b,0,none⟩):=rfl
section
open Go.ChangeShapes Go.WideShapes Go.RowKit
theorem len2{c:Type}{l:List c}(h:l.length=2): ∃a b,l=[a,b]:=by
 match l,h with
 | [a,b],_=>exact⟨a,b,rfl⟩
section
variable{H:Type}{enc:TypeId×Value->H}{P:Program}
theorem vk(f:laidOutB P=true){W g:World}(i:Below W.heap.size W g): ∀{ts:List TypeId} {vs:List Value} {c:List (DataW H)} {ps:List MemPlace},(ts.all fun t=>P.readableRec t&&decide (t<P.types.size))=true->
 DataW.TrodAll enc P W 0 (fun _=>true) true ts vs c ps->(∀x∈ps,x.block<W.heap.size)->DataW.TrodAll enc P g 0 (fun b=>decide (b<W.heap.size)) true ts vs c ps
 | [],vs,c,ps,_,h,_=>by
   obtain⟨rfl,rfl,rfl⟩:=trodAll_nil h;exact rfl
 | t::ts,vs,c,ps,a,h,hlt=>by obtain⟨v,j,d,k,p,q,rfl,rfl,rfl,l,m⟩:=trodAll_cons h;simp only [List.all_cons,zO,decide_eq_true_eq]at a;exact⟨p,q,Below.trod f a.1.1 a.1.2 l i (fun x e=>hlt x (by simp [e])),vk f i a.2 m (fun x e=>hlt x (by simp [e])),rfl⟩
theorem BG{f:Func}{s:ChangeSpec}{a b:Bool}{u:World}{args:Array Value}{g:List (DataW H)}{c:List MemPlace}{bt:TypeId}(y:laidOutB P=true)(k:(f.params.toList.all fun t=>P.readableRec t&&decide (t<P.types.size))=true)(v:s.vars=[])(l:DataW.Whole enc P f.params.toList s.vars a W args.toList g [] c)(d:s.fn H (g++[])={results:=[.lit (.bool true)],args:=g})(j:Below W.heap.size W u)(m:P.underlying bt=some .bool)(n:f.resultTypes=#[bt]):s.post enc P f a true b false W args (.bool true) u:=by
 have hlt:=l.lt;have o:=l;obtain⟨p,q,z,w,rfl,C,D⟩:=l;rw [v]at w;obtain⟨_,rfl⟩:=trodVars_none w;refine⟨g,[],_,[],p,[],o,?_,?_,?_,⟨j.os,j.output,fun i A=>?_⟩,fun h=>by cases h⟩
 . rw [d,n];exact trodAll_cons_mk (shut_bool m _) trodAll_mk0
 . rw [d];exact vk y j k z (fun x B=>hlt x (by simpa using B))
 . rw [d,v];rfl
 . rw [j.block i A]
   split
   . rename_i r e;rw [r]at e;cases e;exact⟨rfl,rfl,rfl,fun _ _=>rfl⟩
   . rename_i r e;rw [r]at e;cases e;exact .inr ⟨rfl,rfl⟩
   . rfl
end
end
section
open Go.ChangeShapes Go.WideShapes Go.RowKit
noncomputable section
def lW(n:Nat):Value->Value
 | .bool b=>.bool b| .int k i=>.int k i| .string s=>.string s| .pointer none=>.pointer none| .pointer (some a)=>if a.spot=none/\a.block<n then .pointer (some ⟨a.block+16,a.off,none⟩)else poison
 | .slice none 0 0=>.slice none 0 0| .slice (some a) c d=>if c<=d then(if a.spot=none/\a.block<n then .slice (some ⟨a.block+16,a.off,none⟩) c d else .slice (some ⟨0,0,none⟩) c d)else poison
 |_=>poison
def absA(n:Nat):Value->Value
 | .agg a=>.agg ⟨a.toList.map (lW n)⟩|v=>lW n v
def absO(n:Nat):Obj->Blk
 | .cells a _ _=>.cells (Tr.ofList (a.toList.map (lW n))) (a.toList.map (lW n)).length 0 0|_=>.dead
def hpW(W:World):Hp:={n:=16+W.heap.size,t:=Tr.ofList (XH 16 .dead++W.heap.toList.map (absO W.heap.size)),lo:=16+W.heap.size}
def muW(W:World):Mu:=fun b=>if b<16 then .dead else match W.heap[b-16]? with
 |some (.cells a _ _)=>.blk (b-16) 0 a.size|some _=>.dead|none=>.none
theorem hpW_ok(W:World):(hpW W).t.Sized (hpW W).n:=by
 have h:=Tr.sized_ofList (XH 16 Blk.dead++W.heap.toList.map (absO W.heap.size));have a:(XH 16 Blk.dead++W.heap.toList.map (absO W.heap.size)).length=16+W.heap.size:=by grind
 rw [a]at h;exact h
theorem hpW_dead(W:World){b:Nat}(h:b<16):(hpW W).get b=some .dead:=by show(Tr.ofList _).get b=_;rw [Tr.get_ofList,XY (by simpa using h),X3,if_pos h]
theorem wo(W:World)(c:Nat):(hpW W).get (c+16)=(W.heap[c]?).map (absO W.heap.size):=by show(Tr.ofList _).get (c+16)=_;rw [Tr.get_ofList,List.getElem?_append_right (by simp)];simp
theorem qL(W:World)(c:Nat):muW W (c+16)=match W.heap[c]? with
 |some (.cells cs _ _)=>.blk c 0 cs.size|some _=>.dead|none=>.none:=by
 rfl
theorem arel_W{a:Addr}(h:a.spot=none/\a.block<W.heap.size):fV (muW W) ⟨a.block+16,a.off,none⟩ a:=by obtain⟨b,o,s⟩:=a;grind[fV,qL,zM]
theorem vrel_V(W:World)(v:Value):aC (muW W) (lW W.heap.size v) v:=by
 cases v<;>(try exact .poison _)
 . exact .bool _
 . exact .int _ _
 . exact .string _
 . rename_i a;cases a with
   |none=>exact .nilp| some a=>
     simp only [lW]
     split
     . exact .ptr (arel_W ‹_›)
     . exact .poison _
 . rename_i a d e;cases a with
   | none=>
     cases d with
     | zero=>cases e with
       |zero=>exact .nils|succ n=>exact .poison _
     |succ n=>exact .poison _
   | some a=>
     simp only [lW]
     split
     . rename_i c
       split
       . rename_i h;refine .slice c ?_;have:=arel_W h;obtain⟨b,o,s⟩:=a;grind[fC,qL,zM]
       . refine .slice c ?_;simp_all[fC,muW,Xc]
     . exact .poison _
theorem vrel_A(W:World)(v:Value):aC (muW W) (absA W.heap.size v) v:=by
 cases v
 case agg b=>
  refine .agg (by simp) fun i x c a d=>?_;simp only [XV,XM]at a;obtain⟨y,e,rfl⟩:=a;grind[vrel_V]
 all_goals (unfold absA;exact vrel_V W _)
theorem hrelW(W:World):bE (muW W) (hpW W) W:=by
 refine⟨hpW_ok W,fun b c a e d=>?_,fun b d=>?_,fun b t c a e f l u w=>?_,fun b d=>?_⟩
 . have x:16<=b:=by
    rcases Xr b 16 with h|h
    . simp_all[muW,if_pos]
    . exact h
   obtain⟨k,rfl⟩: ∃k,b=k+16:=⟨b-16,by omega⟩;rw [qL]at d
   split at d
   next m n p q=>
    cases d;refine⟨absO W.heap.size (.cells m n p),_,by rw [wo,q];rfl,q,m,n,p,rfl,rfl,by simp,Tr.sized_ofList _,fun i v g=>?_,fun h=>absurd rfl h⟩;rw [Tr.get_ofList]at g;simp only [XV,XM]at g;obtain⟨y,z,rfl⟩:=g;grind[vrel_V]
   next=>cases d
   next=>cases d
 . rcases Xr b 16 with h|h
   . exact hpW_dead W h
   . obtain⟨k,rfl⟩: ∃k,b=k+16:=⟨b-16,by omega⟩;rw [qL]at d
     split at d
     next=>cases d
     next o r j=>
      rw [wo,j];cases o<;>first|rfl|grind
     next=>cases d
 . have s: ∀b c a e,muW W b=.blk c a e->b=c+16:=by
    intro b c a e d;rcases Xr b 16 with h|h
    . simp_all[muW,if_pos]
    . obtain⟨k,rfl⟩: ∃k,b=k+16:=⟨b-16,by omega⟩;grind[qL]
   grind
 . show b<16+W.heap.size;rcases Xr b 16 with h|h
   . omega
   . obtain⟨k,rfl⟩: ∃k,b=k+16:=⟨b-16,by omega⟩;rw [qL]at d;grind
theorem globW(W:World):oq (muW W):=by intro g a;simp_all[fV,muW,if_pos]
theorem belowW{f:Mu}(e:Ext (muW W) (hpW W) W f h' w'):Below W.heap.size W w':=by
 refine⟨e.os,e.tape,e.output,e.wsize,fun c i=>?_⟩;cases m:W.heap[c]with
 | cells g n o=>have j:W.heap[c]? =some (.cells g n o):=(by grind);have p:muW W (c+16)=.blk c 0 g.size:=(by rw [qL,j]);exact(e.ro (c+16) c 0 g.size _ _ 0 p (by rw [wo,j];rfl)).1| _ =>
   refine e.frame c i fun b l q a=>?_;rcases Xr b 16 with h|h
   . unfold muW at a;rw [if_pos h]at a;cases a
   . obtain⟨k,rfl⟩: ∃k,b=k+16:=⟨b-16,by omega⟩;rw [qL]at a
     split at a
     next r s t d=>
      cases a;rw [zM i,m]at d;cases d
     next=>cases a
     next=>cases a
theorem calls_W(d:EOk E P){args:Array Value}(h:cj E f (args.toList.map (absA W.heap.size)) (hpW W) (.bool true)):Calls P f args W fun e w'=>e=.returned (.bool true)/\Below W.heap.size W w':=by
 obtain⟨v,A,j,rfl,g⟩:=h;intro k;obtain⟨_,a⟩:=lim_ok d _ _ _ _ _ _ _ j;have l:VL (muW W) (args.toList.map (absA W.heap.size)) args.toList:=by refine⟨by simp,fun i x B a C=>?_⟩;simp only [XV,XM]at a;obtain⟨y,D,rfl⟩:=a;grind[vrel_A]
 obtain⟨m,w',c,n,F,o,G,p,q,r,s⟩:=a (muW W) W args none k .normal (hrelW W) (globW W) l trivial (.inl rfl);have:=p.normal;subst this;obtain⟨H,b,t⟩:=r;cases t;obtain⟨u,w,z⟩:=b.res;exact⟨.returned (.bool true),w',n,⟨rfl,belowW o⟩,q,s,b.mode,b.defers,b.kind,u,w,z⟩
theorem load_W{a:Addr}(c:a.spot=none)(h:W.cell? (a.add i)=some v):(hpW W).load (a.block+16) (a.off+i) 1=some [lW W.heap.size v]:=by
 obtain⟨b,o,s⟩:=a;simp only []at c;subst c;have d:(Addr.mk b o none).add i=⟨b,o+i,none⟩:=by grind[Addr.add]
 rw [d]at h;unfold World.cell? at h;simp only []at h
 split at h
 next e k l f=>
  have g:Row (hpW W) (b+16) (e.toList.map (lW W.heap.size)) 0:=⟨_,_,by rw [wo,f];rfl,Tr.sized_ofList _,fun j=>Tr.get_ofList _ j⟩;refine g.load1 ?_;grind
 grind
end
end
def argEq:Value->Value->Bool
 | .int k a,.int c b=>kr k c&&iW a b| .bool a,.bool b=>bif a then b else !b
 | .string s,.string u=>gH (aU s) (aU u)|_,_=>false
def si:List Value->List Value->Bool
 | [],[]=>true|a::l,b::m=>argEq a b&&si l m|_,_=>false
def orcOf:List (Nat×List Value×Value)->Nat->List Value->Option Value
 | [],_,_=>none|(f,as,v)::l,g,a=>bif Xh f g&&si as a then some v else orcOf l g a
theorem Ds{a b:Value}(h:argEq a b=true):a=b:=by
 unfold argEq at h
 split at h
 . rename_i k m c n;simp only [zO]at h;have d:k=c:=(by simpa [jf]using h.1);have e:m=n:=(by simpa [jh]using h.2);rw [d,e]
 . rename_i a b;cases a<;>cases b<;>first|rfl|cases h
 . rename_i s u;have this:s.data.toList=u.data.toList:=(by have:=h;rw [kV]at this;simpa [aU]using this);cases s with|mk a=>cases u with|mk b=>rw [show a=b from Array.ext' this]
 . cases h
theorem Bi: ∀{a b:List Value},si a b=true->a=b
 | [],[],_=>rfl| [],_::_,h=>by simp [si]at h|_::_,[],h=>by simp [si]at h| a::x,b::y,h=>by simp only [si,zO]at h;rw [Bi h.2,Ds h.1]
theorem AB{P:Nat->List Value->Value->Prop}: ∀{l:List (Nat×List Value×Value)},(∀e∈l,P e.1 e.2.1 e.2.2)-> ∀{g:Nat} {args:List Value} {v:Value},orcOf l g args=some v->P g args v
 | [],_,g,args,v,h=>by cases h
 | (f,as,x)::l,b,g,args,v,h=>by
   simp only [orcOf]at h;cases a:Xh f g&&si as args with
   | true=>
     rw [a]at h;cases h;simp only [zO]at a;have c:=Xb a.1;have d:=Bi a.2;subst c;subst d;exact b _ (Xx)
   | false=>
     rw [a]at h;exact AB (fun e i=>b e (Xs _ i)) h
def isVal(v:Value)(r:Option (Out×Option (Value×Bool)×Hp)):Bool:=match r with
 |some (.ret u,none,_)=>argEq u v|_=>false
theorem isVal_ret{r:Option (Out×Option (Value×Bool)×Hp)}(h:isVal v r=true): ∃h',r=some (.ret v,none,h'):=by
 unfold isVal at h
 split at h
 . rw [Ds h];exact⟨_,rfl⟩
 . cases h
def Known(E:Env)(P:Program)(e:Nat×List Value×Value):Prop:=(∃a,E.fn e.1=some a/\a.body.isSome=true)/\OrcAt P e.1 e.2.1 e.2.2
theorem known_of(c:EOk E P){f:Nat}(b:(args.all dI&&dI v)=true)(a:isVal v ((runK E n).call f args none hp0)=true):Known E P (f,args,v):=by simp only [zO]at b;obtain⟨d,a⟩:=isVal_ret a;rw [runK_call]at a;exact Fq c b.1 b.2 a
theorem eok_table(b:EOk E P){l:List (Nat×List Value×Value)}(c: ∀e∈l,Known E P e):EOk (Ac E (orcOf l)) P:=
 eok_with b fun _ _ _ h=>AB (P:=fun g a v=>Known E P (g,a,v)) c h
inductive Ob where
 |row (l:List Value) (md:Nat)
 |map (es:List (Value×Value×Nat)) (c:Nat)
 |loop (x:iI)
 |dfr
variable{L:List (Nat×Ob)}
def Has(h:Hp)(b:Nat):Ob->Prop
 | .row l a=>Row h b l a| .map d c=>h.get b=some (.map d c)| .loop x=>h.get b=some (.loop x)| .dfr=>h.get b=some .dfr
theorem Row.of_get{b:Nat}(e:h'.get b=h.get b)(k:Row h b l md):Row h' b l md:=by obtain⟨t,f,a,c,d⟩:=k;exact⟨t,f,by rw [e];exact a,c,d⟩
theorem Has.of_get{h h':Hp}{b:Nat}{o:Ob}(e:h'.get b=h.get b)(k:Has h b o):Has h' b o:=by
 cases o with
 |row l a=>exact Row.of_get e k|map d c=>exact e.trans k|loop x=>exact e.trans k|dfr=>exact e.trans k
theorem Has.lt{h:Hp}(a:OZ h){b:Nat}{o:Ob}(k:Has h b o):b<h.n:=by
 cases o with
 |row l d=>exact Row.lt a k|map e c=>exact jO a k|loop x=>exact jO a k|dfr=>exact jO a k
structure Mo(M:Nat->Prop)(h h':Hp):Prop where
 ok0:OZ h
 ok:OZ h'
 n:h.n<=h'.n
 get: ∀b,b<h.n-> ¬M b->h'.get b=h.get b
 lo: ∀x,x<=h.n->x<=h.lo->(∀b,M b->x<=b)->x<=h'.lo
abbrev NoM:Nat->Prop:=fun _=>False
theorem Gr.fr(g:Gr h h'):Mo M h h':=⟨g.ok0,g.ok,g.n,fun b a _=>g.get b a,fun x c d _=>g.lo x c d⟩
theorem Mo.gr(g:Mo NoM h h'):Gr h h':=⟨g.ok0,g.ok,g.n,fun b a=>g.get b a (fun x=>x),fun x c d=>g.lo x c d (fun _ h=>h.elim)⟩
theorem Mo.refl{M:Nat->Prop}{h:Hp}(a:OZ h):Mo M h h:=(Gr.refl a).fr
theorem Mo.trans{M M':Nat->Prop}{a b c:Hp}(x:Mo M a b)(y:Mo M' b c)(e: ∀i,M' i->M i\/a.n<=i):Mo M a c:=
 ⟨x.ok0,y.ok,Xk x.n y.n,fun i f g=>(y.get i (Xg f x.n) (fun d=>(e i d).elim g (fun h=>by omega))).trans (x.get i f g),
  fun i k m l=>y.lo i (Xk k x.n) (x.lo i k m l) fun j n=>(e j n).elim (l j) (fun h=>by omega)⟩
theorem Mo.mono{a b:Hp}(x:Mo M a b)(c: ∀i,M i->M' i):Mo M' a b:=
 ⟨x.ok0,x.ok,x.n,fun i d e=>x.get i d (fun h=>e (c i h)),fun i f g k=>x.lo i f g fun j l=>k j (c j l)⟩
theorem Mo.new{M:Nat->Prop}{a h:Hp}(g:Mo M a h)(x:Blk):Mo M a (h.new x):=g.trans (M':=NoM) (Gr.new g.ok x).fr (fun _ h=>h.elim)
theorem Mo.put{M:Nat->Prop}{a h:Hp}(g:Mo M a h){b:Nat}(f:a.n<=b\/M b)(x:Blk):Mo M a (h.put b x):=by refine g.trans (M':=fun i=>i=b) ⟨g.ok,put_ok g.ok b x,Xc _,fun i j c=>dZ (fun e=>c e.symm),fun i k l d=>?_⟩ (fun i h=>by grind);show i<=eK b h.lo;have:=d b rfl;grind[eK,Xf]
theorem Mo.has{a:Hp}(g:Mo M a h){b:Nat}{o:Ob}(k:Has a b o)(c: ¬M b):Has h b o:=Has.of_get (g.get b (k.lt g.ok0) c) k
abbrev GL:=Value×Nat×List Value
variable{G:List GL}
def gy:GL->Option Nat
 |(.slice (some a) _ _,_,_)=>some a.block|_=>none
def kB(h:Hp)(p:GL):Prop:=(p.1=.slice none 0 0/\p.2.2=[])\/ ∃b n,p.1=.slice (some ⟨b,0,some p.2.1⟩) n n/\n*p.2.1=p.2.2.length/\Row h b p.2.2 1
def keys(L:List (Nat×Ob))(G:List GL):List Nat:=L.map Yb++G.filterMap gy
structure St(M:Nat->Prop)(h0 h:Hp)(L:List (Nat×Ob))(G:List GL):Prop where
 fr:Mo M h0 h
 own: ∀p∈L,(h0.n<=p.1\/M p.1)/\Has h p.1 p.2
 gown: ∀p∈G,kB h p/\ ∀b,gy p=some b->h0.n<=b\/M b
 apart:(keys L G).Nodup
section
variable{M:Nat->Prop}{h0 h:Hp}{L:List (Nat×Ob)}{G:List GL}
theorem kB.of_get{h':Hp}{p:GL}(k:kB h p)(e: ∀b,gy p=some b->h'.get b=h.get b):kB h' p:=by
 rcases k with k|⟨b,n,a,c,d⟩
 . exact .inl k
 . refine .inr ⟨b,n,a,c,Row.of_get (e b ?_) d⟩;obtain⟨v,k,f⟩:=p;simp only []at a;subst a;rfl
theorem kB.lt(d:OZ h){p:GL}(k:kB h p){b:Nat}(c:gy p=some b):b<h.n:=by
 rcases k with k|⟨j,n,a,e,f⟩
 . obtain⟨v,g,i⟩:=p;obtain⟨a,e⟩:=k;simp only []at a;subst a;cases c
 . obtain⟨v,g,i⟩:=p;simp only []at a;subst a;cases c;exact Row.lt d f
theorem py{p:Nat×Ob}(a:p∈L):p.1∈keys L G:=List.mem_append_left _ (XT a)
theorem nv{p:GL}{b:Nat}(a:p∈G)(c:gy p=some b):b∈keys L G:=List.mem_append_right _ (List.mem_filterMap.2 ⟨p,a,c⟩)
theorem St.key_lt(S:St M h0 h L G){b:Nat}(a:b∈keys L G):b<h.n:=by
 unfold keys at a;rcases List.mem_append.1 a with a|a
 . obtain⟨p,c,rfl⟩:=List.mem_map.1 a;exact(S.own p c).2.lt S.fr.ok
 . obtain⟨p,c,d⟩:=List.mem_filterMap.1 a;exact(S.gown p c).1.lt S.fr.ok d
theorem St.init(a:OZ h):St M h h [] []:=⟨Mo.refl a,fun _ h=>(by cases h),fun _ h=>(by cases h),.nil⟩
theorem St.ok(S:St M h0 h L G):OZ h:=S.fr.ok
theorem St.gr(S:St NoM h0 h L G):Gr h0 h:=S.fr.gr
theorem St.push(S:St M h0 h L G){b:Nat}{o:Ob}(d:h0.n<=b\/M b)(e:Has h b o)(c:b∉keys L G):St M h0 h ((b,o)::L) G:=
 ⟨S.fr,fun p a=>by
  rcases List.mem_cons.1 a with rfl|a
  . grind
  . exact S.own p a,S.gown,List.nodup_cons.2 ⟨c,S.apart⟩⟩
theorem St.step(S:St M h0 h L G)(f:Mo M' h h')(e: ∀b,M' b->M b\/h0.n<=b)(c: ∀b∈keys L G,¬M' b):St M h0 h' L G:=
 ⟨S.fr.trans f e,fun p a=>⟨(S.own p a).1,f.has (S.own p a).2 (c _ (py a))⟩,
  fun p a=>⟨(S.gown p a).1.of_get fun b d=>f.get b ((S.gown p a).1.lt S.ok d) (c b (nv a d)),(S.gown p a).2⟩,S.apart⟩
theorem St.call(S:St M h0 h L G)(g:Gr h h'):St M h0 h' L G:=S.step (M':=NoM) g.fr (fun _ h=>h.elim) (fun _ _ h=>h)
theorem St.new(S:St M h0 h L G){x:Blk}{o:Ob}(a:Has (h.new x) h.n o):St M h0 (h.new x) ((h.n,o)::L) G:=
 (S.call (Gr.new S.ok x)).push (.inl S.fr.n) a (fun b=>by have:=S.key_lt b;omega)
theorem St.newG(S:St M h0 h L G){x:Blk}(d:n*k=vs.length)(f:Row (h.new x) h.n vs 1):St M h0 (h.new x) L ((.slice (some ⟨h.n,0,some k⟩) n n,k,vs)::G):=by
 have a:=S.call (Gr.new S.ok x);refine⟨a.fr,a.own,fun p c=>?_,?_⟩
 . rcases List.mem_cons.1 c with rfl|c
   . exact⟨.inr ⟨_,n,rfl,d,f⟩,fun b g=>by cases g;exact .inl S.fr.n⟩
   . exact a.gown p c
 . unfold keys;have e:List.filterMap gy ((Value.slice (some ⟨h.n,0,some k⟩) n n,k,vs)::G)=h.n::List.filterMap gy G:=rfl;rw [e];refine(List.perm_middle.nodup_iff).2 (List.nodup_cons.2 ⟨fun i=>?_,S.apart⟩);have:=S.key_lt i;omega
theorem St.nilG(S:St M h0 h L G):St M h0 h L ((.slice none 0 0,k,[])::G):=
 ⟨S.fr,S.own,fun p a=>by
  rcases List.mem_cons.1 a with rfl|a
  . exact⟨.inl ⟨rfl,rfl⟩,fun b c=>by cases c⟩
  . exact S.gown p a,S.apart⟩
theorem oN{a:Type}{l:List a}{x y:a}(h:y∈l.set i x):y=x\/ ∃j,j≠i/\l[j]? =some y:=by rw [List.mem_iff_getElem?]at h;grind
theorem th{a:Type}{l:List a}(h:l.Nodup){x:a}(b:l[i]? =some x)(c:l[j]? =some x):i=j:=by grind[Xy,Xu,absurd,XW]
theorem lE{p:Nat×Ob}(a:L[i]? =some p):(keys L G)[i]? =some p.1:=by grind[keys,Xy,XY]
theorem St.put(S:St M h0 h L G){i b:Nat}{o o':Ob}(g:L[i]? =some (b,o)){x:Blk}(q:Has (h.put b x) b o'):St M h0 (h.put b x) (L.set i (b,o')) G:=by
 have k:=S.own _ (Xa g);have f:(keys L G)[i]? =some b:=lE g;refine⟨S.fr.put k.1 x,fun p a=>?_,fun p a=>⟨(S.gown p a).1.of_get fun c l=>?_,(S.gown p a).2⟩,?_⟩
 . rcases oN a with rfl|⟨j,m,a⟩
   . grind
   . have d:=S.own p (Xa a);refine⟨d.1,d.2.of_get (dZ fun e=>m ?_)⟩;have n:(keys L G)[j]? =some b:=(by rw [lE a];rw [e]);exact th S.apart n f
 . refine dZ fun e=>?_;subst e;have d:=S.apart;unfold keys at d;rw [Xv]at d;exact d.2.2 b (List.mem_map.2 ⟨_,Xa g,rfl⟩) b (List.mem_filterMap.2 ⟨p,a,l⟩) rfl
 . have:keys (L.set i (b,o')) G=keys L G:=(by unfold keys;congr 1;rw [List.map_set];refine Xw fun j=>?_;grind);rw [this];exact S.apart
theorem St.row(S:St M h0 h L G){b:Nat}{l:List Value}{md:Nat}(a:(b,Ob.row l md)∈L):Row h b l md:=(S.own _ a).2
theorem St.ld(S:St M h0 h L G){b o:Nat}(a:(b,Ob.row l md)∈L)(c:l[o]? =some v):h.load b o 1=some [v]:=(S.row a).load1 c
theorem St.lds(S:St M h0 h L G){b o:Nat}(a:(b,Ob.row l md)∈L)(c:o+n<=l.length):h.load b o n=some ((l.drop o).take n):=(S.row a).load c
theorem m0{b:Type}{a:b}{l:List b}:a∈a::l:=Xx
theorem m1{c:Type}{a b:c}{l:List c}:a∈b::a::l:=.tail _ m0
theorem m2{d:Type}{a b c:d}{l:List d}:a∈b::c::a::l:=.tail _ m1
theorem m3{e:Type}{a b c d:e}{l:List e}:a∈b::c::d::a::l:=.tail _ m2
theorem m4{f:Type}{a b c d e:f}{l:List f}:a∈b::c::d::e::a::l:=.tail _ m3
theorem m5{g:Type}{a b c d e f:g}{l:List g}:a∈b::c::d::e::f::a::l:=.tail _ m4
theorem m6{i:Type}{a b c d e f g:i}{l:List i}:a∈b::c::d::e::f::g::a::l:=.tail _ m5
theorem m7{j:Type}{a b c d e f g i:j}{l:List j}:a∈b::c::d::e::f::g::i::a::l:=.tail _ m6
theorem St.old(S:St M h0 h L G){b o:Nat}(e:h0.load b o n=some l)(a: ¬M b):h.load b o n=some l:=by have:=S.fr.get b (bU S.fr.ok0 e) a;grind[Hp.load]
end
def rD(h:Hp)(X:Hp->Option (d6×Hp))(F:Nat->Value)(o:Ob):Prop:=
 ∃a,(∀x,X {h with lo:=x}=some (.val (F h.n),({h with lo:=x}:Hp).new a))/\(OZ h->Has (h.new a) h.n o)
section
variable{M:Nat->Prop}{h0 h:Hp}{L:List (Nat×Ob)}{G:List GL}
section
variable{E:Env}{cx:Cx}{o:Oper}{l:Loc}{K:Ex->Loc->Hp->Prop}{X:Hp->Option (d6×Hp)}{F:Nat->Value}{ob:Ob}
theorem ag(N:rD h X F ob)(S:St M h0 h L G)(a: ∀h' b,St M h0 h' ((b,ob)::L) G->h0.n<=b->K .normal (l.put o.dst (F b)) h'):gK E cx o l K (X h):=by obtain⟨c,d,f⟩:=N;have e:X h=_:=d h.lo;rw [e];exact a _ _ (S.new (f S.ok)) S.fr.n
theorem dR{Q:dW}{k:List Fr}{c:List (Nat×Tch)}(N:rD h X F ob)(S:St M h0 h L G)(d: ∀h' b,St M h0 h' ((b,ob)::L) G->h0.n<=b->b=h.n->Run E (lim E) cx Q (.opsD a q ps os (i+1) c::k) .normal (l.put o.dst (F b)) h'):DQ E cx Q a q ps o os i k l h c (X {h with lo:=h.n}):=by
 obtain⟨e,f,g⟩:=N;rw [f];exact⟨Xd (Xc _),d _ _ (S.new (g S.ok)) S.fr.n rfl⟩
end
theorem bK{t:TypeId}(b: ∀x,v≠ .chan x):rD h (fun h=>boxR h t v) ptrTo (.row (ae v) 1):=by refine⟨.cells (Tr.ofList (ae v)) (ae v).length t 1,fun x=>?_,fun a=>qm a _ _ _⟩;cases v<;>first|rfl|grind
theorem ay{t:TypeId}:rD h (fun h=>allocR h t (some z)) ptrTo (.row z 1):=
 ⟨.cells (Tr.ofList z) z.length t 1,fun _=>rfl,fun a=>qm a _ _ _⟩
noncomputable def mapR(h:Hp):Option (d6×Hp):=some (.val (.map (some h.n)),h.new (.map [] 0))
theorem Ez{t:TypeId}:aop E ρ h (.makeMap t none)=mapR h:=rfl
theorem xj:rD h mapR (fun b=>.map (some b)) (.map [] 0):=⟨.map [] 0,fun _=>rfl,fun a=>by show(h.new _).get h.n=_;rw [h.get_new _ a,if_pos rfl]⟩
theorem CI(a:List Value): ∀n,(bA a n).length=n*a.length
 |0=>by simp [bA]|n+1=>by simp only [bA,Xp,CI a n];rw [Yd];omega
theorem row_blank(a:OZ h)(z:Value)(n:Nat)(e:TypeId):Row (h.new (.cells (Tr.blank z n n) n e 1)) h.n (XH n z) 1:=by
 refine⟨Tr.blank z n n,e,?_,?_,fun i=>?_⟩
 . rw [h.get_new _ a,if_pos rfl,X8]
 . rw [X8];exact Tr.sized_blank _ _ _ (Xc _)
 . rw [Tr.get_blank _ _ _ (Xc _),X3]
def eP(E:Env)(e:TypeId)(a k:Nat)(b:List Value):Prop:=(∃i,E.ty e=some i/\i.bytes=a/\i.size=k)/\E.zero e=some b/\b.length=k
theorem kY{t e:TypeId}{d:Nat}{c:List Value}{kd':IntKind}{n:Int}(o:E.und t=some (.slice e))(u:eP E e d k c)(h0:0<=n)(v:n.toNat*(d+1)<=70368744177664):rD h (fun h=>dK (kP E h t (.int kd n) (.int kd' n))) (fun b=>.slice (some ⟨b,0,none⟩) n.toNat n.toNat) (.row (bA c n.toNat) 1):=by
 obtain⟨⟨i,p,rfl,rfl⟩,q,w⟩:=u;obtain⟨m,rfl⟩:=Int.eq_ofNat_of_zero_le h0;have hle:Xf (m*(i.bytes+1)) 70368744177664=true:=Xd v;have r:Xh c.length i.size=true:=by simp_all
 have f:natV (.int kd (m:Int))=some m:=rfl;have g:natV (.int kd' (m:Int))=some m:=rfl;have s:(Xf m m&&Xf (m*(i.bytes+1)) 70368744177664)=true:=by simp_all
 by_cases y: ∃z,c=[z]
 . obtain⟨z,rfl⟩:=y;refine⟨.cells (Tr.blank z m m) m e 1,fun x=>?_,fun j=>?_⟩
   . simp only [kP,o,p,q,f,g,s,r,cond_true,dK];rfl
   . have:bA [z] (m:Int).toNat=XH m z:=by
      have: ∀n,bA [z] n=XH n z:=by intro n;induction n with
       |zero=>rfl|succ n A=>simp [bA,A,List.replicate_succ]
      exact this m
     rw [this];exact row_blank j z m e
 . refine⟨.cells (Tr.ofList (bA c m)) (m*i.size) e 1,fun x=>?_,fun j=>?_⟩
   . simp only [kP,o,p,q,f,g,s,r,cond_true];cases c with
     |nil=>rfl| cons a l=>
       cases l with
       |nil=>grind|cons b l=>rfl
   . have:=qm j (bA c m) e 1;rw [CI,w]at this;show Row _ _ (bA c m) 1;omega
theorem St.store(S:St M h0 h L G){E:Env}{t:TypeId}{i b off n md:Nat}{s:Option Nat}{l:List Value}{v:Value}(c:L[i]? =some (b,.row l md))(hs:E.sz t=some n)(g: ∀x,v≠ .chan x)(d:(ae v).length=n)(hf:(ae v).all jx=true)(e:off+n<=l.length)(a:md≠0): ∃h',jT E h t (.pointer (some ⟨b,off,s⟩)) v=some h'/\St M h0 h' (L.set i (b,.row (lay l off (ae v)) md)) G/\Mo (· =b) h h':=by
 subst d;obtain⟨x,j,f⟩:=(S.row (Xa c)).store S.ok a (vs:=ae v) e hf;refine⟨h.put b x,?_,S.put c f,(Mo.refl (M:=(· =b)) S.ok).put (.inr rfl) x⟩;grind[jT,Xh,ae,Xn]
section
variable{E:Env}{cx:Cx}{o:Oper}{l:Loc}{K:Ex->Loc->Hp->Prop}
theorem au{x:Option Hp}{P:Hp->Prop}(a: ∃h',x=some h'/\P h')(b: ∀h',P h'->K .normal (l.put o.dst (.tuple #[])) h'):gK E cx o l K (iH x):=by obtain⟨h',rfl,c⟩:=a;exact b h' c
theorem dq{x:Option (Hp×Value)}{P:Hp->Value->Prop}(a: ∃h' v,x=some (h',v)/\P h' v)(b: ∀h' v,P h' v->K .normal (l.put o.dst v) h'):gK E cx o l K (dK x):=by obtain⟨h',v,rfl,c⟩:=a;exact b h' v c
theorem dM{Q:dW}{k:List Fr}{b:Hp->List (Nat×Tch)}{x:Option Hp}{P:Hp->Prop}(c: ∃h',x=some h'/\P h')(d: ∀h',P h'->Run E (lim E) cx Q (.opsD a q ps os (i+1) (b h')::k) .normal (l.put o.dst (.tuple #[])) h'):DN E cx Q a q ps o os i k l b (iH x):=by
 obtain⟨h',rfl,e⟩:=c;exact d h' e
theorem jo{Q:dW}{k:List Fr}{b:Hp->List (Nat×Tch)}{x:Option (Hp×Value)}{P:Hp->Value->Prop}(c: ∃h' v,x=some (h',v)/\P h' v)(d: ∀h' v,P h' v->Run E (lim E) cx Q (.opsD a q ps os (i+1) (b h')::k) .normal (l.put o.dst v) h'):DN E cx Q a q ps o os i k l b (dK x):=by
 obtain⟨h',v,rfl,e⟩:=c;exact d h' v e
end
theorem tv{p c:GL}(i:(keys L G).Nodup)(d:G[j]? =some p){b:Nat}(e:gy c=some b)(a:b∉keys L G):(keys L (G.set j c)).Nodup:=by
 obtain⟨hlt,f⟩:=List.getElem?_eq_some_iff.1 d;have k:G=G.take j++p::G.drop (j+1):=by rw [<-f,List.getElem_cons_drop hlt,XP]
 have g:G.set j c=G.take j++c::G.drop (j+1):=List.set_eq_take_append_cons_drop.trans (if_pos hlt);unfold keys at*
 rw [g,List.filterMap_append,List.filterMap_cons_some e,<-List.append_assoc];refine List.perm_middle.nodup_iff.2 (List.nodup_cons.2 ⟨fun l=>a ?_,?_⟩)
 . grind
 grind
theorem St.grow(S:St M h0 h L G){t tx e:TypeId}{u m:Nat}{zs new:List Value}{x:Value}(J:G[j]? =some (v,k,vs))(hu:E.und t=some (.slice e))(he:eP E e u k zs)(K:0<u)(O:fj E tx=some false)(aa:aF h k x=some (m,new))(hm:m*k=new.length)(z:0<k)(hf:new.all jx=true)(P:(vs.length+new.length)*(u+1)<=70368744177664){ts:List TypeId}:
 ∃h' v',dP E h (t::tx::ts) v x=some (h',v')/\St M h0 h' L (G.set j (v',k,vs++new)):=by
 obtain⟨⟨i,hi,rfl,rfl⟩,hz,hl⟩:=he;have hlt:=(List.getElem?_eq_some_iff.1 J).1;obtain⟨hg,A⟩:=S.gown _ (Xa J);have ac : ∀ a d,v=.slice a d d->d*i.size=vs.length->(a=none/\d=0\/ ∃b,a=some ⟨b,0,some i.size⟩/\Row h b vs 1)->
  ∃h' v',ie E h e i a d d m new=some (h',v')/\St M h0 h' L (G.set j (v',i.size,vs++new)):=by
  intro a d hv B ha;by_cases f:m=0
  . subst f;have:new=[]:=(by grind);subst this;refine⟨h,v,?_,?_⟩
    . unfold ie;rw [Xd (by omega:d+0<=d)];grind
    . rw [XE];have:G.set j (v,i.size,vs)=G:=(by refine Xw fun n=>?_;grind);grind
  . have ad : Xf (d+m) d=false:=by
     cases O:Xf (d+m) d with
     |false=>rfl|true=>exact absurd (Xl O) (by omega)
    have C:d+m<=vs.length+new.length:=(by rw [<-B,<-hm];have f:=XC d z;have Q:=XC m z;omega);have N:(Xf ((d+m)*(i.bytes+1)) 70368744177664&&XL 0 i.bytes)=true:=(by rw [Xd (Xk (XS _ C) P)];simp_all);have af:Xh zs.length i.size=true:=(by simp_all);have r:ie E h e i a d d m new=qx h e i.size a d m new:=(by unfold ie;grind);rw [r];rcases ha with⟨rfl,rfl⟩|⟨b,rfl,D⟩
    . have R:vs=[]:=(by grind);subst R;refine⟨h.new (.cells (Tr.ofList new) new.length e 1),.slice (some ⟨h.n,0,some i.size⟩) m m,rfl,?_⟩;have T:=S.call (Gr.new S.ok (.cells (Tr.ofList new) new.length e 1));have w:h.n∉keys L G:=fun z=>(by have:=S.key_lt z;omega);refine⟨T.fr,T.own,fun p o=>?_,tv S.apart J (b:=h.n) rfl w⟩;rcases oN o with rfl|⟨j',_,o⟩
      . exact⟨.inr ⟨h.n,m,rfl,hm,qm S.ok new e 1⟩,fun b K=>by cases K;exact .inl S.fr.n⟩
      . exact T.gown p (Xa o)
    . obtain ⟨F,el,s,H,ai⟩:=D;have U:kX F vs.length 0 (d*i.size) new=some (F.pushAll vs.length new,vs.length+new.length):=(by grind[kX,Xn]);refine⟨(h.put b .dead).new (.cells (F.pushAll vs.length new) (vs.length+new.length) e 1),.slice (some ⟨h.n,0,some i.size⟩) (d+m) (d+m),?_,?_⟩
      . unfold qx;simp only [s,U,hf,Xn];rfl
      . have I:gy (v,i.size,vs)=some b:=(by rw [hv];rfl);have ak:=jO S.ok s;have y:=(S.fr.put (A b I) .dead);have V: ∀c∈L.map Yb,c≠b:=fun c W e=>(by have f:=S.apart;grind[keys,Xv,Xa]);have l: ∀c,c<h.n->c≠b->((h.put b .dead).new (.cells (F.pushAll vs.length new) (vs.length+new.length) e 1)).get c=h.get c:=fun c W X=>(by rw [Hp.get_new _ _ y.ok,if_neg (by show c≠h.n;omega)];exact dZ (Ne.symm X));have w:h.n∉keys L G:=fun z=>(by have:=S.key_lt z;omega);refine⟨y.new _,fun p o=>?_,fun p o=>?_,tv S.apart J (b:=h.n) rfl w⟩
        . have f:=S.own p o;exact⟨f.1,f.2.of_get (l _ (f.2.lt S.ok) (V _ (XT o)))⟩
        . rcases oN o with rfl|⟨j',Y,o⟩
          . refine⟨.inr ⟨h.n,d+m,rfl,?_,?_⟩,fun b K=>by cases K;exact .inl S.fr.n⟩
            . grind
            . refine⟨F.pushAll vs.length new,e,?_,?_,fun n=>?_⟩
              . rw [Hp.get_new _ _ y.ok];rw [if_pos (show h.n=(h.put b .dead).n from rfl),Xp]
              . rw [Xp];exact Tr.sized_pushAll _ H
              grind[Tr.get_pushAll]
          . have f:=S.gown p (Xa o);refine⟨f.1.of_get fun c W=>l c (f.1.lt S.ok W) fun e=>Y ?_,f.2⟩;subst e
            -- two lists with al Z
            have Q:=S.apart;unfold keys at Q;have h3:=(List.nodup_append.1 Q).2.1;have an: ∀(G:List GL) (a c:Nat) (p q:GL),(G.filterMap gy).Nodup->G[a]? =some p->G[c]? =some q-> ∀x,gy p=some x->gy q=some x->a=c:=by
             intro G
             induction G with
             |nil=>grind| cons g G ih=>grind
            grind
 unfold dP;simp only [O];unfold lC;simp only [hu,hi];rcases hg with⟨k1,k2⟩|⟨b,n,k1,k2,k3⟩
 . grind
 simp_all
end
theorem aD{Q:dW}{k:List Fr}{b:Code}{f:Type}(I:f->(Nat->Value)->Hp->Prop)(m:f->Nat)(hs: ∀a,(∀g c h',m g<m a->I g c h'->Run E (lim E) cx Q (.code (.loop b)::k) .normal (LL n c d rc) h')-> ∀ρ h,I a ρ h->Run E (lim E) cx Q (.code b:: .code (.loop b)::k) .normal (LL n ρ d rc) h):
 ∀a ρ h,I a ρ h->Run E (lim E) cx Q (.code (.loop b)::k) .normal (LL n ρ d rc) h:=by
 have e: ∀j a,m a<j-> ∀ρ h,I a ρ h->Run E (lim E) cx Q (.code (.loop b)::k) .normal (LL n ρ d rc) h:=by
  intro j
  induction j with
  |zero=>omega| succ j l=>grind[d9]
 intro a ρ h i;exact e (m a+1) a (by omega) ρ h i
def tB(b:Nat):Deferred:={target:=.collected b,args:=#[]}
section
variable(E:Env)(cx:Cx)(Q:dW)(k:List Fr)
def RangeGo(l:Loc)(h:Hp):Option Code->Prop
 |none=>Run E (lim E) cx Q k .normal l h|some (.exit id)=>Run E (lim E) cx Q k (.exit id) l h|some .ret=>Run E (lim E) cx Q k .ret l h|_=>False
def RangeQ(l:Loc)(b:Nat):Out->Option (Value×Bool)->Hp->Prop
 | .pan v,_,a=>Run E (lim E) cx Q k (.pan v) l a| .ret _,_,a=> ∃x,a.get b=some (.loop x)/\x.st≠1/\RangeGo E cx Q k l (a.put b .dead) x.pending
end
section
variable{E:Env}{cx:Cx}{Q:dW}{k:List Fr}{n:Nat}{ρ:Nat->Value}{d:List Deferred}{rc:Option (Value×Bool)}{M:Nat->Prop}{h0 h:Hp}{L:List (Nat×Ob)}{G:List GL}
theorem Fw{f:Operand}{a b:Array Value}{j:Hp}{m:Nat}(hf:(LL n ρ d rc).ev f=.func (.func g) a b)(D:cx.nr=n)(F :(match cx.round with
   |none=>some (h.new .dfr,h.n,({target:=.collected h.n,args:=#[]}:Deferred)::d)| some r=>match h.get r with
     |some (.loop x)=>some (h,x.defers,d)|_=>none)=some (j,m,dfs))(H:dE E g (a.toList++[.func (.yield j.n) #[] #[]]++b.toList) none (j.new (.loop {fn:=cx.fn,regs:=tab n ρ,nr:=n,params,assign,body,st:=0,pending:=none,defers:=m})) (RangeQ E cx Q k (LL n ρ dfs rc) j.n)):Run E (lim E) cx Q (.code (.rangeFunc f params assign body)::k) .normal (LL n ρ d rc) h:=by
 obtain⟨o,I,l,J,y⟩:=H;simp only [Run];have e:aX E (lim E) cx (.rangeFunc f params assign body) (LL n ρ d rc) h=jS (lim E) cx ((LL n ρ d rc).ev f) params assign body (LL n ρ d rc) h:=rfl;rw [e,hf];have K:jS (lim E) cx (.func (.func g) a b) params assign body (LL n ρ d rc) h=(match(some (j,m,dfs):Option (Hp×Nat×List Deferred))with
  |none=>none| some (j,m,dfs)=>
    match(lim E).call g (a.toList++[.func (.yield j.n) #[] #[]]++b.toList) none
     (j.new (.loop {fn:=cx.fn,regs:=tab n ρ,nr:=cx.nr,params,assign,body,st:=0,pending:=none,defers:=m}))with
    |none=>none|some (.pan v,_,l)=>some (.pan v,LL n ρ dfs rc,l)| some (.ret _,_,l)=>match l.get j.n with
      | some (.loop x)=>match x.st with
        |1=>none| _=>match x.pending with
          |none=>some (.normal,LL n ρ dfs rc,l.put j.n .dead)|some (.exit id)=>some (.exit id,LL n ρ dfs rc,l.put j.n .dead)|some .ret=>some (.ret,LL n ρ dfs rc,l.put j.n .dead)|_=>none
      |_=>none):=by rw [<-F];rfl
 rw [K];simp only [D,J];cases o with
 |pan v=>exact⟨_,_,_,rfl,y⟩| ret v=>
   obtain⟨x,N,O,s⟩:=y;simp only [N];obtain⟨P,u,R,p,q,w,S,i,t⟩:=x;simp only []at O s;have z: ∃A B C,(match i with
    |none=>some (Ex.normal,LL n ρ dfs rc,l.put j.n .dead)|some (.exit id)=>some (.exit id,LL n ρ dfs rc,l.put j.n .dead)|some .ret=>some (.ret,LL n ρ dfs rc,l.put j.n .dead)|_=>none)=some (A,B,C)/\Run E (lim E) cx Q k A B C:=by
    cases i with
    |none=>exact⟨_,_,_,rfl,s⟩|some c=>cases c<;>first|exact s.elim|exact⟨_,_,_,rfl,s⟩
   omega
theorem kH(S:St M h0 h L G){f:Operand}{a b:Array Value}(hf:(LL n ρ d rc).ev f=.func (.func g) a b)(j:cx.nr=n)(l:cx.round=none)(m: ∀h' c e,St M h0 h' ((e,.loop {fn:=cx.fn,regs:=tab n ρ,nr:=n,params,assign,body,st:=0,pending:=none,defers:=c})::(c,.dfr)::L) G->h.n<=c->h.n<=e->Gr h h'->
   dE E g (a.toList++[.func (.yield e) #[] #[]]++b.toList) none h' (RangeQ E cx Q k (LL n ρ (tB c::d) rc) e)):Run E (lim E) cx Q (.code (.rangeFunc f params assign body)::k) .normal (LL n ρ d rc) h:=by
 have i:St M h0 (h.new .dfr) ((h.n,.dfr)::L) G:=S.new (by show(h.new _).get h.n=_;rw [h.get_new _ S.ok,if_pos rfl]);have p:=i.new (x:=.loop {fn:=cx.fn,regs:=tab n ρ,nr:=n,params,assign,body,st:=0,pending:=none,defers:=h.n}) (o:=.loop {fn:=cx.fn,regs:=tab n ρ,nr:=n,params,assign,body,st:=0,pending:=none,defers:=h.n})
  (by show(Hp.new _ _).get _=_;rw [Hp.get_new _ _ i.ok,if_pos rfl])
 exact Fw hf j (by rw [l];rfl) (m _ _ _ p (Xc _) (Nat.le_succ _) ((Gr.new S.ok _).trans (Gr.new i.ok _)))
end
section
variable(E:Env)(cx:Cx)(lb:Nat)(Q:Out->Hp->Prop)
def vg:dW
 | .normal,_,a=> ∃x,a.get lb=some (.loop x)/\Q (.ret (.bool true)) (a.put lb (.loop {x with st:=0,pending:=none}))
 | .exit id,_,a=> ∃x,a.get lb=some (.loop x)/\Q (.ret (.bool false)) (a.put lb (.loop {x with st:=2,pending:=some (.exit id)}))
 | .ret,_,a=> ∃x,a.get lb=some (.loop x)/\Q (.ret (.bool false)) (a.put lb (.loop {x with st:=2,pending:=some .ret}))
 | .pan v,b,a=>b.dfs=[]/\Q (.pan v) a
def Ba(body:Code):dW
 | .normal,l,a=> ∃x,a.get lb=some (.loop x)/\x.st=0/\x.fn=cx.fn/\x.nr=cx.nr/\x.body=body/\Run E (lim E) cx (vg lb Q) [.code body] .normal l (a.put lb (.loop {x with st:=1}))
 |_,_,_=>False
end
def setPs(ρ:Nat->Value):List Tmp->List Value->Option (Nat->Value)
 | [],[]=>some ρ|t::a,v::b=>setPs (ao ρ t v) a b|_,_=>none
theorem vq{n:Nat}: ∀(ts:List Tmp) (vs:List Value) (ρ a:Nat->Value),setPs ρ ts vs=some a->qE (tab n ρ) ts vs=some (tab n a)
 | [],[],ρ,a,h=>by cases h;rfl
 | t::ts,v::vs,ρ,a,h=>by simp only [qE,tab_set];exact vq ts vs _ _ h| [],_::_,_,_,h=>by cases h
 |_::_,[],_,_,h=>by cases h
theorem xR{Q:dW}{c:Code}{l:Loc}(a:Run E (lim E) cx Q [.code c] .normal l h): ∃e l' h',(lim E).code cx c l h=some (e,l',h')/\Q e l' h':=by obtain⟨e,l',h',b,d⟩:=a;exact⟨e,l',h',by rw [Ag];exact b,d⟩
theorem kK{Q:Out->Hp->Prop}{fn:FuncId}{ρ a:Nat->Value}{o:Nat}(d:h.get c=some (.loop {fn,regs:=tab n ρ,nr:=n,params,assign,body,st:=0,pending:=none,defers:=o}))(g:(E.fn fn).isSome=true)(p:setPs ρ params.toList args=some a)(q:Run E (lim E) ⟨fn,n,some c⟩ (Ba E ⟨fn,n,some c⟩ c Q body) [.code assign] .normal (LL n a [] none) h):mN E c args h Q:=by
 obtain⟨e,l,z,r,f⟩:=xR q;unfold mN kG;rw [d];simp only [g,cond_true,vq _ _ _ _ p];rw [show Loc.mk (tab n a) [] none=LL n a [] none from rfl,r];cases e with
 |exit i=>exact f.elim|ret=>exact f.elim|pan v=>exact f.elim| normal=>
   obtain⟨x,s,t,A,g4,B,u⟩:=f;obtain⟨w,C,D,j,b⟩:=xR u;simp only [s,t,j];cases w with
   |normal=>obtain⟨y,k,m⟩:=b;grind
   |exit i=>obtain⟨y,k,m⟩:=b;grind
   |ret=>obtain⟨y,k,m⟩:=b;grind
   |pan v=>obtain⟨k,m⟩:=b;grind
section
variable{E:Env}{cx:Cx}{lb:Nat}{Q:Out->Hp->Prop}{M:Nat->Prop}{h0 h:Hp}{L:List (Nat×Ob)}{G:List GL}{body:Code}{l:Loc}
theorem St.loopPut(S:St M h0 h L G){X Y:iI}(a:L[i]? =some (lb,.loop X)):h.get lb=some (.loop X)/\St M h0 (h.put lb (.loop Y)) (L.set i (lb,.loop Y)) G:=by have b:h.get lb=some (.loop X):=(S.own _ (Xa a)).2;refine⟨b,S.put a ?_⟩;show(h.put lb _).get lb=_;rw [Hp.get_put,if_pos ⟨rfl,by rw [b];rfl⟩]
theorem jP(S:St M h0 h L G){X:iI}(a:L[i]? =some (lb,.loop X))(b:X.st=0)(c:X.fn=cx.fn)(d:X.nr=cx.nr)(e:X.body=body)(f: ∀h',St M h0 h' (L.set i (lb,.loop {X with st:=1})) G->Run E (lim E) cx (vg lb Q) [.code body] .normal l h'):Ba E cx lb Q body .normal l h:=by
 obtain⟨g,j⟩:=S.loopPut (Y:={X with st:=1}) a;exact⟨X,g,b,c,d,e,f _ j⟩
theorem gR(S:St M h0 h L G){X:iI}(a:L[i]? =some (lb,.loop X))(b: ∀h',St M h0 h' (L.set i (lb,.loop {X with st:=0,pending:=none})) G->Q (.ret (.bool true)) h'):vg lb Q .normal l h:=by obtain⟨c,d⟩:=S.loopPut (Y:={X with st:=0,pending:=none}) a;exact⟨X,c,b _ d⟩
end
def Iter(E:Env)(g:FuncId)(e post:List Value)(c:Hp)(D:Nat->Prop)(xs:List (List Value)):Prop:=
 ∀ (f:Nat) (J:Nat->Hp->List Nat->Prop) (Z:Out->Hp->Prop) (h:Hp) (F:List Nat),
   OZ h->c.n<=h.n->(∀b,b<c.n->D b->h.get b=c.get b)->
   (∀i h F,J i h F->OZ h/\ ∀b∈F,b<h.n)->(∀i h F a,J i h F->Gr h a->J i a F)->(∀h a,Z (.ret (.bool false)) h->Gr h a->Z (.ret (.bool false)) a)->(∀b∈F,¬(b<c.n/\D b))->
   (∀i x h F,xs[i]? =some x->J i h F->mN E f x h fun o a=>(o=.ret (.bool true)/\ ∃d,J (i+1) a d/\Mo (· ∈F) h a/\ ∀b∈d,b∈F\/h.n<=b)\/(o=.ret (.bool false)/\Z o a/\OZ a)\/((∃v,o=.pan v)/\Z o a))->
   J 0 h F->dE E g (e++[.func (.yield f) #[] #[]]++post) none h fun o j a=>j=none/\((∃u d,o=.ret u/\J xs.length a d)\/(∃u,o=.ret u/\Z (.ret (.bool false)) a)\/(∃v,o=.pan v/\Z o a))
theorem load_len{b o:Nat}(e:h.load b o n=some l):l.length=n:=by grind[Hp.load,Xf,Tr.slice_spec]
theorem dz{b o:Nat}(e:h.load b o n=some l){m:Nat}(g:i+m<=n):h.load b (o+i) m=some ((l.drop i).take m):=by
 unfold Hp.load at e⊢
 split at e
 next t a j p q=>
  cases c:Xf (o+n) a with
  |false=>grind| true=>
    rw [c]at e;have hle:=Xl c;rw [Xd (by omega:o+i+m<=a)];simp only [cond_true]at e⊢;obtain⟨r,f⟩:=Tr.slice_spec e;obtain⟨s,d⟩:=Tr.slice_mk (t:=t) (i:=o+i) (n:=m) (fun k u=>by
     have:=f (i+k) (by omega);grind)
    rw [d];obtain⟨v,w⟩:=Tr.slice_spec d;congr 1;refine Xw fun k=>?_;grind
 next=>cases e
theorem load_join{b o:Nat}{f:Nat->Value}(a: ∃l,h.load b o 0=some l)(e: ∀i,i<n->h.load b (o+i) 1=some [f i]):h.load b o n=some ((List.range n).map f):=by
 unfold Hp.load at a e⊢;cases g:h.get b with
 |none=>grind|some d=>
 cases d with
 |dead=>grind|map=>grind|loop=>grind|dfr=>grind| cells t c r s=>
   rw [g]at a;simp only [g]at e;simp only []at a;have hle:o+n<=c:=by
    cases n with
    | zero=>
      obtain⟨l,a⟩:=a;cases j:Xf (o+0) c with
      |false=>grind|true=>simp_all
    | succ n=>
      have:=e n (by omega);cases j:Xf (o+n+1) c with
      |false=>grind|true=>have:=Xl j;omega
   have m: ∀i,i<n->t.get (o+i)=some (f i):=(by intro i q;have:=e i q;rw [Xd (by omega:o+i+1<=c)]at this;have:=(Tr.slice_spec this).2 0 (by omega);simpa using this);simp only [];rw [Xd hle];simp only [cond_true];obtain⟨l,p⟩:=Tr.slice_mk (t:=t) (i:=o) (n:=n) (fun k u=>by grind);rw [p];obtain⟨v,w⟩:=Tr.slice_spec p;congr 1;refine Xw fun k=>?_;grind
section
variable{α:Type}
theorem aK{enc:α->List Value}(a: ∀x,(enc x).length=k)(xs:List α):(xs.flatMap enc).length=xs.length*k:=by
 induction xs with
 |nil=>simp|cons x xs b=>grind
theorem yJ{enc:α->List Value}(b: ∀x,(enc x).length=k)(xs:List α)(a:i<xs.length):((xs.flatMap enc).drop (i*k)).take k=enc xs[i]:=by
 induction xs generalizing i with
 |nil=>simp at a| cons x xs c=>
   cases i with
   |zero=>grind| succ i=>grind[Yd,Nat.add_comm,List.drop_drop,List.drop,List.flatMap,List.drop_left]
def aH(h:Hp)(k:Nat)(enc:α->List Value)(v:Value)(xs:List α):Prop:=
 (v=.slice none 0 0/\xs=[])\/ ∃b o s c,v=.slice (some ⟨b,o,s⟩) xs.length c/\xs.length<=c/\h.load b o (xs.length*k)=some (xs.flatMap enc)
variable{h:Hp}{k:Nat}{enc:α->List Value}{v:Value}{xs:List α}
theorem aH.gr(g:Gr h h')(s:aH h k enc v xs):aH h' k enc v xs:=by
 rcases s with s|⟨b,o,s,c,a,d,e⟩
 . exact .inl s
 . exact .inr ⟨b,o,s,c,a,d,g.load e⟩
def aA:Value->Nat->Prop
 | .slice (some a) _ _,b=>a.block=b| .pointer (some a),b=>a.block=b|_,_=>False
theorem aH.mo(g:Mo M h h')(s:aH h k enc v xs)(d: ∀b,aA v b-> ¬M b):aH h' k enc v xs:=by
 rcases s with s|⟨b,o,s,c,a,e,f⟩
 . exact .inl s
 . refine .inr ⟨b,o,s,c,a,e,?_⟩;have:=g.get b (bU g.ok0 f) (d b (by rw [a];rfl));grind[Hp.load]
theorem aH.lt(d:OZ h)(s:aH h k enc v xs){b:Nat}(a:aA v b):b<h.n:=by
 rcases s with⟨rfl,_⟩|⟨e,o,s,c,rfl,g,f⟩
 . exact a.elim
 . have:e=b:=a;subst this;exact bU d f
theorem aH.idx(s:aH h k enc v xs)(d: ∀x,(enc x).length=k)(a:i<xs.length): ∃b o s' c,v=.slice (some ⟨b,o,s'⟩) xs.length c/\h.load b (o+i*k) k=some (enc xs[i]):=by
 rcases s with⟨rfl,rfl⟩|⟨b,o,s,c,rfl,f,e⟩
 . simp at a
 . refine⟨b,o,s,c,rfl,?_⟩;have:i*k+k<=xs.length*k:=(by rw [<-Yd];exact XS _ a);rw [dz e this,yJ d xs a]
theorem aH.at{t e:TypeId}(s:aH h k enc v xs)(d: ∀x,(enc x).length=k)(f:E.und t=some (.slice e))(hs:E.sz e=some k)(a:i<xs.length):
 ∃b o,gu E t v (.int kd i)=some (.pointer (some ⟨b,o,none⟩))/\h.load b o k=some (enc xs[i]):=by
 obtain⟨b,o,j,c,rfl,g⟩:=s.idx d a;refine⟨b,o+i*k,?_,g⟩;rw [ia_slice f hs,ey a];rfl
theorem aH.src(s:aH h k enc v xs):aF h k v=some (xs.length,xs.flatMap enc):=by
 rcases s with⟨rfl,rfl⟩|⟨b,o,s,c,rfl,a,d⟩
 . rfl
 grind[List.length_eq_zero_iff,aF,X4]
theorem kB.sl(g:kB h (v,k,vs))(d:vs=xs.flatMap enc)(e: ∀x,(enc x).length=k)(i:0<k):aH h k enc v xs:=by
 rcases g with⟨c,a⟩|⟨b,n,c,a,f⟩
 . simp only []at c a;refine .inl ⟨c,?_⟩;rw [a]at d;have:=aK e xs;rw [<-d]at this;cases xs with
   |nil=>rfl| cons x xs=>grind
 . simp only []at c a f;have j:n=xs.length:=(by rw [d,aK e]at a;exact Nat.eq_of_mul_eq_mul_right i a);subst j;refine .inr ⟨b,0,some k,xs.length,c,Xc _,?_⟩;rw [f.load (by omega),a,X9,X2,d]
end
def encI(kd:IntKind)(x:Int):List Value:=[.int kd x]
def encB(x:Bool):List Value:=[.bool x]
theorem aE(kd:IntKind)(x:Int):(encI kd x).length=1:=rfl
theorem encB_len(x:Bool):(encB x).length=1:=rfl
def agg1:Option (List Value)->Option Value
 |some l=>some (.agg ⟨l⟩)|none=>none
theorem agg1_some:agg1 (some l)=some (.agg ⟨l⟩):=rfl
theorem loadV_agg{t:TypeId}{b o:Nat}(a:E.agg t=some true)(hs:E.sz t=some n):gm E h t (.pointer (some ⟨b,o,s⟩))=agg1 (h.load b o n):=by simp only [gm,a,hs];cases h.load b o n<;>rfl
def isIface(E:Env)(t:TypeId):Bool:=match E.und t with
 |some (.interface _)=>true|_=>false
def qs(E:Env)(t:TypeId):Bool:=match E.und t with
 |some (.pointer _)=>true|_=>false
def nG(E:Env)(t:TypeId):Bool:=match E.und t with
 |some (.struct _)=>true|some (.int _)=>true|some (.pointer _)=>true|_=>false
section
variable{E:Env}{t:TypeId}{x y:Operand}
theorem sU(b:isIface E t=true): ∃a,E.und t=some (.interface a):=by grind[isIface]
theorem xk(b:qs E t=true): ∃a,E.und t=some (.pointer a):=by grind[qs]
theorem n_iface(a:isIface E t=true){u:TypeId}:bQ E .neq t x y (.iface u v) .nilIface=some (.bool true):=by grind[sU,bQ,iq,fo]
theorem n_nil(b:isIface E t=true):bQ E .neq t x (.const v) .nilIface .nilIface=some (.bool false):=by obtain⟨a,c⟩:=sU b;cases x<;>simp [bQ,iq,fo,c]
theorem e_iface(a:isIface E t=true){u:TypeId}:bQ E .eql t x y (.iface u v) .nilIface=some (.bool false):=by grind[sU,bQ,iq,fo]
theorem e_nil(b:isIface E t=true):bQ E .eql t x (.const v) .nilIface .nilIface=some (.bool true):=by obtain⟨a,c⟩:=sU b;cases x<;>simp [bQ,iq,fo,c]
theorem n_ptr(b:qs E t=true){a:Addr}:bQ E .neq t x y (.pointer (some a)) (.pointer none)=some (.bool true):=by grind[xk,bQ,iq,fo]
theorem e_ptr(b:qs E t=true){a:Addr}:bQ E .eql t x y (.pointer (some a)) (.pointer none)=some (.bool false):=by grind[xk,bQ,iq,fo]
theorem n_pnil(a:qs E t=true):bQ E .neq t x y (.pointer none) (.pointer none)=some (.bool false):=by grind[xk,bQ,iq,fo]
theorem e_pnil(a:qs E t=true):bQ E .eql t x y (.pointer none) (.pointer none)=some (.bool true):=by grind[xk,bQ,iq,fo]
theorem xW(b:nG E t=true): ∃d,E.und t=some d/\ ∀a,d≠ .interface a:=by grind[nG]
theorem assert_is(a:nG E t=true):rX E (.iface t v) t true=some (.tuple #[v,.bool true]):=by obtain⟨d,b,c⟩:=xW a;unfold rX;rw [b];cases d<;>first|exact absurd rfl (c _)|simp [xF]
theorem mk_iface(a:nG E t=true):(match E.und t with|none=>none|some (.interface _)=>none|some _=>some (Value.iface t v))=some (.iface t v):=by obtain⟨d,b,c⟩:=xW a;grind
end
theorem o_recover{ts:Array TypeId}:aop E ρ h (.call ⟨.builtin .recover,as,ts⟩)=some (.recov,h):=rfl
theorem o_deferR{f:Operand}{ts:Array TypeId}:aop E ρ h (.defer ⟨.value f,as,ts⟩)=match ρ f with
 | .func (.func g) a b=>some (.defer {target:=.fn (.func g) b,args:=⟨a.toList++as.toList.map ρ⟩},h)|_=>none:=rfl
def panR(h:Hp):Value->Option (d6×Hp)
 | .iface t v=>some (.panic (.iface t v),h)|_=>none
theorem o_panicR:aop E ρ h (.panic x)=panR h (ρ x):=by rfl
theorem Fp{t:TypeId}:panR h (.iface t v)=some (.panic (.iface t v),h):=rfl
section
variable{E:Env}{cx:Cx}{o:Oper}{K:Ex->Loc->Hp->Prop}{h:Hp}{n:Nat}{ρ:Nat->Value}{d:List Deferred}
theorem yK:gK E cx o (LL n ρ d (some (v,false))) K (some (.recov,h))↔cx.round=none/\K .normal ((LL n ρ d (some (v,true))).put o.dst v) h:=Xi
theorem yN:gK E cx o (LL n ρ d none) K (some (.recov,h))↔cx.round=none/\K .normal ((LL n ρ d none).put o.dst .nilIface) h:=Xi
theorem step_defer{x:Deferred}:gK E cx o (LL n ρ d rc) K (some (.defer x,h))↔cx.round=none/\K .normal ((LL n ρ (x::d) rc).put o.dst (.tuple #[])) h:=Xi
theorem ce{l:Loc}{P:Out->Option (Value×Bool)->Hp->Prop}(c:dE E f args none h P)(e: ∀x rc h',P x rc h'->match x with
 | .ret v=>K .normal (l.put o.dst v) h'| .pan v=>K (.pan v) l h'):gK E cx o l K (some (.call f args,h)):=by
 obtain⟨x,rc,h',a,b⟩:=c;exact⟨x,rc,h',a,e x rc h' b⟩
theorem uQ{l:Loc}{b:Nat}{P:Out->Hp->Prop}(c:mN E b args h P)(e: ∀x h',P x h'->match x with
 | .ret v=>K .normal (l.put o.dst v) h'| .pan v=>K (.pan v) l h'):gK E cx o l K (some (.yield b args,h)):=by
 obtain⟨x,h',a,b⟩:=c;exact⟨x,h',a,e x h' b⟩
end
theorem Cw{b:Nat}:target (.func (.yield b) #[] #[]) args=some (.yield b args):=rfl
def UnQ(E:Env)(c:List Deferred)(m:Option Value)(h:Hp)(Q:Option Value->Hp->Prop):Prop:= ∃a b,cM (lim E) c m h=some (a,b)/\Q a b
section
variable{E:Env}{rs:List ResultVar}{Q:Out->Option (Value×Bool)->Hp->Prop}{n:Nat}{ρ:Nat->Value}{d:List Deferred}{rc:Option (Value×Bool)}{h:Hp}
theorem ig(a:UnQ E d none h fun m h'=>m=none/\ ∃vs,cu E (tab n ρ) h' rs=some vs/\Q (.ret (ab vs)) rc h'):mw E rs Q .ret (LL n ρ d rc) h:=by obtain⟨m,h',b,rfl,c⟩:=a;exact⟨h',b,c⟩
theorem dG(a:UnQ E d none h fun m h'=>m=none/\ ∃vs,cu E (tab n ρ) h' rs=some vs/\Q (.ret (ab vs)) rc h'):mw E rs Q .normal (LL n ρ d rc) h:=ig a
theorem cg(a:UnQ E d (some v) h fun m h'=>match m with
 |some v=>Q (.pan v) rc h'|none=> ∃vs,cu E (tab n ρ) h' rs=some vs/\Q (.ret (ab vs)) rc h'):mw E rs Q (.pan v) (LL n ρ d rc) h:=by
 obtain⟨m,h',b,c⟩:=a;exact⟨m,h',b,c⟩
theorem cy{m:Option Value}{P:Option Value->Hp->Prop}(a:P m h):UnQ E [] m h P:=⟨m,h,rfl,a⟩
theorem un_dfr{b:Nat}{a:List Deferred}{m:Option Value}{P:Option Value->Hp->Prop}(i:h.get b=some .dfr)(c:UnQ E a m (h.put b .dead) P):UnQ E (tB b::a) m h P:=by obtain⟨e,f,j,g⟩:=c;refine⟨e,f,?_,g⟩;simp_all[cM,tB]
theorem un_fn{args:Array Value}{a:List Deferred}{P:Option Value->Hp->Prop}(b:dE E f (args.toList++cap.toList) none h fun o rc h'=>(∃v,o=.ret v)/\rc=none/\UnQ E a none h' P):UnQ E ({target:=.fn (.func f) cap,args}::a) none h P:=by obtain⟨o,c,k,e,⟨v,rfl⟩,rfl,g,h',i,j⟩:=b;refine⟨g,h',?_,j⟩;simp only [cM,e];exact i
theorem vS{args:Array Value}{a:List Deferred}{P:Option Value->Hp->Prop}(c:dE E f (args.toList++cap.toList) (some (v,false)) h fun o rc h'=>(∃u,o=.ret u)/\ ∃v' b,rc=some (v',b)/\UnQ E a (if b=true then none else some v') h' P):UnQ E ({target:=.fn (.func f) cap,args}::a) (some v) h P:=by
 obtain⟨o,e,j,k,⟨u,rfl⟩,v',b,rfl,g,h',l,i⟩:=c;refine⟨g,h',?_,i⟩;grind[cM]
theorem iP(a:cu E (tab n ρ) h rs=some vs)(hq:Q (.ret (ab vs)) rc h):mw E rs Q .ret (LL n ρ [] rc) h:=ig (cy ⟨rfl,vs,a,hq⟩)
theorem Dv(a:t<n)(hq:Q (.ret (ρ t)) rc h):mw E [.tmp t] Q .ret (LL n ρ [] rc) h:=iP (vs:=[ρ t]) (by simp only [cu,lq,if_pos a]) hq
theorem leave_r2{u:Tmp}(a:t<n)(b:u<n)(hq:Q (.ret (.tuple #[ρ t,ρ u])) rc h):mw E [.tmp t,.tmp u] Q .ret (LL n ρ [] rc) h:=iP (vs:=[ρ t,ρ u]) (by simp only [cu,lq,if_pos a,if_pos b]) hq
end
section
variable{M:Nat->Prop}{h0 h:Hp}{L:List (Nat×Ob)}{G:List GL}{E:Env}
theorem bD{t e:TypeId}{d cs:List Value}{a:List (Nat×Value)}(f:E.und t=some (.slice e))(g:eP E e c k d)(j:n*k<=16777216)(hf:my (fun i=>some (i*k,k)) (bA d n) a=some cs):rD h (fun h=>dK (li E h t n a)) (fun b=>.slice (some ⟨b,0,none⟩) n n) (.row cs 1):=by
 obtain⟨⟨i,l,rfl,rfl⟩,m,o⟩:=g;have p:E.sz e=some i.size:=by unfold Env.sz;rw [l]
 refine⟨.cells (Tr.ofList cs) cs.length e 1,fun x=>?_,fun q=>qm q _ _ _⟩;simp only [li,f,p,Xd j,m,o,Xn,hf,cond_true];rfl
theorem St.clone(S:St M h0 h L G){t o e:TypeId}{m:Nat}{r new:List Value}{b:Nat}{x:Value}(N:E.und t=some (.slice e))(B:eP E e c k r)(O:0<c)(s:fj E o=some false)(u:aF h k x=some (m,new))(C:m*k=new.length)(D:n*k=vs.length)(v:0<k)(p:(vs.length+new.length)*(c+1)<=70368744177664){ts:List TypeId}(F:Row h b vs md):
 ∃ h' v',dP E h (t::o::ts) (.slice (some ⟨b,0,none⟩) n n) x=some (h',v')/\
   ((m=0/\h'=h/\v'=.slice (some ⟨b,0,none⟩) n n)\/ ∃w,v'=.slice (some ⟨w,0,some k⟩) (n+m) (n+m)/\St M h0 h' ((w,.row (vs++new) 1)::L) G):=by
 obtain⟨⟨i,P,rfl,rfl⟩,Q,H⟩:=B;have q:dP E h (t::o::ts) (.slice (some ⟨b,0,none⟩) n n) x=ie E h e i (some ⟨b,0,none⟩) n n m new:=by grind[dP,lC]
 rw [q];by_cases y:m=0
 . subst y;have:new=[]:=(by grind);subst this;refine⟨h,_,?_,.inl ⟨rfl,rfl,rfl⟩⟩;grind[ie,Xd]
 . have z:Xf (n+m) n=false:=by
    cases s:Xf (n+m) n with
    |false=>rfl|true=>exact absurd (Xl s) (by omega)
   have d:n+m<=vs.length+new.length:=(by rw [<-D,<-C];have y:=XC n v;have R:=XC m v;omega);have g:(Xf ((n+m)*(i.bytes+1)) 70368744177664&&XL 0 i.bytes)=true:=(by rw [Xd (Xk (XS _ d) p)];simp_all);have I:Xh r.length i.size=true:=(by simp_all);have a:ie E h e i (some ⟨b,0,none⟩) n n m new=qx h e i.size (some ⟨b,0,none⟩) n m new:=(by unfold ie;grind);rw [a];obtain⟨l,T,A,f,J⟩:=F;have K:kX l vs.length 0 (n*i.size) new=some (l.pushAll vs.length new,vs.length+new.length):=(by grind[kX,Xn]);refine⟨h.new (.cells (l.pushAll vs.length new) (vs.length+new.length) e 1),.slice (some ⟨h.n,0,some i.size⟩) (n+m) (n+m),?_,.inr ⟨h.n,rfl,?_⟩⟩
   . grind[qx]
   . refine S.new ⟨l.pushAll vs.length new,e,?_,?_,fun j=>?_⟩
     . rw [h.get_new _ S.ok,if_pos rfl,Xp]
     . rw [Xp];exact Tr.sized_pushAll _ f
     grind[Tr.get_pushAll]
theorem St.cloneSl{n:Type}{enc:n->List Value}{xs ys:List n}(S:St M h0 h L G){t o e:TypeId}{d:Nat}{A:List Value}{b:Nat}{x:Value}(q:E.und t=some (.slice e))(i:eP E e d k A)(r:0<d)(s:fj E o=some false)(hs:aH h k enc x ys)(a: ∀x,(enc x).length=k)(u:0<k)(B:((xs.length+ys.length)*k)*(d+1)<=70368744177664){ts:List TypeId}(j:Row h b (xs.flatMap enc) md):
 ∃h' v',dP E h (t::o::ts) (.slice (some ⟨b,0,none⟩) xs.length xs.length) x=some (h',v')/\St M h0 h' L G/\Gr h h'/\aH h' k enc v' (xs++ys)/\(∀c,aA v' c->c=b\/h.n<=c):=by
 obtain⟨h',v',v,C⟩:=S.clone q i r s hs.src (aK a ys).symm (aK a xs).symm u (by grind[aK,Ye]) (ts:=ts) j;refine⟨h',v',v,?_⟩;rcases C with⟨w,rfl,rfl⟩|⟨l,rfl,f⟩
 . have D:ys=[]:=List.length_eq_zero_iff.1 w;subst D;refine⟨S,Gr.refl S.ok,.inr ⟨b,0,none,xs.length,by simp,by simp,?_⟩,fun c m=>.inl (Eq.symm m)⟩;rw [XE,j.load (by rw [aK a];omega),X9,<-aK a xs,X2]
 . have F:St M h0 h' L G:=⟨f.fr,fun p H=>f.own p (Xs _ H),f.gown,(List.nodup_cons.1 f.apart).2⟩;have g:Row h' l (xs.flatMap enc++ys.flatMap enc) 1:=f.row m0;have T:=(St.init (M:=NoM) S.ok).clone q i r s hs.src (aK a ys).symm (aK a xs).symm u (by grind[aK,Ye]) (ts:=ts) j;obtain⟨I,J,y,K⟩:=T;rw [v]at y;cases y;rcases K with⟨w,_,i⟩|⟨O,N,z⟩
   . grind
   . cases N;refine⟨F,z.gr,.inr ⟨l,0,some k,xs.length+ys.length,by grind,by grind,?_⟩,fun c m=>?_⟩
     . rw [g.load (by grind[Xp,aK,Ye]),X9,<-List.flatMap_append,<-aK a (xs++ys),X2]
     . right;have:l=c:=m;subst this;rcases(z.own _ m0).1 with h|h
       . exact h
       . exact h.elim
end
section
variable{E:Env}{t e:TypeId}{h:Hp}{x y:Operand}
noncomputable def lenR(E:Env)(h:Hp)(t:TypeId)(x:Value):Option (d6×Hp):=lenK (match x with
 | .map (some r)=>match h.get r with
   |some (.map a _)=>match E.und t with
    |some (.map _ _)=>some (.val (.int .i64 (.ofNat a.length)),h)|_=>none
   |_=>none
 |_=>none) h (lenP E t x)
theorem o_lenR:aop E ρ h (.call ⟨.builtin .len,#[x],#[t]⟩)=lenR E h t (ρ x):=o_lenK
noncomputable def oX(d:Option TypeDesc)(h:Hp)(x:Value):Option (d6×Hp):=match d with
 | some .string=>match x with
   | .string s=>some (.val (.int .i64 (.ofNat s.size)),h)|_=>none
 |some (.array n _)=>some (.val (.int .i64 (.ofNat n)),h)| some (.slice _)=>match x with
   | .slice _ n _=>some (.val (.int .i64 (.ofNat n)),h)|_=>none
 | some (.map _ _)=>match x with
   | .map none=>some (.val (.int .i64 0),h)| .map (some r)=>match h.get r with
     |some (.map a _)=>some (.val (.int .i64 (.ofNat a.length)),h)|_=>none
   |_=>none
 |_=>none
theorem len_q{x:Value}:lenR E h t x=oX (E.und t) h x:=by unfold lenR lenP;grind[oX,lenK]
theorem ES{a:Option Addr}:oX (some (.slice e)) h (.slice a n c)=some (.val (.int .i64 n),h):=rfl
theorem lenq_str{s:ByteArray}:oX (some .string) h (.string s)=some (.val (.int .i64 s.size),h):=rfl
theorem lenq_arr:oX (some (.array n e)) h v=some (.val (.int .i64 n),h):=rfl
theorem Ei{k:TypeId}:oX (some (.map k e)) h (.map none)=some (.val (.int .i64 0),h):=rfl
theorem lenq_map{k:TypeId}{r:Nat}{a:List (Value×Value×Nat)}(b:h.get r=some (.map a c)):oX (some (.map k e)) h (.map (some r))=some (.val (.int .i64 a.length),h):=by simp [oX,b]
theorem aH.lenq{a:Type}{enc:a->List Value}{xs:List a}(s:aH h' k enc v xs):oX (some (.slice e)) h v=some (.val (.int .i64 xs.length),h):=by rcases s with⟨rfl,rfl⟩|⟨_,_,_,_,rfl,_⟩<;>rfl
def iC(k:Option Nat)(v i:Value):Option Value:=match k with
 |none=>none| some k=>match v with
   | .slice (some a) n _=>match i7 i n with
     |none=>none|some j=>some (.pointer (some (iR a (j*k))))
   |_=>none
def idxA(n:Nat)(k:Option Nat)(v i:Value):Option Value:=match k with
 |none=>none| some k=>match v with
   | .pointer (some a)=>match i7 i n with
     |none=>none|some j=>some (.pointer (some (iR a (j*k))))
   |_=>none
def idxQ(E:Env)(d:Option TypeDesc)(v i:Value):Option Value:=match d with
 |some (.slice e)=>iC (E.sz e) v i|some (.array n e)=>idxA n (E.sz e) v i|_=>none
theorem idx_q{i:Value}:gu E t v i=idxQ E (E.und t) v i:=by
 unfold gu idxQ;cases a:E.und t with
 |none=>rfl| some d=>
   cases d<;>first
    |rfl
    |(simp only [iC];cases b:E.sz _<;>(split<;>first|rfl|(split<;>simp_all)))
    |(simp only [idxA];grind)
theorem Fc{i:Value}:idxQ E (some (.slice e)) v i=iC (E.sz e) v i:=rfl
theorem EA{i:Value}:idxQ E (some (.array n e)) v i=idxA n (E.sz e) v i:=rfl
def putI(a:Addr)(k:Nat):Option Nat->Option Value
 |none=>none|some j=>some (.pointer (some ⟨a.block,a.off+j*k,none⟩))
theorem ng{a:Addr}{i:Value}:iC (some k) (.slice (some a) n c) i=putI a k (i7 i n):=by rfl
theorem idxa_ptr{a:Addr}{i:Value}:idxA n (some k) (.pointer (some a)) i=putI a k (i7 i n):=by rfl
theorem vE{a:Addr}:putI a k (some j)=some (.pointer (some ⟨a.block,a.off+j*k,none⟩)):=rfl
theorem aH.ix{a:Type}{enc:a->List Value}{xs:List a}(s:aH h k enc v xs)(f: ∀x,(enc x).length=k)(d:i<xs.length):
 ∃b o,iC (some k) v (.int kd i)=some (.pointer (some ⟨b,o,none⟩))/\h.load b o k=some (enc xs[i]):=by
 obtain⟨b,o,j,c,rfl,g⟩:=s.idx f d;refine⟨b,o+i*k,?_,g⟩;rw [ng,ey d];rfl
noncomputable def loadQ(g:Option Bool)(n:Option Nat)(h:Hp)(b o:Nat):Option Value:=match g with
 | some true=>match n with
   |some n=>agg1 (h.load b o n)|none=>none
 |some false=>one1 (h.load b o 1)|none=>none
theorem load_q{b o:Nat}:gm E h t (.pointer (some ⟨b,o,s⟩))=loadQ (E.agg t) (E.sz t) h b o:=by grind[gm,loadQ,Fm,loadV_agg]
theorem loadq_f{b o:Nat}{n:Option Nat}:loadQ (some false) n h b o=one1 (h.load b o 1):=rfl
theorem loadq_t{b o:Nat}:loadQ (some true) (some n) h b o=agg1 (h.load b o n):=rfl
def isSl(E:Env)(t:TypeId):Bool:=match E.und t with
 |some (.slice _)=>true|_=>false
theorem sl_und(b:isSl E t=true): ∃a,E.und t=some (.slice a):=by grind[isSl]
theorem e_slice{a:Addr}(b:isSl E t=true):bQ E .eql t x y (.slice (some a) n c) (.slice none 0 0)=some (.bool false):=by grind[sl_und,bQ,iq,fo]
theorem e_snil(a:isSl E t=true):bQ E .eql t x y (.slice none 0 0) (.slice none 0 0)=some (.bool true):=by grind[sl_und,bQ,iq,fo]
def Fl(v:Value):Prop:=ae v=[v]/\jx v=true/\ ∀x,v≠ .chan x
theorem cE{k:IntKind}{n:Int}:Fl (.int k n):=⟨rfl,rfl,nofun⟩
theorem qi{b:Bool}:Fl (.bool b):=⟨rfl,rfl,nofun⟩
theorem fl_str{b:ByteArray}:Fl (.string b):=⟨rfl,rfl,nofun⟩
theorem dB{a:Option Addr}:Fl (.pointer a):=⟨rfl,rfl,nofun⟩
theorem bW{a:Option Addr}:Fl (.slice a n c):=⟨rfl,rfl,nofun⟩
theorem fl_map{a:Option Nat}:Fl (.map a):=⟨rfl,rfl,nofun⟩
theorem jg{f:Fn}{a b:Array Value}:Fl (.func f a b):=⟨rfl,rfl,nofun⟩
theorem fl_nilf:Fl .nilFunc:=⟨rfl,rfl,nofun⟩
theorem fl_nili:Fl .nilIface:=⟨rfl,rfl,nofun⟩
theorem Dw{t:TypeId}:Fl (.iface t v):=⟨rfl,rfl,nofun⟩
theorem aH.fl{a:Type}{enc:a->List Value}{xs:List a}(s:aH h k enc v xs):Fl v:=by rcases s with⟨rfl,_⟩|⟨_,_,_,_,rfl,_⟩<;>exact bW
theorem kB.fl{p:GL}(g:kB h p):Fl p.1:=by rcases g with⟨e,_⟩|⟨_,_,e,_⟩<;>rw [e]<;>exact bW
def placesOf(E:Env)(t:TypeId):Option (List (Nat×Nat)):=match E.und t with
 |some (.struct a)=>qf E a.toList|_=>none
def aggO:Option (List Value)->Option Value
 |some l=>some (.agg ⟨l⟩)|none=>none
theorem aggO_some:aggO (some l)=some (.agg ⟨l⟩):=rfl
def pD(ps:List (Nat×Nat))(l:List Value)(a:List (Nat×Value)):Option (List Value):=my (fun i=>ps[i]?) l a
theorem build_st{c:List Value}{a:List (Nat×Value)}(d:E.zero t=some c)(b:placesOf E t=some ps):nR E t a=aggO (pD ps c a):=by
 unfold placesOf at b;unfold nR pD;rw [d]
 split at b
 . rename_i g f;simp only [f,b];cases my (fun i=>ps[i]?) c a<;>rfl
 . cases b
theorem fill_nil:pD ps l []=some l:=rfl
def buildQ(z:Option (List Value))(p:Option (List (Nat×Nat)))(a:List (Nat×Value)):Option Value:=match z with
 |none=>none| some z=>match p with
   |none=>none|some p=>aggO (pD p z a)
theorem build_q{a:List (Nat×Value)}(b:(placesOf E t).isSome=true):nR E t a=buildQ (E.zero t) (placesOf E t) a:=by grind[placesOf,nR,buildQ,build_st]
theorem Eg{b:List Value}{a:List (Nat×Value)}:buildQ (some b) (some ps) a=aggO (pD ps b a):=rfl
def fillS(ps:List (Nat×Nat))(l:List Value)(v:Value)(r:List (Nat×Value)):Option (Nat×Nat)->Option (List Value)
 |none=>none|some (o,n)=>match v with
  | .chan _=>none|v=>bif Xh (ae v).length n&&Xf (o+n) l.length then pD ps (bN l o (ae v)) r else none
theorem fill_q:pD ps l ((i,v)::r)=fillS ps l v r (ps[i]?):=by rfl
theorem fills_one{o:Nat}(a:Fl v)(b:o<l.length):fillS ps l v r (some (o,1))=pD ps (l.set o v) r:=by
 have e:(bif Xh (ae v).length 1&&Xf (o+1) l.length then pD ps (bN l o (ae v)) r else none)=pD ps (l.set o v) r:=by rw [a.1];simp only [XZ,X4,Xq,Xn,Xd (show o+1<=l.length from b),Bool.and_self,cond_true,bN]
 cases v<;>first|exact e|exact absurd rfl (a.2.2 _)
theorem fills_agg{c:List Value}{o:Nat}(a:c.length=n)(b:o+n<=l.length):fillS ps l (.agg ⟨c⟩) r (some (o,n))=pD ps (bN l o c) r:=by simp only [fillS,ae,a,Xn,Xd b,Bool.and_self,cond_true]
theorem setL_nil{o:Nat}:bN l o []=l:=rfl
theorem setL_cons{o:Nat}:bN l o (v::vs)=bN (l.set o v) (o+1) vs:=rfl
theorem dU(a:Fl v):rD h (fun h=>boxR h t v) ptrTo (.row [v] 1):=by have:=bK (h:=h) (t:=t) a.2.2;rw [a.1]at this;exact this
theorem aw{f:Hp}(S:St M f h L G){b off:Nat}(g:L[i]? =some (b,.row l md))(hs:E.sz t=some 1)(c:Fl v)(k:off<l.length)(d:md≠0): ∃h',jT E h t (.pointer (some ⟨b,off,s⟩)) v=some h'/\St M f h' (L.set i (b,.row (l.set off v) md)) G/\Mo (· =b) h h':=by
 have a:ae v=[v]:=c.1;have:=S.store (v:=v) (t:=t) (s:=s) (off:=off) (n:=1) g hs c.2.2 (by rw [a];rfl) (by rw [a];simp [c.2.1]) (by omega) d;rw [a]at this;have e:lay l off [v]=l.set off v:=by refine Xw fun j=>?_;rw [lH (by simp;omega),List.getElem?_set];grind
 grind
end
def ifaceR(E:Env)(t:TypeId)(v:Value):Option Value:=match E.und t with
 |none=>none|some (.interface _)=>none|some _=>some (.iface t v)
theorem o_ifaceR{t:TypeId}:aop E ρ h (.makeInterface t x)=dp h (ifaceR E t (ρ x)):=rfl
theorem ifaceR_is{t:TypeId}(a:nG E t=true):ifaceR E t v=some (.iface t v):=mk_iface a
def nilcR:Value->Option Value
 | .pointer (some a)=>some (.pointer (some a))| .func (.func f) a b=>some (.func (.func f) a b)|_=>none
theorem o_nilcR:aop E ρ h (.nilCheck x)=dp h (nilcR (ρ x)):=rfl
theorem nilcR_ptr{a:Addr}:nilcR (.pointer (some a))=some (.pointer (some a)):=rfl
def pickR(c a b:Value):Option Value:=match c with
 | .bool t=>some (bif t then a else b)
 |_=>none
theorem o_pickR{c a b:Operand}:aop E ρ h (.pick c a b)=dp h (pickR (ρ c) (ρ a) (ρ b)):=rfl
theorem pick_t{a b:Value}:pickR (.bool true) a b=some a:=rfl
theorem pick_f{a b:Value}:pickR (.bool false) a b=some b:=rfl
def extrR(i:Nat):Value->Option Value
 | .tuple a=>a.toList[i]?|_=>none
theorem o_extrR:aop E ρ h (.extract x i)=dp h (extrR i (ρ x)):=by rfl
theorem extr_0{a:Value}:extrR 0 (.tuple ⟨a::l⟩)=some a:=rfl
theorem extr_1{a b:Value}:extrR 1 (.tuple ⟨a::b::l⟩)=some b:=rfl
theorem extr_2{a b c:Value}:extrR 2 (.tuple ⟨a::b::c::l⟩)=some c:=rfl
noncomputable def delR(E:Env)(h:Hp)(t:TypeId)(m k:Value):Option (d6×Hp):=match oZ E h t m k with
 |none=>none|some a=>some (.val (.tuple #[]),a)
theorem o_delR{m k:Operand}{t:TypeId}{ts:List TypeId}:aop E ρ h (.call ⟨.builtin .delete,#[m,k],⟨t::ts⟩⟩)=delR E h t (ρ m) (ρ k):=rfl
theorem aq{a b:Nat}:((a:Int)<(b:Int))=(a<b):=by simp
def BS:=zB (@uf)<|zB (@run_mp)<|zB (@EQ)<|zB (@r_ops)<|zB (@g_true)<|zB (@g_false)<|zB (@tO)<|zB (@run_ret)<|zB (@run_nil)<|zB (@run_skip)<|zB (@run_block)<|zB (@run_scope)<|zB (@run_blk)<|zB (@run_exit)<|zB (@CT)<|zB (@BB)<|zB (@Co)<|zB (@EW)<|zB (@zu)<|zB (@r_cond)<|zB (@c_true)<|zB (@c_false)<|zB (@r_opsD)<|zB (@dn_loud)<|zB (@dn_quiet)<|zB (@dn_val)<|zB (@dn_skip)<|zB (@d_skip)<|zB (@kQ)<|zB (@aO)<|zB (@aZ)<|zB (@Dc)<|zB (@guard_no)<|zB (@E7)<|zB (@gj_some)<|zB (@gv_true)<|zB (@gv_false)<|zB (@gv_tuple)<|zB (@o_move)<|zB (@o_assign)<|zB (@o_pickR)<|zB (@pick_t)<|zB (@pick_f)<|zB (@o_load)<|zB (@o_store)<|zB (@o_binOp)<|zB (@o_unOp)<|zB (@o_nilcR)<|zB (@nilcR_ptr)<|zB (@o_ifaceR)<|zB (@E8)<|zB (@o_slice)<|zB (@Ee)<|zB (@o_field)<|zB (@Ec)<|zB (@o_index)<|zB (@o_extrR)<|zB (@extr_0)<|zB (@extr_1)<|zB (@extr_2)<|zB (@o_build)<|zB (@Db)<|zB (@D8)<|zB (@Ez)<|zB (@BQ)<|zB (@o_convert)<|zB (@o_lookup)<|zB (@DZ)<|zB (@E0)<|zB (@Dr)<|zB (@o_allocR)<|zB (@o_boxR)<|zB (@o_callv)<|zB (@o_max)<|zB (@o_min)<|zB (@o_append)<|zB (@o_copy)<|zB (@o_lenR)<|zB (@o_delR)<|zB (@o_recover)<|zB (@o_deferR)<|zB (@o_panicR)<|zB (@Fp)<|zB (@Fi)<|zB (@EK)<|zB (@Et)<|zB (@BD)<|zB (@Ar)<|zB (@zD)<|zB (@yK)<|zB (@yN)<|zB (@step_defer)<|zB (@target_fn)<|zB (@Cw)<|zB (@b_add)<|zB (@b_sub)<|zB (@b_mul)<|zB (@b_eql)<|zB (@b_neq)<|zB (@b_lss)<|zB (@b_leq)<|zB (@b_gtr)<|zB (@b_geq)<|zB (@b_eqlB)<|zB (@b_neqB)<|zB (@same_bool)<|zB (@u_not)<|zB (@mm_max)<|zB (@mm_min)<|zB (@ah)<|zB (@one1_some)<|zB (@agg1_some)<|zB (@cq)<|zB (@ll_put0)<|zB (@bS)<|zB (@ll_func)<|zB (@c_int)<|zB (@c_bool)<|zB (@c_string)<|zB (@c_nilp)<|zB (@c_nils)<|zB (@c_nilm)<|zB (@c_nilf)<|zB (@c_nili)<|zB (@ll_regs)<|zB (@lq)<|zB (@az)<|zB (@ct)<|zB (@cP)<|zB (@Bj)<|zB (@CP)<|zB (@dk)<|zB (@bV)<|zB (@hush_s)<|zB (@idxP_in)<|zB (@ey)<|zB (@idx_q)<|zB (@Fc)<|zB (@EA)<|zB (@ng)<|zB (@idxa_ptr)<|zB (@vE)<|zB (@len_q)<|zB (@ES)<|zB (@lenq_str)<|zB (@lenq_arr)<|zB (@Ei)<|zB (@load_q)<|zB (@loadq_f)<|zB (@loadq_t)<|zB (@n_iface)<|zB (@n_nil)<|zB (@e_iface)<|zB (@e_nil)<|zB (@n_ptr)<|zB (@e_ptr)<|zB (@n_pnil)<|zB (@e_pnil)<|zB (@e_slice)<|zB (@e_snil)<|zB (@assert_is)<|zB (@ifaceR_is)<|zB (@build_q)<|zB (@Eg)<|zB (@aggO_some)<|zB (@fill_nil)<|zB (@fill_q)<|zB (@fills_one)<|zB (@fills_agg)<|zB (@setL_nil)<|zB (@setL_cons)<|zB (@cE)<|zB (@qi)<|zB (@fl_str)<|zB (@dB)<|zB (@bW)<|zB (@fl_map)<|zB (@jg)<|zB (@fl_nilf)<|zB (@fl_nili)<|(@Dw)
structure ItS(h0:Hp)(D:Nat->Prop)(h:Hp)(F:List Nat):Prop where
 ok:OZ h
 n:h0.n<=h.n
 data: ∀b,b<h0.n->D b->h.get b=h0.get b
 apart: ∀b∈F,¬(b<h0.n/\D b)
 lt: ∀b∈F,b<h.n
section
variable{h0 h h':Hp}{D:Nat->Prop}{F F':List Nat}
theorem ItS.gr(s:ItS h0 D h F)(g:Gr h h'):ItS h0 D h' F:=
 ⟨g.ok,Xk s.n g.n,fun b a c=>(g.get b (Xg a s.n)).trans (s.data b a c),s.apart,fun b a=>Xg (s.lt b a) g.n⟩
theorem ItS.mo(s:ItS h0 D h F)(m:Mo (· ∈F) h h')(hf: ∀b∈F',b∈F\/h.n<=b)(d: ∀b∈F',b<h'.n):ItS h0 D h' F':=
 ⟨m.ok,Xk s.n m.n,fun b a c=>(m.get b (Xg a s.n) (fun hf=>s.apart b hf ⟨a,c⟩)).trans (s.data b a c),
  fun b a c=>(hf b a).elim (fun a=>s.apart b a c) (fun a=>by have:=s.n;omega),d⟩
theorem ItS.load(s:ItS h0 D h F){b o n:Nat}{l:List Value}(a:OZ h0)(e:h0.load b o n=some l)(c:D b):h.load b o n=some l:=by have:=s.data b (bU a e) c;grind[Hp.load]
theorem ItS.sl{d:Type}{enc:d->List Value}{xs:List d}(s:ItS h0 D h F)(a:OZ h0)(e:aH h0 k enc v xs)(g: ∀b,aA v b->D b):aH h k enc v xs:=by
 rcases e with e|⟨b,o,i,c,f,j,l⟩
 . exact .inl e
 . exact .inr ⟨b,o,i,c,f,j,s.load a l (g b (by rw [f];rfl))⟩
end
structure Yld(E:Env)(lb:Nat)(J:Nat->Hp->List Nat->Prop)(Z:Out->Hp->Prop)(xs:List (List Value)):Prop where
 lt: ∀i h F,J i h F->OZ h/\ ∀b∈F,b<h.n
 gr: ∀i h F h',J i h F->Gr h h'->J i h' F
 zgr: ∀h h',Z (.ret (.bool false)) h->Gr h h'->Z (.ret (.bool false)) h'
 round: ∀i x h F,xs[i]? =some x->J i h F->mN E lb x h fun o h'=>(o=.ret (.bool true)/\ ∃F',J (i+1) h' F'/\Mo (· ∈F) h h'/\ ∀b∈F',b∈F\/h.n<=b)\/(o=.ret (.bool false)/\Z o h'/\OZ h')\/((∃v,o=.pan v)/\Z o h')
def YQ(J:Nat->Hp->List Nat->Prop)(Z:Out->Hp->Prop)(n:Nat)(o:Out)(rc:Option (Value×Bool))(h':Hp):Prop:=
 rc=none/\((∃u a,o=.ret u/\J n h' a)\/(∃u,o=.ret u/\Z (.ret (.bool false)) h')\/(∃v,o=.pan v/\Z o h'))
theorem xe{a:List Value}{d:Hp}{D:Nat->Prop}(H: ∀b J Z,Yld E b J Z xs-> ∀h F,ItS d D h F->J 0 h F->dE E g (a++[.func (.yield b) #[] #[]]++post) none h (YQ J Z xs.length)):Iter E g a post d D xs:=by
 intro b J Z h F f i j hlt c k l m e;exact H b J Z ⟨hlt,c,k,m⟩ h F ⟨f,i,j,l,(hlt 0 h F e).2⟩ e
theorem CH{a:List Value}{c:Hp}{D:Nat->Prop}(H:Iter E g a post c D xs){d:Nat}(Y:Yld E d J Z xs){F:List Nat}(e:Mo (fun b=> ¬D b) c h)(i: ∀b∈F,b<c.n-> ¬D b)(j:J 0 h F):dE E g (a++[.func (.yield d) #[] #[]]++post) none h (YQ J Z xs.length):=
 H d J Z h F e.ok e.n (fun b f k=>e.get b f (fun l=>l k)) Y.lt Y.gr Y.zgr (fun b f h=>i b f h.1 h.2) Y.round j
theorem iE{l:Loc}{K:Ex->Loc->Hp->Prop}{d:Hp}{D:Nat->Prop}{e:Nat}{x:List Value}{F:List Nat}(Y:Yld E e J Z xs)(s:ItS d D h F)(f:J i h F)(g:xs[i]? =some x)(j: ∀h' F',J (i+1) h' F'->ItS d D h' F'->Mo (· ∈F) h h'->(∀b∈F',b∈F\/h.n<=b)->K .normal (l.put o.dst (.bool true)) h')(k2: ∀h',Z (.ret (.bool false)) h'->OZ h'->K .normal (l.put o.dst (.bool false)) h')(k: ∀v h',Z (.pan v) h'->K (.pan v) l h'):gK E cx o l K (some (.yield e x,h)):=by
 refine uQ (Y.round i x h F g f) ?_;rintro q h' (⟨rfl,F',a,b,c⟩|⟨rfl,a,b⟩|⟨⟨v,rfl⟩,a⟩)
 . exact j h' F' a (s.mo b c (Y.lt _ _ _ a).2) b c
 . exact k2 h' a b
 grind
section
variable{M:Nat->Prop}{h0 h h':Hp}{L L':List (Nat×Ob)}{G G':List GL}
theorem St.base(S:St M h0 h L G):St (· ∈keys L G) h h L G:=
 ⟨Mo.refl S.ok,fun p a=>⟨.inr (py a),(S.own p a).2⟩,fun p a=>⟨(S.gown p a).1,fun b c=>.inr (nv a c)⟩,S.apart⟩
theorem St.key_own(S:St M h0 h L G){b:Nat}(a:b∈keys L G):h0.n<=b\/M b:=by
 unfold keys at a;rcases List.mem_append.1 a with a|a
 . obtain⟨p,c,rfl⟩:=List.mem_map.1 a;exact(S.own p c).1
 . obtain⟨p,c,d⟩:=List.mem_filterMap.1 a;exact(S.gown p c).2 b d
theorem St.rebase(S:St M h0 h L G)(T:St (· ∈keys L G) h h' L' G'):St M h0 h' L' G':=by have d: ∀b,h.n<=b\/b∈keys L G->h0.n<=b\/M b:=fun b a=>a.elim (fun a=>.inl (Xk S.fr.n a)) S.key_own;exact⟨S.fr.trans T.fr fun b a=>(S.key_own a).symm,fun p c=>⟨d _ (T.own p c).1,(T.own p c).2⟩,fun p c=>⟨(T.gown p c).1,fun b a=>d b ((T.gown p c).2 b a)⟩,T.apart⟩
theorem St.key_new(T:St (· ∈keys L G) h h' L' G'): ∀b∈keys L' G',b∈keys L G\/h.n<=b:=fun _ a=>(T.key_own a).symm
theorem St.sub(S:St M h0 h L G)(b:L'.Sublist L)(c:G'.Sublist G):St M h0 h L' G':=
 ⟨S.fr,fun p a=>S.own p (b.subset a),fun p a=>S.gown p (c.subset a),S.apart.sublist ((b.map _).append (c.filterMap _))⟩
theorem St.drop1{x:Nat×Ob}(S:St M h0 h (x::L) G):St M h0 h L G:=S.sub (List.sublist_cons_self _ _) (List.Sublist.refl _)
end
theorem d7{P Q:Out->Option (Value×Bool)->Hp->Prop}(d:dE E f args rc h P)(e: ∀o c h',P o c h'->Q o c h'):dE E f args rc h Q:=by obtain⟨o,c,h',a,b⟩:=d;exact⟨o,c,h',a,e _ _ _ b⟩
theorem iz{P:Value->Hp->Prop}(a:Ret E f args h P)(b: ∀v h',P v h'->Q v h'):Ret E f args h Q:=Ret.mono b a
theorem qR{Q:dW}{k:List Fr}{l:Loc}{a:Nat}{o:Out}(y:YQ J (fun _ _=>False) n o rc h)(c: ∀F,J n h F-> ∃x,h.get a=some (.loop x)/\x.st≠1/\RangeGo E cx Q k l (h.put a .dead) x.pending):RangeQ E cx Q k l a o rc h:=by
 obtain⟨_,⟨u,F,rfl,d⟩|⟨u,_,b⟩|⟨v,_,b⟩⟩:=y
 . exact c F d
 . exact b.elim
 . exact b.elim
theorem St.dead{M:Nat->Prop}{d h:Hp}{L:List (Nat×Ob)}{G:List GL}{b:Nat}{o:Ob}(S:St M d h ((b,o)::L) G):St M d (h.put b .dead) L G:=by
 have f:=S.own _ m0;refine⟨S.fr.put f.1 _,fun p a=>⟨(S.own p (.tail _ a)).1,(S.own p (.tail _ a)).2.of_get (dZ fun e=>?_)⟩,fun p a=>⟨(S.gown p a).1.of_get fun c g=>dZ fun e=>?_,(S.gown p a).2⟩,(List.nodup_cons.1 S.apart).2⟩
 . exact(List.nodup_cons.1 S.apart).1 (by show b∈keys L G;rw [e];exact py a)
 . exact(List.nodup_cons.1 S.apart).1 (by show b∈keys L G;rw [e];exact nv a g)
theorem St.get{M:Nat->Prop}{a h:Hp}{L:List (Nat×Ob)}{G:List GL}{b:Nat}{x:iI}(S:St M a h L G)(c:(b,Ob.loop x)∈L):h.get b=some (.loop x):=(S.own _ c).2
theorem St.getD{a:Hp}{b:Nat}(S:St M a h L G)(c:(b,Ob.dfr)∈L):h.get b=some .dfr:=(S.own _ c).2
theorem tG{Q:dW}{k:List Fr}{b:Code}{f:Type}(I:f->(Nat->Value)->List Deferred->Hp->Prop)(m:f->Nat)(hs: ∀a,(∀g c i h',m g<m a->I g c i h'->Run E (lim E) cx Q (.code (.loop b)::k) .normal (LL n c i rc) h')-> ∀ρ d h,I a ρ d h->Run E (lim E) cx Q (.code b:: .code (.loop b)::k) .normal (LL n ρ d rc) h):
 ∀a ρ d h,I a ρ d h->Run E (lim E) cx Q (.code (.loop b)::k) .normal (LL n ρ d rc) h:=by
 have e: ∀j a,m a<j-> ∀ρ d h,I a ρ d h->Run E (lim E) cx Q (.code (.loop b)::k) .normal (LL n ρ d rc) h:=by
  intro j
  induction j with
  |zero=>omega| succ j o=>grind[d9]
 intro a ρ d h l;exact e (m a+1) a (by omega) ρ d h l
def dV(a:List Nat):List (Nat×Ob):=a.map fun b=>(b,Ob.dfr)
theorem ib{E:Env}{M:Nat->Prop}{d:Hp}{L:List (Nat×Ob)}{G:List GL}{m:Option Value}{P:Option Value->Hp->Prop}: ∀(a:List Nat) (h:Hp),St M d h (dV a++L) G->(∀h',St M d h' L G->P m h')->UnQ E (a.map tB) m h P
 | [],h,S,c=>cy (c h S)|b::a,h,S,c=>un_dfr (S.getD m0) (ib a _ (S.dead) c)
theorem tV{ρ:Nat->Value}{ty:TypeId}(a:t<n)(b:gm E h ty (ρ t)=some v):cu E (tab n ρ) h [.cell t ty]=some [v]:=by simp only [cu,lq,if_pos a,b]
theorem zX{t:TypeId}{b o:Nat}(a:E.agg t=some false)(c:h.load b o 1=some [v]):gm E h t (.pointer (some ⟨b,o,s⟩))=some v:=by rw [load_q,a,loadq_f,c];rfl
theorem bz{t:TypeId}{b o:Nat}(a:E.agg t=some true)(hs:E.sz t=some n)(c:h.load b o n=some l):gm E h t (.pointer (some ⟨b,o,s⟩))=some (.agg ⟨l⟩):=by rw [load_q,a,hs,loadq_t,c];rfl
theorem St.call1{m:Hp}(S:St M m h L G){b:Nat}{o o':Ob}(k:L[i]? =some (b,o))(f:Mo (· =b) h h')(r:Has h' b o'):St M m h' (L.set i (b,o')) G:=by
 have s:=S.own _ (Xa k);have g:(keys L G)[i]? =some b:=lE k;refine⟨S.fr.trans f (fun c l=>by grind),fun p a=>?_,fun p a=>⟨(S.gown p a).1.of_get fun c l=>?_,(S.gown p a).2⟩,?_⟩
 . rcases oN a with rfl|⟨j,n,a⟩
   . grind
   . have d:=S.own p (Xa a);refine⟨d.1,d.2.of_get (f.get _ (d.2.lt S.ok) fun e=>n ?_)⟩;have q:(keys L G)[j]? =some b:=(by rw [lE a];rw [e]);exact th S.apart q g
 . refine f.get c ((S.gown p a).1.lt S.ok l) fun e=>?_;subst e;have d:=S.apart;unfold keys at d;rw [Xv]at d;exact d.2.2 c (List.mem_map.2 ⟨_,Xa k,rfl⟩) c (List.mem_filterMap.2 ⟨p,a,l⟩) rfl
 . have:keys (L.set i (b,o')) G=keys L G:=(by unfold keys;congr 1;rw [List.map_set];refine Xw fun j=>?_;grind);rw [this];exact S.apart
theorem St.init1(a:OZ h){b:Nat}{o:Ob}(c:Has h b o):St (· =b) h h [(b,o)] []:=(St.init a).push (.inr rfl) c (by simp [keys])
theorem wrap8(z:Int):0<=am .u8 z/\am .u8 z<256:=by
 unfold am;cases z with
 | ofNat m=>
   simp only [hf,sgn,pw];cases a:XL m 256 with
   | true=>rw [XX]at a;grind| false=>grind
 | negSucc m=>simp only [hf,sgn,pw,cond_false];grind
theorem aR{a:List (Nat×Tch)}{l:List (Nat×Nat)}:dH a ((i,j)::l)=(mK (di i a) (di j a)&&dH a l):=rfl
theorem aG{a:Nat}(e:leaves h h' a=true):mK (some (.blk a)) (some (.run h h'))=true:=e
theorem aJ{a:Nat}(e:leaves h h' a=true):mK (some (.run h h')) (some (.blk a))=true:=e
theorem iu{a b:Nat}(e:a≠b):mK (some (.blk a)) (some (.blk b))=true:=by grind[mK,Xh,absurd,Xb]
theorem bo{b:Tch}{l:List (Nat×Tch)}:di i ((i,b)::l)=some b:=by simp [di,Xn]
theorem aP{b:Tch}{l:List (Nat×Tch)}(h:i≠k):di i ((k,b)::l)=di i l:=by grind[Xh,dJ,di]
theorem St.leaves{M:Nat->Prop}{a h h':Hp}{L:List (Nat×Ob)}{G:List GL}(S:St M a h L G){b c:Nat}{o:Ob}(d:(c,o)∈L)(f:Mo (· =b) h h')(e:c≠b):leaves h h' c=true:=
 iG (f.get c ((S.own _ d).2.lt S.ok) e)
theorem aM{x:Option Tch}{a:List (Nat×Tch)}(h:i≠k):di i (iF k a x)=di i a:=by
 cases x with
 |none=>rfl|some b=>exact aP h
theorem bj{b:Bool}{t:TypeId}{a:Operand}:dr ρ b (.load t a) h h'=(match ρ a with| .pointer (some a)=>some (.blk a.block)|_=>none):=by simp only [dr,ef,mU,ic,touch,cond_false];grind
theorem bH{f:Operand}{ts:Array TypeId}:dr ρ false (.call ⟨.value f,as,ts⟩) h h'=some (.run h h'):=rfl
theorem aQ{b:Bool}{t:TypeId}:dr ρ b (.alloc t) h h'=some (.blk h.n):=rfl
theorem St.gset(S:St M A h L G){t:TypeId}(r:G[j]? =some (v,1,vs))(P:i<vs.length)(hs:E.sz t=some 1):
 ∃b,iC (some 1) v (.int kd i)=some (.pointer (some ⟨b,i,none⟩))/\ ∀x,Fl x-> ∃h',jT E h t (.pointer (some ⟨b,i,none⟩)) x=some h'/\St M A h' L (G.set j (v,1,vs.set i x)):=by
 obtain⟨F,k⟩:=S.gown _ (Xa r);rcases F with⟨_,s⟩|⟨b,n,B,s,C⟩
 . grind
 . simp only []at B s C;subst B;have Q:n=vs.length:=(by omega);refine⟨b,?_,fun x u=>?_⟩
   . grind[ng,ey,putI]
   . obtain ⟨y,H,l⟩:=C.store S.ok Nat.one_ne_zero (o:=i) (vs:=[x]) (by simp;omega) (by simp [u.2.1]);have e:lay vs i [x]=vs.set i x:=(by refine Xw fun j=>?_;rw [lH (by simp;omega),List.getElem?_set];grind);rw [e]at l;refine⟨h.put b y,?_,?_⟩
     . have:jT E h t (.pointer (some ⟨b,i,none⟩)) x=h.store b i [x]:=(by simp only [jT,hs];have I:ae x=[x]:=u.1;have J:(bif Xh (ae x).length 1 then h.store b i (ae x)else none)=h.store b i [x]:=(by rw [I];rfl);revert J;cases x<;>first|exact fun h=>h|exact absurd rfl (u.2.2 _));grind
     . have m:gy (Value.slice (some ⟨b,0,some 1⟩) n n,1,vs)=some b:=rfl;have D:=k b m;have hlt:=(List.getElem?_eq_some_iff.1 r).1;have K: ∀c∈L.map Yb,c≠b:=fun c w e=>(by have H:=S.apart;grind[keys,Xv,Xa]);have f:keys L (G.set j (Value.slice (some ⟨b,0,some 1⟩) n n,1,vs.set i x))=keys L G:=by
        unfold keys;congr 1;have: ∀(G:List GL) (j:Nat) (p q:GL),G[j]? =some p->gy q=gy p->(G.set j q).filterMap gy=G.filterMap gy:=by
         intro G
         induction G with
         |nil=>grind| cons g G N=>
           intro j p q r R;cases j with
           |zero=>grind|succ j=>grind
        exact this G j _ _ r rfl
       refine⟨S.fr.put D y,fun p d=>⟨(S.own p d).1,(S.own p d).2.of_get (dZ fun e=>K _ (XT d) e.symm)⟩,fun p d=>?_,by rw [f];exact S.apart⟩;rcases oN d with rfl|⟨T,z,d⟩
       . exact⟨.inr ⟨b,n,rfl,by simpa using s,l⟩,fun c w=>by cases w;exact D⟩
       . refine⟨(S.gown p (Xa d)).1.of_get fun c w=>dZ fun e=>z ?_,(S.gown p (Xa d)).2⟩;subst e;have l:=S.apart;unfold keys at l;have U:=(List.nodup_append.1 l).2.1;have O: ∀(G:List GL) (a c:Nat) (p q:GL),(G.filterMap gy).Nodup->G[a]? =some p->G[c]? =some q-> ∀x,gy p=some x->gy q=some x->a=c:=by
          intro G
          induction G with
          |nil=>grind| cons g G N=>grind
         grind
def JP(n:Nat)(d:List Deferred)(rc:Option (Value×Bool))(J:(Nat->Value)->Hp->Prop):dW:=fun e l h=>e=.normal/\ ∃a,l=LL n a d rc/\J a h
theorem Cm{Q:dW}{k:List Fr}{J:(Nat->Value)->Hp->Prop}{c:Code}{l:Loc}(a:Run E (lim E) cx (JP n d rc J) [.code c] .normal l h)(b: ∀ρ h,J ρ h->Run E (lim E) cx Q k .normal (LL n ρ d rc) h):Run E (lim E) cx Q (.code c::k) .normal l h:=by
 obtain⟨j,m,e,f,g⟩:=a;obtain⟨rfl,ρ,rfl,i⟩:=g;exact⟨_,_,_,f,b ρ e i⟩
theorem pC{Q:dW}{k:List Fr}(J:(Nat->Value)->Hp->Prop){a b:Code}{c:Nat->Value}{t:Bool}(f:t=true->Run E (lim E) cx (JP n d rc J) [.code a] .normal (LL n c d rc) h)(g:t=false->Run E (lim E) cx (JP n d rc J) [.code b] .normal (LL n c d rc) h)(e: ∀ρ h,J ρ h->Run E (lim E) cx Q k .normal (LL n ρ d rc) h):CStep E cx Q a b k (LL n c d rc) h (.bool t):=by
 cases t with
 |true=>exact Cm (f rfl) e|false=>exact Cm (g rfl) e
theorem cK{J:(Nat->Value)->Hp->Prop}{ρ:Nat->Value}(a:J ρ h):JP n d rc J .normal (LL n ρ d rc) h:=⟨rfl,ρ,rfl,a⟩
theorem xq{E:Env}{R:Rec}{cx:Cx}{Q:dW}{k2:List Fr}: ∀(m:List Fr) (e:Ex) (l:Loc) (h:Hp),Run E R cx (fun e l h=>Run E R cx Q k2 e l h) m e l h->Run E R cx Q (m++k2) e l h
 | [],e,l,h,d=>d| f ::m,e,l,h,d=>by
   have g:=xq (E:=E) (R:=R) (cx:=cx) (Q:=Q) (k2:=k2) m;cases f with
   | code c=>
     cases e with
     |normal=>obtain⟨n,k,j,a,b⟩:=d;exact⟨n,k,j,a,g _ _ _ b⟩
     |exit i=>exact g _ _ _ d|ret=>exact g _ _ _ d|pan v=>exact g _ _ _ d
   | blk id=>
     cases e with
     |normal=>exact g _ _ _ d| exit i=>simp only [Run,List.cons_append]at d⊢;grind|ret=>exact g _ _ _ d|pan v=>exact g _ _ _ d
   | ops a r=>
     cases e with
     |normal=>obtain⟨n,k,j,a,b⟩:=d;exact⟨n,k,j,a,g _ _ _ b⟩
     |exit i=>exact g _ _ _ d|ret=>exact g _ _ _ d|pan v=>exact g _ _ _ d
   | midP o r u=>
     cases e with
     |normal=>obtain⟨v,j,a,b⟩:=d;exact⟨v,j,a,g _ _ _ b⟩
     |exit i=>exact g _ _ _ d|ret=>exact g _ _ _ d|pan v=>exact g _ _ _ d
   | kill t=>
     cases e with
     |normal=>obtain⟨b,s,c,x,y,z⟩:=d;exact⟨b,s,c,x,y,g _ _ _ z⟩
     |exit i=>exact g _ _ _ d|ret=>exact g _ _ _ d|pan v=>exact g _ _ _ d
   | opsD a q w r i A=>
     cases e with
     |normal=>obtain⟨k,j,p,a,b,c⟩:=d;exact⟨k,j,p,a,b,g _ _ _ c⟩
     |exit i=>exact g _ _ _ d|ret=>exact g _ _ _ d|pan v=>exact g _ _ _ d
theorem run_post{Q n:dW}(hq: ∀e l h,Q e l h->n e l h): ∀(k:List Fr) (e:Ex) (l:Loc) (h:Hp),Run E R cx Q k e l h->Run E R cx n k e l h
 | k, e, l,h,d=>by
   have:=xq (E:=E) (R:=R) (cx:=cx) (Q:=n) (k2:=[]) k e l h;rw [XE]at this;refine this ?_;revert d
   induction k generalizing e l h with
   |nil=>intro d;exact hq _ _ _ d| cons f k g=>
     intro d;have g:=fun e l h d=>g e l h (by have:=xq (E:=E) (R:=R) (cx:=cx) (Q:=n) (k2:=[]) k e l h;grind) d;cases f with
     | code c=>
       cases e with
       |normal=>obtain⟨p,m,j,a,b⟩:=d;exact⟨p,m,j,a,g _ _ _ b⟩
       |exit i=>exact g _ _ _ d|ret=>exact g _ _ _ d|pan v=>exact g _ _ _ d
     | blk id=>
       cases e with
       |normal=>exact g _ _ _ d| exit i=>
         simp only [Run]at d⊢;by_cases s:i=id
         . rw [if_pos s]at d⊢;exact g _ _ _ d
         . rw [if_neg s]at d⊢;exact g _ _ _ d
       |ret=>exact g _ _ _ d|pan v=>exact g _ _ _ d
     | ops a u=>
       cases e with
       |normal=>obtain⟨p,m,j,a,b⟩:=d;exact⟨p,m,j,a,g _ _ _ b⟩
       |exit i=>exact g _ _ _ d|ret=>exact g _ _ _ d|pan v=>exact g _ _ _ d
     | midP o u A=>
       cases e with
       |normal=>obtain⟨v,j,a,b⟩:=d;exact⟨v,j,a,g _ _ _ b⟩
       |exit i=>exact g _ _ _ d|ret=>exact g _ _ _ d|pan v=>exact g _ _ _ d
     | kill t=>
       cases e with
       |normal=>obtain⟨b,w,c,x,y,z⟩:=d;exact⟨b,w,c,x,y,g _ _ _ z⟩
       |exit i=>exact g _ _ _ d|ret=>exact g _ _ _ d|pan v=>exact g _ _ _ d
     | opsD a q B u i C=>
       cases e with
       |normal=>obtain⟨m,j,r,a,b,c⟩:=d;exact⟨m,j,r,a,b,g _ _ _ c⟩
       |exit i=>exact g _ _ _ d|ret=>exact g _ _ _ d|pan v=>exact g _ _ _ d
theorem iS{Q:dW}{k:List Fr}{b:Code}{id:Nat}{f:Type}(J:(Nat->Value)->Hp->Prop)(I:f->(Nat->Value)->Hp->Prop)(m:f->Nat)(hs: ∀a,(∀i c h',m i<m a->I i c h'->Run E (lim E) cx (JP n d rc J) [.code (.loop b),.blk id] .normal (LL n c d rc) h')-> ∀ρ h,I a ρ h->Run E (lim E) cx (JP n d rc J) [.code b,.code (.loop b),.blk id] .normal (LL n ρ d rc) h)(j: ∀ρ h,J ρ h->Run E (lim E) cx Q k .normal (LL n ρ d rc) h)(a:f){ρ:Nat->Value}(o:I a ρ h):Run E (lim E) cx Q (.code (.loop b):: .blk id::k) .normal (LL n ρ d rc) h:=by
 have p:=aD I m hs a ρ h o;refine xq [.code (.loop b),.blk id] _ _ _ (run_post (fun e l h g=>?_) _ _ _ _ p);obtain⟨rfl,ρ,rfl,g⟩:=g;exact j ρ h g
theorem Bb{ops:List Oper}(a:((ops.any wQ||wC ops)&&ops.all (jH ops.length))=true)(b:ordL ops=ord)(c:gQ ops ord ord=os):dy ops=os:=by unfold dy;grind
theorem St.gblk{d:Hp}(S:St M d h L G){p:GL}(f:p∈G)(a:aA p.1 c):(d.n<=c\/M c)/\c∉L.map Yb:=by
 have g:gy p=some c:=by
  rcases(S.gown p f).1 with⟨e,_⟩|⟨b,n,e,_⟩
  . rw [e]at a;exact a.elim
  . obtain⟨v,k,j⟩:=p;simp only []at e a;subst e;exact congrArg some a
 refine⟨(S.gown p f).2 c g,fun l=>?_⟩;have i:=S.apart;unfold keys at i;grind
theorem St.permL{a:Hp}{L':List (Nat×Ob)}(S:St M a h L G)(p:L'.Perm L):St M a h L' G:=
 ⟨S.fr,fun x b=>S.own x (p.mem_iff.1 b),S.gown,by
  have:(keys L' G).Perm (keys L G):=(p.map Yb).append_right _;exact this.nodup_iff.2 S.apart⟩
theorem A6{a:Nat}{Q:Out->Hp->Prop}{ρ:Nat->Value}(hq:Q (.pan v) h):vg a Q (.pan v) (LL n ρ [] rc) h:=⟨rfl,hq⟩
structure Arc where
 s:Nat
 t:Nat
 w:Nat
deriving Inhabited
def cR(a:Arc):List Value:=[.int .i64 a.s,.int .i64 a.t,.int .i64 a.w]
theorem dD(a:Arc):(cR a).length=3:=rfl
structure Gra where
 nodes:Nat
 X:List Int
 Y:List Int
 arcs:List Arc
structure Good(g:Gra):Prop where
 n1:1<=g.nodes
 n2:g.nodes<=12
 lX:g.X.length=g.nodes
 lY:g.Y.length=g.nodes
 cX: ∀x∈g.X,-2147483648<=x/\x<=2147483647
 cY: ∀x∈g.Y,-2147483648<=x/\x<=2147483647
 many:g.arcs.length<=100
 arcs: ∀a∈g.arcs,a.s<g.nodes/\a.t<g.nodes/\a.w<=2147483647
structure jZ(g:Gra):Prop where
 n1:1<=g.nodes
 n2:g.nodes<=300
 lX:g.X.length=g.nodes
 lY:g.Y.length=g.nodes
 cX: ∀x∈g.X,-2147483648<=x/\x<=2147483647
 cY: ∀x∈g.Y,-2147483648<=x/\x<=2147483647
 many:g.arcs.length<=400
 arcs: ∀a∈g.arcs,a.s<g.nodes/\a.t<g.nodes/\a.w<=2147483647
structure gG(γ:Gra):Prop where
 n1:1<=γ.nodes
 cX: ∀x∈γ.X,-2147483648<=x/\x<=2147483647
 cY: ∀x∈γ.Y,-2147483648<=x/\x<=2147483647
 arcs: ∀a∈γ.arcs,a.s<γ.nodes/\a.t<γ.nodes/\a.w<=2147483647
structure pK(g:Gra):Prop where
 n2:g.nodes<=300
 lX:g.X.length=g.nodes
 lY:g.Y.length=g.nodes
 many:g.arcs.length<=400
theorem jZ.raw{g:Gra}(h:jZ g):pK g/\gG g:=⟨⟨h.n2,h.lX,h.lY,h.many⟩,h.n1,h.cX,h.cY,h.arcs⟩
theorem pK.good{g:Gra}(h:pK g)(r:gG g):jZ g:=⟨r.n1,h.n2,h.lX,h.lY,r.cX,r.cY,h.many,r.arcs⟩
theorem Good.b{g:Gra}(h:Good g):jZ g:=⟨h.n1,Xk h.n2 (by decide),h.lX,h.lY,h.cX,h.cY,Xk h.many (by decide),h.arcs⟩
structure cL(h:Hp)(vx vy va:Value)(g:Gra):Prop where
 X:aH h 1 (encI .i64) vx g.X
 Y:aH h 1 (encI .i64) vy g.Y
 A:aH h 3 cR va g.arcs
theorem cL.gr{h h':Hp}{b c d:Value}{g:Gra}(a:cL h b c d g)(r:Gr h h'):cL h' b c d g:=⟨a.X.gr r,a.Y.gr r,a.A.gr r⟩
def gc(g:Gra)(a b c:Value):Value:=.agg ⟨[.int .i64 g.nodes,a,b,c]⟩
structure Pl where
 i:Int
 f:Int
 c:Int
 n:Int
 lo:Int
 hi:Int
def mi(p:Pl):List Value:=[.int .i64 p.i,.int .i64 p.f,.int .i64 p.c,.int .i64 p.n,.int .i64 p.lo,.int .i64 p.hi]
theorem encP_len(p:Pl):(mi p).length=6:=rfl
end Go.Ab

/- A deterministic evaluator of the model's code, and that the model follows it (part 4). -/
import Derived.Test.YtdpmdpbhjgaocaaGreatDoorAbC
import Derived.Orders
import Derived.ChangeSame
import Derived.RowKit3
import Derived.JoinedOf
import Derived.KernelRfl
open Array renaming getElem?_eq_getElem->xW,getElem?_toList->xX,getD_eq_getD_getElem?->xZ,getElem?_setIfInBounds->yp,replicate->yx,getElem?_eq_none->yy,getElem?_push->yD
open Nat renaming le_refl->xY,lt_or_ge->ya,lt_of_lt_of_le->yb,zero_add->yc,eq_of_beq_eq_true->yd,lt_trichotomy->yi,zero_le->yj,le_trans->yk,beq_refl->yn,ble->yq,beq->yr,le_of_ble_eq_true->yz,ble_eq_true_of_le->yA
open Bool renaming and_eq_true->ye,not_eq_true'->yg
open List renaming getElem?_eq_none->yf,getElem?_eq_getElem->yh,mem_of_getElem?->yo,getElem_mem->yu,getElem?_cons_succ->yv,mem_filter->yw,mem_range->yB,mem_cons_of_mem->yC
open Option renaming getD_some->yl,bind_some->yt
open Iff renaming rfl->ym
set_option maxHeartbeats 400000
set_option linter.defProp false
set_option linter.unusedVariables false
set_option linter.unusedSimpArgs false
namespace Go.Ab

theorem hrel_lo{mu:Mu}{h:Hp}{w:World}(hh:aF mu h w)(x:Nat):aF mu {h with lo:=x} w:=⟨hh.sized,hh.blk,hh.dead,hh.inj,hh.lt⟩

theorem us{mu:Mu}{ρ ρ':Operand->Value}(hρ: ∀x,ao mu (ρ x) (ρ' x)){op:Op}{b:Nat}(ht:touch ρ op=some b):mu b≠ .none:=by
 have ptr: ∀{x:Operand},(match ρ x with| .pointer (some a)=>some a.block|_=>none)=some b->mu b≠ .none:=by
  intro x hx
  have:=hρ x
  split at hx
  next a ha=>rw [ha]at this;cases hx;generalize ρ' x=y at this;cases this;rename_i h1;exact h1.in
  next=>cases hx
 have mp: ∀{x:Operand},(match ρ x with| .map r=>r|_=>none)=some b->mu b≠ .none:=by
  intro x hx
  have:=hρ x
  split at hx
  next r hr=>rw [hr]at this;subst hx;generalize ρ' x=y at this;cases this;rename_i h1;exact h1.in
  next=>cases hx
 have sl: ∀{x:Operand},(match ρ x with| .slice (some a) _ _=>some a.block|_=>none)=some b->mu b≠ .none:=by
  intro x hx
  have:=hρ x
  split at hx
  next a l c ha=>rw [ha]at this;cases hx;generalize ρ' x=y at this;cases this;rename_i h2 h1;exact h2.in
  next=>cases hx
 unfold touch at ht
 cases op<;>simp only []at ht<;>(try (cases ht;done))<;>(try exact ptr ht)<;>(try exact mp ht)<;>(try exact sl ht)
 split at ht
 next x xs hx=>
  have:=hρ x
  split at ht
  next r hr=>rw [hr]at this;subst ht;generalize ρ' x=y at this;cases this;rename_i h1;exact h1.in
  next a l c ha=>rw [ha]at this;cases ht;generalize ρ' x=y at this;cases this;rename_i h2 h1;exact h2.in
  next=>cases ht
 next=>cases ht

section
variable{E:Env}{P:Program}(ok:EOk E P){R:Rec}(hc:fG E P R.call)(hcode:ip P R.code)

include ok hc hcode in
theorem mG{mu:Mu}{h h':Hp}{w:World}(hh:aF mu h w)(hg:jE mu){ρ:Operand->Value}{tmps:Array Value}(hρ: ∀x,ao mu (ρ x) (cS tmps x)){F:FC}{dfs:List Deferred}{k:List Item}{cs:List Frame}
 {ops:Array Oper} {i:Nat} {rest:List Nat} {o:Oper} (ho:ops[i]? =some o) (hw:Region.wanted o (yielded ops tmps)=true) {quiet:Bool} {v:Value} (hl:cd E R ρ quiet o h=some (v,h')):
 ∃ mu' w' v',aF mu' h' w'/\Ext mu h w mu' h' w'/\ao mu' v v'/\(quiet=true-> ∀b,b<h.n->h'.get b=h.get b)/\
   Steps P (lone (F.mk' tmps dfs (.inRegion ops (i::rest)::k)) cs w) (lone (F.mk' (eg tmps o.dst v') dfs (.inRegion ops rest::k)) cs w'):=by
 cases quiet with
 | false=>
   simp only [cd,cond_false]at hl
   split at hl
   next v0 h0 hv=>
    cases hl
    obtain⟨mu',w',g1,g2,v',g3,g4⟩:=oH ok hc hcode hh hg hρ (F:=F) (dfs:=dfs) (k:=k) (cs:=cs) (rest:=rest) ho hw hv
    exact⟨mu',w',v',g1,g2,g3,(fun e=>by cases e),g4⟩
   next=>cases hl
 | true=>
   simp only [cd,cond_true]at hl
   split at hl
   next v0 h0 hv=>
    cases hb:yq h.n h0.lo with
    |false=>rw [hb]at hl;cases hl
    | true=>
      rw [hb]at hl
      cases hl
      have hle:h.n<=h0.lo:=yz hb
      obtain⟨mu',w',g1,g2,v',g3,g4⟩:=oH ok hc hcode (hrel_lo hh h.n) hg hρ (F:=F) (dfs:=dfs) (k:=k) (cs:=cs) (rest:=rest) ho hw hv
      have hsame: ∀b,b<h.n->h0.get b=h.get b:=fun b hb=>g2.same b hb (by omega)
      exact⟨mu',w',v',hrel_lo g1 h.lo,⟨g2.n,g2.old,g2.fresh,xY _,fun b hb _=>hsame b hb,g2.frame,g2.ro,g2.wsize,g2.os,g2.tape,g2.output,g2.cover⟩,g3,fun _=>hsame,g4⟩
   next=>cases hl

theorem j7(t:Nat): ∀l:List Nat,memb t l=true↔t∈l
 | []=>by simp [memb]
 | x ::l=>by
   simp only [memb,Bool.or_eq_true,List.mem_cons,j7 t l]
   constructor
   . rintro(h|h)
     . exact .inl (yd h)
     . exact .inr h
   . rintro(h|h)
     . subst h;exact .inl (yn _)
     . exact .inr h
theorem nQ(t:Tmp): ∀l:List Operand,t∈tmpsOf l↔ .tmp t∈l
 | []=>by simp [tmpsOf]
 | x::l=>by
   cases x<;>simp [tmpsOf,nQ t l]

theorem sg {mu:Mu} {l:Loc} {n:Nat} {tmps:Array Value} (hs:l.regs.Sized n) (hsz:tmps.size=n) (ts:List Tmp) (hr: ∀t∈ts,∀v,l.regs.get t=some v-> ∃v',tmps[t]? =some v'/\ao mu v v')
 (hg:jE mu) (x:Operand):ao mu (l.evD ts x) (cS tmps x):=by
 cases x with
 | tmp t=>
   simp only [Loc.evD]
   cases hm:memb t ts with
   |false=>exact .poison _
   | true=>
     simp only [cond_true,Loc.ev,cS]
     cases hv:l.regs.get t with
     | none=>
       have:n<=t:=by
        rcases ya t n with h1|h1
        . obtain⟨v,h2⟩:=Tr.get_some hs h1;rw [h2]at hv;cases hv
        . exact h1
       rw [xZ,yy (by rw [hsz];exact this)]
       exact .tuple rfl (by intro i v v' hv;simp at hv)
     | some v=>
       obtain⟨v',h1,h2⟩:=hr t ((j7 t ts).1 hm) v hv
       rw [xZ,h1];exact h2
 | const v=>
   simp only [Loc.evD,Loc.ev,cS]
   cases hc:bZ v with
   |true=>simp only [cond_true];exact ao.const mu hc
   |false=>simp only [cond_false];exact .poison v
 | global g=>
   simp only [Loc.evD,Loc.ev,cS]
   cases hgg:Nat.blt g 16 with
   |true=>simp only [cond_true];exact .ptr (hg g (by simpa [Nat.blt_eq]using hgg))
   |false=>simp only [cond_false];exact .poison _
 |func f=>exact .fn rfl (by intro i v v' hv;simp at hv) rfl (by intro i v v' hv;simp at hv)

end
end Go.Ab

namespace Go.Ab

theorem cls_le{E:Env}(op:Op):cls E op<=5:=by
 unfold cls
 split<;>(try omega)
 . split<;>omega
 . split<;>omega

theorem sq{E:Env}{op:Op}(h:dZ op=true):cls E op=4:=by
 unfold dZ at h
 split at h
 . rfl
 . cases h
theorem nU{E:Env}{op:Op}(h:cls E op≠4)(ρ:Operand->Value)(hp:Hp):iW ρ op hp=touch ρ op:=by
 unfold iW
 cases ha:dZ op with
 |true=>exact absurd (sq ha) h
 |false=>rfl
theorem jM{E:Env}{op:Op}(h:cls E op≠3):dm op=false:=by
 cases op<;>(try rfl)
 rename_i c
 obtain⟨callee,args⟩:=c
 cases callee<;>first|rfl|(exact absurd rfl h)

structure DT(E:Env)(R:Rec)(ops:Array Oper)(q:Nat)(ps:List (Nat×Nat))(M:List Nat)(L:Nat->Loc)(H:Nat->Hp)(T:Nat->Option Nat)(X:Nat->Bool):Prop where
 bef: ∀i,BefOk ops.toList M i
 four: ∀(n:Nat) o,ops[n]? =some o->cls E o.op=4->q.testBit n=true
 owe: ∀(n:Nat) o m (i:Nat) p,ops[n]? =some o->M[n]? =some m->i<n->ops[i]? =some p->m.testBit i=false->Owe E ops.toList o p i n q ps
 step: ∀(i:Nat) o,ops[i]? =some o->pK E R ops.toList q i o (L i) (H i) (L (i+1)) (H (i+1)) (T i) (X i)
 pair: ∀{i j a b:Nat} {o p:Oper},(i,j)∈ps->ops[i]? =some o->ops[j]? =some p->dm o.op=false->dm p.op=false->T i=some a->T j=some b->a≠b
 leave: ∀{i j a:Nat} {o p:Oper},((i,j)∈ps\/(j,i)∈ps)->ops[i]? =some o->ops[j]? =some p->dm o.op=false->dm p.op=true->X j=true->dS E q j p.op=false->T i=some a->(H (j+1)).get a=(H j).get a

def isW(E:Env)(X:Nat->Bool)(q:Nat)(o:Oper)(i:Nat):Prop:=X i=true/\(cls E o.op=2\/((cls E o.op=3\/cls E o.op=5)/\q.testBit i=false))
def isQ(E:Env)(X:Nat->Bool)(q:Nat)(o:Oper)(i:Nat):Prop:=X i=true/\3<=cls E o.op/\q.testBit i=true
def isR(E:Env)(X:Nat->Bool)(o:Oper)(i:Nat):Prop:=X i=false\/cls E o.op<=1

def Down(ops:Array Oper)(S:Nat->Bool):Prop:= ∀i o,ops[i]? =some o->S i=true-> ∀e∈o.after.toList,binds e=true->S e.on=true
def Ready(o:Oper)(S:Nat->Bool):Prop:= ∀e∈o.after.toList,binds e=true->S e.on=true

section
variable{E:Env}{R:Rec}{ops:Array Oper}{q:Nat}{ps:List (Nat×Nat)}{M:List Nat}{L:Nat->Loc}{H:Nat->Hp}{T:Nat->Option Nat}{X:Nat->Bool}(D:DT E R ops q ps M L H T X)
include D

theorem kinds{i:Nat}{o:Oper}(ho:ops[i]? =some o):isR E X o i\/isQ E X q o i\/isW E X q o i:=by
 cases hx:X i with
 |false=>exact .inl (.inl hx)
 | true=>
   have h5:=cls_le (E:=E) o.op
   rcases ya (cls E o.op) 2 with h|h
   . exact .inl (.inr (by omega))
   . by_cases h2:cls E o.op=2
     . exact .inr (.inr ⟨hx,.inl h2⟩)
     . cases hb:q.testBit i with
       |true=>exact .inr (.inl ⟨hx,by omega,hb⟩)
       | false=>
         have h4:cls E o.op≠4:=by intro e;have:=D.four i o ho e;rw [hb]at this;cases this
         exact .inr (.inr ⟨hx,.inr ⟨by omega,hb⟩⟩)

theorem kj{S:Nat->Bool}(hd:Down ops S): ∀(n:Nat) (o:Oper) (m i:Nat),ops[n]? =some o->M[n]? =some m->S n=true->m.testBit i=true->S i=true:=by
 intro n
 induction n using Nat.strongRecOn with
 | _ n ih=>
   intro o m i ho hm hs hb
   obtain⟨m',h1,h2,h3⟩:=D.bef n o (by rw [xX];exact ho)
   rw [hm]at h1;cases h1
   obtain⟨e,he,hbe,x⟩:=h3 i hb
   have hse:=hd n o ho hs e he hbe
   rcases x with rfl|⟨m2,hm2,hb2⟩
   . exact hse
   . have hlt:=h2 e he hbe
     have hn:n<ops.size:=(Array.getElem?_eq_some_iff.1 ho).1
     exact ih e.on hlt ops[e.on] m2 i (xW (by omega)) hm2 hse hb2
theorem k9{S:Nat->Bool}(hd:Down ops S){n:Nat}{o:Oper}{m i:Nat}(ho:ops[n]? =some o)(hm:M[n]? =some m)(hr:Ready o S)(hb:m.testBit i=true):S i=true:=by
 obtain⟨m',h1,h2,h3⟩:=D.bef n o (by rw [xX];exact ho)
 rw [hm]at h1;cases h1
 obtain⟨e,he,hbe,x⟩:=h3 i hb
 have hse:=hr e he hbe
 rcases x with rfl|⟨m2,hm2,hb2⟩
 . exact hse
 . have hlt:=h2 e he hbe
   have hn:n<ops.size:=(Array.getElem?_eq_some_iff.1 ho).1
   exact kj D hd e.on ops[e.on] m2 i (xW (by omega)) hm2 hse hb2
theorem mask{n:Nat}{o:Oper}(ho:ops[n]? =some o): ∃m,M[n]? =some m:=by
 obtain⟨m',h1,_⟩:=D.bef n o (by rw [xX];exact ho)
 exact⟨m',h1⟩

theorem cmp{n i:Nat}{o p:Oper}{m:Nat}(ho:ops[n]? =some o)(hm:M[n]? =some m)(hi:i<n)(hp:ops[i]? =some p)
 (h:(isW E X q p i/\(isW E X q o n\/isQ E X q o n))\/(isQ E X q p i/\isW E X q o n/\dZ p.op=false)):m.testBit i=true:=by
 cases hb:m.testBit i with
 |true=>rfl
 | false=>
   exfalso
   obtain⟨_,hw⟩:=D.owe n o m i p ho hm hi hp hb
   have key: ∀{x y:Oper} {a b:Nat},isW E X q x a->(isW E X q y b\/isQ E X q y b)->cls E x.op≠0/\cls E x.op≠1/\cls E y.op≠0/\cls E y.op≠1:=by
    intro x y a b hx hy
    obtain⟨_,hx⟩:=hx
    rcases hy with⟨_,hy⟩|⟨_,hy,_⟩<;>(refine⟨?_,?_,?_,?_⟩<;>omega)
   rcases h with⟨h1,h2⟩|⟨h1,h2,hna⟩
   . obtain⟨k1,k2,k3,k4⟩:=key h1 h2
     rcases hw with h|h|⟨h,_⟩|⟨_,h,_⟩|⟨h,_⟩|⟨_,h,_⟩|⟨h,_⟩|⟨a,b,c,d⟩|⟨_,h,_⟩|⟨h,_⟩|⟨e3,e4,_,e5,_⟩
     . exact k3 h
     . exact k1 h
     . exact k4 h
     . exact k2 h
     . exact k4 h
     . exact k2 h
     . exact k4 h
     . obtain⟨_,hx⟩:=h1
       rcases hx with hx|⟨hx,hq⟩
       . exact b hx
       . rw [c hx]at hq;cases hq
     . exact k2 h
     . exact k4 h
     . obtain⟨_,hx⟩:=h1
       omega
   . obtain⟨k1,k2,k3,k4⟩:=key h2 (.inr h1)
     rcases hw with h|h|⟨h,_⟩|⟨_,h,_⟩|⟨h,_⟩|⟨_,h,_⟩|⟨h,_⟩|⟨a,b,c,d⟩|⟨_,h,_⟩|⟨h,_⟩|⟨e3,e4,_,e5,_⟩
     . exact k1 h
     . exact k3 h
     . exact k2 h
     . exact k4 h
     . exact k2 h
     . exact k4 h
     . exact k2 h
     . obtain⟨_,hx⟩:=h2
       rcases hx with hx|⟨hx,hq⟩
       . exact a hx
       . rw [d hx]at hq;cases hq
     . exact k4 h
     . exact k2 h
     . rw [hna]at e5;cases e5

theorem qB{S:Nat->Bool}(hd:Down ops S){n:Nat}{o:Oper}(ho:ops[n]? =some o)(hr:Ready o S)(hn:S n=false){t:Tmp}(ht:t∈ir ops.toList o):
 ∀(p:Nat) (op:Oper),ops[p]? =some op->op.dst=some t->(p<n↔S p=true):=by
 intro p op hop hdst
 obtain⟨m,hm⟩:=mask D ho
 obtain⟨mp,hmp⟩:=mask D hop
 have tin:t∈ir ops.toList op:=by unfold ir;rw [hdst];simp
 rcases yi p n with h|h|h
 . refine⟨fun _=>?_,fun _=>h⟩
   cases hb:m.testBit p with
   |true=>exact k9 D hd ho hm hr hb
   | false=>
     exfalso
     obtain⟨ha,_⟩:=D.owe n o m p op ho hm h hop hb
     simp only [oK,hdst,ye,yg]at ha
     have:=ha.2
     rw [(j7 t _).2 ht]at this;cases this
 . subst h
   exact⟨fun h=>absurd h (Nat.lt_irrefl _),fun h=>by rw [hn]at h;cases h⟩
 . refine⟨fun h'=>absurd h' (by omega),fun hs=>?_⟩
   exfalso
   cases hb:mp.testBit n with
   |true=>have:=kj D hd p op mp n hop hmp hs hb;rw [hn]at this;cases this
   | false=>
     obtain⟨ha,_⟩:=D.owe p op mp n o hop hmp h ho hb
     simp only [oK,hdst,ye,yg]at ha
     have:=ha.1
     rw [(j7 t _).2 ht]at this;cases this
end

section
variable{E:Env}{P:Program}(ok:EOk E P){R:Rec}(hc:fG E P R.call)(hcode:ip P R.code)
variable{ops:Array Oper}{q:Nat}{ps:List (Nat×Nat)}{M:List Nat}{L:Nat->Loc}{H:Nat->Hp}{T:Nat->Option Nat}{X:Nat->Bool}(D:DT E R ops q ps M L H T X)

def l7(n:Nat)(mu0:Mu)(w0:World)(L:Nat->Loc)(H:Nat->Hp)(i:Nat):Prop:=
 ∃muT wT tmpsT,aF muT (H i) wT/\jE muT/\gS muT (L i).regs n tmpsT/\Ext mu0 (H 0) w0 muT (H i) wT

structure Turn(ops:Array Oper)(E:Env)(X:Nat->Bool)(q:Nat)(H:Nat->Hp)(T:Nat->Option Nat)(i:Nat)(o:Oper):Prop where
 n:(H i).n<=(H (i+1)).n
 quiet:isQ E X q o i-> ∀b,b<(H i).n->(H (i+1)).get b=(H i).get b
 still:isR E X o i->H (i+1)=H i

theorem xO{E:Env}{R:Rec}{ρ:Operand->Value}{o:Oper}{h h':Hp}{v:Value}(hcls:cls E o.op<=1){quiet:Bool}(hq:quiet=false)(hl:cd E R ρ quiet o h=some (v,h')):h'=h:=by
 subst hq
 obtain⟨f,f1,_,_⟩:=uW (E:=E) (op:=o.op) (ρ:=ρ) (by omega)
 simp only [cd,cond_false]at hl
 rw [f1 h]at hl
 cases hf:f h with
 |none=>rw [hf]at hl;cases hl
 |some u=>rw [hf]at hl;cases hl;rfl
theorem sT{E:Env}{q i:Nat}{op:Op}(hcls:cls E op<=1):dS E q i op=false:=by
 unfold dS
 have:yq 3 (cls E op)=false:=by
  cases h:yq 3 (cls E op)with
  |false=>rfl
  |true=>have:=yz h;omega
 rw [this];simp
theorem nY{E:Env}{q i:Nat}{op:Op}(h3:3<=cls E op)(hb:q.testBit i=true):dS E q i op=true:=by
 unfold dS
 rw [hb,yA h3];rfl

include ok hc hcode D in
theorem shadow{n:Nat}{mu0:Mu}{w0:World}: ∀(i:Nat),i<=ops.size->l7 n mu0 w0 L H 0->l7 n mu0 w0 L H i/\(∀j o,j<i->ops[j]? =some o->Turn ops E X q H T j o)
 |0,_,h0=>⟨h0,fun j o hj=>absurd hj (by omega)⟩
 | i + 1,hi,h0=>by
   obtain⟨⟨muT,wT,tmpsT,g1,g2,g3,g4⟩,ht⟩:=shadow i (by omega) h0
   have ho:ops[i]? =some ops[i]:=xW (by omega)
   have hs:=D.step i ops[i] ho
   suffices hx:l7 n mu0 w0 L H (i+1)/\Turn ops E X q H T i ops[i] by
    refine⟨hx.1,fun j o hj hoj=>?_⟩
    by_cases hji:j=i
    . subst hji;rw [ho]at hoj;cases hoj;exact hx.2
    . exact ht j o (by omega) hoj
   generalize hL:L (i+1)=L1 at hs
   generalize hH:H (i+1)=H1 at hs
   generalize hT:T i=T1 at hs
   generalize hX:X i=X1 at hs
   cases hs with
   | skip hg=>
     refine⟨⟨muT,wT,eg tmpsT ops[i].dst undef,by rw [hH];exact g1,g2,?_,by rw [hH];exact g4⟩,⟨by rw [hH];exact xY _,(fun⟨h,_⟩=>by rw [hX]at h;cases h),fun _=>hH⟩⟩
     rw [hL]
     have:=pB g3 ops[i].dst (v:=.tuple #[]) (v':=undef) (.tuple rfl (by intro i v v' hv;simp at hv))
     cases hd:ops[i].dst with
     |none=>rw [hd]at this;exact this
     |some d=>rw [hd]at this;exact this
   | exec hg hst=>
     rename_i v
     have hw:=sn g3 hg
     have hρ:=fun x=>sg (l:=L i) g3.sized g3.size (tmpsOf ops[i].op.operands.toList) (fun t _ v hv=>g3.get t v hv) g2 x
     obtain⟨mu',w',v',k1,k2,k3,k4,_⟩:=mG ok hc hcode g1 g2 hρ (F:=⟨0,.normal,none⟩) (dfs:=[]) (k:=[]) (cs:=[]) (rest:=[]) ho hw hst
     have le:=k2.le g1
     refine⟨⟨mu',w',eg tmpsT ops[i].dst v',by rw [hH];exact k1,g2.mono le,?_,by rw [hH];exact Ext.trans g4 k2⟩,⟨by rw [hH];exact k2.n,?_,?_⟩⟩
     . rw [hL]
       have:=pB (g3.mono le) ops[i].dst k3
       cases hd:ops[i].dst with
       |none=>rw [hd]at this;exact this
       |some d=>rw [hd]at this;exact this
     . intro⟨_,h3,hb⟩ b hb'
       rw [hH]
       exact k4 (nY h3 hb) b hb'
     . intro hr
       rcases hr with hr|hr
       . rw [hX]at hr;cases hr
       . rw [hH];exact xO hr (sT hr) hst
end
end Go.Ab

namespace Go.Ab

theorem w_plain{E:Env}{op:Op}{ρ:Operand->Value}{h h1:Hp}{nx:cR}(hc:cls E op=2\/cls E op=5)(ha:aop E ρ h op=some (nx,h1)):(∃v,nx=.val v)\/nx=.skip:=by
 have wv: ∀{r:Option (Hp×Value)},cv r=some (nx,h1)->(∃v,nx=.val v)\/nx=.skip:=by
  intro r hr
  cases r with
  |none=>cases hr
  |some q=>obtain⟨a,b⟩:=q;cases hr;exact .inl ⟨b,rfl⟩
 have wu: ∀{r:Option Hp},eH r=some (nx,h1)->(∃v,nx=.val v)\/nx=.skip:=by
  intro r hr
  cases r with
  |none=>cases hr
  |some q=>cases hr;exact .inr rfl
 cases op
 case store=>exact wu ha
 case mapUpdate=>exact wu ha
 case insert=>exact wu ha
 case mapEntry=>exact wv ha
 case entryStore=>exact wu ha
 case call c=>
  cases hcc:c.callee with
  |value f=>simp [cls,hcc]at hc
  |invoke r n=>simp [cls,hcc]at hc
  | builtin bi=>
    cases bi<;>(try (simp [cls,hcc]at hc;done))
    case append=>
     simp only [aop,hcc]at ha
     split at ha
     next=>exact wv ha
     next=>cases ha
    case copy=>
     simp only [aop,hcc]at ha
     split at ha
     next=>exact wv ha
     next=>cases ha
    case delete=>
     simp only [aop,hcc]at ha
     split at ha
     next=>
      split at ha
      next=>cases ha
      next=>cases ha;exact .inl ⟨_,rfl⟩
     next=>cases ha
 case convert src dst x=>
  exfalso
  unfold cls at hc
  simp only []at hc
  split at hc<;>omega
 all_goals first
  |(exfalso;simp [cls]at hc;done)
  |(exfalso;unfold cls at hc;simp only []at hc;split at hc<;>simp at hc;done)
theorem stepD_w{E:Env}{R:Rec}{ρ:Operand->Value}{o:Oper}{h h':Hp}{v:Value}(hcls:cls E o.op=2\/cls E o.op=5)(hl:cd E R ρ false o h=some (v,h')): ∃nx,aop E ρ h o.op=some (nx,h'):=by
 simp only [cd,cond_false]at hl
 cases ha:aop E ρ h o.op with
 |none=>rw [ha]at hl;cases hl
 | some p=>
   obtain⟨nx,h1⟩:=p
   rw [ha]at hl
   rcases w_plain hcls ha with⟨u,rfl⟩|rfl
   . cases hl;exact⟨_,rfl⟩
   . cases hl;exact⟨_,rfl⟩
theorem wrapR_inj{h:Hp}{a b:Option Value}(e:bO h a=bO h b):a=b:=by
 cases a<;>cases b<;>simp [bO]at e⊢
 exact e

section
variable{E:Env}{R:Rec}{ops:Array Oper}{q:Nat}{ps:List (Nat×Nat)}{M:List Nat}{L:Nat->Loc}{H:Nat->Hp}{T:Nat->Option Nat}{X:Nat->Bool}(D:DT E R ops q ps M L H T X)

theorem qF{i:Nat}{o:Oper}(hw:isW E X q o i):dS E q i o.op=false:=by
 unfold dS
 rcases hw.2 with h|⟨_,h⟩
 . rw [h,show yq 3 2=false from rfl];simp
 . rw [h];simp

theorem dM (cP: ∀j o,j<ops.size->ops[j]? =some o->Turn ops E X q H T j o) {i j:Nat} (hij:i<=j) (hj:j<=ops.size):(H i).n<=(H j).n:=by
 induction j with
 | zero => have:i=0:=by omega
           subst this;exact xY _
 | succ j ih=>
   by_cases e:i=j+1
   . subst e;exact xY _
   . exact yk (ih (by omega) (by omega)) (cP j ops[j] (by omega) (xW (by omega))).n

theorem walk_eq{α:Type}(φ:Nat->α){a:Nat}: ∀(d:Nat),(∀j,a<=j->j<a+d->φ (j+1)=φ j)->φ (a+d)=φ a
 |0,_=>rfl
 | d+1,h=>by
   have h1:=h (a+d) (by omega) (by omega)
   have h2:=walk_eq φ d (fun j hj hj'=>h j hj (by omega))
   rw [<-h2,<-h1];rfl

include D in
theorem w_leaves(sized: ∀j,j<=ops.size->(H j).t.Sized (H j).n){p j:Nat}{o oj:Oper}(ho:ops[p]? =some o)(hoj:ops[j]? =some oj)(hw:isW E X q oj j)(hcls:cls E o.op<=1){ρ:Operand->Value}(hT:T p=touch ρ o.op)
 (hu:(p<j/\Owe E ops.toList oj o p j q ps)\/(j<p/\Owe E ops.toList o oj j p q ps)) (hlt: ∀b,touch ρ o.op=some b->b<(H j).n)
 {f:Hp->Option Value} (f1: ∀h,aop E ρ h o.op=bO h (f h)) (f2:cls E o.op=0-> ∀h h2,f h=f h2) (f3: ∀h h2,(∀b,touch ρ o.op=some b->h2.get b=h.get b)->f h=f h2):
 f (H (j+1))=f (H j):=by
 have hp:=(Array.getElem?_eq_some_iff.1 ho).1
 have hjs:=(Array.getElem?_eq_some_iff.1 hoj).1
 by_cases h0:cls E o.op=0
 . exact f2 h0 _ _
 have h1:cls E o.op=1:=by omega
 -- what the writer's step is
 have hs:=D.step j oj hoj
 generalize hL:L (j+1)=L1 at hs
 generalize hH:H (j+1)=H1 at hs
 generalize hTj:T j=T1 at hs
 generalize hX:X j=X1 at hs
 cases hs with
 |skip hg=>exact absurd hw.1 (by rw [hX];simp)
 | exec hg hst=>
   rw [qF hw]at hst
   have pairCase:((p,j)∈ps\/(j,p)∈ps)->(cls E oj.op=2\/cls E oj.op=5)->f H1=f (H j):=by
    intro hm hc2
    obtain⟨nx,ha⟩:=stepD_w hc2 hst
    refine(f3 _ _ fun b hb=>?_).symm
    refine w_only (sized j (by omega)) hc2 ha b (hlt b hb) ?_
    intro e
    rcases hm with hm|hm
    . exact D.pair hm ho hoj (jM (E:=E) (by omega)) (jM (E:=E) (by omega)) (hT.trans hb) ((hTj.trans (nU (E:=E) (by omega) _ _)).trans e) rfl
    . exact D.pair hm hoj ho (jM (E:=E) (by omega)) (jM (E:=E) (by omega)) ((hTj.trans (nU (E:=E) (by omega) _ _)).trans e) (hT.trans hb) rfl
   have runCase:((p,j)∈ps\/(j,p)∈ps)->dm oj.op=true->f H1=f (H j):=by
    intro hm hr
    refine(f3 _ _ fun b hb=>?_).symm
    rw [<-hH]
    exact D.leave hm ho hoj (jM (E:=E) (by omega)) hr hX (qF hw) (hT.trans hb)
   have lookCase:iE oj.op o.op=true->f H1=f (H j):=by
    intro hle
    unfold iE at hle
    split at hle
    next t m k t' m' k' okb e1 e2=>
     simp only [ye,yg]at hle
     have htt:t=t':=yd hle.2
     have hok:okb=false:=hle.1
     subst htt
     subst hok
     obtain⟨nx,ha⟩:=stepD_w (.inl (by rw [e1];rfl)) hst
     have hf: ∀h,f h=dA E h t (ρ m') (ρ k') false:=by
      intro h
      have:=f1 h
      rw [e2]at this
      exact wrapR_inj this.symm
     rw [e1]at ha
     rw [hf,hf]
     exact look_ent ha _ _
    next=>cases hle
   have hw2:=hw.2
   rcases hu with⟨hlt',hu⟩|⟨hlt',hu⟩
   . rcases hu.2 with h|h|⟨h,_⟩|⟨h,_,h'⟩|⟨h,_⟩|⟨h,_,h'⟩|⟨h,_⟩|⟨a,b,c,d⟩|⟨_,_,hr,h'⟩|⟨h,_,hr,h'⟩|⟨_,h,_⟩
     . omega
     . omega
     . omega
     . rcases h' with h'|h'
       . exact lookCase h'
       . exact pairCase (.inl h') (.inl h)
     . omega
     . exact pairCase (.inl h') (.inr h)
     . omega
     . rcases hw2 with hx|⟨hx,hq⟩
       . exact absurd hx a
       . rw [d hx]at hq;cases hq
     . exact runCase (.inl h') hr
     . omega
     . omega
   . rcases hu.2 with h|h|⟨_,h⟩|⟨h,_⟩|⟨_,h,h'⟩|⟨h,_⟩|⟨_,h,h'⟩|⟨a,b,c,d⟩|⟨_,h,hr,h'⟩|⟨_,_,hr,h'⟩|⟨h,_⟩
     . omega
     . omega
     . omega
     . omega
     . rcases h' with h'|h'
       . exact lookCase h'
       . exact pairCase (.inr h') (.inl h)
     . omega
     . exact pairCase (.inr h') (.inr h)
     . rcases hw2 with hx|⟨hx,hq⟩
       . exact absurd hx b
       . rw [c hx]at hq;cases hq
     . omega
     . exact runCase (.inr h') hr
     . omega
end
end Go.Ab

namespace Go.Ab

structure WExt(mu0:Mu)(h0:Hp)(w0:World)(mu:Mu)(w:World):Prop where
 old: ∀b,b<h0.n->mu b=mu0 b\/(mu0 b≠ .none/\mu b=.dead)
 fresh: ∀b c base top,h0.n<=b->mu b=.blk c base top->w0.heap.size<=c\/ ∃b0 base0 top0,b0<h0.n/\mu0 b0=.blk c base0 top0/\mu b0=.dead
 frame: ∀c,c<w0.heap.size->(∀b base top,mu0 b≠ .blk c base top)->w.heap[c]? =w0.heap[c]?
 ro: ∀b c base top t sz el,mu0 b=.blk c base top->h0.get b=some (.cells t sz el 0)->w.heap[c]? =w0.heap[c]? /\mu b=mu0 b
 wsize:w0.heap.size<=w.heap.size
 os:w.os=w0.os
 tape:w.tape=w0.tape
 output:w.output=w0.output

theorem WExt.refl{mu:Mu}{h:Hp}{w:World}(hh:aF mu h w):WExt mu h w mu w:=
 ⟨fun _ _=>.inl rfl,fun b c base top hb hm=>absurd (hh.lt b (by rw [hm];simp)) (by omega),fun _ _ _=>rfl,fun _ _ _ _ _ _ _ _ _=>⟨rfl,rfl⟩,xY _,rfl,rfl,rfl⟩

theorem WExt.step{mu0 mu mu1 mu2:Mu}{h0 ha hz:Hp}{w0 w w':World}(W:WExt mu0 h0 w0 mu w)(lt0: ∀b,mu0 b≠ .none->b<h0.n)(na:h0.n<=ha.n)(e:Ext (cut mu ha.n) ha w mu1 hz w')
 (hro: ∀b c base top t sz el,mu0 b=.blk c base top->h0.get b=some (.cells t sz el 0)->ha.get b=some (.cells t sz el 0)) (lo2: ∀b,b<hz.n->mu2 b=mu1 b) (hi2: ∀b,hz.n<=b->mu2 b=mu b):WExt mu0 h0 w0 mu2 w':=by
 have hn:=e.n
 have hdead: ∀b0,b0<h0.n->mu b0=.dead->mu2 b0=.dead:=by
  intro b0 hb0 hd
  rw [lo2 b0 (by omega)]
  rcases e.old b0 (by omega)with x|⟨_,x⟩
  . rw [x,dw (by omega)];exact hd
  . exact x
 have hno: ∀c,c<w0.heap.size->(∀b base top,mu0 b≠ .blk c base top)-> ∀b base top,cut mu ha.n b≠ .blk c base top:=by
  intro c hc hn0 b base top hm
  by_cases hb:b<ha.n
  . rw [dw hb]at hm
    by_cases hb0:b<h0.n
    . rcases W.old b hb0 with x|⟨_,x⟩
      . exact hn0 b base top (by rw [<-x];exact hm)
      . rw [x]at hm;cases hm
    . rcases W.fresh b c base top (by omega) hm with x|⟨b0,base0,top0,_,x,_⟩
      . omega
      . exact hn0 b0 base0 top0 x
  . rw [lc (by omega)]at hm;cases hm
 refine⟨?_,?_,?_,?_,yk W.wsize e.wsize,e.os.trans W.os,e.tape.trans W.tape,e.output.trans W.output⟩
 . intro b hb
   rw [lo2 b (by omega)]
   rcases e.old b (by omega)with x|⟨x,y⟩
   . rw [x,dw (by omega)];exact W.old b hb
   . rw [dw (by omega)]at x
     rcases W.old b hb with z|⟨z,_⟩
     . exact .inr ⟨by rw [<-z];exact x,y⟩
     . exact .inr ⟨z,y⟩
 . intro b c base top hb hm
   have out: ∀b1 base1 top1,mu b1=.blk c base1 top1->b1<ha.n->mu1 b1=.dead->w0.heap.size<=c\/ ∃b0 base0 top0,b0<h0.n/\mu0 b0=.blk c base0 top0/\mu2 b0=.dead:=by
    intro b1 base1 top1 h1 h2 h3
    by_cases hb1:b1<h0.n
    . rcases W.old b1 hb1 with x|⟨_,x⟩
      . exact .inr ⟨b1,base1,top1,hb1,by rw [<-x];exact h1,by rw [lo2 b1 (by omega)];exact h3⟩
      . rw [x]at h1;cases h1
    . rcases W.fresh b1 c base1 top1 (by omega) h1 with x|⟨b0,base0,top0,y1,y2,y3⟩
      . exact .inl x
      . exact .inr ⟨b0,base0,top0,y1,y2,hdead b0 y1 y3⟩
   have keep:mu b=.blk c base top->w0.heap.size<=c\/ ∃b0 base0 top0,b0<h0.n/\mu0 b0=.blk c base0 top0/\mu2 b0=.dead:=by
    intro hmb
    rcases W.fresh b c base top hb hmb with x|⟨b0,base0,top0,y1,y2,y3⟩
    . exact .inl x
    . exact .inr ⟨b0,base0,top0,y1,y2,hdead b0 y1 y3⟩
   by_cases hbb:b<hz.n
   . rw [lo2 b hbb]at hm
     by_cases hba:b<ha.n
     . rcases e.old b hba with x|⟨_,x⟩
       . rw [x,dw hba]at hm;exact keep hm
       . rw [x]at hm;cases hm
     . rcases e.fresh b c base top (by omega) hm with x|⟨b1,base1,top1,y1,y2,y3⟩
       . exact .inl (yk W.wsize x)
       . rw [dw y1]at y2
         exact out b1 base1 top1 y2 y1 y3
   . exact keep (by rw [<-hi2 b (by omega)];exact hm)
 . intro c hc hn0
   rw [<-W.frame c hc hn0]
   exact e.frame c (by have:=W.wsize;omega) (hno c hc hn0)
 . intro b c base top t sz el hm hg
   have hb:=lt0 b (by rw [hm];simp)
   obtain⟨r1,r2⟩:=W.ro b c base top t sz el hm hg
   obtain⟨s1,_,s3⟩:=e.ro b c base top t sz el (by rw [dw (by omega),r2];exact hm) (hro b c base top t sz el hm hg)
   exact⟨s1.trans r1,by rw [lo2 b (by omega),s3,dw (by omega)];exact r2⟩
end Go.Ab

namespace Go.Ab

section
variable(E:Env)(ops:Array Oper)(q:Nat)(L:Nat->Loc)(H:Nat->Hp)(X:Nat->Bool)(nr:Nat)(mu0:Mu)(w0:World)

def AtC(S:Nat->Bool)(c:Nat):Prop:=c<=ops.size/\(c=ops.size\/ ∃o,ops[c]? =some o/\isW E X q o c/\S c=false)/\ ∀(i:Nat) o,i<c->ops[i]? =some o->isW E X q o i->S i=true
def RegsAt(S:Nat->Bool)(mu:Mu)(tmps:Array Value):Prop:= ∀(i:Nat),i<=ops.size-> ∀(t:Tmp) v,(∀(p:Nat) (o:Oper),ops[p]? =some o->o.dst=some t->(p<i↔S p=true))->
 (L i).regs.get t=some v-> ∃v',tmps[t]? =some v'/\ao mu v v'
structure Inv(S:Nat->Bool)(mu:Mu)(w:World)(tmps:Array Value):Prop where
 c: ∃c,AtC E ops q X S c/\aF mu (H c) w
 glob:jE mu
 non: ∀p,p<ops.size->S p=false-> ∀b,(H p).n<=b->b<(H (p+1)).n->mu b=.none
 size:tmps.size=nr
 regs:RegsAt ops L S mu tmps
 ext:WExt mu0 (H 0) w0 mu w
 cov: ∀p,p<ops.size->S p=true-> ∀b,(H p).n<=b->b<(H (p+1)).n->mu b≠ .none
end

def j8(S:Nat->Bool)(p:Nat):Nat->Bool:=fun i=>if i=p then true else S i
theorem fk(S:Nat->Bool)(p:Nat):j8 S p p=true:=by simp [j8]
theorem bG(S:Nat->Bool){p i:Nat}(h:i≠p):j8 S p i=S i:=by simp [j8,h]

section
variable{E:Env}{R:Rec}{ops:Array Oper}{q:Nat}{ps:List (Nat×Nat)}{M:List Nat}{L:Nat->Loc}{H:Nat->Hp}{T:Nat->Option Nat}{X:Nat->Bool}(D:DT E R ops q ps M L H T X)

theorem ns{l:Loc}{d:Option Tmp}{v:Value}{t:Tmp}(h:d≠some t):(l.put d v).regs.get t=l.regs.get t:=by
 cases d with
 |none=>rfl
 | some d=>
   show(l.regs.set d v).get t=_
   rw [Tr.get_set,if_neg (fun e=>h (by rw [e.1]))]
include D in
theorem rz{j:Nat}{o:Oper}(ho:ops[j]? =some o){t:Tmp}(h:o.dst≠some t):(L (j+1)).regs.get t=(L j).regs.get t:=by
 have hs:=D.step j o ho
 generalize L (j+1)=L1 at hs
 generalize H (j+1)=H1 at hs
 generalize T j=T1 at hs
 generalize X j=X1 at hs
 cases hs with
 |skip hg=>exact ns h
 |exec hg hst=>exact ns h

include D in
theorem kT{S:Nat->Bool}{mu mu2:Mu}{tmps:Array Value}{nr:Nat}(hd:Down ops S){p:Nat}{o:Oper}(ho:ops[p]? =some o)(hr:Ready o S)(hp:S p=false)(le:Le mu mu2)(hsz:tmps.size=nr)(hsd:(L p).regs.Sized nr)
 {v v':Value} (hv:ao mu2 v v') (hL:L (p+1)=(L p).put o.dst v) (hregs:RegsAt ops L S mu tmps):RegsAt ops L (j8 S p) mu2 (eg tmps o.dst v'):=by
 intro i hi t u hcond hu
 by_cases ht:o.dst=some t
 . have hpi:p<i:=(hcond p o ho ht).2 (fk S p)
   have hnames:t∈ir ops.toList o:=by unfold ir;rw [ht];simp
   have hnc:=qB D hd ho hr hp hnames
   have hwalk:(L i).regs.get t=(L (p+1)).regs.get t:=by
    have:=walk_eq (fun j=>(L j).regs.get t) (a:=p+1) (i-(p+1)) (fun j h1 h2=>by
     have hj:j<i:=by omega
     have hoj:ops[j]? =some ops[j]:=xW (by omega)
     by_cases hdj:ops[j].dst=some t
     . have h3:=(hcond j _ hoj hdj).1 hj
       rw [bG S (by omega)]at h3
       have:=(hnc j _ hoj hdj).2 h3
       omega
     . exact rz D hoj hdj)
    rw [show p+1+(i-(p+1))=i by omega]at this
    exact this
   rw [hwalk,hL,ht]at hu
   have hu':((L p).regs.set t v).get t=some u:=hu
   rw [Tr.get_set]at hu'
   cases hg:(L p).regs.get t with
   |none=>rw [hg]at hu';simp at hu'
   | some u0=>
     rw [hg]at hu'
     simp at hu'
     subst hu'
     have:t<tmps.size:=by rw [hsz];exact(hsd t).1 (by rw [hg];rfl)
     rw [ht]
     exact⟨v',by simp [eg,this],hv⟩
 . obtain⟨u',h1,h2⟩:=hregs i hi t u (fun j oj hoj hdj=>by
    have hjp:j≠p:=by intro e;subst e;rw [ho]at hoj;cases hoj;exact ht hdj
    have:=hcond j oj hoj hdj
    rwa [bG S hjp]at this) hu
   refine⟨u',?_,h2.mono le⟩
   cases hdd:o.dst with
   |none=>exact h1
   | some d=>
     show(tmps.setIfInBounds d v')[t]? =_
     rw [yp,if_neg (by intro e;subst e;exact ht hdd)]
     exact h1

theorem kY(tmps:Array Value)(d:Option Tmp)(v:Value):(eg tmps d v).size=tmps.size:=by cases d<;>simp [eg]
end
end Go.Ab

namespace Go.Ab

theorem next_W{E:Env}{ops:Array Oper}{q:Nat}{X:Nat->Bool}: ∀(d c:Nat),c+d=ops.size-> ∃c',c<=c'/\c'<=ops.size/\(c'=ops.size\/ ∃o,ops[c']? =some o/\isW E X q o c')/\ ∀i o,c<=i->i<c'->ops[i]? =some o-> ¬isW E X q o i
 |0,c,h=>⟨c,xY _,by omega,.inl (by omega),fun i o h1 h2=>by omega⟩
 | d +1,c,h=>by
   obtain⟨oc,ho⟩: ∃oc,ops[c]? =some oc:=⟨_,xW (xs:=ops) (i:=c) (by omega)⟩
   by_cases hw:isW E X q oc c
   . exact⟨c,xY _,by omega,.inr ⟨_,ho,hw⟩,fun i o h1 h2=>by omega⟩
   . obtain⟨c',h1,h2,h3,h4⟩:=next_W (E:=E) (ops:=ops) (q:=q) (X:=X) d (c+1) (by omega)
     refine⟨c',by omega,h2,h3,fun i o hi hi' hoi=>?_⟩
     by_cases hic:i=c
     . subst hic;rw [ho]at hoi;cases hoi;exact hw
     . exact h4 i o (by omega) hi' hoi

section
variable{E:Env}{P:Program}(ok:EOk E P){R:Rec}(hc:fG E P R.call)(hcode:ip P R.code)
variable{ops:Array Oper}{q:Nat}{ps:List (Nat×Nat)}{M:List Nat}{L:Nat->Loc}{H:Nat->Hp}{T:Nat->Option Nat}{X:Nat->Bool}(D:DT E R ops q ps M L H T X)
variable{nr:Nat}{mu0:Mu}{w0:World}

theorem stand(cP: ∀j o,j<ops.size->ops[j]? =some o->Turn ops E X q H T j o){a c:Nat}(hac:a<=c)(hcn:c<=ops.size)
 (hno: ∀j o,a<=j->j<c->ops[j]? =some o->isR E X o j\/isQ E X q o j) {b:Nat} (hb:b<(H a).n):(H c).get b=(H a).get b:=by
 have:=walk_eq (fun j=>(H j).get b) (a:=a) (c-a) (fun j h1 h2=>by
  have hoj:ops[j]? =some ops[j]:=xW (by omega)
  have tj:=cP j _ (by omega) hoj
  rcases hno j _ h1 (by omega) hoj with h|h
  . show(H (j+1)).get b=(H j).get b
    rw [tj.still h]
  . exact tj.quiet h b (yb hb (dM cP h1 (by omega))))
 rw [show a+(c-a)=c by omega]at this
 exact this

include D in
theorem after_c{S:Nat->Bool}(hd:Down ops S){c:Nat}(hC:AtC E ops q X S c){i:Nat}{o:Oper}(hi:c<=i)(ho:ops[i]? =some o)(hw:isW E X q o i\/isQ E X q o i)(hcq:isQ E X q o i->c≠i):S i=false:=by
 have hin:=(Array.getElem?_eq_some_iff.1 ho).1
 rcases hC.2.1 with e|⟨oc,hoc,hwc,hsc⟩
 . omega
 . by_cases hci:c=i
   . subst hci;exact hsc
   . cases hs:S i with
     |false=>rfl
     | true=>
       obtain⟨m,hm⟩:=mask D ho
       have:=kj D hd i o m c ho hm hs (cmp D ho hm (by omega) hoc (.inl ⟨hwc,hw⟩))
       rw [hsc]at this;cases this

include D in
theorem read_at(cP: ∀j o,j<ops.size->ops[j]? =some o->Turn ops E X q H T j o)(sized: ∀j,j<=ops.size->(H j).t.Sized (H j).n){S:Nat->Bool}(hd:Down ops S){c:Nat}(hC:AtC E ops q X S c)
 {p:Nat} {o:Oper} (ho:ops[p]? =some o) (hr:Ready o S) (hp:S p=false) (hcls:cls E o.op<=1) {ρ:Operand->Value} (hT:T p=touch ρ o.op)
 (hlt1: ∀b,touch ρ o.op=some b->b<(H p).n) (hlt2: ∀b,touch ρ o.op=some b->b<(H c).n)
 {f:Hp->Option Value} (f1: ∀h,aop E ρ h o.op=bO h (f h)) (f2:cls E o.op=0-> ∀h h2,f h=f h2) (f3: ∀h h2,(∀b,touch ρ o.op=some b->h2.get b=h.get b)->f h=f h2):
 f (H c)=f (H p):=by
 have hpn:=(Array.getElem?_eq_some_iff.1 ho).1
 have hcn:=hC.1
 have one: ∀j,j<ops.size->(∀b,touch ρ o.op=some b->b<(H j).n)->(∀oj,ops[j]? =some oj->isW E X q oj j->(p<j/\S j=true)\/(j<p/\S j=false))->f (H (j+1))=f (H j):=by
  intro j hj hlt hWj
  have hoj:ops[j]? =some ops[j]:=xW hj
  have tj:=cP j _ hj hoj
  rcases kinds D hoj with h|h|h
  . rw [tj.still h]
  . exact(f3 _ _ fun b hb=>tj.quiet h b (hlt b hb)).symm
  . refine w_leaves D sized ho hoj h hcls hT ?_ hlt f1 f2 f3
    rcases hWj _ hoj h with⟨h1,h2⟩|⟨h1,h2⟩
    . obtain⟨m,hm⟩:=mask D hoj
      refine .inl ⟨h1,D.owe j _ m p o hoj hm h1 ho ?_⟩
      cases hb:m.testBit p with
      |false=>rfl
      |true=>have:=kj D hd j _ m p hoj hm h2 hb;rw [hp]at this;cases this
    . obtain⟨m,hm⟩:=mask D ho
      refine .inr ⟨h1,D.owe p o m j _ ho hm h1 hoj ?_⟩
      cases hb:m.testBit j with
      |false=>rfl
      |true=>have:=k9 D hd ho hm hr hb;rw [h2]at this;cases this
 rcases Nat.le_total p c with hpc|hpc
 . have:=walk_eq (fun j=>f (H j)) (a:=p) (c-p) (fun j h1 h2=>one j (by omega) (fun b hb=>yb (hlt1 b hb) (dM cP h1 (by omega))) (fun oj hoj hw=>by
    have hjp:p≠j:=by intro e;subst e;rw [ho]at hoj;cases hoj;rcases hw.2 with x|⟨x,_⟩<;>omega
    exact .inl ⟨by omega,hC.2.2 j oj (by omega) hoj hw⟩))
   rw [show p+(c-p)=c by omega]at this
   exact this
 . have:=walk_eq (fun j=>f (H j)) (a:=c) (p-c) (fun j h1 h2=>one j (by omega) (fun b hb=>yb (hlt2 b hb) (dM cP h1 (by omega))) (fun oj hoj hw=>
    .inr ⟨by omega,after_c D hd hC h1 hoj (.inl hw) (fun hq=>by
     intro _;have:=hw.2;have:=hq.2.2;rcases hw.2 with x|⟨_,x⟩
     . have:=hq.2.1;omega
     . rw [x]at this;cases this)⟩))
   rw [show c+(p-c)=p by omega]at this
   exact this.symm
end
end Go.Ab

namespace Go.Ab
section
variable{E:Env}{P:Program}(ok:EOk E P){R:Rec}(hc:fG E P R.call)(hcode:ip P R.code)
variable{ops:Array Oper}{q:Nat}{ps:List (Nat×Nat)}{M:List Nat}{L:Nat->Loc}{H:Nat->Hp}{T:Nat->Option Nat}{X:Nat->Bool}(D:DT E R ops q ps M L H T X)
variable{nr:Nat}{mu0:Mu}{w0:World}

theorem uG{mu:Mu}{n:Nat}(h: ∀b,mu b≠ .none->b<n):cut mu n=mu:=by
 funext b
 by_cases hb:b<n
 . exact dw hb
 . rw [lc (by omega)]
   cases hm:mu b with
   |none=>rfl
   |dead=>exact absurd (h b (by rw [hm];simp)) hb
   |blk c base top=>exact absurd (h b (by rw [hm];simp)) hb

theorem pI{S:Nat->Bool}{c p:Nat}(h:AtC E ops q X S c)(hp:p≠c):AtC E ops q X (j8 S p) c:=by
 refine⟨h.1,h.2.1.imp id fun⟨o,a,b,e⟩=>⟨o,a,b,by rw [bG S (Ne.symm hp)];exact e⟩,fun i o hi ho hw=>?_⟩
 by_cases hip:i=p
 . subst hip;exact fk S i
 . rw [bG S hip];exact h.2.2 i o hi ho hw

theorem qV{mu:Mu}{h h2:Hp}{w:World}(hh:aF mu h w)(hs:h2.t.Sized h2.n)(hn:h.n<=h2.n)(hg: ∀b,b<h.n->h2.get b=h.get b):aF mu h2 w:=by
 refine⟨hs,fun b c base top hm=>?_,fun b hm=>?_,hh.inj,fun b hm=>yb (hh.lt b hm) hn⟩
 . obtain⟨x,o,h1,h2',h3⟩:=hh.blk b c base top hm
   exact⟨x,o,by rw [hg b (hh.lt b (by rw [hm];simp))];exact h1,h2',h3⟩
 . rw [hg b (hh.lt b (by rw [hm];simp))];exact hh.dead b hm

theorem gS.cut{mu muT:Mu}{n:Nat}(hn: ∀b,muT b≠ .none->b<n){t:Tr Value}{m:Nat}{ts tsT:Array Value}(h:gS mu t m ts)(hT:gS muT t m tsT):gS (cut mu n) t m ts:=by
 refine⟨h.size,h.sized,fun i v hv=>?_⟩
 obtain⟨v',a,b⟩:=h.get i v hv
 obtain⟨vT,_,c⟩:=hT.get i v hv
 exact⟨v',a,ao.cut hn c b⟩
theorem jF.cut{mu muT:Mu}{n:Nat}(hn: ∀b,muT b≠ .none->b<n){x:Blk}{base top baseT topT:Nat}{o oT:Obj}(h:jF mu x base top o)(hT:jF muT x baseT topT oT):jF (cut mu n) x base top o:=by
 cases x with
 |dead=>exact h
 | cells t sz el md=>
   obtain⟨cs,el',fz,e,r⟩:=h
   obtain⟨csT,elT,fzT,eT,rT⟩:=hT
   refine⟨cs,el',fz,e,r.whole,r.fits,r.sized,fun i v hv=>?_,r.free⟩
   obtain⟨v',a,b⟩:=r.get i v hv
   obtain⟨vT,_,c⟩:=rT.get i v hv
   exact⟨v',a,ao.cut hn c b⟩
 | map es c=>
   obtain⟨e0,es',e,r⟩:=h
   obtain⟨_,esT,eT,rT⟩:=hT
   refine⟨e0,es',e,r.1,fun i v v' hv hv'=>?_⟩
   obtain⟨a1,a2,a3,a4⟩:=r.2 i v v' hv hv'
   obtain⟨vT,b1,b2⟩:=rT.get hv
   exact⟨a1,a2,ao.cut hn b2.2.2.1 a3,a4⟩
 | loop l=>
   obtain⟨e0,l',e,r⟩:=h
   obtain⟨_,lT,eT,rT⟩:=hT
   exact⟨e0,l',e,r.fn,r.regs.cut hn rT.regs,r.params,r.assign,r.body,r.st,r.pending⟩
 |dfr=>exact h

def glue(mu1 mu:Mu)(n:Nat):Mu:=fun b=>if b<n then mu1 b else mu b
theorem iu{mu1 mu:Mu}{n b:Nat}(h:b<n):glue mu1 mu n b=mu1 b:=by simp [glue,h]
theorem ji{mu1 mu:Mu}{n b:Nat}(h:n<=b):glue mu1 mu n b=mu b:=by simp [glue,Nat.not_lt.2 h]

theorem glue_rel {mu mu1:Mu} {hc hp h1:Hp} {w w1:World} (hh:aF mu hc w) (k1:aF mu1 h1 w1) (k2:Ext (cut mu hp.n) hp w mu1 h1 w1)
 (non: ∀b,hp.n<=b->b<h1.n->mu b=.none) (hn:h1.n<=hc.n) (same: ∀b,b<h1.n->hc.get b=h1.get b):
 aF (glue mu1 mu h1.n) hc w1/\Le mu (glue mu1 mu h1.n)/\Le mu1 (glue mu1 mu h1.n):=by
 have hpn:=k2.n
 have le:Le mu (glue mu1 mu h1.n):=by
  intro b hb
  by_cases h:b<h1.n
  . rw [iu h]
    by_cases h':b<hp.n
    . rcases k2.old b h' with x|⟨_,x⟩
      . left;rw [x,dw h']
      . right;exact x
    . exact absurd (non b (by omega) h) hb
  . rw [ji (by omega)];exact .inl rfl
 have le1:Le mu1 (glue mu1 mu h1.n):=by
  intro b hb
  left
  exact iu (k1.lt b hb)
 refine⟨⟨hh.sized,fun b c base top hm=>?_,fun b hm=>?_,?_,fun b hm=>?_⟩,le,le1⟩
 . by_cases h:b<h1.n
   . rw [iu h]at hm
     obtain⟨x,o,g1,g2,g3⟩:=k1.blk b c base top hm
     exact⟨x,o,by rw [same b h];exact g1,g2,g3.mono le1⟩
   . rw [ji (by omega)]at hm
     obtain⟨x,o,g1,g2,g3⟩:=hh.blk b c base top hm
     refine⟨x,o,g1,?_,g3.mono le⟩
     rw [k2.frame c (hh.clt hm) (fun b' base' top' hb'=>?_)]
     . exact g2
     . by_cases h':b'<hp.n
       . rw [dw h']at hb'
         have:=hh.inj b b' c base top base' top' hm hb'
         omega
       . rw [lc (by omega)]at hb';cases hb'
 . by_cases h:b<h1.n
   . rw [iu h]at hm;rw [same b h];exact k1.dead b hm
   . rw [ji (by omega)]at hm;exact hh.dead b hm
 . have one: ∀b b' c base top base' top',b<h1.n->h1.n<=b'->mu1 b=.blk c base top->mu b'=.blk c base' top'->False:=by
    intro b b' c base top base' top' h h' e1 e2
    by_cases hb:b<hp.n
    . rcases k2.old b hb with x|⟨_,x⟩
      . rw [x,dw hb]at e1
        have:=hh.inj b b' c _ _ _ _ e1 e2
        omega
      . rw [x]at e1;cases e1
    . rcases k2.fresh b c base top (by omega) e1 with x|⟨b0,base0,top0,y1,y2,_⟩
      . have:=hh.clt e2;omega
      . rw [dw y1]at y2
        have:=hh.inj b0 b' c _ _ _ _ y2 e2
        omega
   intro b b' c base top base' top' e1 e2
   by_cases h:b<h1.n
   . rw [iu h]at e1
     by_cases h':b'<h1.n
     . rw [iu h']at e2;exact k1.inj b b' c _ _ _ _ e1 e2
     . rw [ji (by omega)]at e2;exact(one b b' c _ _ _ _ h (by omega) e1 e2).elim
   . rw [ji (by omega)]at e1
     by_cases h':b'<h1.n
     . rw [iu h']at e2;exact(one b' b c _ _ _ _ h' (by omega) e2 e1).elim
     . rw [ji (by omega)]at e2;exact hh.inj b b' c _ _ _ _ e1 e2
 . by_cases h:b<h1.n
   . omega
   . rw [ji (by omega)]at hm;exact hh.lt b hm

structure SameAs(ops opsM:Array Oper)(σ:Nat->Nat):Prop where
 op: ∀p o,ops[p]? =some o-> ∃oM,opsM[σ p]? =some oM/\oM.op=o.op/\oM.dst=o.dst/\((o.guard=none/\oM.guard=none)\/ ∃j want,o.guard=some (j,want)/\oM.guard=some (σ j,want))
 no: ∀p,ops[p]? =none->opsM[σ p]? =none
theorem xb {mu:Mu} {ops opsM:Array Oper} {σ:Nat->Nat} (hσ:SameAs ops opsM σ) {t:Tr Value} {tmps:Array Value} {o oM:Oper} {b:Bool} (hgM:(o.guard=none/\oM.guard=none)\/ ∃j want,o.guard=some (j,want)/\oM.guard=some (σ j,want))
 (hr: ∀j want o' d,o.guard=some (j,want)->ops[j]? =some o'->o'.dst=some d-> ∀v,t.get d=some v-> ∃v',tmps[d]? =some v'/\ao mu v v')
 (hg:bQ ops.toList t o=some b):Region.wanted oM (yielded opsM tmps)=b:=by
 unfold bQ at hg
 unfold Region.wanted
 rcases hgM with⟨g1,g2⟩|⟨j,want,g1,g2⟩
 . rw [g1]at hg;rw [g2];cases hg;rfl
 . rw [g1]at hg
   rw [g2]
   simp only []at hg⊢
   unfold yielded
   cases hj:ops[j]? with
   |none=>rw [xX,hj]at hg;cases hg;rw [hσ.no j hj];simp [Option.bind]
   | some o'=>
     obtain⟨oj,k1,_,k3,_⟩:=hσ.op j o' hj
     rw [xX,hj]at hg
     rw [k1]
     simp only [yt]at hg⊢
     cases hd:o'.dst with
     |none=>rw [hd]at hg;cases hg;rw [k3,hd];rfl
     | some d=>
       rw [hd]at hg
       rw [k3,hd]
       simp only [yt]at hg⊢
       split at hg
       next b' hb=>
        obtain⟨v',h1,h2⟩:=hr j want o' d g1 hj hd _ hb
        cases h2
        rw [h1]
        cases hg
        cases b'<;>cases want<;>rfl
       next x hb=>
        obtain⟨v',h1,h2⟩:=hr j want o' d g1 hj hd _ hb
        rw [h1]
        cases hg
        cases h2
        rfl
       next=>cases hg
theorem qg{E:Env}{R:Rec}{ρ:Operand->Value}{b:Bool}{o oM:Oper}{h:Hp}(e:oM.op=o.op):cd E R ρ b oM h=cd E R ρ b o h:=by
 unfold cd;rw [e]
theorem alloc_at{mu:Mu}{h:Hp}{w w':World}(hh:aF mu h w){b:Nat}(hn:mu b=.none)(hb:b<h.n){x:Blk}{top:Nat}{o:Obj}(hget:h.get b=some x)(hw:WNew w w' o)(hbr:jF mu x 0 top o):
 aF (upd mu b (.blk w.heap.size 0 top)) h w'/\Le mu (upd mu b (.blk w.heap.size 0 top)):=by
 have hg: ∀j,w'.heap[j]? =if j=w.heap.size then some o else w.heap[j]? :=by
  intro j;rw [hw.heap,yD]
 have hle:Le mu (upd mu b (.blk w.heap.size 0 top)):=by
  intro b' hb';left;exact aG _ _ (by intro e;subst e;exact hb' hn)
 refine⟨⟨hh.sized,?_,?_,?_,?_⟩,hle⟩
 . intro b' c base' top' hm
   by_cases hbn:b'=b
   . subst hbn
     rw [upd_same]at hm
     cases hm
     exact⟨x,o,hget,by rw [hg];simp,hbr.mono hle⟩
   . rw [aG _ _ hbn]at hm
     obtain⟨y,o',h1,h2,h3⟩:=hh.blk b' c base' top' hm
     have:=hh.clt hm
     exact⟨y,o',h1,by rw [hg,if_neg (by omega)];exact h2,h3.mono hle⟩
 . intro b' hm
   by_cases hbn:b'=b
   . subst hbn;rw [upd_same]at hm;cases hm
   . rw [aG _ _ hbn]at hm;exact hh.dead b' hm
 . intro b1 b2 c base1 top1 base2 top2 h1 h2
   by_cases hb1:b1=b
   . by_cases hb2:b2=b
     . rw [hb1,hb2]
     . subst hb1;rw [upd_same]at h1;rw [aG _ _ hb2]at h2
       cases h1;have:=hh.clt h2;omega
   . rw [aG _ _ hb1]at h1
     by_cases hb2:b2=b
     . subst hb2;rw [upd_same]at h2;cases h2;have:=hh.clt h1;omega
     . rw [aG _ _ hb2]at h2;exact hh.inj b1 b2 c _ _ _ _ h1 h2
 . intro b' hm
   by_cases hbn:b'=b
   . omega
   . rw [aG _ _ hbn]at hm;exact hh.lt b' hm
theorem WExt.alloc{mu0 mu:Mu}{h0:Hp}{w0 w w':World}(W:WExt mu0 h0 w0 mu w)(lt0: ∀b,mu0 b≠ .none->b<h0.n)(clt0: ∀b c base top,mu0 b=.blk c base top->c<w0.heap.size){b top:Nat}{o:Obj}(hb:h0.n<=b)(hw:WNew w w' o):WExt mu0 h0 w0 (upd mu b (.blk w.heap.size 0 top)) w':=by
 have hg: ∀j,j<w.heap.size->w'.heap[j]? =w.heap[j]? :=by
  intro j hj;rw [hw.heap,yD,if_neg (by omega)]
 refine⟨fun b' hb'=>?_,fun b' c base top' hb' hm=>?_,fun c hc hn=>?_,fun b' c base top' t sz el hm hg'=>?_,?_,hw.os.trans W.os,hw.tape.trans W.tape,hw.output.trans W.output⟩
 . rw [aG _ _ (by omega)];exact W.old b' hb'
 . by_cases e:b'=b
   . subst e;rw [upd_same]at hm;cases hm;exact .inl W.wsize
   . rw [aG _ _ e]at hm
     rcases W.fresh b' c base top' hb' hm with x|⟨b0,base0,top0,x,y,z⟩
     . exact .inl x
     . exact .inr ⟨b0,base0,top0,x,y,by rw [aG _ _ (by omega)];exact z⟩
 . rw [hg c (yb hc W.wsize)];exact W.frame c hc hn
 . obtain⟨x,y⟩:=W.ro b' c base top' t sz el hm hg'
   have hbl:=lt0 b' (by rw [hm];simp)
   refine⟨?_,by rw [aG _ _ (by omega)];exact y⟩
   rw [<-x]
   rcases ya c w.heap.size with hc|hc
   . exact hg c hc
   . have:=clt0 _ _ _ _ hm;have:=W.wsize;omega
 . rw [hw.heap];simp;have:=W.wsize;omega
include ok in
theorem xD{mu:Mu}{h:Hp}{w:World}{b:Nat}{e:TypeId}{z:List Value}(hz:E.zero e=some z)(hh:aF mu h w)(hn:mu b=.none)(hb:b<h.n)(hget:h.get b=some (.cells (Tr.ofList z) z.length e 1))(ρ':Operand->Value){o:Oper}(ho:o.op=.alloc e):
 ∃w' top ob,(execOp ρ' o).run P w=.ok (.value (.pointer (some ⟨w.heap.size,0,none⟩))) w'/\WNew w w' ob/\aF (upd mu b (.blk w.heap.size 0 top)) h w'/\Le mu (upd mu b (.blk w.heap.size 0 top)):=by
 obtain⟨zv,z1,z2,z3,z4⟩:=kz ok hz w
 have hr:VL mu z zv.cells.toList:=by
  rw [z2];exact LR.refl fun a ha=>ao.const mu (by simp only [List.all_eq_true]at z4;exact z4 a ha)
 have hbr:jF mu (.cells (Tr.ofList z) z.length e 1) 0 zv.cells.size (.cells zv.cells e):=by
  refine⟨zv.cells,e,(0,0),rfl,rfl,?_,Tr.sized_ofList z,?_,?_⟩
  . have:=hr.1;simp at this;omega
  . intro i v hv
    rw [Tr.get_ofList]at hv
    obtain⟨v',h1,h2⟩:=hr.get hv
    exact⟨v',by rw [yc,<-xX];exact h1,h2⟩
  . intro _ i _ hx;omega
 obtain⟨a1,a2⟩:=alloc_at hh hn hb hget (fo w (.cells zv.cells e)) hbr
 refine⟨_,_,_,?_,fo w (.cells zv.cells e),a1,a2⟩
 obtain⟨dst,op,type,pos,after,guard⟩:=o
 simp only []at ho
 subst ho
 simp [execOp,Instr.alloc,z1,newVar,newRow]
include ok hc hcode D in
theorem inv_step (cP: ∀j o,j<ops.size->ops[j]? =some o->Turn ops E X q H T j o) (shd: ∀i,i<=ops.size->l7 nr mu0 w0 L H i) (lt0: ∀b,mu0 b≠ .none->b<(H 0).n) (clt0: ∀b c base top,mu0 b=.blk c base top->c<w0.heap.size)
 {opsM:Array Oper} {σ:Nat->Nat} (hσ:SameAs ops opsM σ)
 {S:Nat->Bool} {mu:Mu} {w:World} {tmps:Array Value} (inv:Inv E ops q L H X nr mu0 w0 S mu w tmps) (hd:Down ops S) {p:Nat} {o:Oper} (ho:ops[p]? =some o) (hr:Ready o S) (hp:S p=false)
 {F:FC} {dfs:List Deferred} {k:List Item} {cs:List Frame} {rest:List Nat}:
 ∃ mu' w' tmps',Inv E ops q L H X nr mu0 w0 (j8 S p) mu' w' tmps'/\
   Steps P (lone (F.mk' tmps dfs (.inRegion opsM (σ p::rest)::k)) cs w) (lone (F.mk' tmps' dfs (.inRegion opsM rest::k)) cs w'):=by
 obtain⟨oM,hoM,e1,e2,e3⟩:=hσ.op p o ho
 have hpn:=(Array.getElem?_eq_some_iff.1 ho).1
 obtain⟨muT,wT,tmpsT,t1,t2,t3,t4⟩:=shd p (by omega)
 obtain⟨c,hC,hh⟩:=inv.c
 have named: ∀t∈ir ops.toList o,∀v,(L p).regs.get t=some v-> ∃v',tmps[t]? =some v'/\ao mu v v':=
  fun t ht v hv=>inv.regs p (by omega) t v (qB D hd ho hr hp ht) hv
 have hguard: ∀{b:Bool},bQ ops.toList (L p).regs o=some b->Region.wanted oM (yielded opsM tmps)=b:=by
  intro b hg
  refine xb (mu:=mu) hσ e3 (fun j want o' d hgu hj hdj v hv=>named d ?_ v hv) hg
  unfold ir
  rw [hgu]
  simp only []
  rw [xX,hj]
  simp [hdj]
 have hρ: ∀x,ao mu ((L p).evD (tmpsOf o.op.operands.toList) x) (cS tmps x):=
  fun x=>sg t3.sized inv.size _ (fun t ht v hv=>named t (by
   unfold ir
   have:Operand.tmp t∈o.op.operands.toList:=(nQ t _).1 ht
   simp only [List.mem_append,List.mem_filterMap]
   exact .inl (.inr ⟨.tmp t,this,rfl⟩)) v hv) inv.glob x
 have hρT: ∀x,ao muT ((L p).evD (tmpsOf o.op.operands.toList) x) (cS tmpsT x):=
  fun x=>sg t3.sized t3.size _ (fun t ht v hv=>t3.get t v hv) t2 x
 have sized: ∀j,j<=ops.size->(H j).t.Sized (H j).n:=fun j hj=>by obtain⟨_,_,_,g,_⟩:=shd j hj;exact g.sized
 have tp:=cP p o hpn ho
 have hs:=D.step p o ho
 have hro: ∀j,j<=ops.size-> ∀b c base top t sz el,mu0 b=.blk c base top->(H 0).get b=some (.cells t sz el 0)->(H j).get b=some (.cells t sz el 0):=by
  intro j hj b c base top t sz el hm hg
  obtain⟨_,_,_,_,_,_,e⟩:=shd j hj
  exact((e.ro b c base top t sz el hm hg).2.1).trans hg
 have cW: ∀{i:Nat} {oi:Oper},ops[i]? =some oi->c=i->isW E X q oi i:=by
  intro i oi hoi hci
  subst hci
  rcases hC.2.1 with e|⟨oc,hoc,hwc,_⟩
  . have:=(Array.getElem?_eq_some_iff.1 hoi).1;omega
  . rw [hoi]at hoc;cases hoc;exact hwc
 generalize hL:L (p+1)=L1 at hs
 generalize hH:H (p+1)=H1 at hs
 generalize hTp:T p=T1 at hs
 generalize hXp:X p=X1 at hs
 cases hs with
 | skip hg=>
   have hpc:p≠c:=by
    intro e
    have:=(cW ho e.symm).1
    rw [hXp]at this;cases this
   have hst:=rx (P:=P) (F:=F) (tmps:=tmps) (dfs:=dfs) (k:=k) (cs:=cs) (w:=w) (ops:=opsM) (i:=σ p) (rest:=rest) (by rw [hoM];simpa using hguard hg)
   rw [hoM,show(some oM).bind (·.dst)=oM.dst from rfl,e2]at hst
   refine⟨mu,w,_,⟨⟨c,pI hC hpc,hh⟩,inv.glob,fun p' hp' hs' b h1 h2=>?_,by rw [kY];exact inv.size,?_,inv.ext,?_⟩,.one hst⟩
   . refine inv.non p' hp' ?_ b h1 h2
     by_cases e:p'=p
     . subst e;exact hp
     . rwa [bG S e]at hs'
   . exact kT D hd ho hr hp (Le.refl mu) inv.size t3.sized (v:=.tuple #[]) (v':=undef) (.tuple rfl (by intro i v v' hv;simp at hv)) hL inv.regs
   . intro p' hp' hs' b h1 h2
     by_cases e:p'=p
     . subst e;rw [hH]at h2;omega
     . rw [bG S e]at hs';exact inv.cov p' hp' hs' b h1 h2
 | exec hg hst=>
   rename_i v
   have hwant:=hguard hg
   cases hal:dZ o.op with
   | true =>
     obtain⟨e,hop⟩: ∃e,o.op=.alloc e:=by
      unfold dZ at hal
      split at hal
      . exact⟨_, ‹_›⟩
      . cases hal
     have h4:=sq (E:=E) hal
     have hb4:=D.four p o ho h4
     have hk:isQ E X q o p:=⟨hXp,by omega,hb4⟩
     rw [nY (by omega) hb4]at hst
     obtain⟨z,hz,hv,hH1⟩: ∃z,E.zero e=some z/\v=ptrTo (H p).n/\H1=(H p).new (.cells (Tr.ofList z) z.length e 1):=by
      unfold cd at hst
      simp only [cond_true,hop,aop]at hst
      cases hz:E.zero e with
      |none=>rw [hz]at hst;cases hst
      | some z=>
        rw [hz]at hst
        simp only [cv,ct,nH]at hst
        rw [show yq (H p).n (({H p with lo:=(H p).n}:Hp).new (.cells (Tr.ofList z) z.length e 1)).lo=true from yA (xY _)]at hst
        cases hst
        exact⟨z,rfl,rfl,rfl⟩
     have hT:T p=some (H p).n:=by rw [hTp];unfold iW;rw [hal];rfl
     have hget1:(H (p+1)).get (H p).n=some (.cells (Tr.ofList z) z.length e 1):=by rw [hH,hH1,Hp.get_new _ _ (sized p (by omega)),if_pos rfl]
     have hn1:(H (p+1)).n=(H p).n+1:=by rw [hH,hH1];rfl
     have hpc:p<c:=by
      rcases yi p c with h|h|h
      . exact h
      . exfalso
        have hw:=cW ho h.symm
        rcases hw.2 with x|⟨_,x⟩
        . omega
        . rw [hb4]at x;cases x
      . exfalso
        rcases hC.2.1 with e|⟨oc,hoc,hwc,hsc⟩
        . omega
        . obtain⟨m,hm⟩:=mask D ho
          have:=k9 D hd ho hm hr (cmp D ho hm h hoc (.inl ⟨hwc,.inr hk⟩))
          rw [hsc]at this;cases this
     have hnp1:(H (p+1)).n<=(H c).n:=dM cP (by omega) hC.1
     have hgetc:(H c).get (H p).n=some (.cells (Tr.ofList z) z.length e 1):=by
      have :=walk_eq (fun j=>(H j).get (H p).n) (a:=p+1) (c-(p+1)) (fun j h1 h2=>by
       have hj:j<ops.size:=by have:=hC.1;omega
       have hoj:ops[j]? =some ops[j]:=xW hj
       have tj:=cP j _ hj hoj
       show(H (j+1)).get (H p).n=(H j).get (H p).n
       rcases kinds D hoj with x|x|x
       . rw [tj.still x]
       . refine tj.quiet x _ ?_
         have:=dM cP h1 (by omega)
         omega
       . obtain⟨m,hm⟩:=mask D hoj
         have hsj:=hC.2.2 j _ (by omega) hoj x
         have hb:m.testBit p=false:=by
          cases hb:m.testBit p with
          |false=>rfl
          |true=>have:=kj D hd j _ m p hoj hm hsj hb;rw [hp]at this;cases this
         obtain⟨_,hu⟩:=D.owe j _ m p o hoj hm (by omega) ho hb
         have hw2:=x.2
         have h5:=cls_le (E:=E) ops[j].op
         rcases hu with h|h|⟨_,h⟩|⟨_,h,_⟩|⟨_,h,_⟩|⟨_,h,_⟩|⟨_,h,_⟩|⟨a,b,c',d⟩|⟨_,h,_⟩|⟨_,h,_⟩|⟨_,_,hrun,_,hm'⟩
         . omega
         . omega
         . omega
         . omega
         . omega
         . omega
         . omega
         . rcases hw2 with hx|⟨hx,hq⟩
           . exact absurd hx a
           . rw [d hx]at hq;cases hq
         . omega
         . omega
         . exact D.leave (.inl hm') ho hoj (jM (E:=E) (by omega)) hrun x.1 (qF x) hT)
      rw [show p+1+(c-(p+1))=c by omega]at this
      exact this.trans hget1
     have hbn:=inv.non p hpn hp (H p).n (xY _) (by omega)
     obtain⟨w',top,ob,r1,r2,r3,r4⟩:=xD (P:=P) ok hz hh hbn (by omega) hgetc (cS tmps) (o:=oM) (e1.trans hop)
     have hst1:=ua (P:=P) (F:=F) (dfs:=dfs) (k:=k) (cs:=cs) (rest:=rest) hoM hwant (.inr fun cc hcc=>by rw [e1,hop]at hcc;cases hcc) r1
     rw [e2]at hst1
     refine⟨upd mu (H p).n (.blk w.heap.size 0 top),w',_,⟨⟨c,pI hC (by omega),r3⟩,inv.glob.mono r4,fun p' hp' hs' b h1 h2=>?_,by rw [kY];exact inv.size,?_,?_,?_⟩,.one hst1⟩
     . have hne:p'≠p:=by intro e;subst e;rw [fk]at hs';cases hs'
       rw [bG S hne]at hs'
       rw [aG _ _ (by
        rcases ya p p' with x|x
        . have:=dM cP (show p+1<=p' from x) (by omega);omega
        . have:=dM cP (show p'+1<=p by omega) (by omega);omega)]
       exact inv.non p' hp' hs' b h1 h2
     . refine kT D hd ho hr hp r4 inv.size t3.sized (v:=v) (v':=.pointer (some ⟨w.heap.size,0,none⟩)) ?_ hL inv.regs
       rw [hv]
       exact .ptr (sd mu (H p).n w.heap.size 0 _)
     . exact inv.ext.alloc lt0 clt0 (dM cP (yj p) (by omega)) r2
     . intro p' hp' hs' b h1 h2 hb0
       by_cases e:p'=p
       . subst e
         have:b=(H p').n:=by omega
         subst this
         rw [upd_same]at hb0;cases hb0
       . rw [bG S e]at hs'
         have hmb:=inv.cov p' hp' hs' b h1 h2
         rcases r4 b hmb with x|x
         . rw [hb0]at x;exact hmb x.symm
         . rw [hb0]at x;cases x
   |false=>
   rcases kinds D ho with hk|hk|hk
   . -- a read
     have hcls:cls E o.op<=1:=by
      rcases hk with x|x
      . rw [hXp]at x;cases x
      . exact x
     have hpc:p≠c:=by
      intro e
      rcases(cW ho e.symm).2 with x|⟨x,_⟩<;>omega
     obtain⟨f,f1,f2,f3⟩:=uW (E:=E) (op:=o.op) (ρ:=(L p).evD (tmpsOf o.op.operands.toList)) (by omega)
     rw [sT hcls]at hst
     have hfp:f (H p)=some v:=by
      simp only [cd,cond_false]at hst
      rw [f1 (H p)]at hst
      cases hf:f (H p)with
      |none=>rw [hf]at hst;cases hst
      |some u=>rw [hf]at hst;cases hst;rfl
     have hfc:f (H c)=some v:=by
      rw [<-hfp]
      exact read_at D cP sized hd hC ho hr hp hcls (hTp.trans (nU (E:=E) (by omega) _ _)) (fun b hb=>t1.lt b (us hρT hb)) (fun b hb=>hh.lt b (us hρ hb)) f1 f2 f3
     have hstc:cd E R ((L p).evD (tmpsOf o.op.operands.toList)) false o (H c)=some (v,H c):=by
      simp only [cd,cond_false]
      rw [f1 (H c),hfc];rfl
     obtain⟨mu1,w1,v',k1,k2,k3,_,k4⟩:=mG ok hc hcode hh inv.glob hρ (F:=F) (ops:=opsM) (i:=σ p) (dfs:=dfs) (k:=k) (cs:=cs) (rest:=rest) hoM hwant ((qg e1).trans hstc)
     rw [e2]at k4
     have le:=k2.le hh
     have hnone: ∀b,mu b=.none->mu1 b=.none:=by
      intro b hb
      by_cases hbc:b<(H c).n
      . rcases k2.old b hbc with x|⟨x,_⟩
        . rw [x];exact hb
        . exact absurd hb x
      . exact k1.none_ge (by omega)
     refine⟨mu1,w1,_,⟨⟨c,pI hC hpc,k1⟩,inv.glob.mono le,fun p' hp' hs' b h1 h2=>?_,by rw [kY];exact inv.size,?_,?_,?_⟩,k4⟩
     . refine hnone b (inv.non p' hp' ?_ b h1 h2)
       by_cases e:p'=p
       . subst e;exact hp
       . rwa [bG S e]at hs'
     . exact kT D hd ho hr hp le inv.size t3.sized k3 hL inv.regs
     . refine inv.ext.step lt0 (dM cP (yj c) hC.1) (by rw [uG hh.lt];exact k2) (hro c hC.1) (fun _ _=>rfl) (fun b hb=>?_)
       rw [k1.none_ge hb,hh.none_ge hb]
     . intro p' hp' hs' b h1 h2 hb0
       by_cases e:p'=p
       . subst e;rw [tp.still hk]at h2;omega
       . rw [bG S e]at hs'
         have hmb:=inv.cov p' hp' hs' b h1 h2
         rcases le b hmb with x|x
         . rw [hb0]at x;exact hmb x.symm
         . rw [hb0]at x;cases x
   . -- a quiet one:it runs at p,below c
     have hpc:p<c:=by
      rcases yi p c with h|h|h
      . exact h
      . exfalso
        have hw:=cW ho h.symm
        rcases hw.2 with x|⟨_,x⟩
        . have:=hk.2.1;omega
        . rw [hk.2.2]at x;cases x
      . exfalso
        rcases hC.2.1 with e|⟨oc,hoc,hwc,hsc⟩
        . omega
        . obtain⟨m,hm⟩:=mask D ho
          have:=k9 D hd ho hm hr (cmp D ho hm h hoc (.inl ⟨hwc,.inr hk⟩))
          rw [hsc]at this;cases this
     have hnoW: ∀j oj,p<=j->j<c->ops[j]? =some oj->isR E X oj j\/isQ E X q oj j:=by
      intro j oj h1 h2 hoj
      rcases kinds D hoj with x|x|x
      . exact .inl x
      . exact .inr x
      . exfalso
        by_cases e:j=p
        . subst e
          rw [ho]at hoj;cases hoj
          rcases x.2 with y|⟨_,y⟩
          . have:=hk.2.1;omega
          . rw [hk.2.2]at y;cases y
        . obtain⟨m,hm⟩:=mask D hoj
          have:=kj D hd j oj m p hoj hm (hC.2.2 j oj h2 hoj x) (cmp D hoj hm (by omega) ho (.inr ⟨hk,x,hal⟩))
          rw [hp]at this;cases this
     have hsame: ∀b,b<(H p).n->(H c).get b=(H p).get b:=fun b hb=>stand cP (by omega) hC.1 hnoW hb
     have hsame1: ∀b,b<(H (p+1)).n->(H c).get b=(H (p+1)).get b:=fun b hb=>stand cP (by omega) hC.1 (fun j oj h1 h2=>hnoW j oj (by omega) h2) hb
     have hnp:(H p).n<=(H c).n:=dM cP (by omega) hC.1
     have hnp1:(H (p+1)).n<=(H c).n:=dM cP (by omega) hC.1
     have hcut:aF (cut mu (H p).n) (H p) w:=by
      refine⟨sized p (by omega),fun b c0 base top hm=>?_,fun b hm=>?_,fun b b' c0 base top base' top' h1 h2=>?_,fun b hm=>?_⟩
      . by_cases hb:b<(H p).n
        . rw [dw hb]at hm
          obtain⟨x,ob,g1,g2,g3⟩:=hh.blk b c0 base top hm
          refine⟨x,ob,by rw [<-hsame b hb];exact g1,g2,?_⟩
          have hTn:muT b≠ .none:=by
           by_cases hb0:b<(H 0).n
           . have hm0:mu0 b≠ .none:=by
              rcases inv.ext.old b hb0 with y|⟨y,_⟩
              . rw [<-y,hm];simp
              . exact y
             rcases t4.old b hb0 with y|⟨_,y⟩
             . rw [y];exact hm0
             . rw [y];simp
           . exact t4.cover b (by omega) hb
          cases hmT:muT b with
          |none=>exact absurd hmT hTn
          | dead=>
            have:=t1.dead b hmT
            rw [<-hsame b hb,g1]at this
            cases this
            exact g3.elim
          | blk cT baseT topT=>
            obtain⟨xT,oT,j1,j2,j3⟩:=t1.blk b cT baseT topT hmT
            rw [<-hsame b hb,g1]at j1
            cases j1
            exact jF.cut (fun b' hb'=>t1.lt b' hb') g3 j3
        . rw [lc (by omega)]at hm;cases hm
      . by_cases hb:b<(H p).n
        . rw [dw hb]at hm;rw [<-hsame b hb];exact hh.dead b hm
        . rw [lc (by omega)]at hm;cases hm
      . exact hh.inj b b' c0 base top base' top' (by
         by_cases hb:b<(H p).n
         . rw [dw hb]at h1;exact h1
         . rw [lc (by omega)]at h1;cases h1) (by
         by_cases hb:b'<(H p).n
         . rw [dw hb]at h2;exact h2
         . rw [lc (by omega)]at h2;cases h2)
      . by_cases hb:b<(H p).n
        . exact hb
        . rw [lc (by omega)]at hm;exact absurd rfl hm
     have hρc: ∀x,ao (cut mu (H p).n) ((L p).evD (tmpsOf o.op.operands.toList) x) (cS tmps x):=fun x=>ao.cut (fun b' hb'=>t1.lt b' hb') (hρT x) (hρ x)
     have hgc:jE (cut mu (H p).n):=fun g hg=>(inv.glob g hg).cut (t1.lt _ (t2 g hg).in)
     have hst':=hst
     rw [nY hk.2.1 hk.2.2]at hst'
     obtain⟨mu1,w1,v',k1,k2,k3,_,k4⟩:=mG ok hc hcode hcut hgc hρc (F:=F) (ops:=opsM) (i:=σ p) (dfs:=dfs) (k:=k) (cs:=cs) (rest:=rest) hoM hwant ((qg e1).trans hst')
     rw [e2]at k4
     rw [<-hH]at k1 k2
     obtain⟨gh,le,le1⟩:=glue_rel hh k1 k2 (fun b h1 h2=>inv.non p hpn hp b h1 h2) hnp1 hsame1
     refine⟨glue mu1 mu (H (p+1)).n,w1,_,⟨⟨c,pI hC (by omega),gh⟩,inv.glob.mono le,fun p' hp' hs' b h1 h2=>?_,by rw [kY];exact inv.size,?_,?_,?_⟩,k4⟩
     . have hne:p'≠p:=by intro e;subst e;rw [fk]at hs';cases hs'
       rw [bG S hne]at hs'
       have hmb:=inv.non p' hp' hs' b h1 h2
       rcases ya p p' with x|x
       . rw [ji (yk (dM cP (show p+1<=p' from x) (by omega)) h1)];exact hmb
       . have hbp:b<(H p).n:=yb h2 (dM cP (show p'+1<=p by omega) (by omega))
         rw [iu (yb hbp tp.n)]
         rcases k2.old b hbp with y|⟨y,_⟩
         . rw [y,dw hbp];exact hmb
         . rw [dw hbp]at y;exact absurd hmb y
     . exact kT D hd ho hr hp le inv.size t3.sized (k3.mono le1) hL inv.regs
     . exact inv.ext.step lt0 (dM cP (yj p) (by omega)) k2 (hro p (by omega)) (fun b hb=>iu hb) (fun b hb=>ji hb)
     . intro p' hp' hs' b h1 h2 hb0
       by_cases e:p'=p
       . subst e;rw [iu h2]at hb0;exact k2.cover b h1 h2 hb0
       . rw [bG S e]at hs'
         have hmb:=inv.cov p' hp' hs' b h1 h2
         rcases le b hmb with x|x
         . rw [hb0]at x;exact hmb x.symm
         . rw [hb0]at x;cases x
   . -- a writer:it is the one at c
     have hpc:p=c:=by
      rcases yi p c with h|h|h
      . have:=hC.2.2 p o h ho hk;rw [hp]at this;cases this
      . exact h
      . rcases hC.2.1 with e|⟨oc,hoc,hwc,hsc⟩
        . omega
        . obtain⟨m,hm⟩:=mask D ho
          have:=k9 D hd ho hm hr (cmp D ho hm h hoc (.inl ⟨hwc,.inl hk⟩))
          rw [hsc]at this;cases this
     subst hpc
     rw [qF hk]at hst
     obtain⟨mu1,w1,v',k1,k2,k3,_,k4⟩:=mG ok hc hcode hh inv.glob hρ (F:=F) (ops:=opsM) (i:=σ p) (dfs:=dfs) (k:=k) (cs:=cs) (rest:=rest) hoM hwant ((qg e1).trans hst)
     rw [e2]at k4
     have le:=k2.le hh
     rw [<-hH]at k1 k2
     obtain⟨c',d1,d2,d3,d4⟩:=next_W (E:=E) (ops:=ops) (q:=q) (X:=X) (ops.size-(p+1)) (p+1) (by omega)
     have hmove:aF mu1 (H c') w1:=by
      refine qV k1 (sized c' d2) (dM cP d1 d2) (fun b hb=>stand cP d1 d2 (fun j oj h1 h2 hoj=>?_) hb)
      rcases kinds D hoj with x|x|x
      . exact .inl x
      . exact .inr x
      . exact absurd x (d4 j oj h1 h2 hoj)
     refine⟨mu1,w1,_,⟨⟨c',⟨d2,?_,?_⟩,hmove⟩,inv.glob.mono le,fun p' hp' hs' b h1 h2=>?_,by rw [kY];exact inv.size,?_,?_,?_⟩,k4⟩
     . rcases d3 with e|⟨o',ho',hw'⟩
       . exact .inl e
       . refine .inr ⟨o',ho',hw',?_⟩
         rw [bG S (by omega)]
         exact after_c D hd hC (by omega) ho' (.inl hw') (fun _=>by omega)
     . intro i oi hi hoi hwi
       by_cases hip:i=p
       . subst hip;exact fk S i
       . rw [bG S hip]
         rcases ya i p with x|x
         . exact hC.2.2 i oi x hoi hwi
         . exact absurd hwi (d4 i oi (by omega) hi hoi)
     . have hne:p'≠p:=by intro e;subst e;rw [fk]at hs';cases hs'
       rw [bG S hne]at hs'
       rcases ya p p' with x|x
       . exact k1.none_ge (yk (dM cP (show p+1<=p' from x) (by omega)) h1)
       . have hbp:b<(H p).n:=yb h2 (dM cP (show p'+1<=p by omega) (by omega))
         have hmb:=inv.non p' hp' hs' b h1 h2
         rcases k2.old b hbp with y|⟨y,_⟩
         . rw [y];exact hmb
         . exact absurd hmb y
     . exact kT D hd ho hr hp le inv.size t3.sized k3 hL inv.regs
     . refine inv.ext.step lt0 (dM cP (yj p) hC.1) (by rw [uG hh.lt];exact k2) (hro p hC.1) (fun _ _=>rfl) (fun b hb=>?_)
       rw [k1.none_ge hb,hh.none_ge (yk tp.n hb)]
     . intro p' hp' hs' b h1 h2 hb0
       by_cases e:p'=p
       . subst e;exact k2.cover b h1 h2 hb0
       . rw [bG S e]at hs'
         have hmb:=inv.cov p' hp' hs' b h1 h2
         rcases le b hmb with x|x
         . rw [hb0]at x;exact hmb x.symm
         . rw [hb0]at x;cases x
end
end Go.Ab

namespace Go.Ab
theorem lV{e e':Edge}(h:e.ground=e'.ground):binds e=binds e':=by
 unfold binds Region.binds;rw [h]
structure Ord(ops opsM:Array Oper)(σ τ:Nat->Nat):Prop where
 size:ops.size=opsM.size
 lt: ∀p,p<ops.size↔σ p<ops.size
 st: ∀i,σ (τ i)=i
 ts: ∀p,τ (σ p)=p
 op: ∀p o,ops[p]? =some o-> ∃oM,opsM[σ p]? =some oM/\oM.op=o.op/\oM.dst=o.dst/\((o.guard=none/\oM.guard=none)\/ ∃j want,o.guard=some (j,want)/\oM.guard=some (σ j,want))/\
  (∀e∈o.after.toList,∃eM∈oM.after.toList,e.ground=eM.ground/\(eM.on<ops.size->e.on=τ eM.on)/\(ops.size<=eM.on->ops.size<=e.on))/\
  ∀eM∈oM.after.toList,∃e∈o.after.toList,e.ground=eM.ground/\(eM.on<ops.size->e.on=τ eM.on)/\(ops.size<=eM.on->ops.size<=e.on)
theorem Ord.same{ops opsM:Array Oper}{σ τ:Nat->Nat}(o:Ord ops opsM σ τ):SameAs ops opsM σ:=by
 refine⟨fun p x hx=>?_,fun p hp=>?_⟩
 . obtain⟨oM,a,b,c,d,_⟩:=o.op p x hx;exact⟨oM,a,b,c,d⟩
 . have h1: ¬p<ops.size:=by intro h;rw [xW h]at hp;cases hp
   refine yy ?_
   rw [<-o.size]
   have:=mt (o.lt p).2 h1
   omega
theorem Ord.id(ops:Array Oper):Ord ops ops (fun i=>i) (fun i=>i):=by
 refine⟨rfl,fun _=>ym,fun _=>rfl,fun _=>rfl,fun p o ho=>⟨o,ho,rfl,rfl,?_,fun e he=>⟨e,he,rfl,fun _=>rfl,fun h=>h⟩,fun e he=>⟨e,he,rfl,fun _=>rfl,fun h=>h⟩⟩⟩
 cases hg:o.guard with
 |none=>exact .inl ⟨rfl,rfl⟩
 |some q=>obtain⟨j,w⟩:=q;exact .inr ⟨j,w,rfl,rfl⟩
theorem nK{i:Nat}: ∀{l:List Nat},i∈l->fj i l<l.length/\l[fj i l]? =some i
 | [],h=>by cases h
 | x ::l,h=>by
   unfold fj
   cases hb:yr i x with
   | true=>
     have:=yd hb
     subst this
     simp
   | false=>
     have hne:i≠x:=by intro e;subst e;rw [yn]at hb;cases hb
     rcases List.mem_cons.1 h with e|h
     . exact absurd e hne
     . obtain⟨a,b⟩:=nK h
       simp only [cond_false,List.length_cons,yv]
       exact⟨by omega,b⟩
theorem oP{i:Nat}: ∀{l:List Nat},i∉l->fj i l=l.length
 | [],_=>rfl
 | x::l,h=>by
   unfold fj
   have hb:yr i x=false:=by
    cases hb:yr i x with
    |false=>rfl
    |true=>exact absurd (List.mem_cons.2 (.inl (yd hb))) h
   rw [hb]
   simp only [cond_false,List.length_cons]
   rw [oP (fun h'=>h (yC _ h'))]
theorem ordL_mem(ops:List Oper)(i:Nat):i∈ordL ops↔i<ops.length:=by
 unfold ordL
 simp only [List.mem_append,yw,yB]
 cases freeAt ops i<;>simp
theorem xS(ops:List Oper):(ordL ops).Nodup:=by
 unfold ordL
 rw [List.nodup_append]
 refine⟨List.nodup_range.filter _,List.nodup_range.filter _,fun a ha b hb e=>?_⟩
 subst e
 have h1:=(List.mem_filter.1 ha).2
 have h2:=(List.mem_filter.1 hb).2
 rw [h1]at h2
 cases h2
theorem ordL_len(ops:List Oper):(ordL ops).length=ops.length:=by
 unfold ordL
 rw [List.length_append]
 have key: ∀(l:List Nat) (f:Nat->Bool),(l.filter f).length+(l.filter fun i=>!f i).length=l.length:=by
  intro l f
  induction l with
  |nil=>rfl
  | cons x l ih=>
    simp only [List.filter_cons]
    cases f x<;>simp<;>omega
 rw [key,List.length_range]
theorem sG(ops:List Oper)(ord:List Nat): ∀(l:List Nat),(∀i∈l,i<ops.length)-> ∀(p:Nat),(fh ops ord l)[p]? =(l[p]?).bind fun(i:Nat)=>(ops[i]?).map (reix ord)
 | [],_,p=>by simp [fh]
 | i ::l,h,p=>by
   have hi:i<ops.length:=h i List.mem_cons_self
   unfold fh
   rw [yh hi]
   simp only []
   cases p with
   |zero=>simp [hi]
   | succ p=>
     simp only [yv]
     exact sG ops ord l (fun j hj=>h j (yC _ hj)) p
theorem hoist_ord(ops:Array Oper): ∃(opsC:Array Oper) (σ τ:Nat->Nat),opsC.toList=dQ ops.toList/\Ord opsC ops σ τ:=by
 unfold dQ
 cases hh:ops.toList.any oC&&ops.toList.all (mY ops.toList.length)with
 |false=>exact⟨ops,_,_,rfl,Ord.id ops⟩
 | true=>
   simp only [ye]at hh
   have hgu:=hh.2
   simp only [cond_true]
   have hmem:=ordL_mem ops.toList
   have hnd:=xS ops.toList
   have hlen:=ordL_len ops.toList
   generalize ordL ops.toList=ord at*
   have hn:ops.toList.length=ops.size:=by simp
   rw [hn]at hlen hmem
   have hget:=sG ops.toList ord ord (fun i hi=>by rw [hn];exact(hmem i).1 hi)
   have hsz:(fh ops.toList ord ord).length=ops.size:=by
    have key: ∀p,p<(fh ops.toList ord ord).length↔p<ops.size:=by
     intro p
     have h0:p<(fh ops.toList ord ord).length↔((fh ops.toList ord ord)[p]?).isSome=true:=by simp
     rw [h0,hget]
     rcases ya p ops.size with h|h
     . have h1:p<ord.length:=by omega
       rw [yh h1]
       have h2:ord[p]<ops.size:=(hmem _).1 (yu h1)
       simp [h2,h]
     . rw [yf (by omega)]
       simp;omega
    have a:=key (fh ops.toList ord ord).length
    have b:=key ops.size
    omega
   refine⟨(fh ops.toList ord ord).toArray,fun p=>(ord[p]?).getD p,fun i=>if i<ops.size then fj i ord else i,rfl,?_⟩
   have hs: ∀p,p<ops.size-> ∃i,ord[p]? =some i/\i<ops.size:=fun p hp=>⟨ord[p]'(by omega),yh _,(hmem _).1 (yu _)⟩
   have hts: ∀p i,ord[p]? =some i->fj i ord=p:=by
    intro p i hp
    have hi:i∈ord:=yo hp
    obtain⟨a,b⟩:=nK hi
    have h1:=List.getElem?_eq_some_iff.1 hp
    have h2:=List.getElem?_eq_some_iff.1 b
    obtain⟨c,c'⟩:=h1
    obtain⟨d,d'⟩:=h2
    rcases yi (fj i ord) p with hij|hij|hij
    . exact absurd (d'.trans c'.symm) (List.pairwise_iff_getElem.1 hnd _ _ d c hij)
    . exact hij
    . exact absurd (c'.trans d'.symm) (List.pairwise_iff_getElem.1 hnd _ _ c d hij)
   have hsize:(fh ops.toList ord ord).toArray.size=ops.size:=by simp [hsz]
   refine⟨hsize,fun p=>?_,fun i=>?_,fun p=>?_,fun p o ho=>?_⟩
   . rw [hsize]
     rcases ya p ops.size with h|h
     . obtain⟨i,h1,h2⟩:=hs p h
       simp [h1,h,h2]
     . rw [yf (by omega)];simp
   . by_cases h:i<ops.size
     . rw [if_pos h,(nK ((hmem i).2 h)).2];rfl
     . rw [if_neg h,yf (by omega)];rfl
   . rcases ya p ops.size with h|h
     . obtain⟨i,h1,h2⟩:=hs p h
       simp only [h1,yl,h2,if_true]
       exact hts p i h1
     . rw [yf (by omega)]
       simp only [Option.getD_none]
       rw [if_neg (by omega)]
   . have ho':(fh ops.toList ord ord)[p]? =some o:=by simpa using ho
     rw [hget]at ho'
     obtain⟨i,h1,h2⟩:=Option.bind_eq_some_iff.1 ho'
     obtain⟨oM,h3,rfl⟩:=Option.map_eq_some_iff.1 h2
     have h3':ops[i]? =some oM:=by simpa using h3
     refine⟨oM,by simp only [h1,yl];exact h3',rfl,rfl,?_,?_,?_⟩
     . have hg:=List.all_eq_true.1 hgu oM (yo h3)
       unfold mY at hg
       cases hgm:oM.guard with
       |none=>left;simp [reix,hgm]
       | some q=>
         obtain⟨j,w⟩:=q
         rw [hgm]at hg
         have hj:j<ops.size:=by rw [<-hn];simpa [Nat.blt_eq]using hg
         right
         refine⟨fj j ord,w,by simp [reix,hgm],?_⟩
         rw [(nK ((hmem j).2 hj)).2];rfl
     . intro e he
       simp only [reix,Array.toList_map,List.mem_map]at he
       obtain⟨eM,k1,rfl⟩:=he
       refine⟨eM,k1,rfl,fun h=>?_,fun h=>?_⟩
       . rw [hsize]at h;simp [h]
       . rw [hsize]at h
         show _<=fj eM.on ord
         rw [oP (fun hm=>by have:=(hmem _).1 hm;omega),hlen,hsize];exact xY _
     . intro eM k1
       refine⟨{eM with on:=fj eM.on ord},by simp only [reix,Array.toList_map,List.mem_map];exact⟨eM,k1,rfl⟩,rfl,fun h=>?_,fun h=>?_⟩
       . rw [hsize]at h;simp [h]
       . rw [hsize]at h
         show _<=fj eM.on ord
         rw [oP (fun hm=>by have:=(hmem _).1 hm;omega),hlen,hsize];exact xY _
end Go.Ab

namespace Go.Ab

def ib(S:Nat->Bool):Nat->Nat
 |0=>0
 |n+1=>ib S n+(if S n=true then 0 else 1)
theorem nI{S:Nat->Bool}: ∀{n:Nat},ib S n=0-> ∀i,i<n->S i=true
 |0,_,i,hi=>by omega
 | n +1,h,i,hi=>by
   simp only [ib]at h
   by_cases hs:S n=true
   . rw [if_pos hs]at h
     by_cases e:i=n
     . subst e;exact hs
     . exact nI (n:=n) (by omega) i (by omega)
   . rw [if_neg hs]at h;omega
theorem sk{S:Nat->Bool}: ∀{n:Nat},ib S n≠0-> ∃i,i<n/\S i=false/\ ∀j,j<i->S j=true
 |0,h=>absurd rfl h
 | n +1,h=>by
   by_cases hn:ib S n=0
   . have hall:=nI hn
     simp only [ib,hn]at h
     by_cases hs:S n=true
     . rw [if_pos hs]at h;omega
     . exact⟨n,by omega,by simpa using hs,hall⟩
   . obtain⟨i,h1,h2,h3⟩:=sk hn
     exact⟨i,by omega,h2,h3⟩
theorem ux{S:Nat->Bool}{p:Nat}: ∀{n:Nat},n<=p->ib (j8 S p) n=ib S n
 |0,_=>rfl
 | n+1,h=>by
   simp only [ib]
   rw [ux (by omega),bG S (by omega)]
theorem tw{S:Nat->Bool}{p:Nat}(hp:S p=false): ∀{n:Nat},p<n->ib (j8 S p) n+1=ib S n
 |0,h=>by omega
 | n +1,h=>by
   simp only [ib]
   by_cases e:p=n
   . subst e
     rw [ux (xY _),fk,hp];simp
   . have:=tw hp (n:=n) (by omega)
     rw [bG S (by omega)];omega
theorem rL: ∀(n:Nat),ib (fun _=>false) n=n
 |0=>rfl
 |n+1=>by simp [ib,rL n]

def cM(listed:Array Bool):Nat->Bool:=fun i=>listed.getD i false
theorem wL{listed:Array Bool}{p:Nat}(hp:p<listed.size):cM (listed.setIfInBounds p true)=j8 (cM listed) p:=by
 funext i
 simp only [cM,j8,xZ,yp]
 by_cases e:p=i
 . subst e;simp [hp]
 . rw [if_neg e,if_neg (Ne.symm e)]

theorem pk(l:Loc)(d:Option Tmp)(v:Value):(l.put d v).dfs=l.dfs/\(l.put d v).rc=l.rc:=by cases d<;>exact⟨rfl,rfl⟩

section
variable{E:Env}{P:Program}(ok:EOk E P){R:Rec}(hc:fG E P R.call)(hcode:ip P R.code)
variable{ops:Array Oper}{q:Nat}{ps:List (Nat×Nat)}{M:List Nat}{L:Nat->Loc}{H:Nat->Hp}{T:Nat->Option Nat}{X:Nat->Bool}(D:DT E R ops q ps M L H T X)
variable{nr:Nat}{mu0:Mu}{w0:World}

include D in
theorem down_add{S:Nat->Bool}(hd:Down ops S){p:Nat}{o:Oper}(ho:ops[p]? =some o)(hr:Ready o S):Down ops (j8 S p):=by
 intro i oi hoi hs e he hb
 by_cases hip:i=p
 . subst hip
   rw [ho]at hoi;cases hoi
   obtain⟨m,_,h2,_⟩:=D.bef i o (by rw [xX];exact ho)
   have:=h2 e he hb
   rw [bG S (by omega)]
   exact hr e he hb
 . rw [bG S hip]at hs
   have:=hd i oi hoi hs e he hb
   by_cases hep:e.on=p
   . rw [hep];exact fk S p
   . rw [bG S hep];exact this

include ok hc hcode D in
theorem go_sim(cP: ∀j o,j<ops.size->ops[j]? =some o->Turn ops E X q H T j o)(shd: ∀i,i<=ops.size->l7 nr mu0 w0 L H i)(lt0: ∀b,mu0 b≠ .none->b<(H 0).n)(clt0: ∀b c base top,mu0 b=.blk c base top->c<w0.heap.size)
 {opsM:Array Oper} {σ τ:Nat->Nat} (od:Ord ops opsM σ τ)
 {F :FC} {dfs:List Deferred} {k:List Item} {cs:List Frame}: ∀(fuel t:Nat) (listed:Array Bool) (mu:Mu) (w:World) (tmps:Array Value),listed.size=ops.size->Down ops (fun p=>cM listed (σ p))->ib (fun p=>cM listed (σ p)) ops.size=fuel->
  Inv E ops q L H X nr mu0 w0 (fun p=>cM listed (σ p)) mu w tmps->
  ∃ S' mu' w' tmps',Inv E ops q L H X nr mu0 w0 S' mu' w' tmps'/\(∀i,i<ops.size->S' i=true)/\
    Steps P (lone (F.mk' tmps dfs (.inRegion opsM (Region.linearise.go .any opsM fuel t listed [])::k)) cs w) (lone (F.mk' tmps' dfs (.inRegion opsM []::k)) cs w')
 |0,t,listed,mu,w,tmps,hsz,hd,hl,inv=>⟨fun p=>cM listed (σ p),mu,w,tmps,inv,nI hl,Steps.refl _ _⟩
 | fuel + 1,t,listed,mu,w,tmps,hsz,hd,hl,inv=>by
   have hτ: ∀i,i<ops.size->τ i<ops.size:=fun i hi=>(od.lt (τ i)).2 (by rw [od.st];exact hi)
   have hmem: ∀i,i∈Region.ready .any opsM listed->i<ops.size/\cM listed i=false/\ ∀o,ops[τ i]? =some o->Ready o (fun p=>cM listed (σ p)):=by
    intro i hi
    unfold Region.ready at hi
    simp only [yw,yB,ye,yg]at hi
    obtain⟨h1,h2,h3⟩:=hi
    rw [<-od.size]at h1
    refine⟨h1,?_,fun o ho e he hb=>?_⟩
    . simp only [cM]
      rw [xZ,xW (by omega)]at h2⊢
      simpa using h2
    . obtain⟨oM,k1,_,_,_,k5,_⟩:=od.op (τ i) o ho
      rw [od.st]at k1
      rw [k1]at h3
      simp only [Option.map_some,yl]at h3
      obtain⟨eM,j1,j2,j3,j4⟩:=k5 e he
      have:=(Array.all_eq_true'.1 h3) eM (by simpa using j1)
      rw [lV j2]at hb
      unfold binds at hb
      rw [hb]at this
      obtain⟨m,_,hbef,_⟩:=D.bef (τ i) o (by rw [xX];exact ho)
      have hon:=hbef e he (by rw [lV j2];unfold binds;exact hb)
      have:=hτ i h1
      have hlt:eM.on<ops.size:=by
       rcases ya eM.on ops.size with x|x
       . exact x
       . have:=j4 x;omega
      show cM listed (σ e.on)=true
      rw [j3 hlt,od.st]
      simp only [cM]
      simpa using(Array.all_eq_true'.1 h3) eM (by simpa using j1)|>fun h=>by rw [hb]at h;simpa using h
   have hne:Region.ready .any opsM listed≠ []:=by
    obtain⟨p,h1,h2,h3⟩:=sk (S:=fun p=>cM listed (σ p)) (n:=ops.size) (by omega)
    intro e
    have ho:ops[p]? =some ops[p]:=xW h1
    obtain⟨m,_,hb,_⟩:=D.bef p ops[p] (by rw [xX];exact ho)
    obtain⟨oM,k1,_,_,_,_,k6⟩:=od.op p _ ho
    have hσp:=(od.lt p).1 h1
    have :σ p∈Region.ready .any opsM listed:=by
     unfold Region.ready
     simp only [yw,yB,ye,yg]
     refine⟨by rw [<-od.size];exact hσp,?_,?_⟩
     . simp only [cM]at h2
       rw [xZ,xW (by omega)]at h2⊢
       simpa using h2
     . rw [k1]
       simp only [Option.map_some,yl]
       refine Array.all_eq_true'.2 fun eM he=>?_
       cases hbe:Region.binds .any eM with
       |false=>rfl
       | true=>
         obtain⟨e',j1,j2,j3,j4⟩:=k6 eM (by simpa using he)
         have hon:=hb e' j1 (by rw [lV j2];unfold binds;exact hbe)
         have hlt:eM.on<ops.size:=by
          rcases ya eM.on ops.size with x|x
          . exact x
          . have:=j4 x;omega
         have:=h3 e'.on hon
         rw [j3 hlt,od.st]at this
         simpa [cM]using this
    rw [e]at this;cases this
   simp only [Region.linearise.go]
   change∃S' mu' w' tmps',Inv E ops q L H X nr mu0 w0 S' mu' w' tmps'/\(∀i,i<ops.size->S' i=true)/\
    Steps P (lone (F.mk' tmps dfs (.inRegion opsM (match(Region.ready .any opsM listed)[t%(Region.ready .any opsM listed).length]? with
    |some i=>Region.linearise.go .any opsM fuel (t/(Region.ready .any opsM listed).length) (listed.setIfInBounds i true) [i]
    |none=>[].reverse)::k)) cs w) (lone (F.mk' tmps' dfs (.inRegion opsM []::k)) cs w')
   have hlen:0<(Region.ready .any opsM listed).length:=List.length_pos_iff.2 hne
   have hlt:=Nat.mod_lt t hlen
   rw [yh hlt]
   simp only []
   generalize hi:(Region.ready .any opsM listed)[t%(Region.ready .any opsM listed).length]=i
   have him:i∈Region.ready .any opsM listed:=by rw [<-hi];exact yu hlt
   obtain⟨h1,h2,h3⟩:=hmem i him
   have h1':=hτ i h1
   have ho:ops[τ i]? =some ops[τ i]:=xW h1'
   have hr:=h3 _ ho
   rw [linearise_go_acc,List.reverse_singleton,List.singleton_append]
   obtain⟨mu1,w1,tmps1,inv1,st1⟩:=inv_step ok hc hcode D cP shd lt0 clt0 od.same inv hd ho hr (by show cM listed (σ (τ i))=false;rw [od.st];exact h2) (F:=F) (dfs:=dfs) (k:=k) (cs:=cs)
    (rest:=Region.linearise.go .any opsM fuel (t/(Region.ready .any opsM listed).length) (listed.setIfInBounds i true) [])
   rw [od.st]at st1
   have hS:(fun p=>cM (listed.setIfInBounds i true) (σ p))=j8 (fun p=>cM listed (σ p)) (τ i):=by
    funext p
    rw [wL (listed:=listed) (p:=i) (by omega)]
    by_cases e:p=τ i
    . subst e
      rw [od.st,fk,fk]
    . rw [bG _ e,bG _ (by intro e2;exact e (by rw [<-e2,od.ts]))]
   obtain⟨S',mu',w',tmps',g1,g2,g3⟩:=go_sim cP shd lt0 clt0 od fuel (t/(Region.ready .any opsM listed).length) (listed.setIfInBounds i true) mu1 w1 tmps1 (by simpa using hsz)
    (by rw [hS];exact down_add D hd ho hr) (by rw [hS];have:=tw (S:=fun p=>cM listed (σ p)) (p:=τ i) (by show cM listed (σ (τ i))=false;rw [od.st];exact h2) h1';omega) (by rw [hS];exact inv1)
   exact⟨S',mu',w',tmps',g1,g2,Steps.trans st1 g3⟩

include ok hc hcode in
theorem draw_ok:DrawOk E P R:=by
 intro cx id opsM l h l' h' q ps tr hp he hpo mu w F cs0 tmps dfs rcC k s
 obtain⟨ops,σ,τ,hC,od⟩:=hoist_ord opsM
 rw [<-hC]at hp he
 obtain⟨M,hM1,hM2⟩:=plan_ok hp
 obtain⟨_,L,H,T,X,hL0,hH0,hLn,hHn,hstep,htr,hrun⟩:=uq _ _ _ _ _ _ _ _ he
 rw [yc,Array.length_toList]at hLn hHn
 have D:DT E R ops q ps M L H T X:=by
  refine⟨hM1,fun n o ho h4=>?_,fun n o m i p ho hm hi hp' hb=>?_,fun i o ho=>?_,fun {i j a b o p} hij ho hp ro rp ha hb=>?_,fun {i j a o p} hij ho hp ro rp hx hh ha=>?_⟩
  . exact(hM2 n o (by rw [xX];exact ho)).1 h4
  . exact(hM2 n o (by rw [xX];exact ho)).2 m hm i p hi (by rw [xX];exact hp') hb
  . have:=hstep i o (by rw [xX];exact ho)
    rwa [yc]at this
  . have e1:=htr i o a (by rw [xX];exact ho) ro (by rw [yc];exact ha)
    have e2:=htr j p b (by rw [xX];exact hp) rp (by rw [yc];exact hb)
    rw [yc]at e1 e2
    have:=oe hpo hij
    rw [e1,e2]at this
    intro e
    subst e
    simp [iP,yn]at this
  . have e1:=htr i o a (by rw [xX];exact ho) ro (by rw [yc];exact ha)
    have e2:=hrun j p (by rw [xX];exact hp) rp (by rw [yc];exact hx) (by rw [yc];exact hh)
    rw [yc]at e1 e2
    rcases hij with hij|hij
    . have:=oe hpo hij
      rw [e1,e2]at this
      exact tu this
    . have:=oe hpo hij
      rw [e1,e2]at this
      exact tu this
 let w0:World:={w with drawn:=w.drawn+1}
 have hr0:aF mu h w0:=oX s.hr rfl
 have e0:Ext mu h w mu h w0:=pW s.hr rfl rfl rfl rfl
 have sh0:l7 cx.nr mu w0 L H 0:=⟨mu,w0,tmps,by rw [hH0];exact hr0,s.glob,by rw [hL0];exact s.regs,by rw [hH0];exact Ext.refl mu h w0 hr0⟩
 have shd: ∀i,i<=ops.size->l7 cx.nr mu w0 L H i:=fun i hi=>(shadow ok hc hcode D i hi sh0).1
 have cP: ∀j o,j<ops.size->ops[j]? =some o->Turn ops E X q H T j o:=fun j o hj ho=>(shadow ok hc hcode D ops.size (xY _) sh0).2 j o hj ho
 have lt0: ∀b,mu b≠ .none->b<(H 0).n:=by rw [hH0];exact s.hr.lt
 have clt0: ∀b c base top,mu b=.blk c base top->c<w0.heap.size:=fun b c base top hm=>hr0.clt hm
 have sized: ∀j,j<=ops.size->(H j).t.Sized (H j).n:=fun j hj=>by obtain⟨_,_,_,g,_⟩:=shd j hj;exact g.sized
 have hlS:(fun p=>cM (yx opsM.size false) (σ p))=fun _=>false:=by
  funext i
  simp only [cM,xZ,Array.getElem?_replicate]
  split<;>rfl
 have inv0:Inv E ops q L H X cx.nr mu w0 (fun _=>false) mu w0 tmps:=by
  obtain⟨c',d1,d2,d3,d4⟩:=next_W (E:=E) (ops:=ops) (q:=q) (X:=X) ops.size 0 (by omega)
  refine⟨⟨c',⟨d2,?_,fun i o hi ho hw=>absurd hw (d4 i o (yj _) hi ho)⟩,?_⟩,s.glob,fun p hpp _ b h1 h2=>?_,s.regs.size,fun i hi t v hcond hv=>?_,by rw [hH0];exact WExt.refl hr0,fun p _ hs=>by cases hs⟩
  . rcases d3 with e|⟨o',ho',hw'⟩
    . exact .inl e
    . exact .inr ⟨o',ho',hw',rfl⟩
  . refine qV (h:=H 0) (by rw [hH0];exact hr0) (sized c' d2) (dM cP d1 d2) (fun b hb=>stand cP d1 d2 (fun j oj h1 h2 hoj=>?_) hb)
    rcases kinds D hoj with x|x|x
    . exact .inl x
    . exact .inr x
    . exact absurd x (d4 j oj h1 h2 hoj)
  . exact hr0.none_ge (by
     have:=dM cP (yj p) (by omega)
     rw [hH0]at this;omega)
  . have hwalk:(L (0+i)).regs.get t=(L 0).regs.get t:=by
     refine walk_eq (fun j=>(L j).regs.get t) (a:=0) i (fun j h1 h2=>?_)
     have hoj:ops[j]? =some ops[j]:=xW (by omega)
     refine rz D hoj fun hdj=>?_
     have:=(hcond j _ hoj hdj).1 (by omega)
     cases this
    rw [yc]at hwalk
    rw [hwalk,hL0]at hv
    exact s.regs.get t v hv
 have hsched:Region.schedule (P.follows .mixedOrders) opsM (w.tape w.drawn (.order F.fn id))=Region.linearise.go .any opsM opsM.size (w.tape w.drawn (.order F.fn id)) (yx opsM.size false) []:=by
  rw [ok.mixed];rfl
 obtain⟨S',mu',w',tmps',g1,g2,g3⟩:=go_sim ok hc hcode D cP shd lt0 clt0 od (F:=F) (dfs:=dfs) (k:=k) (cs:=aJ rcC cs0) opsM.size (w.tape w.drawn (.order F.fn id)) (yx opsM.size false) mu w0 tmps (by simp [od.size])
  (by rw [hlS];intro i o _ hs;cases hs) (by rw [hlS,<-od.size];exact rL _) (by rw [hlS];exact inv0)
 obtain⟨c,hC,hh⟩:=g1.c
 have hcn:c=ops.size:=by
  rcases hC.2.1 with e|⟨o,ho,_,hs⟩
  . exact e
  . rw [g2 c (Array.getElem?_eq_some_iff.1 ho).1]at hs;cases hs
 subst hcn
 rw [hHn]at hh
 obtain⟨muT,wT,tmpsT,t1,t2,t3,t4⟩:=shd ops.size (xY _)
 rw [hLn]at t3
 rw [hHn]at t1 t4
 have le:Le mu mu':=by
  intro b hb
  rcases g1.ext.old b (lt0 b hb)with x|⟨_,x⟩
  . exact .inl x
  . exact .inr x
 have hkeep: ∀i,i<=ops.size->(L i).dfs=l.dfs/\(L i).rc=l.rc:=by
  intro i
  induction i with
  |zero=>intro _;rw [hL0];exact⟨rfl,rfl⟩
  | succ i ih=>
    intro hi
    have:=ih (by omega)
    have hs:=D.step i ops[i] (xW (by omega))
    generalize L (i+1)=L1 at hs⊢
    generalize H (i+1)=H1 at hs
    generalize T i=T1 at hs
    generalize X i=X1 at hs
    cases hs with
    |skip hg=>exact⟨(pk _ _ _).1.trans this.1,(pk _ _ _).2.trans this.2⟩
    |exec hg hst=>exact⟨(pk _ _ _).1.trans this.1,(pk _ _ _).2.trans this.2⟩
 have hk:=hkeep ops.size (xY _)
 rw [hLn]at hk
 have ext:Ext mu h w0 mu' h' w':=by
  have W:=g1.ext
  rw [hH0]at W t4
  refine⟨t4.n,W.old,W.fresh,t4.lo,t4.same,W.frame,fun b c base top t sz el hm hg=>?_,W.wsize,W.os,W.tape,W.output,fun b h1 h2=>?_⟩
  . obtain⟨x,y⟩:=W.ro b c base top t sz el hm hg
    exact⟨x,(t4.ro b c base top t sz el hm hg).2.1,y⟩
  . have key: ∀i,i<=ops.size->b<(H i).n->mu' b≠ .none:=by
     intro i
     induction i with
     |zero=>intro _ hb;rw [hH0]at hb;omega
     | succ i ih=>
       intro hi hb
       by_cases hbi:b<(H i).n
       . exact ih (by omega) hbi
       . exact g1.cov i (by omega) (g2 i (by omega)) b (by omega) hb
    exact key ops.size (xY _) (by rw [hHn];exact h2)
 refine⟨mu',w',tmps',dfs,rcC,⟨hh,g1.glob,⟨g1.size,t3.sized,fun i v hv=>?_⟩,?_,?_,s.ko,s.fn,s.rd.mono le,s.rn,s.fs⟩,Ext.trans e0 ext,?_⟩
 . refine g1.regs ops.size (xY _) i v (fun p o ho _=>?_) (by rw [hLn];exact hv)
   have:=(Array.getElem?_eq_some_iff.1 ho).1
   exact⟨fun _=>g2 p this,fun _=>this⟩
 . rw [hk.1];exact LR.mono s.dfs fun _ _=>jR.mono le
 . rw [hk.2];exact s.rc.mono le
 . refine Steps.trans (.one ?_) (Steps.trans g3 (.one oz))
   rw [<-hsched]
   exact rZ
end

end Go.Ab

namespace Go.Ab

def RLe(R R':Rec):Prop:=(∀f a rc h o,R.call f a rc h=some o->R'.call f a rc h=some o)/\(∀cx c l h o,R.code cx c l h=some o->R'.code cx c l h=some o)
def lJ{α:Type}(F:Rec->Option α):Prop:= ∀R R',RLe R R'-> ∀o,F R=some o->F R'=some o
theorem lJ.const{α:Type}(x:Option α):lJ (fun _=>x):=fun _ _ _ _ h=>h
theorem lJ.bind{α β:Type}{F:Rec->Option α}{G:α->Rec->Option β}(hF:lJ F)(hG: ∀a,lJ (G a)):lJ (fun R=>(F R).bind fun a=>G a R):=by
 intro R R' le o h
 simp only []at h⊢
 cases hx:F R with
 |none=>rw [hx]at h;cases h
 | some a=>
   rw [hx]at h
   rw [hF R R' le a hx]
   exact hG a R R' le o h

theorem RLe.refl(R:Rec):RLe R R:=⟨fun _ _ _ _ _ h=>h,fun _ _ _ _ _ h=>h⟩
theorem RLe.trans{a b c:Rec}(h:RLe a b)(k:RLe b c):RLe a c:=⟨fun f x rc hh o e=>k.1 _ _ _ _ _ (h.1 _ _ _ _ _ e),fun cx x l hh o e=>k.2 _ _ _ _ _ (h.2 _ _ _ _ _ e)⟩

def MC(E:Env)(W:Rec){α:Type}(F:Rec->Option α):Prop:=lJ F/\ ∀o,F W=some o-> ∃n,F (run E n)=some o

section
variable{E:Env}{W:Rec}
theorem MC.const{α:Type}(x:Option α):MC E W (fun _=>x):=⟨.const x,fun _ h=>⟨0,h⟩⟩
theorem MC.bind(up: ∀n m,n<=m->RLe (run E n) (run E m)){α β:Type}{F:Rec->Option α}{G:α->Rec->Option β}(hF:MC E W F)(hG: ∀a,MC E W (G a)):MC E W (fun R=>(F R).bind fun a=>G a R):=by
 refine⟨hF.1.bind fun a=>(hG a).1,fun o h=>?_⟩
 simp only []at h
 cases hx:F W with
 |none=>rw [hx]at h;cases h
 | some a=>
   rw [hx]at h
   obtain⟨n,hn⟩:=hF.2 a hx
   obtain⟨m,hm⟩:=(hG a).2 o h
   refine⟨n+m,?_⟩
   simp only []
   rw [hF.1 _ _ (up n (n+m) (by omega)) a hn]
   exact(hG a).1 _ _ (up m (n+m) (by omega)) o hm
theorem MC.congr{α:Type}{F F':Rec->Option α}(e: ∀R,F' R=F R)(h:MC E W F):MC E W F':=by
 have:F'=F:=funext e
 rw [this];exact h
end

section
variable(E:Env)
structure Closed(E:Env)(K: ∀{α:Type},(Rec->Option α)->Prop):Prop where
 const: ∀{α:Type} (x:Option α),K (fun _=>x)
 bind: ∀{α β:Type} {F:Rec->Option α} {G:α->Rec->Option β},K F->(∀a,K (G a))->K (fun R=>(F R).bind fun a=>G a R)
 congr: ∀{α:Type} {F F':Rec->Option α},(∀R,F' R=F R)->K F->K F'
 call: ∀f a rc h,K (fun R=>R.call f a rc h)
 code: ∀cx c l h,K (fun R=>R.code cx c l h)
end

section
variable{E:Env}{K: ∀{α:Type},(Rec->Option α)->Prop}(C:Closed E K)
include C

theorem k_round (b:Nat) (args:List Value) (h:Hp):K (fun R=>g9 E R b args h):=by
 unfold g9
 cases hg:h.get b with
 |none=>exact C.const _
 | some x =>
   cases x<;>(try exact C.const _)
   rename_i r
   simp only []
   cases(E.fn r.fn).isSome with
   |false=>exact C.const _
   | true =>
     simp only [cond_true]
     split
     next hst =>
      split
      next=>exact C.const _
      next regs hregs=>
       refine C.congr (F:=fun R=>(R.code ⟨r.fn,r.nr,some b⟩ r.assign ⟨regs,[],none⟩ h).bind fun q=>match q with
        | (.normal,l1,h1)=>match h1.get b with
          | some (.loop r1)=>match r1.st with
            | 0 =>(R.code ⟨r.fn,r.nr,some b⟩ r.body l1 (h1.put b (.loop {r1 with st:=1}))).bind fun q=>match q with
              | (.normal,_,h2)=>match h2.get b with
                |some (.loop r2)=>some (.ret (.bool true),h2.put b (.loop {r2 with st:=0,pending:=none}))
                |_=>none
              | (.exit id,_,h2)=>match h2.get b with
                |some (.loop r2)=>some (.ret (.bool false),h2.put b (.loop {r2 with st:=2,pending:=some (.exit id)}))
                |_=>none
              | (.ret,_,h2)=>match h2.get b with
                |some (.loop r2)=>some (.ret (.bool false),h2.put b (.loop {r2 with st:=2,pending:=some .ret}))
                |_=>none
              | (.pan v,l2,h2)=>match l2.dfs with
                | []=>some (.pan v,h2)
                |_=>none
            |_=>none
          |_=>none
        |_=>none) ?_ ?_
       . intro R
         cases R.code ⟨r.fn,r.nr,some b⟩ r.assign ⟨regs,[],none⟩ h with
         |none=>rfl
         | some q=>
           obtain⟨x,l1,h1⟩:=q
           cases x<;>(try rfl)
           simp only [yt]
           cases h1.get b with
           |none=>rfl
           | some y=>
             cases y<;>(try rfl)
             rename_i r1
             simp only []
             cases hst1:r1.st with
             | zero=>
               simp only []
               cases R.code ⟨r.fn,r.nr,some b⟩ r.body l1 (h1.put b (.loop {r1 with st:=1}))with
               |none=>rfl
               |some q=>obtain⟨x,l2,h2⟩:=q;cases x<;>rfl
             |succ n=>rfl
       . refine C.bind (C.code _ _ _ _) fun q=>?_
         obtain⟨x,l1,h1⟩:=q
         cases x<;>(try exact C.const _)
         simp only []
         cases h1.get b with
         |none=>exact C.const _
         | some y=>
           cases y<;>(try exact C.const _)
           simp only []
           split
           . refine C.bind (C.code _ _ _ _) fun q=>?_
             exact C.const _
           . exact C.const _
     next=>exact C.const _

theorem sh(x:Option (cR×Hp)):K (fun R=>ct E R x):=by
 cases x with
 |none=>exact C.const _
 | some q=>
   obtain⟨nx,h⟩:=q
   cases nx<;>(try exact C.const _)
   . rename_i f args
     refine C.congr (F:=fun R=>(R.call f args none h).bind fun q=>some (q.1,q.2.2)) (fun R=>?_) (C.bind (C.call _ _ _ _) fun _=>C.const _)
     simp only [ct]
     cases R.call f args none h with
     |none=>rfl
     |some q=>obtain⟨a,b,c⟩:=q;rfl
   . exact k_round C _ _ _

theorem k_stepOp(cx:Cx)(o:Oper)(l:Loc)(h:Hp):K (fun R=>dk E R cx o l h):=by
 unfold dk
 have key:K (fun R=>kJ o l (ct E R (aop E l.ev h o.op))):=by
  refine C.congr (F:=fun R=>(ct E R (aop E l.ev h o.op)).bind fun q=>kJ o l (some q)) (fun R=>?_) (C.bind (sh C _) fun _=>C.const _)
  cases ct E R (aop E l.ev h o.op)<;>rfl
 cases hx:aop E l.ev h o.op with
 |none=>exact C.const _
 | some q=>
   rw [hx]at key
   obtain⟨nx,h1⟩:=q
   cases nx<;>(try exact key)
   . cases cx.round<;>exact C.const _
   . cases cx.round<;>exact C.const _

theorem rR (cx:Cx) (ops:List Oper): ∀(os:List Oper) (l:Loc) (h:Hp),K (fun R=>ig E R cx ops os l h)
 | [],l,h=>C.const _
 | o :: os,l,h=>by
   simp only [ig]
   cases bQ ops l.regs o with
   |none=>exact C.const _
   | some b=>
     cases b with
     |false=>exact rR cx ops os _ _
     | true=>
       refine C.congr (F:=fun R=>(dk E R cx o l h).bind fun q=>match q with
        |(.normal,l',h')=>ig E R cx ops os l' h'
        |q=>some q) (fun R=>?_) (C.bind (k_stepOp C _ _ _ _) fun q=>?_)
       . cases dk E R cx o l h with
         |none=>rfl
         |some q=>obtain⟨x,l',h'⟩:=q;cases x<;>rfl
       . obtain⟨x,l',h'⟩:=q
         cases x<;>first|exact rR cx ops os _ _|exact C.const _

theorem k_stepD(ρ:Operand->Value)(quiet:Bool)(o:Oper)(h:Hp):K (fun R=>cd E R ρ quiet o h):=by
 unfold cd
 cases quiet with
 | true=>
   refine C.congr (F:=fun R=>(ct E R (aop E ρ {h with lo:=h.n} o.op)).bind fun q=>match q with
    |(.ret v,h')=>bif yq h.n h'.lo then some (v,{h' with lo:=h.lo})else none
    |_=>none) (fun R=>?_) (C.bind (sh C _) fun _=>C.const _)
   simp only [cond_true]
   cases ct E R (aop E ρ {h with lo:=h.n} o.op)with
   |none=>rfl
   |some q=>obtain⟨x,h'⟩:=q;cases x<;>rfl
 | false=>
   refine C.congr (F:=fun R=>(ct E R (aop E ρ h o.op)).bind fun q=>match q with
    |(.ret v,h')=>some (v,h')
    |_=>none) (fun R=>?_) (C.bind (sh C _) fun _=>C.const _)
   simp only [cond_false]
   cases ct E R (aop E ρ h o.op)with
   |none=>rfl
   |some q=>obtain⟨x,h'⟩:=q;cases x<;>rfl

theorem qa (ops:List Oper) (q:Nat): ∀(os:List Oper) (i:Nat) (l:Loc) (h:Hp) (tr:List (Nat×Tch)),K (fun R=>dB E R ops q os i l h tr)
 | [],i,l,h,tr=>C.const _
 | o :: os,i,l,h,tr=>by
   simp only [dB]
   cases bQ ops l.regs o with
   |none=>exact C.const _
   | some b=>
     cases b with
     |false=>exact qa ops q os _ _ _ _
     | true=>
       refine C.congr (F:=fun R=>(cd E R (l.evD (tmpsOf o.op.operands.toList)) (dS E q i o.op) o h).bind fun p=>
        dB E R ops q os (i+1) (l.put o.dst p.1) p.2 (fQ i tr (cb (l.evD (tmpsOf o.op.operands.toList)) (dS E q i o.op) o.op h p.2))) (fun R=>?_) (C.bind (k_stepD C _ _ _ _) fun q=>qa ops _ os _ _ _ _)
       cases cd E R (l.evD (tmpsOf o.op.operands.toList)) (dS E q i o.op) o h with
       |none=>rfl
       |some p=>obtain⟨a,b⟩:=p;rfl

theorem k_range (cx:Cx) (f:Value) (params:Array Tmp) (assign body:Code) (l:Loc) (h:Hp):K (fun R=>gk R cx f params assign body l h):=by
 unfold gk
 cases f<;>(try exact C.const _)
 rename_i t a b
 cases t<;>(try exact C.const _)
 rename_i g
 simp only []
 split
 . exact C.const _
 . rename_i h1 d dfs _
   refine C.congr (F:=fun R=>(R.call g (a.toList++[.func (.yield h1.n) #[] #[]]++b.toList) none
    (h1.new (.loop {fn:=cx.fn,regs:=l.regs,nr:=cx.nr,params,assign,body,st:=0,pending:=none,defers:=d}))).bind fun q=>match q with
    |(.pan v,_,h2)=>some (.pan v,{l with dfs:=dfs},h2)
    | (.ret _,_,h2)=>match h2.get h1.n with
      | some (.loop x)=>match x.st with
        |1=>none
        | _=>match x.pending with
          |none=>some (.normal,{l with dfs:=dfs},h2.put h1.n .dead)
          |some (.exit id)=>some (.exit id,{l with dfs:=dfs},h2.put h1.n .dead)
          |some .ret=>some (.ret,{l with dfs:=dfs},h2.put h1.n .dead)
          |_=>none
      |_=>none) (fun R=>?_) (C.bind (C.call _ _ _ _) fun _=>C.const _)
   cases R.call g (a.toList++[.func (.yield h1.n) #[] #[]]++b.toList) none
         (h1.new (.loop {fn:=cx.fn,regs:=l.regs,nr:=cx.nr,params,assign,body,st:=0,pending:=none,defers:=d}))with
   |none=>rfl
   |some q=>obtain⟨x,y,z⟩:=q;cases x<;>rfl

theorem k_code(cx:Cx): ∀(c:Code) (l:Loc) (h:Hp),K (fun R=>aD E R cx c l h):=by
 intro c
 induction c with
 |skip=>intro l h;exact C.const _
 |label n=>intro l h;exact C.const _
 | region id ops draw=>
   intro l h
   simp only [aD]
   cases draw with
   |false=>exact rR C _ _ _ _ _
   | true=>
     simp only [cond_true]
     cases plan E (dQ ops.toList)with
     |none=>exact C.const _
     | some p=>
       obtain⟨q,ps⟩:=p
       simp only []
       refine C.congr (F:=fun R=>(dB E R (dQ ops.toList) q (dQ ops.toList) 0 l h []).bind fun x=>bif dK x.2.2 ps then some (.normal,x.1,x.2.1)else none) (fun R=>?_) (C.bind (qa C _ _ _ _ _ _ _) fun _=>C.const _)
       cases dB E R (dQ ops.toList) q (dQ ops.toList) 0 l h []with
       |none=>rfl
       |some x=>obtain⟨a,b,c⟩:=x;rfl
 | seq a b iha ihb=>
   intro l h
   simp only [aD]
   refine C.congr (F:=fun R=>(aD E R cx a l h).bind fun q=>match q with
    |(.normal,l',h')=>aD E R cx b l' h'
    |q=>some q) (fun R=>?_) (C.bind (iha _ _) fun q=>?_)
   . cases aD E R cx a l h with
     |none=>rfl
     |some q=>obtain⟨x,l',h'⟩:=q;cases x<;>rfl
   . obtain⟨x,l',h'⟩:=q
     cases x<;>first|exact ihb _ _|exact C.const _
 | cond c a b iha ihb=>
   intro l h
   simp only [aD]
   cases l.ev c<;>(try exact C.const _)
   rename_i t
   cases t
   . exact ihb _ _
   . exact iha _ _
 | block id b ih=>
   intro l h
   simp only [aD]
   refine C.congr (F:=fun R=>(aD E R cx b l h).bind fun q=>match q with
    |(.exit i,l',h')=>bif yr i id then some (.normal,l',h')else some (.exit i,l',h')
    |q=>some q) (fun R=>?_) (C.bind (ih _ _) fun _=>C.const _)
   cases aD E R cx b l h with
   |none=>rfl
   |some q=>obtain⟨x,l',h'⟩:=q;cases x<;>rfl
 | loop b ih=>
   intro l h
   simp only [aD]
   refine C.congr (F:=fun R=>(aD E R cx b l h).bind fun q=>match q with
    |(.normal,l',h')=>R.code cx (.loop b) l' h'
    |q=>some q) (fun R=>?_) (C.bind (ih _ _) fun q=>?_)
   . cases aD E R cx b l h with
     |none=>rfl
     |some q=>obtain⟨x,l',h'⟩:=q;cases x<;>rfl
   . obtain⟨x,l',h'⟩:=q
     cases x<;>first|exact C.code _ _ _ _|exact C.const _
 |rangeFunc f params assign body _ _=>intro l h;exact k_range C _ _ _ _ _ _ _
 |exit id=>intro l h;exact C.const _
 |scope b ih=>intro l h;exact ih _ _
 |goto n=>intro l h;exact C.const _
 |ret=>intro l h;exact C.const _
 |refuse m=>intro l h;exact C.const _

theorem mb : ∀(ds:List Deferred) (m:Option Value) (h:Hp),K (fun R=>bH R ds m h)
 | [],m,h=>C.const _
 | d :: ds,m,h=>by
   simp only [bH]
   cases d.target with
   |nil=>exact C.const _
   |builtin a b c d=>exact C.const _
   |coroexit=>exact C.const _
   | collected b=>
     simp only []
     cases h.get b with
     |none=>exact C.const _
     |some x=>cases x<;>first|exact mb ds _ _|exact C.const _
   | fn t cap=>
     cases t<;>(try exact C.const _)
     rename_i f
     simp only []
     refine C.congr (F:=fun R=>(R.call f (d.args.toList++cap.toList) (match m with|none=>none|some v=>some (v,false)) h).bind fun q=>match q with
      | (.ret _,rc,h')=>match m,rc with
        |none,none=>bH R ds none h'
        |some _,some (_,true)=>bH R ds none h'
        |some _,some (v,false)=>bH R ds (some v) h'
        |_,_=>none
      |_=>none) (fun R=>?_) (C.bind (C.call _ _ _ _) fun q=>?_)
     . cases R.call f (d.args.toList++cap.toList) (match m with|none=>none|some v=>some (v,false)) h with
       |none=>rfl
       |some q=>obtain⟨x,y,z⟩:=q;cases x<;>rfl
     . obtain⟨x,rc,h'⟩:=q
       cases x with
       |pan v=>exact C.const _
       | ret v=>
         simp only []
         cases m with
         |none=>cases rc<;>first|exact mb ds _ _|exact C.const _
         | some v0=>
           cases rc with
           |none=>exact C.const _
           |some y=>obtain⟨v1,b⟩:=y;cases b<;>exact mb ds _ _

theorem k_body (f:FuncId) (args:List Value) (rc:Option (Value×Bool)) (h:Hp):K (fun R=>iR E R f args rc h):=by
 unfold iR
 cases E.fn f with
 |none=>exact C.const _
 | some fn =>
   simp only []
   cases fn.body with
   |none=>exact C.const _
   | some body=>
     simp only []
     cases yq args.length fn.ntmps with
     |false=>exact C.const _
     | true =>
       simp only [cond_true]
       have tail: ∀(l:Loc) (h':Hp),K (fun R=>match bH R l.dfs none h' with
        | some (none,h'')=>match aR E l.regs h'' fn.results.toList with
          |none=>none
          |some vs=>some (Out.ret (ab vs),l.rc,h'')
        |_=>none):=by
        intro l h'
        refine C.congr (F:=fun R=>(bH R l.dfs none h').bind fun q=>match q with
         | (none,h'')=>match aR E l.regs h'' fn.results.toList with
           |none=>none
           |some vs=>some (Out.ret (ab vs),l.rc,h'')
         |_=>none) (fun R=>?_) (C.bind (mb C _ _ _) fun _=>C.const _)
        cases bH R l.dfs none h' with
        |none=>rfl
        |some q=>obtain⟨x,y⟩:=q;cases x<;>rfl
       refine C.congr (F:=fun R=>(R.code ⟨f,fn.ntmps,none⟩ body ⟨(Tr.blank (.tuple #[]) fn.ntmps fn.ntmps).setAll 0 args,[],rc⟩ h).bind fun q=>match q with
        |(.exit _,_,_)=>none
        | (.pan v,l,h')=>match bH R l.dfs (some v) h' with
          |none=>none
          |some (some v,h'')=>some (Out.pan v,l.rc,h'')
          | some (none,h'')=>match aR E l.regs h'' fn.results.toList with
            |none=>none
            |some vs=>some (Out.ret (ab vs),l.rc,h'')
        | (_,l,h')=>match bH R l.dfs none h' with
          | some (none,h'')=>match aR E l.regs h'' fn.results.toList with
            |none=>none
            |some vs=>some (Out.ret (ab vs),l.rc,h'')
          |_=>none) (fun R=>?_) (C.bind (C.code _ _ _ _) fun q=>?_)
       . cases R.code ⟨f,fn.ntmps,none⟩ body ⟨(Tr.blank (.tuple #[]) fn.ntmps fn.ntmps).setAll 0 args,[],rc⟩ h with
         |none=>rfl
         |some q=>obtain⟨x,y,z⟩:=q;cases x<;>rfl
       . obtain⟨x,l,h'⟩:=q
         cases x with
         |exit id=>exact C.const _
         |normal=>exact tail l h'
         |ret=>exact tail l h'
         | pan v=>
           simp only []
           refine C.congr (F:=fun R=>(bH R l.dfs (some v) h').bind fun q=>match q with
            |(some v,h'')=>some (Out.pan v,l.rc,h'')
            | (none,h'')=>match aR E l.regs h'' fn.results.toList with
              |none=>none
              |some vs=>some (Out.ret (ab vs),l.rc,h'')) (fun R=>?_) (C.bind (mb C _ _ _) fun _=>C.const _)
           cases bH R l.dfs (some v) h' with
           |none=>rfl
           |some q=>obtain⟨x,y⟩:=q;cases x<;>rfl
theorem k_call(f:FuncId)(args:List Value)(rc:Option (Value×Bool))(h:Hp):K (fun R=>gG E R f args rc h):=by
 unfold gG
 cases E.orc f args with
 |none=>exact k_body C f args rc h
 |some v=>cases rc<;>exact C.const _
end

theorem iB(E:Env):Closed E (fun F=>lJ F)where
 const:=lJ.const
 bind:=fun hF hG=>hF.bind hG
 congr:=fun e h=>by have:=funext e;rw [this];exact h
 call:=fun f a rc h R R' le o=>le.1 f a rc h o
 code:=fun cx c l h R R' le o=>le.2 cx c l h o

theorem next_mono{E:Env}{R R':Rec}(h:RLe R R'):RLe (next E R) (next E R'):=
 ⟨fun f a rc hh o e=>k_call (iB E) f a rc hh R R' h o e,fun cx c l hh o e=>k_code (iB E) cx c l hh R R' h o e⟩
theorem uL{E:Env}: ∀n,RLe (run E n) (run E (n+1))
 | 0=>by
   constructor
   . intro f a rc h o e;cases e
   . intro cx c l h o e;cases e
 |n+1=>next_mono (uL n)
theorem run_up{E:Env}(n m:Nat)(h:n<=m):RLe (run E n) (run E m):=by
 induction m with
 | zero => have:n=0:=by omega
           subst this;exact RLe.refl _
 | succ m ih=>
   by_cases e:n=m+1
   . subst e;exact RLe.refl _
   . exact(ih (by omega)).trans (uL m)

open Classical in
noncomputable def limOf{α:Type}(F:Nat->Option α):Option α:=if h: ∃n o,F n=some o then some (Classical.choose (Classical.choose_spec h))else none
theorem rq{α:Type}{F:Nat->Option α}(up: ∀n m,n<=m-> ∀o,F n=some o->F m=some o){o:α}:limOf F=some o↔ ∃n,F n=some o:=by
 constructor
 . intro h
   unfold limOf at h
   split at h
   . rename_i hx
     cases h
     exact⟨_,Classical.choose_spec (Classical.choose_spec hx)⟩
   . cases h
 . intro⟨n,h⟩
   unfold limOf
   have hx: ∃n o,F n=some o:=⟨n,o,h⟩
   rw [dif_pos hx]
   have h2:=Classical.choose_spec (Classical.choose_spec hx)
   have a:=up _ (n+Classical.choose hx) (by omega) _ h
   have b:=up _ (n+Classical.choose hx) (by omega) _ h2
   rw [a]at b;cases b;rfl

noncomputable def lim(E:Env):Rec where
 call:=fun f a rc h=>limOf fun n=>(run E n).call f a rc h
 code:=fun cx c l h=>limOf fun n=>(run E n).code cx c l h
theorem l9{E:Env}{f:FuncId}{a:List Value}{rc:Option (Value×Bool)}{h:Hp}{o:Out×Option (Value×Bool)×Hp}:(lim E).call f a rc h=some o↔ ∃n,(run E n).call f a rc h=some o:=
 rq fun n m hnm o e=>(run_up n m hnm).1 _ _ _ _ _ e
theorem nv{E:Env}{cx:Cx}{c:Code}{l:Loc}{h:Hp}{o:Ex×Loc×Hp}:(lim E).code cx c l h=some o↔ ∃n,(run E n).code cx c l h=some o:=
 rq fun n m hnm o e=>(run_up n m hnm).2 _ _ _ _ _ e
theorem run_lim{E:Env}(n:Nat):RLe (run E n) (lim E):=⟨fun _ _ _ _ _ h=>l9.2 ⟨n,h⟩,fun _ _ _ _ _ h=>nv.2 ⟨n,h⟩⟩

theorem qM(E:Env):Closed E (fun F=>MC E (lim E) F)where
 const:=MC.const
 bind:=fun hF hG=>MC.bind run_up hF hG
 congr:=fun e h=>MC.congr e h
 call:=fun f a rc h=>⟨(iB E).call f a rc h,fun _ e=>l9.1 e⟩
 code:=fun cx c l h=>⟨(iB E).code cx c l h,fun _ e=>nv.1 e⟩

theorem qQ{α:Type}{x y:Option α}(h: ∀o,x=some o↔y=some o):x=y:=by
 cases x with
 | none=>cases y with
   |none=>rfl
   |some b=>exact absurd ((h b).2 rfl) (by simp)
 |some a=>exact((h a).1 rfl).symm

theorem call_eq(E:Env)(f:FuncId)(a:List Value)(rc:Option (Value×Bool))(h:Hp):(lim E).call f a rc h=gG E (lim E) f a rc h:=by
 refine qQ fun o=>⟨fun e=>?_,fun e=>?_⟩
 . obtain⟨n,hn⟩:=l9.1 e
   cases n with
   |zero=>cases hn
   |succ n=>exact k_call (iB E) f a rc h _ _ (run_lim n) o hn
 . obtain⟨n,hn⟩:=(k_call (qM E) f a rc h).2 o e
   exact l9.2 ⟨n+1,hn⟩
theorem rS(E:Env)(cx:Cx)(c:Code)(l:Loc)(h:Hp):(lim E).code cx c l h=aD E (lim E) cx c l h:=by
 refine qQ fun o=>⟨fun e=>?_,fun e=>?_⟩
 . obtain⟨n,hn⟩:=nv.1 e
   cases n with
   |zero=>cases hn
   |succ n=>exact k_code (iB E) cx c l h _ _ (run_lim n) o hn
 . obtain⟨n,hn⟩:=(k_code (qM E) cx c l h).2 o e
   exact nv.2 ⟨n+1,hn⟩

theorem lim_ok{E:Env}{P:Program}(ok:EOk E P):fG E P (lim E).call:=by
 intro g args rc h o rc' h' hl
 obtain⟨n,hn⟩:=l9.1 hl
 exact(run_ok ok (fun _ h1 h2=>draw_ok ok h1 h2) n).1 _ _ _ _ _ _ _ hn
end Go.Ab
namespace Go.Ab
theorem vG{E:Env}{P:Program}{R:Rec}(hR:fG E P R.call){f:FuncId}{args:List Value}{v:Value}{h':Hp}(ha:args.all bZ=true)(hv:bZ v=true)
 (hr:R.call f args none hp0=some (.ret v,none,h')):(∃fn,E.fn f=some fn/\fn.body.isSome=true)/\OrcAt P f args v:=by
 obtain⟨h0,h1⟩:=hR _ _ _ _ _ _ _ hr
 refine⟨h0,ha,hv,fun w cs0 kind hk=>?_⟩
 obtain⟨mu',w',rcC',fr,k1,k2,k3,k4,k5,k6,k7⟩:=h1 mu0 w ⟨args⟩ none cs0 kind (hrel0 w) glob0 (LR.refl fun a ha'=>ao.const mu0 (by simp only [List.all_eq_true]at ha;exact ha a ha')) trivial hk
 cases rcC' with
 |some x=>exact k3.elim
 | none=>
   obtain⟨v',l1,l2⟩:=k6
   rw [ao.const_eq hv l2]at l1
   exact⟨w',fr,⟨fun c hc=>k2.frame c hc (by intro b base top h;unfold mu0 at h;split at h<;>cases h),k2.wsize,k2.os,k2.tape,k2.output⟩,k5,l1,k7⟩
theorem xH{E:Env}{P:Program}(ok:EOk E P){n:Nat}{f:FuncId}{args:List Value}{v:Value}{h':Hp}(ha:args.all bZ=true)(hv:bZ v=true)
 (hr:(run E n).call f args none hp0=some (.ret v,none,h')):(∃fn,E.fn f=some fn/\fn.body.isSome=true)/\OrcAt P f args v:=
 vG (R:=run E n) (run_ok ok (fun _ h1 h2=>draw_ok ok h1 h2) n).1 ha hv hr
end Go.Ab

namespace Go.Ab

def tabF:Nat->Nat->(Nat->Value)->Tr Value
 |0,_,_=>.nil
 | f+1,n,ρ=>match n with
   |0=>.nil
   |k+1=>.node (ρ 0) (tabF f ((k+1)/2) fun i=>ρ (2*i+1)) (tabF f (k/2) fun i=>ρ (2*i+2))
def tab(n:Nat)(ρ:Nat->Value):Tr Value:=tabF n n ρ
theorem get_tabF(f n:Nat)(ρ:Nat->Value)(h:n<=f)(j:Nat):(tabF f n ρ).get j=if j<n then some (ρ j)else none:=by
 induction f generalizing n j ρ with
 | zero => have:n=0:=by omega
           subst this;simp [tabF,Tr.get_nil]
 | succ f ih=>
   cases n with
   |zero=>simp [tabF,Tr.get_nil]
   | succ k=>
     simp only [tabF]
     rw [Tr.get_node]
     cases j with
     |zero=>simp
     | succ m=>
       simp only []
       by_cases hm:m%2=0
       . simp only [hm,if_true];rw [ih _ _ (by omega) (m/2)]
         have:m/2<(k+1)/2↔m+1<k+1:=by omega
         simp only [this,show 2*(m/2)+1=m+1 by omega]
       . simp only [hm,if_false];rw [ih _ _ (by omega) (m/2)]
         have:m/2<k/2↔m+1<k+1:=by omega
         simp only [this,show 2*(m/2)+2=m+1 by omega]
theorem jL(n:Nat)(ρ:Nat->Value)(j:Nat):(tab n ρ).get j=if j<n then some (ρ j)else none:=get_tabF n n ρ (xY _) j
theorem Tr.ext{α:Type}{t t':Tr α}(h: ∀i,t.get i=t'.get i):t=t':=by
 induction t generalizing t' with
 | nil=>
   cases t' with
   |nil=>rfl
   |node y l r=>have:=h 0;simp [Tr.get_nil,Tr.get_node]at this
 | node x l r ihl ihr=>
   cases t' with
   |nil=>have:=h 0;simp [Tr.get_nil,Tr.get_node]at this
   | node y l' r'=>
     have h0:=h 0
     simp [Tr.get_node]at h0
     subst h0
     rw [ihl (t':=l') (fun i=>by have:=h (2*i+1);simp only [Tr.get_node]at this;rw [if_pos (by omega),if_pos (by omega),show 2*i/2=i by omega]at this;exact this),
      ihr (t':=r') (fun i=>by have:=h (2*i+2);simp only [Tr.get_node]at this;rw [if_neg (by omega),if_neg (by omega),show(2*i+1)/2=i by omega]at this;exact this)]

def aa(ρ:Nat->Value)(t:Nat)(v:Value):Nat->Value:=fun i=>if i=t then v else ρ i
theorem aK(ρ:Nat->Value)(t:Nat)(v:Value)(i:Nat):aa ρ t v i=if i=t then v else ρ i:=rfl
theorem tab_set(n:Nat)(ρ:Nat->Value)(t:Nat)(v:Value):(tab n ρ).set t v=tab n (aa ρ t v):=by
 apply Tr.ext
 intro i
 rw [Tr.get_set,jL,jL]
 by_cases hi:i<n
 . by_cases e:t=i
   . subst e;simp [hi,aa]
   . simp [hi,e,aa,Ne.symm e]
 . simp [hi]
def ce:List Value->Nat->Value
 | [],_=>.tuple #[]
 | v::l,i=>match i with
   |0=>v
   |i+1=>ce l i
theorem argR_eq(l:List Value)(i:Nat):ce l i=(l[i]?).getD (.tuple #[]):=by
 induction l generalizing i with
 |nil=>rfl
 | cons v l ih=>cases i with
   |zero=>rfl
   |succ i=>simp [ce,ih]
theorem args_tab{n:Nat}{args:List Value}(h:args.length<=n):(Tr.blank (.tuple #[]) n n:Tr Value).setAll 0 args=tab n (ce args):=by
 apply Tr.ext
 intro i
 rw [Tr.get_setAll _ 0 args n (Tr.sized_blank _ _ _ (xY _)) (by omega),jL,Tr.get_blank _ _ _ (xY _),argR_eq]
 by_cases hi:i<args.length
 . rw [if_pos ⟨yj _,by omega⟩,if_pos (by omega)];simp [hi]
 . rw [if_neg (by omega)]
   by_cases hn:i<n
   . simp [hn];rw [yf (by omega)];rfl
   . simp [hn]

def LL(n:Nat)(ρ:Nat->Value)(d:List Deferred)(rc:Option (Value×Bool)):Loc:=⟨tab n ρ,d,rc⟩
theorem cD(n:Nat)(ρ:Nat->Value)(d:List Deferred)(rc:Option (Value×Bool))(t:Nat)(v:Value):(LL n ρ d rc).put (some t) v=LL n (aa ρ t v) d rc:=by
 simp only [LL,Loc.put,tab_set]
theorem ll_put0(l:Loc)(v:Value):l.put none v=l:=rfl
theorem bK(n:Nat)(ρ:Nat->Value)(d:List Deferred)(rc:Option (Value×Bool))(t:Nat)(h:t<n):(LL n ρ d rc).ev (.tmp t)=ρ t:=by
 simp only [LL,Loc.ev,jL,if_pos h]
theorem ll_func(l:Loc)(f:Nat):l.ev (.func f)=.func (.func f) #[] #[]:=rfl
theorem ll_regs(n:Nat)(ρ:Nat->Value)(d:List Deferred)(rc:Option (Value×Bool)):(LL n ρ d rc).regs=tab n ρ:=rfl
def Then(x:Option (Ex×Loc×Hp))(K:Ex->Loc->Hp->Prop):Prop:= ∃e l h,x=some (e,l,h)/\K e l h
theorem fm{e:Ex}{l:Loc}{h:Hp}{K:Ex->Loc->Hp->Prop}:Then (some (e,l,h)) K↔K e l h:=by
 constructor
 . intro⟨_,_,_,h1,h2⟩;cases h1;exact h2
 . intro h2;exact⟨_,_,_,rfl,h2⟩

abbrev dW:=Ex->Loc->Hp->Prop
inductive Fr where
 |code (c:Code)
 |blk (id:Nat)
 |ops (all os:List Oper)
 |opsD (all:List Oper) (q:Nat) (ps:List (Nat×Nat)) (os:List Oper) (i:Nat) (tr:List (Nat×Tch))
section
variable(E:Env)(R:Rec)(cx:Cx)(Q:dW)
def Run:List Fr->Ex->Loc->Hp->Prop
 | [],e,l,h=>Q e l h
 | .code c::k,.normal,l,h=> ∃e' l' h',aD E R cx c l h=some (e',l',h')/\Run k e' l' h'
 | .ops a os::k,.normal,l,h=> ∃e' l' h',ig E R cx a os l h=some (e',l',h')/\Run k e' l' h'
 | .opsD a q ps os i tr::k,.normal,l,h=> ∃l' h' tr',dB E R a q os i l h tr=some (l',h',tr')/\dK tr' ps=true/\Run k .normal l' h'
 | .blk _::k,.normal,l,h=>Run k .normal l h
 | .blk id::k,.exit i,l,h=>if i=id then Run k .normal l h else Run k (.exit i) l h
 |_::k,.exit i,l,h=>Run k (.exit i) l h
 |_::k,.ret,l,h=>Run k .ret l h
 |_::k,.pan v,l,h=>Run k (.pan v) l h
end
section
variable{E:Env}{R:Rec}{cx:Cx}{Q:dW}{k:List Fr}{l:Loc}{h:Hp}

theorem run_nil{e:Ex}:Run E R cx Q [] e l h↔Q e l h:=ym
theorem run_skip:Run E R cx Q (.code .skip::k) .normal l h↔Run E R cx Q k .normal l h:=by simp only [Run,aD];exact fm
theorem run_seq{a b:Code}:Run E R cx Q (.code (.seq a b)::k) .normal l h↔Run E R cx Q (.code a:: .code b::k) .normal l h:=by
 simp only [Run,aD]
 constructor
 . intro⟨e',l',h',h1,h2⟩
   cases ha:aD E R cx a l h with
   |none=>rw [ha]at h1;cases h1
   | some q=>
     obtain⟨x,l1,hh1⟩:=q
     rw [ha]at h1
     refine⟨x,l1,hh1,rfl,?_⟩
     cases x with
     |normal=>exact⟨e',l',h',h1,h2⟩
     |exit i=>cases h1;exact h2
     |ret=>cases h1;exact h2
     |pan v=>cases h1;exact h2
 . intro⟨x,l1,hh1,ha,h2⟩
   rw [ha]
   cases x with
   |normal=>exact h2
   |exit i=>exact⟨_,_,_,rfl,h2⟩
   |ret=>exact⟨_,_,_,rfl,h2⟩
   |pan v=>exact⟨_,_,_,rfl,h2⟩
theorem run_block {id:Nat} {b:Code}:Run E R cx Q (.code (.block id b)::k) .normal l h↔Run E R cx Q (.code b:: .blk id::k) .normal l h:=by
 simp only [Run,aD]
 constructor
 . intro ⟨e',l',h',h1,h2⟩
   cases ha:aD E R cx b l h with
   |none=>rw [ha]at h1;cases h1
   | some q=>
     obtain⟨x,l1,hh1⟩:=q
     rw [ha]at h1
     refine⟨x,l1,hh1,rfl,?_⟩
     cases x with
     |normal=>cases h1;exact h2
     | exit i=>
       simp only []at h1
       cases hi:yr i id with
       |true=>rw [hi]at h1;cases h1;have:=yd hi;subst this;simp only [Run,if_true];exact h2
       | false=>
         rw [hi]at h1;cases h1
         simp only [Run]
         rw [if_neg (by intro e;subst e;rw [yn]at hi;cases hi)];exact h2
     |ret=>cases h1;exact h2
     |pan v=>cases h1;exact h2
 . intro⟨x,l1,hh1,ha,h2⟩
   rw [ha]
   cases x with
   |normal=>exact⟨_,_,_,rfl,h2⟩
   | exit i=>
     simp only [Run]at h2
     simp only []
     by_cases hi:i=id
     . subst hi;rw [if_pos rfl]at h2;rw [yn];exact⟨_,_,_,rfl,h2⟩
     . rw [if_neg hi]at h2
       have:yr i id=false:=by
        cases hb:yr i id with
        |false=>rfl
        |true=>exact absurd (yd hb) hi
       rw [this];exact⟨_,_,_,rfl,h2⟩
   |ret=>exact⟨_,_,_,rfl,h2⟩
   |pan v=>exact⟨_,_,_,rfl,h2⟩
theorem run_scope{b:Code}:Run E R cx Q (.code (.scope b)::k) .normal l h↔Run E R cx Q (.code b::k) .normal l h:=ym
theorem run_blk{id:Nat}:Run E R cx Q (.blk id::k) .normal l h↔Run E R cx Q k .normal l h:=ym
theorem run_exit{id:Nat}:Run E R cx Q (.code (.exit id)::k) .normal l h↔Run E R cx Q k (.exit id) l h:=by simp only [Run,aD];exact fm
theorem run_ret:Run E R cx Q (.code .ret::k) .normal l h↔Run E R cx Q k .ret l h:=by simp only [Run,aD];exact fm
theorem vq{id i:Nat}:Run E R cx Q (.blk id::k) (.exit i) l h↔if i=id then Run E R cx Q k .normal l h else Run E R cx Q k (.exit i) l h:=ym
theorem tI{c:Code}{i:Nat}:Run E R cx Q (.code c::k) (.exit i) l h↔Run E R cx Q k (.exit i) l h:=ym
theorem tY{a os:List Oper}{i:Nat}:Run E R cx Q (.ops a os::k) (.exit i) l h↔Run E R cx Q k (.exit i) l h:=ym
theorem xe{f:Fr}:Run E R cx Q (f::k) .ret l h↔Run E R cx Q k .ret l h:=by cases f<;>exact ym
theorem wO{f:Fr}{v:Value}:Run E R cx Q (f::k) (.pan v) l h↔Run E R cx Q k (.pan v) l h:=by cases f<;>exact ym
theorem run_cond{c:Operand}{a b:Code}:Run E R cx Q (.code (.cond c a b)::k) .normal l h↔ ∃t,l.ev c=.bool t/\if t=true then Run E R cx Q (.code a::k) .normal l h else Run E R cx Q (.code b::k) .normal l h:=by
 simp only [Run,aD]
 constructor
 . intro⟨e',l',h',h1,h2⟩
   cases hc:l.ev c<;>rw [hc]at h1<;>(try (cases h1;done))
   rename_i t
   cases t with
   |true=>exact⟨true,rfl,by rw [if_pos rfl];exact⟨e',l',h',h1,h2⟩⟩
   |false=>exact⟨false,rfl,by rw [if_neg (by simp)];exact⟨e',l',h',h1,h2⟩⟩
 . intro⟨t,hc,h2⟩
   rw [hc]
   cases t with
   |true=>rw [if_pos rfl]at h2;exact h2
   |false=>rw [if_neg (by simp)]at h2;exact h2
theorem xI{id:Nat}{ops:Array Oper}:Run E R cx Q (.code (.region id ops false)::k) .normal l h↔Run E R cx Q (.ops ops.toList ops.toList::k) .normal l h:=by simp only [Run,aD,cond_false]
theorem wK{a:List Oper}:Run E R cx Q (.ops a []::k) .normal l h↔Run E R cx Q k .normal l h:=by simp only [Run,ig];exact fm
theorem tO{a os:List Oper}{o:Oper}:Run E R cx Q (.ops a (o::os)::k) .normal l h↔ ∃b,bQ a l.regs o=some b/\
 (if b=true then Then (dk E R cx o l h) fun e l' h'=>Run E R cx Q (.ops a os::k) e l' h' else Run E R cx Q (.ops a os::k) .normal (l.put o.dst (.tuple #[])) h):=by
 simp only [Run,ig]
 constructor
 . intro ⟨e',l',h',h1,h2⟩
   cases hg:bQ a l.regs o with
   |none=>rw [hg]at h1;cases h1
   | some b=>
     rw [hg]at h1
     refine⟨b,rfl,?_⟩
     cases b with
     |false=>rw [if_neg (by simp)];exact⟨e',l',h',h1,h2⟩
     | true=>
       rw [if_pos rfl]
       simp only []at h1
       cases hs:dk E R cx o l h with
       |none=>rw [hs]at h1;cases h1
       | some q=>
         obtain⟨x,l1,hh1⟩:=q
         rw [hs]at h1
         refine⟨x,l1,hh1,rfl,?_⟩
         cases x with
         |normal=>exact⟨e',l',h',h1,h2⟩
         |exit i=>cases h1;exact h2
         |ret=>cases h1;exact h2
         |pan v=>cases h1;exact h2
 . intro⟨b,hg,h2⟩
   rw [hg]
   cases b with
   |false=>rw [if_neg (by simp)]at h2;exact h2
   | true=>
     rw [if_pos rfl]at h2
     obtain⟨x,l1,hh1,hs,h2⟩:=h2
     simp only [hs]
     cases x with
     |normal=>exact h2
     |exit i=>exact⟨_,_,_,rfl,h2⟩
     |ret=>exact⟨_,_,_,rfl,h2⟩
     |pan v=>exact⟨_,_,_,rfl,h2⟩

theorem run_draw{id:Nat}{ops:Array Oper}{q:Nat}{ps:List (Nat×Nat)}{os:List Oper}(hh:dQ ops.toList=os)(hp:plan E os=some (q,ps)):Run E R cx Q (.code (.region id ops true)::k) .normal l h↔Run E R cx Q (.opsD os q ps os 0 []::k) .normal l h:=by
 simp only [Run,aD,cond_true,hh,hp]
 constructor
 . intro⟨e',l',h',h1,h2⟩
   cases he:dB E R os q os 0 l h []with
   |none=>rw [he]at h1;cases h1
   | some x=>
     obtain⟨a,b,c⟩:=x
     rw [he]at h1
     simp only []at h1
     cases hb:dK c ps with
     |false=>rw [hb]at h1;cases h1
     |true=>rw [hb]at h1;cases h1;exact⟨_,_,_,rfl,hb,h2⟩
 . intro⟨l',h',tr',he,hb,h2⟩
   rw [he]
   simp only [hb,cond_true]
   exact⟨_,_,_,rfl,h2⟩
theorem uD{a:List Oper}{q i:Nat}{ps:List (Nat×Nat)}{tr:List (Nat×Tch)}:Run E R cx Q (.opsD a q ps [] i tr::k) .normal l h↔dK tr ps=true/\Run E R cx Q k .normal l h:=by
 simp only [Run,dB]
 constructor
 . intro⟨_,_,_,a,b,c⟩;cases a;exact⟨b,c⟩
 . intro⟨b,c⟩;exact⟨_,_,_,rfl,b,c⟩
theorem tE{a os:List Oper}{o:Oper}{q i:Nat}{ps:List (Nat×Nat)}{tr:List (Nat×Tch)}:Run E R cx Q (.opsD a q ps (o::os) i tr::k) .normal l h↔ ∃b,bQ a l.regs o=some b/\
 (if b=true then∃v h',cd E R (l.evD (tmpsOf o.op.operands.toList)) (dS E q i o.op) o h=some (v,h')/\
     Run E R cx Q (.opsD a q ps os (i+1) (fQ i tr (cb (l.evD (tmpsOf o.op.operands.toList)) (dS E q i o.op) o.op h h'))::k) .normal (l.put o.dst v) h'
   else Run E R cx Q (.opsD a q ps os (i+1) tr::k) .normal (l.put o.dst (.tuple #[])) h):=by
 simp only [Run,dB]
 constructor
 . intro⟨l',h',tr',h1,h2,h3⟩
   cases hg:bQ a l.regs o with
   |none=>rw [hg]at h1;cases h1
   | some b=>
     rw [hg]at h1
     refine⟨b,rfl,?_⟩
     cases b with
     |false=>rw [if_neg (by simp)];exact⟨l',h',tr',h1,h2,h3⟩
     | true=>
       rw [if_pos rfl]
       simp only []at h1
       cases hs:cd E R (l.evD (tmpsOf o.op.operands.toList)) (dS E q i o.op) o h with
       |none=>rw [hs]at h1;cases h1
       |some p=>obtain⟨v,hh⟩:=p;rw [hs]at h1;exact⟨v,hh,rfl,l',h',tr',h1,h2,h3⟩
 . intro⟨b,hg,h2⟩
   rw [hg]
   cases b with
   |false=>rw [if_neg (by simp)]at h2;exact h2
   | true=>
     rw [if_pos rfl]at h2
     obtain⟨v,hh,hs,h2⟩:=h2
     simp only [hs]
     exact h2
end
end Go.Ab

namespace Go.Ab

noncomputable def envOf(fns:Tr Func)(tys:Tr TypeInfo)(eqs:List Nat):Env:={fn:=fun f=>fns.get f,ty:=fun t=>tys.get t,eqok:=fun t=>memb t eqs}

theorem tN{P:Program}{f:FuncId}{fn:Func}(hf:P.funcs[f]? =some fn)(hb:fn.body.isSome=true)(hn:(fn.name== "runtime.NumGoroutine")=false)(args:Array Value)(w:World):
 (callFunc f args).run P w=.ok (.enter f args) w:=by
 have hnone:fn.body.isNone=false:=by cases h:fn.body<;>simp_all
 unfold callFunc
 have hp:program.run P w=.ok P w:=rfl
 simp only [Sem.run_bind,hp,Result.andThen_ok,hf,hn,hnone,Bool.false_eq_true,if_false,Sem.run_pure]

theorem eok_of{P:Program}{fns:Tr Func}{tys:Tr TypeInfo}{eqs:List Nat}(h1:fns=Tr.ofList P.funcs.toList)(h2:tys=Tr.ofList P.types.toList)
 (h3:(P.funcs.toList.all fun fn=>fn.body.isNone|| !(fn.name== "runtime.NumGoroutine"))=true) (h4:(eqs.all fun t=>!P.stoodInHeld t&& !P.eqGuardType P.depth t)=true)
 (h5:P.follows .mixedOrders=true):EOk (envOf fns tys eqs) P where
 fn:=by
  intro f fn h
  have h':fns.get f=some fn:=h
  rw [h1,Tr.get_ofList]at h'
  simpa using h'
 call:=by
  intro f fn args w h hb
  have h':fns.get f=some fn:=h
  rw [h1,Tr.get_ofList]at h'
  have hm:=yo h'
  have:=(List.all_eq_true.1 h3) fn hm
  refine tN (by simpa using h') hb ?_ args w
  cases hn:(fn.name== "runtime.NumGoroutine")with
  |false=>rfl
  |true=>rw [hn]at this;cases hx:fn.body<;>simp_all
 ty:=by
  intro t i h
  have h':tys.get t=some i:=h
  rw [h2,Tr.get_ofList]at h'
  show P.toTables.info? t=some i
  have hk:P.types[t]? =some i:=by simpa using h'
  unfold Tables.info?
  rw [if_pos (Array.getElem?_eq_some_iff.1 hk).1];exact hk
 eq:=by
  intro t h
  have hm:t∈eqs:=(j7 t eqs).1 h
  have:=(List.all_eq_true.1 h4) t hm
  simp only [ye,yg]at this
  exact this
 mixed:=h5
 orc:=by
  intro g args v h
  cases h
noncomputable def mV(E:Env)(o:Nat->List Value->Option Value):Env:={E with orc:=o}
theorem eok_with{E:Env}{P:Program}(ok:EOk E P){o:Nat->List Value->Option Value}(ho: ∀g args v,o g args=some v->(∃fn,E.fn g=some fn/\fn.body.isSome=true)/\OrcAt P g args v):EOk (mV E o) P where
 fn:=ok.fn
 call:=ok.call
 ty:=ok.ty
 eq:=ok.eq
 mixed:=ok.mixed
 orc:=ho
end Go.Ab
namespace Go.Ab
open Go.ChangeShapes Go.WideShapes
variable{H:Type}{enc:TypeId×Value->H}{P:Program}
end Go.Ab

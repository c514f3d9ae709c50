/- A deterministic evaluator of the model's code, and that the model follows it (part 4). -/
import Derived.Test.YtfdopodkngggfaaGreatDoorAbC
import Derived.Orders
open Array renaming getElem?_eq_getElem->zM,getElem?_toList->zO,getD_eq_getD_getElem?->zT,getElem?_setIfInBounds->Xh,replicate->Xn,getElem?_eq_none->Xo,getElem?_push->Xu
open Nat renaming eq_of_beq_eq_true->zN,le_refl->zQ,zero_add->zS,lt_or_ge->zV,lt_of_lt_of_le->zW,lt_trichotomy->zY,le_trans->Xb,beq->Xc,zero_le->Xd,add_zero->Xi,beq_refl->Xj,lor->Xp,le_of_ble_eq_true->Xq,ble_eq_true_of_le->Xr,ble->Xv
open Bool renaming and_eq_true->zP,not_eq_true'->zZ,or_eq_true->Xg
open List renaming mem_cons_of_mem->zR,mem_cons_self->zU,getElem?_eq_getElem->zX,getElem?_eq_none->Xa,length_cons->Xe,getElem_mem->Xk,getElem?_cons_succ->Xl,mem_filter->Xm,mem_range->Xs,mem_of_getElem?->Xt
open Option renaming getD_some->Xf
set_option maxHeartbeats 400000
set_option linter.defProp false
set_option linter.unusedVariables false
set_option linter.unusedSimpArgs false
namespace Go.Ab

def Sub(q q':Nat):Prop:= ∀i,q.testBit i=true->q'.testBit i=true
theorem cE(a b i:Nat):(Xp a b).testBit i=(a.testBit i||b.testBit i):=Nat.testBit_or a b i
theorem ij(n i:Nat):(Nat.pow 2 n).testBit i=decide (n=i):=Nat.testBit_two_pow
def binds(e:Edge):Bool:=Region.binds .any e

def BefOk(ops:List Oper)(M:List Nat)(i:Nat):Prop:= ∀o,ops[i]? =some o-> ∃m,M[i]? =some m/\(∀e∈o.after.toList,binds e=true->e.on<i)/\
 ∀b,m.testBit b=true-> ∃e∈o.after.toList,binds e=true/\(b=e.on\/ ∃m',M[e.on]? =some m'/\m'.testBit b=true)

theorem xj (acc:List Nat): ∀(es:List Edge) (s0:Option Nat) (m:Nat),es.foldl (fun s e=>match s with
 |none=>none
 | some s=>match e.ground with
   | .textOnly _=>some s
   | .gcOnly _=>some s
   | _=>match acc[acc.length-1-e.on]? with
     |none=>none
     |some m=>bif Nat.blt e.on acc.length then some (Xp (Xp s (Nat.pow 2 e.on)) m)else none) s0=some m->
 ∃ s,s0=some s/\(∀e∈es,binds e=true->e.on<acc.length)/\
   ∀b,m.testBit b=true->s.testBit b=true\/ ∃e∈es,binds e=true/\(b=e.on\/ ∃m',acc.reverse[e.on]? =some m'/\m'.testBit b=true)
 | [],s0,m,h=>⟨m,h,by simp,fun b hb=>.inl hb⟩
 | e :: es,s0,m,h=>by
   rw [List.foldl_cons]at h
   obtain⟨s1,h1,h2,h3⟩:=xj acc es _ m h
   cases s0 with
   |none=>cases h1
   | some s=>
     refine⟨s,rfl,?_⟩
     have skip:binds e=false->s1=s->(∀e'∈e::es,binds e'=true->e'.on<acc.length)/\
      ∀b,m.testBit b=true->s.testBit b=true\/ ∃e'∈e::es,binds e'=true/\(b=e'.on\/ ∃m',acc.reverse[e'.on]? =some m'/\m'.testBit b=true):=by
      intro hb e1
      subst e1
      refine⟨fun e' he' hb'=>?_,fun b hbb=>?_⟩
      . rcases List.mem_cons.1 he' with rfl|he'
        . rw [hb]at hb';cases hb'
        . exact h2 e' he' hb'
      . rcases h3 b hbb with x|⟨e',he',x⟩
        . exact .inl x
        . exact .inr ⟨e',zR _ he',x⟩
     have main:binds e=true->(match acc[acc.length-1-e.on]? with
      |none=>none
      |some m=>bif Nat.blt e.on acc.length then some (Xp (Xp s (Nat.pow 2 e.on)) m)else none)=some s1->(∀e'∈e::es,binds e'=true->e'.on<acc.length)/\
      ∀b,m.testBit b=true->s.testBit b=true\/ ∃e'∈e::es,binds e'=true/\(b=e'.on\/ ∃m',acc.reverse[e'.on]? =some m'/\m'.testBit b=true):=by
      intro hb hm
      split at hm
      next=>cases hm
      next m0 hm0=>
       cases hlt:Nat.blt e.on acc.length with
       |false=>rw [hlt]at hm;cases hm
       | true=>
         rw [hlt]at hm
         cases hm
         have hlt':e.on<acc.length:=by simpa [Nat.blt_eq]using hlt
         refine⟨fun e' he' hb'=>?_,fun b hbb=>?_⟩
         . rcases List.mem_cons.1 he' with rfl|he'
           . exact hlt'
           . exact h2 e' he' hb'
         . rcases h3 b hbb with x|⟨e',he',x⟩
           . rw [cE,cE,ij]at x
             simp only [Xg,decide_eq_true_eq]at x
             rcases x with(x|x)|x
             . exact .inl x
             . exact .inr ⟨e,zU,hb,.inl x.symm⟩
             . exact .inr ⟨e,zU,hb,.inr ⟨m0,by rw [List.getElem?_reverse hlt'];exact hm0,x⟩⟩
           . exact .inr ⟨e',zR _ he',x⟩
     cases hg:e.ground<;>rw [hg]at h1
     case textOnly=>simp only [Option.some.injEq]at h1;exact skip (by simp [binds,Region.binds,hg]) h1.symm
     case gcOnly=>simp only [Option.some.injEq]at h1;exact skip (by simp [binds,Region.binds,hg]) h1.symm
     all_goals exact main (by simp [binds,Region.binds,hg]) h1

theorem befs_ok: ∀(os:List Oper) (acc ms:List Nat),befs os acc=some ms->ms.length=acc.length+os.length/\(∀i,i<acc.length->ms.reverse[i]? =acc.reverse[i]?)/\
 ∀ j o,os[j]? =some o-> ∃m,ms.reverse[acc.length+j]? =some m/\(∀e∈o.after.toList,binds e=true->e.on<acc.length+j)/\
   ∀b,m.testBit b=true-> ∃e∈o.after.toList,binds e=true/\(b=e.on\/ ∃m',ms.reverse[e.on]? =some m'/\m'.testBit b=true)
 | [],acc,ms,h=>by cases h;exact⟨rfl,fun _ _=>rfl,fun j o ho=>by simp at ho⟩
 | o :: os,acc,ms,h=>by
   simp only [befs]at h
   split at h
   next=>cases h
   next s hs=>
    obtain⟨s0,e0,f1,f2⟩:=xj acc _ _ _ hs
    cases e0
    obtain⟨g1,g2,g3⟩:=befs_ok os (s::acc) ms h
    have hpre: ∀i,i<acc.length->ms.reverse[i]? =acc.reverse[i]? :=by
     intro i hi
     rw [g2 i (by simp;omega),List.reverse_cons,List.getElem?_append_left (by simpa using hi)]
    refine⟨by rw [g1];simp;omega,hpre,fun j o' ho'=>?_⟩
    cases j with
    | zero=>
      simp at ho'
      subst ho'
      refine⟨s,?_,f1,fun b hb=>?_⟩
      . rw [Xi,g2 acc.length (by simp),List.reverse_cons,List.getElem?_append_right (by simp)]
        simp
      . rcases f2 b hb with x|⟨e,he,hbe,x⟩
        . simp at x
        . refine⟨e,he,hbe,?_⟩
          rcases x with x|⟨m',hm',x⟩
          . exact .inl x
          . exact .inr ⟨m',by rw [hpre _ (f1 e he hbe)];exact hm',x⟩
    | succ j=>
      obtain⟨m,m1,m2,m3⟩:=g3 j o' (by simpa using ho')
      have e1:(s::acc).length+j=acc.length+(j+1):=by simp;omega
      rw [e1]at m1 m2
      exact⟨m,m1,m2,m3⟩

def Owe(E:Env)(ops:List Oper)(o p:Oper)(i n q:Nat)(l:List (Nat×Nat)):Prop:=
 qa ops o p=true/\(cls E o.op=0\/cls E p.op=0\/(cls E o.op=1/\cls E p.op=1)\/(cls E o.op=2/\cls E p.op=1/\(jc o.op p.op=true\/(i,n)∈l))\/
  (cls E o.op=1/\cls E p.op=2/\(jc p.op o.op=true\/(i,n)∈l))\/(cls E o.op=5/\cls E p.op=1/\(i,n)∈l)\/(cls E o.op=1/\cls E p.op=5/\(i,n)∈l)\/
  (cls E o.op≠2/\cls E p.op≠2/\(cls E p.op=3\/cls E p.op=5->q.testBit i=true)/\(cls E o.op=3\/cls E o.op=5->q.testBit n=true))\/
  (cls E o.op=3/\cls E p.op=1/\dr o.op=true/\(i,n)∈l)\/(cls E o.op=1/\cls E p.op=3/\dr p.op=true/\(i,n)∈l)\/(cls E o.op=3/\cls E p.op=4/\dr o.op=true/\d6 p.op=true/\(i,n)∈l))
theorem Owe.mono{E:Env}{ops:List Oper}{o p:Oper}{i n q q':Nat}{l l':List (Nat×Nat)}(hq:Sub q q')(hl: ∀x∈l,x∈l')(h:Owe E ops o p i n q l):Owe E ops o p i n q' l':=by
 obtain⟨h0,h1⟩:=h
 refine⟨h0,?_⟩
 rcases h1 with h|h|h|⟨a,b,h⟩|⟨a,b,h⟩|⟨a,b,h⟩|⟨a,b,h⟩|⟨a,b,c,d⟩|⟨a,b,c,h⟩|⟨a,b,c,h⟩|⟨a,b,c,d,h⟩
 . exact .inl h
 . exact .inr (.inl h)
 . exact .inr (.inr (.inl h))
 . exact .inr (.inr (.inr (.inl ⟨a,b,h.imp id (hl _)⟩)))
 . exact .inr (.inr (.inr (.inr (.inl ⟨a,b,h.imp id (hl _)⟩))))
 . exact .inr (.inr (.inr (.inr (.inr (.inl ⟨a,b,hl _ h⟩)))))
 . exact .inr (.inr (.inr (.inr (.inr (.inr (.inl ⟨a,b,hl _ h⟩))))))
 . exact .inr (.inr (.inr (.inr (.inr (.inr (.inr (.inl ⟨a,b,fun x=>hq _ (c x),fun x=>hq _ (d x)⟩)))))))
 . exact .inr (.inr (.inr (.inr (.inr (.inr (.inr (.inr (.inl ⟨a,b,c,hl _ h⟩))))))))
 . exact .inr (.inr (.inr (.inr (.inr (.inr (.inr (.inr (.inr (.inl ⟨a,b,c,hl _ h⟩)))))))))
 . exact .inr (.inr (.inr (.inr (.inr (.inr (.inr (.inr (.inr (.inr ⟨a,b,c,d,hl _ h⟩)))))))))

theorem owed_ok {E:Env} {ops:List Oper} {o:Oper} {m n:Nat}: ∀(ps:List Oper) (i:Nat) (q:Nat) (l:List (Nat×Nat)) (q':Nat) (l':List (Nat×Nat)),iO E ops o m n ps i (q,l)=some (q',l')->
 Sub q q'/\(∀x∈l,x∈l')/\ ∀j p,ps[j]? =some p->m.testBit (i+j)=false->Owe E ops o p (i+j) n q' l'
 | [],i,q,l,q',l',h=>by cases h;exact⟨fun _ x=>x,fun _ x=>x,fun j p hp=>by simp at hp⟩
 | p :: ps,i,q,l,q',l',h=>by
   have next: ∀{q1:Nat} {l1:List (Nat×Nat)},iO E ops o m n ps (i+1) (q1,l1)=some (q',l')->Sub q q1->(∀x∈l,x∈l1)->(m.testBit i=false->Owe E ops o p i n q1 l1)->
    Sub q q'/\(∀x∈l,x∈l')/\ ∀j p',(p::ps)[j]? =some p'->m.testBit (i+j)=false->Owe E ops o p' (i+j) n q' l':=by
    intro q1 l1 h1 hq hl ho
    obtain⟨g1,g2,g3⟩:=owed_ok ps (i+1) q1 l1 q' l' h1
    refine⟨fun x hx=>g1 x (hq x hx),fun x hx=>g2 x (hl x hx),fun j p' hp' hm=>?_⟩
    cases j with
    | zero=>
      simp at hp'
      subst hp'
      exact(ho hm).mono g1 g2
    | succ j=>
      have:=g3 j p' (by simpa using hp') (by rw [show i+1+j=i+(j+1) by omega];exact hm)
      rwa [show i+1+j=i+(j+1) by omega]at this
   simp only [iO]at h
   cases hm:m.testBit i with
   | true=>
     rw [hm]at h
     exact next h (fun _ x=>x) (fun _ x=>x) (fun hf=>by rw [hm]at hf;cases hf)
   | false=>
     rw [hm]at h
     simp only [cond_false]at h
     cases ha:qa ops o p with
     |false=>rw [ha]at h;cases h
     | true=>
       rw [ha]at h
       simp only [cond_true]at h
       split at h
       next hc=>exact next h (fun _ x=>x) (fun _ x=>x) (fun _=>⟨ha,.inl hc⟩)
       next hd _=>exact next h (fun _ x=>x) (fun _ x=>x) (fun _=>⟨ha,.inr (.inl hd)⟩)
       next hc hd=>exact next h (fun _ x=>x) (fun _ x=>x) (fun _=>⟨ha,.inr (.inr (.inl ⟨hc,hd⟩))⟩)
       next hc hd=>
        refine next h (fun _ x=>x) ?_ (fun _=>⟨ha,.inr (.inr (.inr (.inl ⟨hc,hd,?_⟩)))⟩)
        . intro x hx;cases jc o.op p.op<;>simp [hx]
        . cases jc o.op p.op<;>simp
       next hc hd=>
        refine next h (fun _ x=>x) ?_ (fun _=>⟨ha,.inr (.inr (.inr (.inr (.inl ⟨hc,hd,?_⟩))))⟩)
        . intro x hx;cases jc p.op o.op<;>simp [hx]
        . cases jc p.op o.op<;>simp
       next hc hd=>
        exact next h (fun _ x=>x) (fun x hx=>zR _ hx) (fun _=>⟨ha,.inr (.inr (.inr (.inr (.inr (.inl ⟨hc,hd,zU⟩)))))⟩)
       next hc hd=>
        exact next h (fun _ x=>x) (fun x hx=>zR _ hx) (fun _=>⟨ha,.inr (.inr (.inr (.inr (.inr (.inr (.inl ⟨hc,hd,zU⟩))))))⟩)
       next hc hd=>
        cases hr:dr o.op with
        | true=>
          rw [hr]at h
          exact next h (fun _ x=>x) (fun x hx=>zR _ hx) (fun _=>⟨ha,.inr (.inr (.inr (.inr (.inr (.inr (.inr (.inr (.inl ⟨hc,hd,hr,zU⟩))))))))⟩)
        | false=>
          rw [hr]at h
          refine next h (fun x hx=>by rw [cE,hx];simp) (fun _ x=>x) (fun _=>⟨ha,.inr (.inr (.inr (.inr (.inr (.inr (.inr (.inl ⟨by omega,by omega,fun e=>by omega,fun _=>?_⟩)))))))⟩)
          rw [cE,ij];simp
       next hc hd=>
        cases hr:dr p.op with
        | true=>
          rw [hr]at h
          exact next h (fun _ x=>x) (fun x hx=>zR _ hx) (fun _=>⟨ha,.inr (.inr (.inr (.inr (.inr (.inr (.inr (.inr (.inr (.inl ⟨hc,hd,hr,zU⟩)))))))))⟩)
        | false=>
          rw [hr]at h
          refine next h (fun x hx=>by rw [cE,hx];simp) (fun _ x=>x) (fun _=>⟨ha,.inr (.inr (.inr (.inr (.inr (.inr (.inr (.inl ⟨by omega,by omega,fun _=>?_,fun e=>by omega⟩)))))))⟩)
          rw [cE,ij];simp
       next hc hd=>
        cases hr:dr o.op&&d6 p.op with
        | true=>
          rw [hr]at h
          simp only [zP]at hr
          exact next h (fun _ x=>x) (fun x hx=>zR _ hx) (fun _=>⟨ha,.inr (.inr (.inr (.inr (.inr (.inr (.inr (.inr (.inr (.inr ⟨hc,hd,hr.1,hr.2,zU⟩)))))))))⟩)
        | false=>
          rw [hr]at h
          refine next h (fun x hx=>by rw [cE,hx];simp) (fun _ x=>x) (fun _=>⟨ha,.inr (.inr (.inr (.inr (.inr (.inr (.inr (.inl ⟨by omega,by omega,fun e=>by omega,fun _=>?_⟩)))))))⟩)
          rw [cE,ij];simp
       next=>cases h
       next=>cases h
       next=>
        refine next h ?_ (fun _ x=>x) (fun _=>⟨ha,.inr (.inr (.inr (.inr (.inr (.inr (.inr (.inl ⟨?_,?_,?_,?_⟩)))))))⟩)
        . intro x hx
          rw [cE,cE,hx];simp
        . exact ‹cls E o.op=2->False›
        . exact ‹cls E p.op=2->False›
        . intro hd
          rw [cE]
          have:(Xc (cls E p.op) 3||Xc (cls E p.op) 5)=true:=by rcases hd with e|e<;>rw [e]<;>rfl
          rw [this]
          simp [ij]
        . intro hd
          rw [cE,cE]
          have:(Xc (cls E o.op) 3||Xc (cls E o.op) 5)=true:=by rcases hd with e|e<;>rw [e]<;>rfl
          rw [this]
          simp [ij]
end Go.Ab

namespace Go.Ab

theorem su {E:Env} {ops:List Oper}: ∀(os:List Oper) (ms:List Nat) (n q:Nat) (l:List (Nat×Nat)) (q':Nat) (l':List (Nat×Nat)),qF E ops os ms n (q,l)=some (q',l')->
 Sub q q'/\(∀x∈l,x∈l')/\ ∀j o,os[j]? =some o->(cls E o.op=4->q'.testBit (n+j)=true)/\
  ∃m,ms[j]? =some m/\ ∀i p,i<n+j->ops[i]? =some p->m.testBit i=false->Owe E ops o p i (n+j) q' l'
 | [],ms,n,q,l,q',l',h=>by cases ms<;>(cases h;exact⟨fun _ x=>x,fun _ x=>x,fun j o ho=>by simp at ho⟩)
 |o::os,[],n,q,l,q',l',h=>by cases h
 | o :: os,m::ms,n,q,l,q',l',h=>by
   simp only [qF]at h
   split at h
   next=>cases h
   next q1 l1 h1=>
    obtain⟨f1,f2,f3⟩:=owed_ok _ _ _ _ _ _ h1
    obtain⟨g1,g2,g3⟩:=su os ms (n+1) _ l1 q' l' h
    have s1:Sub q1 q':=by
     intro x hx
     apply g1
     cases Xc (cls E o.op) 4 with
     |true=>simp only [cond_true];rw [cE,hx];simp
     |false=>exact hx
    refine⟨fun x hx=>s1 x (f1 x hx),fun x hx=>g2 x (f2 x hx),fun j o' ho'=>?_⟩
    cases j with
    | zero=>
      simp at ho'
      subst ho'
      refine⟨fun h4=>?_,m,rfl,fun i p hi hp hm=>?_⟩
      . apply g1
        rw [h4]
        show(Xp (Nat.pow 2 n) q1).testBit (n+0)=true
        rw [cE,ij];simp
      . have:=f3 i p (by rw [List.getElem?_take,if_pos (by omega)];exact hp) (by rw [zS];exact hm)
        rw [zS]at this
        exact this.mono s1 g2
    | succ j=>
      obtain⟨a,m',b,c⟩:=g3 j o' (by simpa using ho')
      have e:n+1+j=n+(j+1):=by omega
      rw [e]at a c
      exact⟨a,m',by simpa using b,c⟩

theorem plan_ok{E:Env}{ops:List Oper}{q:Nat}{ps:List (Nat×Nat)}(h:plan E ops=some (q,ps)):
 ∃ M:List Nat,(∀i,BefOk ops M i)/\ ∀n o,ops[n]? =some o->(cls E o.op=4->q.testBit n=true)/\
   ∀m,M[n]? =some m-> ∀i p,i<n->ops[i]? =some p->m.testBit i=false->Owe E ops o p i n q ps:=by
 unfold plan at h
 split at h
 next=>cases h
 next ms hms=>
  obtain⟨_,_,f3⟩:=befs_ok _ _ _ hms
  obtain⟨_,_,g3⟩:=su _ _ _ _ _ _ _ h
  refine⟨ms.reverse,fun i o ho=>?_,fun n o ho=>?_⟩
  . have:=f3 i o ho
    simpa using this
  . obtain⟨a,m,b,c⟩:=g3 n o ho
    rw [zS]at a c
    exact⟨a,fun m' hm'=>by rw [b]at hm';cases hm';exact c⟩

inductive qN(E:Env)(R:Rec)(ops:List Oper)(q i:Nat)(o:Oper)(l:Loc)(h:Hp):Loc->Hp->Option Nat->Bool->Prop
 |skip:bR ops l.regs o=some false->qN E R ops q i o l h (l.put o.dst (.tuple #[])) h none false
 |exec {v:Value} {h':Hp}:bR ops l.regs o=some true->ct E R (l.evD (tmpsOf o.op.operands.toList)) (er E q i o.op) o h=some (v,h')->
  qN E R ops q i o l h (l.put o.dst v) h' (iP (l.evD (tmpsOf o.op.operands.toList)) o.op h) true

theorem vV {E:Env} {R:Rec} {ops:List Oper} {q:Nat}: ∀(os:List Oper) (i:Nat) (l:Loc) (h:Hp) (tr:List (Nat×Tch)) (l':Loc) (h':Hp) (tr':List (Nat×Tch)),dO E R ops q os i l h tr=some (l',h',tr')->
 (∀k,k<i->bQ k tr'=bQ k tr)/\
 ∃ (L:Nat->Loc) (H:Nat->Hp) (T:Nat->Option Nat) (X:Nat->Bool),L i=l/\H i=h/\L (i+os.length)=l'/\H (i+os.length)=h'/\
   (∀j o,os[j]? =some o->qN E R ops q (i+j) o (L (i+j)) (H (i+j)) (L (i+j+1)) (H (i+j+1)) (T (i+j)) (X (i+j)))/\
   (∀j o b,os[j]? =some o->dr o.op=false->T (i+j)=some b->bQ (i+j) tr'=some (.blk b))/\
   (∀j o,os[j]? =some o->dr o.op=true->X (i+j)=true->er E q (i+j) o.op=false->bQ (i+j) tr'=some (.run (H (i+j)) (H (i+j+1))))
 | [],i,l,h,tr,l',h',tr',hl=>by
   cases hl
   exact⟨fun _ _=>rfl,fun _=>l,fun _=>h,fun _=>none,fun _=>false,rfl,rfl,rfl,rfl,fun j o ho=>by simp at ho,fun j o b ho=>by simp at ho,fun j o ho=>by simp at ho⟩
 | o :: os,i,l,h,tr,l',h',tr',hl=>by
   have next: ∀{l1:Loc} {h1:Hp} {tr1:List (Nat×Tch)} {t:Option Nat} {x:Bool} {nt:Option Tch},dO E R ops q os (i+1) l1 h1 tr1=some (l',h',tr')->tr1=gU i tr nt->qN E R ops q i o l h l1 h1 t x->
    (dr o.op=false-> ∀b,t=some b->nt=some (.blk b))->(dr o.op=true->x=true->er E q i o.op=false->nt=some (.run h h1))->
    (∀k,k<i->bQ k tr'=bQ k tr)/\
    ∃ (L:Nat->Loc) (H:Nat->Hp) (T:Nat->Option Nat) (X:Nat->Bool),L i=l/\H i=h/\L (i+(o::os).length)=l'/\H (i+(o::os).length)=h'/\
      (∀j o',(o::os)[j]? =some o'->qN E R ops q (i+j) o' (L (i+j)) (H (i+j)) (L (i+j+1)) (H (i+j+1)) (T (i+j)) (X (i+j)))/\
      (∀j o' b,(o::os)[j]? =some o'->dr o'.op=false->T (i+j)=some b->bQ (i+j) tr'=some (.blk b))/\
      (∀j o',(o::os)[j]? =some o'->dr o'.op=true->X (i+j)=true->er E q (i+j) o'.op=false->bQ (i+j) tr'=some (.run (H (i+j)) (H (i+j+1)))):=by
    intro l1 h1 tr1 t x nt hl1 htr hd n1 n2
    obtain⟨f1,L,H,T,X,g1,g2,g3,g4,g5,g6,g7⟩:=vV os (i+1) l1 h1 tr1 l' h' tr' hl1
    have hnoted: ∀k,k<i->bQ k tr1=bQ k tr:=by
     intro k hk
     rw [htr]
     cases nt with
     |none=>rfl
     | some b=>
       show(bif Xc k i then some b else bQ k tr)=_
       rw [cv,decide_eq_false (by omega)];rfl
    have hat: ∀e,nt=some e->bQ i tr'=some e:=by
     intro e he
     rw [f1 i (by omega),htr,he]
     show(bif Xc i i then some e else bQ i tr)=_
     rw [Xj];rfl
    refine⟨fun k hk=>(f1 k (by omega)).trans (hnoted k hk),fun k=>if k=i then l else L k,fun k=>if k=i then h else H k,fun k=>if k=i then t else T k,fun k=>if k=i then x else X k,by simp,by simp,?_,?_,?_,?_,?_⟩
    . show(if i+(o::os).length=i then l else L (i+(o::os).length))=l'
      rw [Xe,if_neg (by omega),<-g3];congr 1;omega
    . show(if i+(o::os).length=i then h else H (i+(o::os).length))=h'
      rw [Xe,if_neg (by omega),<-g4];congr 1;omega
    . intro j o' ho'
      cases j with
      | zero=>
        simp at ho'
        subst ho'
        simp only [Xi,if_true,if_neg (show¬i+1=i by omega)]
        rw [g1,g2];exact hd
      | succ j=>
        have:=g5 j o' (by simpa using ho')
        have e:i+1+j=i+(j+1):=by omega
        rw [e]at this
        simp only [if_neg (show¬i+(j+1)=i by omega),if_neg (show¬i+(j+1)+1=i by omega)]
        exact this
    . intro j o' b ho' hr hb
      cases j with
      | zero=>
        simp at ho'
        subst ho'
        simp only [Xi,if_true]at hb⊢
        exact hat _ (n1 hr b hb)
      | succ j=>
        simp only [if_neg (show¬i+(j+1)=i by omega)]at hb
        have e:i+1+j=i+(j+1):=by omega
        have:=g6 j o' b (by simpa using ho') hr (by rw [e];exact hb)
        rwa [e]at this
    . intro j o' ho' hr hx hh
      cases j with
      | zero=>
        simp at ho'
        subst ho'
        simp only [Xi,if_true,if_neg (show¬i+1=i by omega)]at hx hh⊢
        rw [g2]
        exact hat _ (n2 hr hx hh)
      | succ j=>
        simp only [if_neg (show¬i+(j+1)=i by omega),if_neg (show¬i+(j+1)+1=i by omega)]at hx⊢
        have e:i+1+j=i+(j+1):=by omega
        have:=g7 j o' (by simpa using ho') hr (by rw [e];exact hx) (by rw [e];exact hh)
        rwa [e]at this
   simp only [dO]at hl
   split at hl
   next=>cases hl
   next hg=>exact next (t:=none) (nt:=none) hl rfl (.skip hg) (fun _ b e=>by cases e) (fun _ e=>by cases e)
   next hg=>
    split at hl
    next=>cases hl
    next v h1 hs=>
     refine next hl rfl (.exec hg hs) (fun hr b hb=>?_) (fun hr _ hh=>?_)
     . unfold cb;rw [hr,hb];rfl
     . unfold cb;rw [hr,hh];rfl

theorem pI{tr:List (Nat×Tch)}: ∀{ps:List (Nat×Nat)},d9 tr ps=true-> ∀{i j:Nat},(i,j)∈ps->iT (bQ i tr) (bQ j tr)=true
 | [],_,i,j,hm=>by cases hm
 | (i',j')::ps,h,i,j,hm=>by
   simp only [d9,zP]at h
   rcases List.mem_cons.1 hm with e|hm
   . cases e;exact h.1
   . exact pI h.2 hm

theorem rl{a b:Addr}(h:sameAddr a b=true):a=b:=by
 unfold sameAddr at h
 simp only [zP]at h
 obtain⟨⟨h1,h2⟩,h3⟩:=h
 have e1:=zN h1
 have e2:=zN h2
 obtain⟨x,y,z⟩:=a
 obtain⟨x',y',z'⟩:=b
 simp only []at e1 e2 h3
 subst e1 e2
 cases z<;>cases z'<;>simp at h3
 . rfl
 . subst h3;rfl
theorem ov{a b:Value}(h:oQ a b=true):a=b:=by
 unfold oQ at h
 split at h
 next t ht=>subst h;exact tz ht
 next=>
  split at h
  next=>rfl
  next=>rw [rl h]
  next=>
   simp only [zP]at h
   rw [zN h.1,zN h.2]
  next=>
   simp only [zP]at h
   rw [rl h.1,zN h.2.1,zN h.2.2]
  next=>rfl
  next=>rw [zN h]
  next=>rfl
  next=>rfl
  next=>cases h
theorem qr: ∀{l m:List Value},qw l m=true->l=m
 | [],[],_=>rfl
 | [],_::_,h=>by cases h
 |_::_,[],h=>by cases h
 | x::l,y::m,h=>by
   simp only [qw,zP]at h
   rw [ov h.1,qr h.2]
theorem uF{a b:Value}(h:sq a b=true):a=b:=by
 unfold sq at h
 split at h
 next g x y g' x' y'=>
  simp only [zP]at h
  rw [zN h.1,Array.toList_inj.1 (qr h.2.1),Array.toList_inj.1 (qr h.2.2)]
 next=>
  simp only [zP]at h
  rw [zN h.1,ov h.2]
 next=>exact ov h
theorem rL: ∀{t u:Tr Value},sameT t u=true->t=u
 | .nil,.nil,_=>rfl
 | .nil,.node ..,h=>by cases h
 | .node ..,.nil,h=>by cases h
 | .node x l r,.node x' l' r',h=>by
   simp only [sameT,zP]at h
   rw [uF h.1,rL h.2.1,rL h.2.2]
theorem w6: ∀{l m:List (Value×Value×Nat)},sameE l m=true->l=m
 | [],[],_=>rfl
 | [],_::_,h=>by cases h
 |_::_,[],h=>by cases h
 | (k,x,n)::l,(k',y,m)::l',h=>by
   simp only [sameE,zP]at h
   rw [ov h.1,uF h.2.1,zN h.2.2.1,w6 h.2.2.2]
theorem sameB_ok{x y:Blk}(h:sameB x y=true):x=y:=by
 unfold sameB at h
 rw [Xg]at h
 rcases h with h|h
 . split at h
   next=>
    simp only [zP]at h
    rw [rL h.1,zN h.2.1,zN h.2.2.1,zN h.2.2.2]
   next=>
    simp only [zP]at h
    rw [zN h.1,w6 h.2]
   next=>cases h
 . exact @of_decide_eq_true _ (Classical.propDecidable _) h
theorem ux{h h':Hp}{b:Nat}(e:leaves h h' b=true):h'.get b=h.get b:=by
 unfold leaves at e
 split at e
 next h1 h2=>rw [h1,h2,sameB_ok e]
 next h1 h2=>rw [h1,h2]
 next=>cases e
theorem re{h h':Hp}{b:Nat}(e:h'.get b=h.get b):leaves h h' b=true:=by
 unfold leaves
 rw [e]
 cases h.get b with
 |none=>rfl
 | some x=>
   show sameB x x=true
   unfold sameB
   rw [Xg]
   exact .inr (@decide_eq_true _ (Classical.propDecidable _) rfl)
end Go.Ab

namespace Go.Ab

theorem hrel_lo{mu:Mu}{h:Hp}{w:World}(hh:aJ mu h w)(x:Nat):aJ mu {h with lo:=x} w:=⟨hh.sized,hh.blk,hh.dead,hh.inj,hh.lt⟩

theorem vI{mu:Mu}{ρ ρ':Operand->Value}(hρ: ∀x,ao mu (ρ x) (ρ' x)){op:Op}{b:Nat}(ht:touch ρ op=some b):mu b≠ .none:=by
 have ptr: ∀{x:Operand},(match ρ x with| .pointer (some a)=>some a.block|_=>none)=some b->mu b≠ .none:=by
  intro x hx
  have:=hρ x
  split at hx
  next a ha=>rw [ha]at this;cases hx;generalize ρ' x=y at this;cases this;rename_i h1;exact h1.in
  next=>cases hx
 have mp: ∀{x:Operand},(match ρ x with| .map r=>r|_=>none)=some b->mu b≠ .none:=by
  intro x hx
  have:=hρ x
  split at hx
  next r hr=>rw [hr]at this;subst hx;generalize ρ' x=y at this;cases this;rename_i h1;exact h1.in
  next=>cases hx
 have sl: ∀{x:Operand},(match ρ x with| .slice (some a) _ _=>some a.block|_=>none)=some b->mu b≠ .none:=by
  intro x hx
  have:=hρ x
  split at hx
  next a l c ha=>rw [ha]at this;cases hx;generalize ρ' x=y at this;cases this;rename_i h2 h1;exact h2.in
  next=>cases hx
 unfold touch at ht
 cases op<;>simp only []at ht<;>(try (cases ht;done))<;>(try exact ptr ht)<;>(try exact mp ht)<;>(try exact sl ht)
 split at ht
 next x xs hx=>
  have:=hρ x
  split at ht
  next r hr=>rw [hr]at this;subst ht;generalize ρ' x=y at this;cases this;rename_i h1;exact h1.in
  next a l c ha=>rw [ha]at this;cases ht;generalize ρ' x=y at this;cases this;rename_i h2 h1;exact h2.in
  next=>cases ht
 next=>cases ht

section
variable{E:Env}{P:Program}(ok:EOk E P){R:Rec}(hc:gQ E P R.call)(hcode:iU P R.code)

include ok hc hcode in
theorem nR{mu:Mu}{h h':Hp}{w:World}(hh:aJ mu h w)(hg:j8 mu){ρ:Operand->Value}{tmps:Array Value}(hρ: ∀x,ao mu (ρ x) (c7 tmps x)){F:FC}{dfs:List Deferred}{k:List Item}{cs:List Frame}
 {ops:Array Oper} {i:Nat} {rest:List Nat} {o:Oper} (ho:ops[i]? =some o) (hw:Region.wanted o (yielded ops tmps)=true) {quiet:Bool} {v:Value} (hl:ct E R ρ quiet o h=some (v,h')):
 ∃ mu' w' v',aJ mu' h' w'/\Ext mu h w mu' h' w'/\ao mu' v v'/\(quiet=true-> ∀b,b<h.n->h'.get b=h.get b)/\
   Steps P (lone (F.mk' tmps dfs (.inRegion ops (i::rest)::k)) cs w) (lone (F.mk' (eQ tmps o.dst v') dfs (.inRegion ops rest::k)) cs w'):=by
 cases quiet with
 | false=>
   simp only [ct,cond_false]at hl
   split at hl
   next v0 h0 hv=>
    cases hl
    obtain⟨mu',w',g1,g2,v',g3,g4⟩:=pX ok hc hcode hh hg hρ (F:=F) (dfs:=dfs) (k:=k) (cs:=cs) (rest:=rest) ho hw hv
    exact⟨mu',w',v',g1,g2,g3,(fun e=>by cases e),g4⟩
   next=>cases hl
 | true=>
   simp only [ct,cond_true]at hl
   split at hl
   next v0 h0 hv=>
    cases hb:Xv h.n h0.lo with
    |false=>rw [hb]at hl;cases hl
    | true=>
      rw [hb]at hl
      cases hl
      have hle:h.n<=h0.lo:=Xq hb
      obtain⟨mu',w',g1,g2,v',g3,g4⟩:=pX ok hc hcode (hrel_lo hh h.n) hg hρ (F:=F) (dfs:=dfs) (k:=k) (cs:=cs) (rest:=rest) ho hw hv
      have hsame: ∀b,b<h.n->h0.get b=h.get b:=fun b hb=>g2.same b hb (by omega)
      exact⟨mu',w',v',hrel_lo g1 h.lo,⟨g2.n,g2.old,g2.fresh,zQ _,fun b hb _=>hsame b hb,g2.frame,g2.ro,g2.wsize,g2.os,g2.tape,g2.output,g2.cover⟩,g3,fun _=>hsame,g4⟩
   next=>cases hl

theorem lj(t:Nat): ∀l:List Nat,memb t l=true↔t∈l
 | []=>by simp [memb]
 | x ::l=>by
   simp only [memb,Xg,List.mem_cons,lj t l]
   constructor
   . rintro(h|h)
     . exact .inl (zN h)
     . exact .inr h
   . rintro(h|h)
     . subst h;exact .inl (Xj _)
     . exact .inr h
theorem pk(t:Tmp): ∀l:List Operand,t∈tmpsOf l↔ .tmp t∈l
 | []=>by simp [tmpsOf]
 | x::l=>by
   cases x<;>simp [tmpsOf,pk t l]

theorem tG {mu:Mu} {l:Loc} {n:Nat} {tmps:Array Value} (hs:l.regs.Sized n) (hsz:tmps.size=n) (ts:List Tmp) (hr: ∀t∈ts,∀v,l.regs.get t=some v-> ∃v',tmps[t]? =some v'/\ao mu v v')
 (hg:j8 mu) (x:Operand):ao mu (l.evD ts x) (c7 tmps x):=by
 cases x with
 | tmp t=>
   simp only [Loc.evD]
   cases hm:memb t ts with
   |false=>exact .poison _
   | true=>
     simp only [cond_true,Loc.ev,c7]
     cases hv:l.regs.get t with
     | none=>
       have:n<=t:=by
        rcases zV t n with h1|h1
        . obtain⟨v,h2⟩:=Tr.get_some hs h1;rw [h2]at hv;cases hv
        . exact h1
       rw [zT,Xo (by rw [hsz];exact this)]
       exact .tuple rfl (by intro i v v' hv;simp at hv)
     | some v=>
       obtain⟨v',h1,h2⟩:=hr t ((lj t ts).1 hm) v hv
       rw [zT,h1];exact h2
 | const v=>
   simp only [Loc.evD,Loc.ev,c7]
   cases hc:cg v with
   |true=>simp only [cond_true];exact ao.const mu hc
   |false=>simp only [cond_false];exact .poison v
 | global g=>
   simp only [Loc.evD,Loc.ev,c7]
   cases hgg:Nat.blt g 16 with
   |true=>simp only [cond_true];exact .ptr (hg g (by simpa [Nat.blt_eq]using hgg))
   |false=>simp only [cond_false];exact .poison _
 |func f=>exact .fn rfl (by intro i v v' hv;simp at hv) rfl (by intro i v v' hv;simp at hv)

end
end Go.Ab

namespace Go.Ab

theorem cls_le{E:Env}(op:Op):cls E op<=5:=by
 unfold cls
 split<;>(try omega)
 . split<;>omega
 . split<;>omega

theorem ut{E:Env}{op:Op}(h:d6 op=true):cls E op=4:=by
 unfold d6 at h
 split at h
 . rfl
 . cases h
theorem o9{E:Env}{op:Op}(h:cls E op≠4)(ρ:Operand->Value)(hp:Hp):iP ρ op hp=touch ρ op:=by
 unfold iP
 cases ha:d6 op with
 |true=>exact absurd (ut ha) h
 |false=>rfl
theorem kz{E:Env}{op:Op}(h:cls E op≠3):dr op=false:=by
 cases op<;>(try rfl)
 rename_i c
 obtain⟨callee,args⟩:=c
 cases callee<;>first|rfl|(exact absurd rfl h)

structure DT(E:Env)(R:Rec)(ops:Array Oper)(q:Nat)(ps:List (Nat×Nat))(M:List Nat)(L:Nat->Loc)(H:Nat->Hp)(T:Nat->Option Nat)(X:Nat->Bool):Prop where
 bef: ∀i,BefOk ops.toList M i
 four: ∀(n:Nat) o,ops[n]? =some o->cls E o.op=4->q.testBit n=true
 owe: ∀(n:Nat) o m (i:Nat) p,ops[n]? =some o->M[n]? =some m->i<n->ops[i]? =some p->m.testBit i=false->Owe E ops.toList o p i n q ps
 step: ∀(i:Nat) o,ops[i]? =some o->qN E R ops.toList q i o (L i) (H i) (L (i+1)) (H (i+1)) (T i) (X i)
 pair: ∀{i j a b:Nat} {o p:Oper},(i,j)∈ps->ops[i]? =some o->ops[j]? =some p->dr o.op=false->dr p.op=false->T i=some a->T j=some b->a≠b
 leave: ∀{i j a:Nat} {o p:Oper},((i,j)∈ps\/(j,i)∈ps)->ops[i]? =some o->ops[j]? =some p->dr o.op=false->dr p.op=true->X j=true->er E q j p.op=false->T i=some a->(H (j+1)).get a=(H j).get a

def isW(E:Env)(X:Nat->Bool)(q:Nat)(o:Oper)(i:Nat):Prop:=X i=true/\(cls E o.op=2\/((cls E o.op=3\/cls E o.op=5)/\q.testBit i=false))
def isQ(E:Env)(X:Nat->Bool)(q:Nat)(o:Oper)(i:Nat):Prop:=X i=true/\3<=cls E o.op/\q.testBit i=true
def isR(E:Env)(X:Nat->Bool)(o:Oper)(i:Nat):Prop:=X i=false\/cls E o.op<=1

def Down(ops:Array Oper)(S:Nat->Bool):Prop:= ∀i o,ops[i]? =some o->S i=true-> ∀e∈o.after.toList,binds e=true->S e.on=true
def Ready(o:Oper)(S:Nat->Bool):Prop:= ∀e∈o.after.toList,binds e=true->S e.on=true

section
variable{E:Env}{R:Rec}{ops:Array Oper}{q:Nat}{ps:List (Nat×Nat)}{M:List Nat}{L:Nat->Loc}{H:Nat->Hp}{T:Nat->Option Nat}{X:Nat->Bool}(D:DT E R ops q ps M L H T X)
include D

theorem kinds{i:Nat}{o:Oper}(ho:ops[i]? =some o):isR E X o i\/isQ E X q o i\/isW E X q o i:=by
 cases hx:X i with
 |false=>exact .inl (.inl hx)
 | true=>
   have h5:=cls_le (E:=E) o.op
   rcases zV (cls E o.op) 2 with h|h
   . exact .inl (.inr (by omega))
   . by_cases h2:cls E o.op=2
     . exact .inr (.inr ⟨hx,.inl h2⟩)
     . cases hb:q.testBit i with
       |true=>exact .inr (.inl ⟨hx,by omega,hb⟩)
       | false=>
         have h4:cls E o.op≠4:=by intro e;have:=D.four i o ho e;rw [hb]at this;cases this
         exact .inr (.inr ⟨hx,.inr ⟨by omega,hb⟩⟩)

theorem lz{S:Nat->Bool}(hd:Down ops S): ∀(n:Nat) (o:Oper) (m i:Nat),ops[n]? =some o->M[n]? =some m->S n=true->m.testBit i=true->S i=true:=by
 intro n
 induction n using Nat.strongRecOn with
 | _ n ih=>
   intro o m i ho hm hs hb
   obtain⟨m',h1,h2,h3⟩:=D.bef n o (by rw [zO];exact ho)
   rw [hm]at h1;cases h1
   obtain⟨e,he,hbe,x⟩:=h3 i hb
   have hse:=hd n o ho hs e he hbe
   rcases x with rfl|⟨m2,hm2,hb2⟩
   . exact hse
   . have hlt:=h2 e he hbe
     have hn:n<ops.size:=(Array.getElem?_eq_some_iff.1 ho).1
     exact ih e.on hlt ops[e.on] m2 i (zM (by omega)) hm2 hse hb2
theorem mw{S:Nat->Bool}(hd:Down ops S){n:Nat}{o:Oper}{m i:Nat}(ho:ops[n]? =some o)(hm:M[n]? =some m)(hr:Ready o S)(hb:m.testBit i=true):S i=true:=by
 obtain⟨m',h1,h2,h3⟩:=D.bef n o (by rw [zO];exact ho)
 rw [hm]at h1;cases h1
 obtain⟨e,he,hbe,x⟩:=h3 i hb
 have hse:=hr e he hbe
 rcases x with rfl|⟨m2,hm2,hb2⟩
 . exact hse
 . have hlt:=h2 e he hbe
   have hn:n<ops.size:=(Array.getElem?_eq_some_iff.1 ho).1
   exact lz D hd e.on ops[e.on] m2 i (zM (by omega)) hm2 hse hb2
theorem mask{n:Nat}{o:Oper}(ho:ops[n]? =some o): ∃m,M[n]? =some m:=by
 obtain⟨m',h1,_⟩:=D.bef n o (by rw [zO];exact ho)
 exact⟨m',h1⟩

theorem cmp{n i:Nat}{o p:Oper}{m:Nat}(ho:ops[n]? =some o)(hm:M[n]? =some m)(hi:i<n)(hp:ops[i]? =some p)
 (h:(isW E X q p i/\(isW E X q o n\/isQ E X q o n))\/(isQ E X q p i/\isW E X q o n/\d6 p.op=false)):m.testBit i=true:=by
 cases hb:m.testBit i with
 |true=>rfl
 | false=>
   exfalso
   obtain⟨_,hw⟩:=D.owe n o m i p ho hm hi hp hb
   have key: ∀{x y:Oper} {a b:Nat},isW E X q x a->(isW E X q y b\/isQ E X q y b)->cls E x.op≠0/\cls E x.op≠1/\cls E y.op≠0/\cls E y.op≠1:=by
    intro x y a b hx hy
    obtain⟨_,hx⟩:=hx
    rcases hy with⟨_,hy⟩|⟨_,hy,_⟩<;>(refine⟨?_,?_,?_,?_⟩<;>omega)
   rcases h with⟨h1,h2⟩|⟨h1,h2,hna⟩
   . obtain⟨k1,k2,k3,k4⟩:=key h1 h2
     rcases hw with h|h|⟨h,_⟩|⟨_,h,_⟩|⟨h,_⟩|⟨_,h,_⟩|⟨h,_⟩|⟨a,b,c,d⟩|⟨_,h,_⟩|⟨h,_⟩|⟨e3,e4,_,e5,_⟩
     . exact k3 h
     . exact k1 h
     . exact k4 h
     . exact k2 h
     . exact k4 h
     . exact k2 h
     . exact k4 h
     . obtain⟨_,hx⟩:=h1
       rcases hx with hx|⟨hx,hq⟩
       . exact b hx
       . rw [c hx]at hq;cases hq
     . exact k2 h
     . exact k4 h
     . obtain⟨_,hx⟩:=h1
       omega
   . obtain⟨k1,k2,k3,k4⟩:=key h2 (.inr h1)
     rcases hw with h|h|⟨h,_⟩|⟨_,h,_⟩|⟨h,_⟩|⟨_,h,_⟩|⟨h,_⟩|⟨a,b,c,d⟩|⟨_,h,_⟩|⟨h,_⟩|⟨e3,e4,_,e5,_⟩
     . exact k1 h
     . exact k3 h
     . exact k2 h
     . exact k4 h
     . exact k2 h
     . exact k4 h
     . exact k2 h
     . obtain⟨_,hx⟩:=h2
       rcases hx with hx|⟨hx,hq⟩
       . exact a hx
       . rw [d hx]at hq;cases hq
     . exact k4 h
     . exact k2 h
     . rw [hna]at e5;cases e5

theorem tq{S:Nat->Bool}(hd:Down ops S){n:Nat}{o:Oper}(ho:ops[n]? =some o)(hr:Ready o S)(hn:S n=false){t:Tmp}(ht:t∈jb ops.toList o):
 ∀(p:Nat) (op:Oper),ops[p]? =some op->op.dst=some t->(p<n↔S p=true):=by
 intro p op hop hdst
 obtain⟨m,hm⟩:=mask D ho
 obtain⟨mp,hmp⟩:=mask D hop
 have tin:t∈jb ops.toList op:=by unfold jb;rw [hdst];simp
 rcases zY p n with h|h|h
 . refine⟨fun _=>?_,fun _=>h⟩
   cases hb:m.testBit p with
   |true=>exact mw D hd ho hm hr hb
   | false=>
     exfalso
     obtain⟨ha,_⟩:=D.owe n o m p op ho hm h hop hb
     simp only [qa,hdst,zP,zZ]at ha
     have:=ha.2
     rw [(lj t _).2 ht]at this;cases this
 . subst h
   exact⟨fun h=>absurd h (Nat.lt_irrefl _),fun h=>by rw [hn]at h;cases h⟩
 . refine⟨fun h'=>absurd h' (by omega),fun hs=>?_⟩
   exfalso
   cases hb:mp.testBit n with
   |true=>have:=lz D hd p op mp n hop hmp hs hb;rw [hn]at this;cases this
   | false=>
     obtain⟨ha,_⟩:=D.owe p op mp n o hop hmp h ho hb
     simp only [qa,hdst,zP,zZ]at ha
     have:=ha.1
     rw [(lj t _).2 ht]at this;cases this
end

section
variable{E:Env}{P:Program}(ok:EOk E P){R:Rec}(hc:gQ E P R.call)(hcode:iU P R.code)
variable{ops:Array Oper}{q:Nat}{ps:List (Nat×Nat)}{M:List Nat}{L:Nat->Loc}{H:Nat->Hp}{T:Nat->Option Nat}{X:Nat->Bool}(D:DT E R ops q ps M L H T X)

def np(n:Nat)(mu0:Mu)(w0:World)(L:Nat->Loc)(H:Nat->Hp)(i:Nat):Prop:=
 ∃muT wT tmpsT,aJ muT (H i) wT/\j8 muT/\iu muT (L i).regs n tmpsT/\Ext mu0 (H 0) w0 muT (H i) wT

structure Turn(ops:Array Oper)(E:Env)(X:Nat->Bool)(q:Nat)(H:Nat->Hp)(T:Nat->Option Nat)(i:Nat)(o:Oper):Prop where
 n:(H i).n<=(H (i+1)).n
 quiet:isQ E X q o i-> ∀b,b<(H i).n->(H (i+1)).get b=(H i).get b
 still:isR E X o i->H (i+1)=H i

theorem ze{E:Env}{R:Rec}{ρ:Operand->Value}{o:Oper}{h h':Hp}{v:Value}(hcls:cls E o.op<=1){quiet:Bool}(hq:quiet=false)(hl:ct E R ρ quiet o h=some (v,h')):h'=h:=by
 subst hq
 obtain⟨f,f1,_,_⟩:=wL (E:=E) (op:=o.op) (ρ:=ρ) (by omega)
 simp only [ct,cond_false]at hl
 rw [f1 h]at hl
 cases hf:f h with
 |none=>rw [hf]at hl;cases hl
 |some u=>rw [hf]at hl;cases hl;rfl
theorem uw{E:Env}{q i:Nat}{op:Op}(hcls:cls E op<=1):er E q i op=false:=by
 unfold er
 have:Xv 3 (cls E op)=false:=by
  cases h:Xv 3 (cls E op)with
  |false=>rfl
  |true=>have:=Xq h;omega
 rw [this];simp
theorem pD{E:Env}{q i:Nat}{op:Op}(h3:3<=cls E op)(hb:q.testBit i=true):er E q i op=true:=by
 unfold er
 rw [hb,Xr h3];rfl

include ok hc hcode D in
theorem shadow{n:Nat}{mu0:Mu}{w0:World}: ∀(i:Nat),i<=ops.size->np n mu0 w0 L H 0->np n mu0 w0 L H i/\(∀j o,j<i->ops[j]? =some o->Turn ops E X q H T j o)
 |0,_,h0=>⟨h0,fun j o hj=>absurd hj (by omega)⟩
 | i + 1,hi,h0=>by
   obtain⟨⟨muT,wT,tmpsT,g1,g2,g3,g4⟩,ht⟩:=shadow i (by omega) h0
   have ho:ops[i]? =some ops[i]:=zM (by omega)
   have hs:=D.step i ops[i] ho
   suffices hx:np n mu0 w0 L H (i+1)/\Turn ops E X q H T i ops[i] by
    refine⟨hx.1,fun j o hj hoj=>?_⟩
    by_cases hji:j=i
    . subst hji;rw [ho]at hoj;cases hoj;exact hx.2
    . exact ht j o (by omega) hoj
   generalize hL:L (i+1)=L1 at hs
   generalize hH:H (i+1)=H1 at hs
   generalize hT:T i=T1 at hs
   generalize hX:X i=X1 at hs
   cases hs with
   | skip hg=>
     refine⟨⟨muT,wT,eQ tmpsT ops[i].dst undef,by rw [hH];exact g1,g2,?_,by rw [hH];exact g4⟩,⟨by rw [hH];exact zQ _,(fun⟨h,_⟩=>by rw [hX]at h;cases h),fun _=>hH⟩⟩
     rw [hL]
     have:=qW g3 ops[i].dst (v:=.tuple #[]) (v':=undef) (.tuple rfl (by intro i v v' hv;simp at hv))
     cases hd:ops[i].dst with
     |none=>rw [hd]at this;exact this
     |some d=>rw [hd]at this;exact this
   | exec hg hst=>
     rename_i v
     have hw:=uf g3 hg
     have hρ:=fun x=>tG (l:=L i) g3.sized g3.size (tmpsOf ops[i].op.operands.toList) (fun t _ v hv=>g3.get t v hv) g2 x
     obtain⟨mu',w',v',k1,k2,k3,k4,_⟩:=nR ok hc hcode g1 g2 hρ (F:=⟨0,.normal,none⟩) (dfs:=[]) (k:=[]) (cs:=[]) (rest:=[]) ho hw hst
     have le:=k2.le g1
     refine⟨⟨mu',w',eQ tmpsT ops[i].dst v',by rw [hH];exact k1,g2.mono le,?_,by rw [hH];exact Ext.trans g4 k2⟩,⟨by rw [hH];exact k2.n,?_,?_⟩⟩
     . rw [hL]
       have:=qW (g3.mono le) ops[i].dst k3
       cases hd:ops[i].dst with
       |none=>rw [hd]at this;exact this
       |some d=>rw [hd]at this;exact this
     . intro⟨_,h3,hb⟩ b hb'
       rw [hH]
       exact k4 (pD h3 hb) b hb'
     . intro hr
       rcases hr with hr|hr
       . rw [hX]at hr;cases hr
       . rw [hH];exact ze hr (uw hr) hst
end
end Go.Ab

namespace Go.Ab

theorem w_plain{E:Env}{op:Op}{ρ:Operand->Value}{h h1:Hp}{nx:c9}(hc:cls E op=2\/cls E op=5)(ha:aop E ρ h op=some (nx,h1)):(∃v,nx=.val v)\/nx=.skip:=by
 have wv: ∀{r:Option (Hp×Value)},cH r=some (nx,h1)->(∃v,nx=.val v)\/nx=.skip:=by
  intro r hr
  cases r with
  |none=>cases hr
  |some q=>obtain⟨a,b⟩:=q;cases hr;exact .inl ⟨b,rfl⟩
 have wu: ∀{r:Option Hp},fb r=some (nx,h1)->(∃v,nx=.val v)\/nx=.skip:=by
  intro r hr
  cases r with
  |none=>cases hr
  |some q=>cases hr;exact .inr rfl
 cases op
 case store=>exact wu ha
 case mapUpdate=>exact wu ha
 case insert=>exact wu ha
 case mapEntry=>exact wv ha
 case entryStore=>exact wu ha
 case call c=>
  cases hcc:c.callee with
  |value f=>simp [cls,hcc]at hc
  |invoke r n=>simp [cls,hcc]at hc
  | builtin bi=>
    cases bi<;>(try (simp [cls,hcc]at hc;done))
    case append=>
     simp only [aop,hcc]at ha
     split at ha
     next=>exact wv ha
     next=>cases ha
    case copy=>
     simp only [aop,hcc]at ha
     split at ha
     next=>exact wv ha
     next=>cases ha
    case delete=>
     simp only [aop,hcc]at ha
     split at ha
     next=>
      split at ha
      next=>cases ha
      next=>cases ha;exact .inl ⟨_,rfl⟩
     next=>cases ha
 case convert src dst x=>
  exfalso
  unfold cls at hc
  simp only []at hc
  split at hc<;>omega
 all_goals first
  |(exfalso;simp [cls]at hc;done)
  |(exfalso;unfold cls at hc;simp only []at hc;split at hc<;>simp at hc;done)
theorem stepD_w{E:Env}{R:Rec}{ρ:Operand->Value}{o:Oper}{h h':Hp}{v:Value}(hcls:cls E o.op=2\/cls E o.op=5)(hl:ct E R ρ false o h=some (v,h')): ∃nx,aop E ρ h o.op=some (nx,h'):=by
 simp only [ct,cond_false]at hl
 cases ha:aop E ρ h o.op with
 |none=>rw [ha]at hl;cases hl
 | some p=>
   obtain⟨nx,h1⟩:=p
   rw [ha]at hl
   rcases w_plain hcls ha with⟨u,rfl⟩|rfl
   . cases hl;exact⟨_,rfl⟩
   . cases hl;exact⟨_,rfl⟩
theorem wrapR_inj{h:Hp}{a b:Option Value}(e:bS h a=bS h b):a=b:=by
 cases a<;>cases b<;>simp [bS]at e⊢
 exact e

section
variable{E:Env}{R:Rec}{ops:Array Oper}{q:Nat}{ps:List (Nat×Nat)}{M:List Nat}{L:Nat->Loc}{H:Nat->Hp}{T:Nat->Option Nat}{X:Nat->Bool}(D:DT E R ops q ps M L H T X)

theorem rZ{i:Nat}{o:Oper}(hw:isW E X q o i):er E q i o.op=false:=by
 unfold er
 rcases hw.2 with h|⟨_,h⟩
 . rw [h,show Xv 3 2=false from rfl];simp
 . rw [h];simp

theorem dY (cZ: ∀j o,j<ops.size->ops[j]? =some o->Turn ops E X q H T j o) {i j:Nat} (hij:i<=j) (hj:j<=ops.size):(H i).n<=(H j).n:=by
 induction j with
 | zero => have:i=0:=by omega
           subst this;exact zQ _
 | succ j ih=>
   by_cases e:i=j+1
   . subst e;exact zQ _
   . exact Xb (ih (by omega) (by omega)) (cZ j ops[j] (by omega) (zM (by omega))).n

theorem walk_eq{α:Type}(φ:Nat->α){a:Nat}: ∀(d:Nat),(∀j,a<=j->j<a+d->φ (j+1)=φ j)->φ (a+d)=φ a
 |0,_=>rfl
 | d+1,h=>by
   have h1:=h (a+d) (by omega) (by omega)
   have h2:=walk_eq φ d (fun j hj hj'=>h j hj (by omega))
   rw [<-h2,<-h1];rfl

include D in
theorem w_leaves(sized: ∀j,j<=ops.size->(H j).t.Sized (H j).n){p j:Nat}{o oj:Oper}(ho:ops[p]? =some o)(hoj:ops[j]? =some oj)(hw:isW E X q oj j)(hcls:cls E o.op<=1){ρ:Operand->Value}(hT:T p=touch ρ o.op)
 (hu:(p<j/\Owe E ops.toList oj o p j q ps)\/(j<p/\Owe E ops.toList o oj j p q ps)) (hlt: ∀b,touch ρ o.op=some b->b<(H j).n)
 {f:Hp->Option Value} (f1: ∀h,aop E ρ h o.op=bS h (f h)) (f2:cls E o.op=0-> ∀h h2,f h=f h2) (f3: ∀h h2,(∀b,touch ρ o.op=some b->h2.get b=h.get b)->f h=f h2):
 f (H (j+1))=f (H j):=by
 have hp:=(Array.getElem?_eq_some_iff.1 ho).1
 have hjs:=(Array.getElem?_eq_some_iff.1 hoj).1
 by_cases h0:cls E o.op=0
 . exact f2 h0 _ _
 have h1:cls E o.op=1:=by omega
 -- what the writer's step is
 have hs:=D.step j oj hoj
 generalize hL:L (j+1)=L1 at hs
 generalize hH:H (j+1)=H1 at hs
 generalize hTj:T j=T1 at hs
 generalize hX:X j=X1 at hs
 cases hs with
 |skip hg=>exact absurd hw.1 (by rw [hX];simp)
 | exec hg hst=>
   rw [rZ hw]at hst
   have pairCase:((p,j)∈ps\/(j,p)∈ps)->(cls E oj.op=2\/cls E oj.op=5)->f H1=f (H j):=by
    intro hm hc2
    obtain⟨nx,ha⟩:=stepD_w hc2 hst
    refine(f3 _ _ fun b hb=>?_).symm
    refine w_only (sized j (by omega)) hc2 ha b (hlt b hb) ?_
    intro e
    rcases hm with hm|hm
    . exact D.pair hm ho hoj (kz (E:=E) (by omega)) (kz (E:=E) (by omega)) (hT.trans hb) ((hTj.trans (o9 (E:=E) (by omega) _ _)).trans e) rfl
    . exact D.pair hm hoj ho (kz (E:=E) (by omega)) (kz (E:=E) (by omega)) ((hTj.trans (o9 (E:=E) (by omega) _ _)).trans e) (hT.trans hb) rfl
   have runCase:((p,j)∈ps\/(j,p)∈ps)->dr oj.op=true->f H1=f (H j):=by
    intro hm hr
    refine(f3 _ _ fun b hb=>?_).symm
    rw [<-hH]
    exact D.leave hm ho hoj (kz (E:=E) (by omega)) hr hX (rZ hw) (hT.trans hb)
   have lookCase:jc oj.op o.op=true->f H1=f (H j):=by
    intro hle
    unfold jc at hle
    split at hle
    next t m k t' m' k' okb e1 e2=>
     simp only [zP,zZ]at hle
     have htt:t=t':=zN hle.2
     have hok:okb=false:=hle.1
     subst htt
     subst hok
     obtain⟨nx,ha⟩:=stepD_w (.inl (by rw [e1];rfl)) hst
     have hf: ∀h,f h=dq E h t (ρ m') (ρ k') false:=by
      intro h
      have:=f1 h
      rw [e2]at this
      exact wrapR_inj this.symm
     rw [e1]at ha
     rw [hf,hf]
     exact look_ent ha _ _
    next=>cases hle
   have hw2:=hw.2
   rcases hu with⟨hlt',hu⟩|⟨hlt',hu⟩
   . rcases hu.2 with h|h|⟨h,_⟩|⟨h,_,h'⟩|⟨h,_⟩|⟨h,_,h'⟩|⟨h,_⟩|⟨a,b,c,d⟩|⟨_,_,hr,h'⟩|⟨h,_,hr,h'⟩|⟨_,h,_⟩
     . omega
     . omega
     . omega
     . rcases h' with h'|h'
       . exact lookCase h'
       . exact pairCase (.inl h') (.inl h)
     . omega
     . exact pairCase (.inl h') (.inr h)
     . omega
     . rcases hw2 with hx|⟨hx,hq⟩
       . exact absurd hx a
       . rw [d hx]at hq;cases hq
     . exact runCase (.inl h') hr
     . omega
     . omega
   . rcases hu.2 with h|h|⟨_,h⟩|⟨h,_⟩|⟨_,h,h'⟩|⟨h,_⟩|⟨_,h,h'⟩|⟨a,b,c,d⟩|⟨_,h,hr,h'⟩|⟨_,_,hr,h'⟩|⟨h,_⟩
     . omega
     . omega
     . omega
     . omega
     . rcases h' with h'|h'
       . exact lookCase h'
       . exact pairCase (.inr h') (.inl h)
     . omega
     . exact pairCase (.inr h') (.inr h)
     . rcases hw2 with hx|⟨hx,hq⟩
       . exact absurd hx b
       . rw [c hx]at hq;cases hq
     . omega
     . exact runCase (.inr h') hr
     . omega
end
end Go.Ab

namespace Go.Ab

structure WExt(mu0:Mu)(h0:Hp)(w0:World)(mu:Mu)(w:World):Prop where
 old: ∀b,b<h0.n->mu b=mu0 b\/(mu0 b≠ .none/\mu b=.dead)
 fresh: ∀b c base top,h0.n<=b->mu b=.blk c base top->w0.heap.size<=c\/ ∃b0 base0 top0,b0<h0.n/\mu0 b0=.blk c base0 top0/\mu b0=.dead
 frame: ∀c,c<w0.heap.size->(∀b base top,mu0 b≠ .blk c base top)->w.heap[c]? =w0.heap[c]?
 ro: ∀b c base top t sz el,mu0 b=.blk c base top->h0.get b=some (.cells t sz el 0)->w.heap[c]? =w0.heap[c]? /\mu b=mu0 b
 wsize:w0.heap.size<=w.heap.size
 os:w.os=w0.os
 tape:w.tape=w0.tape
 output:w.output=w0.output

theorem WExt.refl{mu:Mu}{h:Hp}{w:World}(hh:aJ mu h w):WExt mu h w mu w:=
 ⟨fun _ _=>.inl rfl,fun b c base top hb hm=>absurd (hh.lt b (by rw [hm];simp)) (by omega),fun _ _ _=>rfl,fun _ _ _ _ _ _ _ _ _=>⟨rfl,rfl⟩,zQ _,rfl,rfl,rfl⟩

theorem WExt.step{mu0 mu mu1 mu2:Mu}{h0 ha hz:Hp}{w0 w w':World}(W:WExt mu0 h0 w0 mu w)(lt0: ∀b,mu0 b≠ .none->b<h0.n)(na:h0.n<=ha.n)(e:Ext (cut mu ha.n) ha w mu1 hz w')
 (hro: ∀b c base top t sz el,mu0 b=.blk c base top->h0.get b=some (.cells t sz el 0)->ha.get b=some (.cells t sz el 0)) (lo2: ∀b,b<hz.n->mu2 b=mu1 b) (hi2: ∀b,hz.n<=b->mu2 b=mu b):WExt mu0 h0 w0 mu2 w':=by
 have hn:=e.n
 have hdead: ∀b0,b0<h0.n->mu b0=.dead->mu2 b0=.dead:=by
  intro b0 hb0 hd
  rw [lo2 b0 (by omega)]
  rcases e.old b0 (by omega)with x|⟨_,x⟩
  . rw [x,dJ (by omega)];exact hd
  . exact x
 have hno: ∀c,c<w0.heap.size->(∀b base top,mu0 b≠ .blk c base top)-> ∀b base top,cut mu ha.n b≠ .blk c base top:=by
  intro c hc hn0 b base top hm
  by_cases hb:b<ha.n
  . rw [dJ hb]at hm
    by_cases hb0:b<h0.n
    . rcases W.old b hb0 with x|⟨_,x⟩
      . exact hn0 b base top (by rw [<-x];exact hm)
      . rw [x]at hm;cases hm
    . rcases W.fresh b c base top (by omega) hm with x|⟨b0,base0,top0,_,x,_⟩
      . omega
      . exact hn0 b0 base0 top0 x
  . rw [mg (by omega)]at hm;cases hm
 refine⟨?_,?_,?_,?_,Xb W.wsize e.wsize,e.os.trans W.os,e.tape.trans W.tape,e.output.trans W.output⟩
 . intro b hb
   rw [lo2 b (by omega)]
   rcases e.old b (by omega)with x|⟨x,y⟩
   . rw [x,dJ (by omega)];exact W.old b hb
   . rw [dJ (by omega)]at x
     rcases W.old b hb with z|⟨z,_⟩
     . exact .inr ⟨by rw [<-z];exact x,y⟩
     . exact .inr ⟨z,y⟩
 . intro b c base top hb hm
   have out: ∀b1 base1 top1,mu b1=.blk c base1 top1->b1<ha.n->mu1 b1=.dead->w0.heap.size<=c\/ ∃b0 base0 top0,b0<h0.n/\mu0 b0=.blk c base0 top0/\mu2 b0=.dead:=by
    intro b1 base1 top1 h1 h2 h3
    by_cases hb1:b1<h0.n
    . rcases W.old b1 hb1 with x|⟨_,x⟩
      . exact .inr ⟨b1,base1,top1,hb1,by rw [<-x];exact h1,by rw [lo2 b1 (by omega)];exact h3⟩
      . rw [x]at h1;cases h1
    . rcases W.fresh b1 c base1 top1 (by omega) h1 with x|⟨b0,base0,top0,y1,y2,y3⟩
      . exact .inl x
      . exact .inr ⟨b0,base0,top0,y1,y2,hdead b0 y1 y3⟩
   have keep:mu b=.blk c base top->w0.heap.size<=c\/ ∃b0 base0 top0,b0<h0.n/\mu0 b0=.blk c base0 top0/\mu2 b0=.dead:=by
    intro hmb
    rcases W.fresh b c base top hb hmb with x|⟨b0,base0,top0,y1,y2,y3⟩
    . exact .inl x
    . exact .inr ⟨b0,base0,top0,y1,y2,hdead b0 y1 y3⟩
   by_cases hbb:b<hz.n
   . rw [lo2 b hbb]at hm
     by_cases hba:b<ha.n
     . rcases e.old b hba with x|⟨_,x⟩
       . rw [x,dJ hba]at hm;exact keep hm
       . rw [x]at hm;cases hm
     . rcases e.fresh b c base top (by omega) hm with x|⟨b1,base1,top1,y1,y2,y3⟩
       . exact .inl (Xb W.wsize x)
       . rw [dJ y1]at y2
         exact out b1 base1 top1 y2 y1 y3
   . exact keep (by rw [<-hi2 b (by omega)];exact hm)
 . intro c hc hn0
   rw [<-W.frame c hc hn0]
   exact e.frame c (by have:=W.wsize;omega) (hno c hc hn0)
 . intro b c base top t sz el hm hg
   have hb:=lt0 b (by rw [hm];simp)
   obtain⟨r1,r2⟩:=W.ro b c base top t sz el hm hg
   obtain⟨s1,_,s3⟩:=e.ro b c base top t sz el (by rw [dJ (by omega),r2];exact hm) (hro b c base top t sz el hm hg)
   exact⟨s1.trans r1,by rw [lo2 b (by omega),s3,dJ (by omega)];exact r2⟩
end Go.Ab

namespace Go.Ab

section
variable(E:Env)(ops:Array Oper)(q:Nat)(L:Nat->Loc)(H:Nat->Hp)(X:Nat->Bool)(nr:Nat)(mu0:Mu)(w0:World)

def AtC(S:Nat->Bool)(c:Nat):Prop:=c<=ops.size/\(c=ops.size\/ ∃o,ops[c]? =some o/\isW E X q o c/\S c=false)/\ ∀(i:Nat) o,i<c->ops[i]? =some o->isW E X q o i->S i=true
def RegsAt(S:Nat->Bool)(mu:Mu)(tmps:Array Value):Prop:= ∀(i:Nat),i<=ops.size-> ∀(t:Tmp) v,(∀(p:Nat) (o:Oper),ops[p]? =some o->o.dst=some t->(p<i↔S p=true))->
 (L i).regs.get t=some v-> ∃v',tmps[t]? =some v'/\ao mu v v'
structure Inv(S:Nat->Bool)(mu:Mu)(w:World)(tmps:Array Value):Prop where
 c: ∃c,AtC E ops q X S c/\aJ mu (H c) w
 glob:j8 mu
 non: ∀p,p<ops.size->S p=false-> ∀b,(H p).n<=b->b<(H (p+1)).n->mu b=.none
 size:tmps.size=nr
 regs:RegsAt ops L S mu tmps
 ext:WExt mu0 (H 0) w0 mu w
 cov: ∀p,p<ops.size->S p=true-> ∀b,(H p).n<=b->b<(H (p+1)).n->mu b≠ .none
end

def kZ(S:Nat->Bool)(p:Nat):Nat->Bool:=fun i=>if i=p then true else S i
theorem gu(S:Nat->Bool)(p:Nat):kZ S p p=true:=by simp [kZ]
theorem bE(S:Nat->Bool){p i:Nat}(h:i≠p):kZ S p i=S i:=by simp [kZ,h]

section
variable{E:Env}{R:Rec}{ops:Array Oper}{q:Nat}{ps:List (Nat×Nat)}{M:List Nat}{L:Nat->Loc}{H:Nat->Hp}{T:Nat->Option Nat}{X:Nat->Bool}(D:DT E R ops q ps M L H T X)

theorem oW{l:Loc}{d:Option Tmp}{v:Value}{t:Tmp}(h:d≠some t):(l.put d v).regs.get t=l.regs.get t:=by
 cases d with
 |none=>rfl
 | some d=>
   show(l.regs.set d v).get t=_
   rw [Tr.get_set,if_neg (fun e=>h (by rw [e.1]))]
include D in
theorem ss{j:Nat}{o:Oper}(ho:ops[j]? =some o){t:Tmp}(h:o.dst≠some t):(L (j+1)).regs.get t=(L j).regs.get t:=by
 have hs:=D.step j o ho
 generalize L (j+1)=L1 at hs
 generalize H (j+1)=H1 at hs
 generalize T j=T1 at hs
 generalize X j=X1 at hs
 cases hs with
 |skip hg=>exact oW h
 |exec hg hst=>exact oW h

include D in
theorem mj{S:Nat->Bool}{mu mu2:Mu}{tmps:Array Value}{nr:Nat}(hd:Down ops S){p:Nat}{o:Oper}(ho:ops[p]? =some o)(hr:Ready o S)(hp:S p=false)(le:Le mu mu2)(hsz:tmps.size=nr)(hsd:(L p).regs.Sized nr)
 {v v':Value} (hv:ao mu2 v v') (hL:L (p+1)=(L p).put o.dst v) (hregs:RegsAt ops L S mu tmps):RegsAt ops L (kZ S p) mu2 (eQ tmps o.dst v'):=by
 intro i hi t u hcond hu
 by_cases ht:o.dst=some t
 . have hpi:p<i:=(hcond p o ho ht).2 (gu S p)
   have hnames:t∈jb ops.toList o:=by unfold jb;rw [ht];simp
   have hnc:=tq D hd ho hr hp hnames
   have hwalk:(L i).regs.get t=(L (p+1)).regs.get t:=by
    have:=walk_eq (fun j=>(L j).regs.get t) (a:=p+1) (i-(p+1)) (fun j h1 h2=>by
     have hj:j<i:=by omega
     have hoj:ops[j]? =some ops[j]:=zM (by omega)
     by_cases hdj:ops[j].dst=some t
     . have h3:=(hcond j _ hoj hdj).1 hj
       rw [bE S (by omega)]at h3
       have:=(hnc j _ hoj hdj).2 h3
       omega
     . exact ss D hoj hdj)
    rw [show p+1+(i-(p+1))=i by omega]at this
    exact this
   rw [hwalk,hL,ht]at hu
   have hu':((L p).regs.set t v).get t=some u:=hu
   rw [Tr.get_set]at hu'
   cases hg:(L p).regs.get t with
   |none=>rw [hg]at hu';simp at hu'
   | some u0=>
     rw [hg]at hu'
     simp at hu'
     subst hu'
     have:t<tmps.size:=by rw [hsz];exact(hsd t).1 (by rw [hg];rfl)
     rw [ht]
     exact⟨v',by simp [eQ,this],hv⟩
 . obtain⟨u',h1,h2⟩:=hregs i hi t u (fun j oj hoj hdj=>by
    have hjp:j≠p:=by intro e;subst e;rw [ho]at hoj;cases hoj;exact ht hdj
    have:=hcond j oj hoj hdj
    rwa [bE S hjp]at this) hu
   refine⟨u',?_,h2.mono le⟩
   cases hdd:o.dst with
   |none=>exact h1
   | some d=>
     show(tmps.setIfInBounds d v')[t]? =_
     rw [Xh,if_neg (by intro e;subst e;exact ht hdd)]
     exact h1

theorem mr(tmps:Array Value)(d:Option Tmp)(v:Value):(eQ tmps d v).size=tmps.size:=by cases d<;>simp [eQ]
end
end Go.Ab

namespace Go.Ab

theorem next_W{E:Env}{ops:Array Oper}{q:Nat}{X:Nat->Bool}: ∀(d c:Nat),c+d=ops.size-> ∃c',c<=c'/\c'<=ops.size/\(c'=ops.size\/ ∃o,ops[c']? =some o/\isW E X q o c')/\ ∀i o,c<=i->i<c'->ops[i]? =some o-> ¬isW E X q o i
 |0,c,h=>⟨c,zQ _,by omega,.inl (by omega),fun i o h1 h2=>by omega⟩
 | d +1,c,h=>by
   obtain⟨oc,ho⟩: ∃oc,ops[c]? =some oc:=⟨_,zM (xs:=ops) (i:=c) (by omega)⟩
   by_cases hw:isW E X q oc c
   . exact⟨c,zQ _,by omega,.inr ⟨_,ho,hw⟩,fun i o h1 h2=>by omega⟩
   . obtain⟨c',h1,h2,h3,h4⟩:=next_W (E:=E) (ops:=ops) (q:=q) (X:=X) d (c+1) (by omega)
     refine⟨c',by omega,h2,h3,fun i o hi hi' hoi=>?_⟩
     by_cases hic:i=c
     . subst hic;rw [ho]at hoi;cases hoi;exact hw
     . exact h4 i o (by omega) hi' hoi

section
variable{E:Env}{P:Program}(ok:EOk E P){R:Rec}(hc:gQ E P R.call)(hcode:iU P R.code)
variable{ops:Array Oper}{q:Nat}{ps:List (Nat×Nat)}{M:List Nat}{L:Nat->Loc}{H:Nat->Hp}{T:Nat->Option Nat}{X:Nat->Bool}(D:DT E R ops q ps M L H T X)
variable{nr:Nat}{mu0:Mu}{w0:World}

theorem stand(cZ: ∀j o,j<ops.size->ops[j]? =some o->Turn ops E X q H T j o){a c:Nat}(hac:a<=c)(hcn:c<=ops.size)
 (hno: ∀j o,a<=j->j<c->ops[j]? =some o->isR E X o j\/isQ E X q o j) {b:Nat} (hb:b<(H a).n):(H c).get b=(H a).get b:=by
 have:=walk_eq (fun j=>(H j).get b) (a:=a) (c-a) (fun j h1 h2=>by
  have hoj:ops[j]? =some ops[j]:=zM (by omega)
  have tj:=cZ j _ (by omega) hoj
  rcases hno j _ h1 (by omega) hoj with h|h
  . show(H (j+1)).get b=(H j).get b
    rw [tj.still h]
  . exact tj.quiet h b (zW hb (dY cZ h1 (by omega))))
 rw [show a+(c-a)=c by omega]at this
 exact this

include D in
theorem after_c{S:Nat->Bool}(hd:Down ops S){c:Nat}(hC:AtC E ops q X S c){i:Nat}{o:Oper}(hi:c<=i)(ho:ops[i]? =some o)(hw:isW E X q o i\/isQ E X q o i)(hcq:isQ E X q o i->c≠i):S i=false:=by
 have hin:=(Array.getElem?_eq_some_iff.1 ho).1
 rcases hC.2.1 with e|⟨oc,hoc,hwc,hsc⟩
 . omega
 . by_cases hci:c=i
   . subst hci;exact hsc
   . cases hs:S i with
     |false=>rfl
     | true=>
       obtain⟨m,hm⟩:=mask D ho
       have:=lz D hd i o m c ho hm hs (cmp D ho hm (by omega) hoc (.inl ⟨hwc,hw⟩))
       rw [hsc]at this;cases this

include D in
theorem read_at(cZ: ∀j o,j<ops.size->ops[j]? =some o->Turn ops E X q H T j o)(sized: ∀j,j<=ops.size->(H j).t.Sized (H j).n){S:Nat->Bool}(hd:Down ops S){c:Nat}(hC:AtC E ops q X S c)
 {p:Nat} {o:Oper} (ho:ops[p]? =some o) (hr:Ready o S) (hp:S p=false) (hcls:cls E o.op<=1) {ρ:Operand->Value} (hT:T p=touch ρ o.op)
 (hlt1: ∀b,touch ρ o.op=some b->b<(H p).n) (hlt2: ∀b,touch ρ o.op=some b->b<(H c).n)
 {f:Hp->Option Value} (f1: ∀h,aop E ρ h o.op=bS h (f h)) (f2:cls E o.op=0-> ∀h h2,f h=f h2) (f3: ∀h h2,(∀b,touch ρ o.op=some b->h2.get b=h.get b)->f h=f h2):
 f (H c)=f (H p):=by
 have hpn:=(Array.getElem?_eq_some_iff.1 ho).1
 have hcn:=hC.1
 have one: ∀j,j<ops.size->(∀b,touch ρ o.op=some b->b<(H j).n)->(∀oj,ops[j]? =some oj->isW E X q oj j->(p<j/\S j=true)\/(j<p/\S j=false))->f (H (j+1))=f (H j):=by
  intro j hj hlt hWj
  have hoj:ops[j]? =some ops[j]:=zM hj
  have tj:=cZ j _ hj hoj
  rcases kinds D hoj with h|h|h
  . rw [tj.still h]
  . exact(f3 _ _ fun b hb=>tj.quiet h b (hlt b hb)).symm
  . refine w_leaves D sized ho hoj h hcls hT ?_ hlt f1 f2 f3
    rcases hWj _ hoj h with⟨h1,h2⟩|⟨h1,h2⟩
    . obtain⟨m,hm⟩:=mask D hoj
      refine .inl ⟨h1,D.owe j _ m p o hoj hm h1 ho ?_⟩
      cases hb:m.testBit p with
      |false=>rfl
      |true=>have:=lz D hd j _ m p hoj hm h2 hb;rw [hp]at this;cases this
    . obtain⟨m,hm⟩:=mask D ho
      refine .inr ⟨h1,D.owe p o m j _ ho hm h1 hoj ?_⟩
      cases hb:m.testBit j with
      |false=>rfl
      |true=>have:=mw D hd ho hm hr hb;rw [h2]at this;cases this
 rcases Nat.le_total p c with hpc|hpc
 . have:=walk_eq (fun j=>f (H j)) (a:=p) (c-p) (fun j h1 h2=>one j (by omega) (fun b hb=>zW (hlt1 b hb) (dY cZ h1 (by omega))) (fun oj hoj hw=>by
    have hjp:p≠j:=by intro e;subst e;rw [ho]at hoj;cases hoj;rcases hw.2 with x|⟨x,_⟩<;>omega
    exact .inl ⟨by omega,hC.2.2 j oj (by omega) hoj hw⟩))
   rw [show p+(c-p)=c by omega]at this
   exact this
 . have:=walk_eq (fun j=>f (H j)) (a:=c) (p-c) (fun j h1 h2=>one j (by omega) (fun b hb=>zW (hlt2 b hb) (dY cZ h1 (by omega))) (fun oj hoj hw=>
    .inr ⟨by omega,after_c D hd hC h1 hoj (.inl hw) (fun hq=>by
     intro _;have:=hw.2;have:=hq.2.2;rcases hw.2 with x|⟨_,x⟩
     . have:=hq.2.1;omega
     . rw [x]at this;cases this)⟩))
   rw [show c+(p-c)=p by omega]at this
   exact this.symm
end
end Go.Ab

namespace Go.Ab
section
variable{E:Env}{P:Program}(ok:EOk E P){R:Rec}(hc:gQ E P R.call)(hcode:iU P R.code)
variable{ops:Array Oper}{q:Nat}{ps:List (Nat×Nat)}{M:List Nat}{L:Nat->Loc}{H:Nat->Hp}{T:Nat->Option Nat}{X:Nat->Bool}(D:DT E R ops q ps M L H T X)
variable{nr:Nat}{mu0:Mu}{w0:World}

theorem xx{mu:Mu}{n:Nat}(h: ∀b,mu b≠ .none->b<n):cut mu n=mu:=by
 funext b
 by_cases hb:b<n
 . exact dJ hb
 . rw [mg (by omega)]
   cases hm:mu b with
   |none=>rfl
   |dead=>exact absurd (h b (by rw [hm];simp)) hb
   |blk c base top=>exact absurd (h b (by rw [hm];simp)) hb

theorem qO{S:Nat->Bool}{c p:Nat}(h:AtC E ops q X S c)(hp:p≠c):AtC E ops q X (kZ S p) c:=by
 refine⟨h.1,h.2.1.imp id fun⟨o,a,b,e⟩=>⟨o,a,b,by rw [bE S (Ne.symm hp)];exact e⟩,fun i o hi ho hw=>?_⟩
 by_cases hip:i=p
 . subst hip;exact gu S i
 . rw [bE S hip];exact h.2.2 i o hi ho hw

theorem tg{mu:Mu}{h h2:Hp}{w:World}(hh:aJ mu h w)(hs:h2.t.Sized h2.n)(hn:h.n<=h2.n)(hg: ∀b,b<h.n->h2.get b=h.get b):aJ mu h2 w:=by
 refine⟨hs,fun b c base top hm=>?_,fun b hm=>?_,hh.inj,fun b hm=>zW (hh.lt b hm) hn⟩
 . obtain⟨x,o,h1,h2',h3⟩:=hh.blk b c base top hm
   exact⟨x,o,by rw [hg b (hh.lt b (by rw [hm];simp))];exact h1,h2',h3⟩
 . rw [hg b (hh.lt b (by rw [hm];simp))];exact hh.dead b hm

theorem iu.cut{mu muT:Mu}{n:Nat}(hn: ∀b,muT b≠ .none->b<n){t:Tr Value}{m:Nat}{ts tsT:Array Value}(h:iu mu t m ts)(hT:iu muT t m tsT):iu (cut mu n) t m ts:=by
 refine⟨h.size,h.sized,fun i v hv=>?_⟩
 obtain⟨v',a,b⟩:=h.get i v hv
 obtain⟨vT,_,c⟩:=hT.get i v hv
 exact⟨v',a,ao.cut hn c b⟩
theorem kc.cut{mu muT:Mu}{n:Nat}(hn: ∀b,muT b≠ .none->b<n){x:Blk}{base top baseT topT:Nat}{o oT:Obj}(h:kc mu x base top o)(hT:kc muT x baseT topT oT):kc (cut mu n) x base top o:=by
 cases x with
 |dead=>exact h
 | cells t sz el md=>
   obtain⟨cs,el',fz,e,r⟩:=h
   obtain⟨csT,elT,fzT,eT,rT⟩:=hT
   refine⟨cs,el',fz,e,r.whole,r.fits,r.sized,fun i v hv=>?_,r.free⟩
   obtain⟨v',a,b⟩:=r.get i v hv
   obtain⟨vT,_,c⟩:=rT.get i v hv
   exact⟨v',a,ao.cut hn c b⟩
 | map es c=>
   obtain⟨e0,es',e,r⟩:=h
   obtain⟨_,esT,eT,rT⟩:=hT
   refine⟨e0,es',e,r.1,fun i v v' hv hv'=>?_⟩
   obtain⟨a1,a2,a3,a4⟩:=r.2 i v v' hv hv'
   obtain⟨vT,b1,b2⟩:=rT.get hv
   exact⟨a1,a2,ao.cut hn b2.2.2.1 a3,a4⟩
 | loop l=>
   obtain⟨e0,l',e,r⟩:=h
   obtain⟨_,lT,eT,rT⟩:=hT
   exact⟨e0,l',e,r.fn,r.regs.cut hn rT.regs,r.params,r.assign,r.body,r.st,r.pending⟩
 |dfr=>exact h

def glue(mu1 mu:Mu)(n:Nat):Mu:=fun b=>if b<n then mu1 b else mu b
theorem ja{mu1 mu:Mu}{n b:Nat}(h:b<n):glue mu1 mu n b=mu1 b:=by simp [glue,h]
theorem jC{mu1 mu:Mu}{n b:Nat}(h:n<=b):glue mu1 mu n b=mu b:=by simp [glue,Nat.not_lt.2 h]

theorem glue_rel {mu mu1:Mu} {hc hp h1:Hp} {w w1:World} (hh:aJ mu hc w) (k1:aJ mu1 h1 w1) (k2:Ext (cut mu hp.n) hp w mu1 h1 w1)
 (non: ∀b,hp.n<=b->b<h1.n->mu b=.none) (hn:h1.n<=hc.n) (same: ∀b,b<h1.n->hc.get b=h1.get b):
 aJ (glue mu1 mu h1.n) hc w1/\Le mu (glue mu1 mu h1.n)/\Le mu1 (glue mu1 mu h1.n):=by
 have hpn:=k2.n
 have le:Le mu (glue mu1 mu h1.n):=by
  intro b hb
  by_cases h:b<h1.n
  . rw [ja h]
    by_cases h':b<hp.n
    . rcases k2.old b h' with x|⟨_,x⟩
      . left;rw [x,dJ h']
      . right;exact x
    . exact absurd (non b (by omega) h) hb
  . rw [jC (by omega)];exact .inl rfl
 have le1:Le mu1 (glue mu1 mu h1.n):=by
  intro b hb
  left
  exact ja (k1.lt b hb)
 refine⟨⟨hh.sized,fun b c base top hm=>?_,fun b hm=>?_,?_,fun b hm=>?_⟩,le,le1⟩
 . by_cases h:b<h1.n
   . rw [ja h]at hm
     obtain⟨x,o,g1,g2,g3⟩:=k1.blk b c base top hm
     exact⟨x,o,by rw [same b h];exact g1,g2,g3.mono le1⟩
   . rw [jC (by omega)]at hm
     obtain⟨x,o,g1,g2,g3⟩:=hh.blk b c base top hm
     refine⟨x,o,g1,?_,g3.mono le⟩
     rw [k2.frame c (hh.clt hm) (fun b' base' top' hb'=>?_)]
     . exact g2
     . by_cases h':b'<hp.n
       . rw [dJ h']at hb'
         have:=hh.inj b b' c base top base' top' hm hb'
         omega
       . rw [mg (by omega)]at hb';cases hb'
 . by_cases h:b<h1.n
   . rw [ja h]at hm;rw [same b h];exact k1.dead b hm
   . rw [jC (by omega)]at hm;exact hh.dead b hm
 . have one: ∀b b' c base top base' top',b<h1.n->h1.n<=b'->mu1 b=.blk c base top->mu b'=.blk c base' top'->False:=by
    intro b b' c base top base' top' h h' e1 e2
    by_cases hb:b<hp.n
    . rcases k2.old b hb with x|⟨_,x⟩
      . rw [x,dJ hb]at e1
        have:=hh.inj b b' c _ _ _ _ e1 e2
        omega
      . rw [x]at e1;cases e1
    . rcases k2.fresh b c base top (by omega) e1 with x|⟨b0,base0,top0,y1,y2,_⟩
      . have:=hh.clt e2;omega
      . rw [dJ y1]at y2
        have:=hh.inj b0 b' c _ _ _ _ y2 e2
        omega
   intro b b' c base top base' top' e1 e2
   by_cases h:b<h1.n
   . rw [ja h]at e1
     by_cases h':b'<h1.n
     . rw [ja h']at e2;exact k1.inj b b' c _ _ _ _ e1 e2
     . rw [jC (by omega)]at e2;exact(one b b' c _ _ _ _ h (by omega) e1 e2).elim
   . rw [jC (by omega)]at e1
     by_cases h':b'<h1.n
     . rw [ja h']at e2;exact(one b' b c _ _ _ _ h' (by omega) e2 e1).elim
     . rw [jC (by omega)]at e2;exact hh.inj b b' c _ _ _ _ e1 e2
 . by_cases h:b<h1.n
   . omega
   . rw [jC (by omega)]at hm;exact hh.lt b hm

structure SameAs(ops opsM:Array Oper)(σ:Nat->Nat):Prop where
 op: ∀p o,ops[p]? =some o-> ∃oM,opsM[σ p]? =some oM/\oM.op=o.op/\oM.dst=o.dst/\((o.guard=none/\oM.guard=none)\/ ∃j want,o.guard=some (j,want)/\oM.guard=some (σ j,want))
 no: ∀p,ops[p]? =none->opsM[σ p]? =none
theorem zk {mu:Mu} {ops opsM:Array Oper} {σ:Nat->Nat} (hσ:SameAs ops opsM σ) {t:Tr Value} {tmps:Array Value} {o oM:Oper} {b:Bool} (hgM:(o.guard=none/\oM.guard=none)\/ ∃j want,o.guard=some (j,want)/\oM.guard=some (σ j,want))
 (hr: ∀j want o' d,o.guard=some (j,want)->ops[j]? =some o'->o'.dst=some d-> ∀v,t.get d=some v-> ∃v',tmps[d]? =some v'/\ao mu v v')
 (hg:bR ops.toList t o=some b):Region.wanted oM (yielded opsM tmps)=b:=by
 unfold bR at hg
 unfold Region.wanted
 rcases hgM with⟨g1,g2⟩|⟨j,want,g1,g2⟩
 . rw [g1]at hg;rw [g2];cases hg;rfl
 . rw [g1]at hg
   rw [g2]
   simp only []at hg⊢
   unfold yielded
   cases hj:ops[j]? with
   |none=>rw [zO,hj]at hg;cases hg;rw [hσ.no j hj];simp [Option.bind]
   | some o'=>
     obtain⟨oj,k1,_,k3,_⟩:=hσ.op j o' hj
     rw [zO,hj]at hg
     rw [k1]
     simp only [Option.bind_some]at hg⊢
     cases hd:o'.dst with
     |none=>rw [hd]at hg;cases hg;rw [k3,hd];rfl
     | some d=>
       rw [hd]at hg
       rw [k3,hd]
       simp only [Option.bind_some]at hg⊢
       split at hg
       next b' hb=>
        obtain⟨v',h1,h2⟩:=hr j want o' d g1 hj hd _ hb
        cases h2
        rw [h1]
        cases hg
        cases b'<;>cases want<;>rfl
       next x hb=>
        obtain⟨v',h1,h2⟩:=hr j want o' d g1 hj hd _ hb
        rw [h1]
        cases hg
        cases h2
        rfl
       next=>cases hg
theorem rx{E:Env}{R:Rec}{ρ:Operand->Value}{b:Bool}{o oM:Oper}{h:Hp}(e:oM.op=o.op):ct E R ρ b oM h=ct E R ρ b o h:=by
 unfold ct;rw [e]
theorem alloc_at{mu:Mu}{h:Hp}{w w':World}(hh:aJ mu h w){b:Nat}(hn:mu b=.none)(hb:b<h.n){x:Blk}{top:Nat}{o:Obj}(hget:h.get b=some x)(hw:WNew w w' o)(hbr:kc mu x 0 top o):
 aJ (upd mu b (.blk w.heap.size 0 top)) h w'/\Le mu (upd mu b (.blk w.heap.size 0 top)):=by
 have hg: ∀j,w'.heap[j]? =if j=w.heap.size then some o else w.heap[j]? :=by
  intro j;rw [hw.heap,Xu]
 have hle:Le mu (upd mu b (.blk w.heap.size 0 top)):=by
  intro b' hb';left;exact aK _ _ (by intro e;subst e;exact hb' hn)
 refine⟨⟨hh.sized,?_,?_,?_,?_⟩,hle⟩
 . intro b' c base' top' hm
   by_cases hbn:b'=b
   . subst hbn
     rw [upd_same]at hm
     cases hm
     exact⟨x,o,hget,by rw [hg];simp,hbr.mono hle⟩
   . rw [aK _ _ hbn]at hm
     obtain⟨y,o',h1,h2,h3⟩:=hh.blk b' c base' top' hm
     have:=hh.clt hm
     exact⟨y,o',h1,by rw [hg,if_neg (by omega)];exact h2,h3.mono hle⟩
 . intro b' hm
   by_cases hbn:b'=b
   . subst hbn;rw [upd_same]at hm;cases hm
   . rw [aK _ _ hbn]at hm;exact hh.dead b' hm
 . intro b1 b2 c base1 top1 base2 top2 h1 h2
   by_cases hb1:b1=b
   . by_cases hb2:b2=b
     . rw [hb1,hb2]
     . subst hb1;rw [upd_same]at h1;rw [aK _ _ hb2]at h2
       cases h1;have:=hh.clt h2;omega
   . rw [aK _ _ hb1]at h1
     by_cases hb2:b2=b
     . subst hb2;rw [upd_same]at h2;cases h2;have:=hh.clt h1;omega
     . rw [aK _ _ hb2]at h2;exact hh.inj b1 b2 c _ _ _ _ h1 h2
 . intro b' hm
   by_cases hbn:b'=b
   . omega
   . rw [aK _ _ hbn]at hm;exact hh.lt b' hm
theorem WExt.alloc{mu0 mu:Mu}{h0:Hp}{w0 w w':World}(W:WExt mu0 h0 w0 mu w)(lt0: ∀b,mu0 b≠ .none->b<h0.n)(clt0: ∀b c base top,mu0 b=.blk c base top->c<w0.heap.size){b top:Nat}{o:Obj}(hb:h0.n<=b)(hw:WNew w w' o):WExt mu0 h0 w0 (upd mu b (.blk w.heap.size 0 top)) w':=by
 have hg: ∀j,j<w.heap.size->w'.heap[j]? =w.heap[j]? :=by
  intro j hj;rw [hw.heap,Xu,if_neg (by omega)]
 refine⟨fun b' hb'=>?_,fun b' c base top' hb' hm=>?_,fun c hc hn=>?_,fun b' c base top' t sz el hm hg'=>?_,?_,hw.os.trans W.os,hw.tape.trans W.tape,hw.output.trans W.output⟩
 . rw [aK _ _ (by omega)];exact W.old b' hb'
 . by_cases e:b'=b
   . subst e;rw [upd_same]at hm;cases hm;exact .inl W.wsize
   . rw [aK _ _ e]at hm
     rcases W.fresh b' c base top' hb' hm with x|⟨b0,base0,top0,x,y,z⟩
     . exact .inl x
     . exact .inr ⟨b0,base0,top0,x,y,by rw [aK _ _ (by omega)];exact z⟩
 . rw [hg c (zW hc W.wsize)];exact W.frame c hc hn
 . obtain⟨x,y⟩:=W.ro b' c base top' t sz el hm hg'
   have hbl:=lt0 b' (by rw [hm];simp)
   refine⟨?_,by rw [aK _ _ (by omega)];exact y⟩
   rw [<-x]
   rcases zV c w.heap.size with hc|hc
   . exact hg c hc
   . have:=clt0 _ _ _ _ hm;have:=W.wsize;omega
 . rw [hw.heap];simp;have:=W.wsize;omega
include ok in
theorem yW{mu:Mu}{h:Hp}{w:World}{b:Nat}{e:TypeId}{z:List Value}(hz:E.zero e=some z)(hh:aJ mu h w)(hn:mu b=.none)(hb:b<h.n)(hget:h.get b=some (.cells (Tr.ofList z) z.length e 1))(ρ':Operand->Value){o:Oper}(ho:o.op=.alloc e):
 ∃w' top ob,(execOp ρ' o).run P w=.ok (.value (.pointer (some ⟨w.heap.size,0,none⟩))) w'/\WNew w w' ob/\aJ (upd mu b (.blk w.heap.size 0 top)) h w'/\Le mu (upd mu b (.blk w.heap.size 0 top)):=by
 obtain⟨zv,z1,z2,z3,z4⟩:=lh ok hz w
 have hr:VL mu z zv.cells.toList:=by
  rw [z2];exact LR.refl fun a ha=>ao.const mu (by simp only [List.all_eq_true]at z4;exact z4 a ha)
 have hbr:kc mu (.cells (Tr.ofList z) z.length e 1) 0 zv.cells.size (.cells zv.cells e):=by
  refine⟨zv.cells,e,(0,0),rfl,rfl,?_,Tr.sized_ofList z,?_,?_⟩
  . have:=hr.1;simp at this;omega
  . intro i v hv
    rw [Tr.get_ofList]at hv
    obtain⟨v',h1,h2⟩:=hr.get hv
    exact⟨v',by rw [zS,<-zO];exact h1,h2⟩
  . intro _ i _ hx;omega
 obtain⟨a1,a2⟩:=alloc_at hh hn hb hget (gm w (.cells zv.cells e)) hbr
 refine⟨_,_,_,?_,gm w (.cells zv.cells e),a1,a2⟩
 obtain⟨dst,op,type,pos,after,guard⟩:=o
 simp only []at ho
 subst ho
 simp [execOp,Instr.alloc,z1,newVar,newRow]
include ok hc hcode D in
theorem inv_step (cZ: ∀j o,j<ops.size->ops[j]? =some o->Turn ops E X q H T j o) (shd: ∀i,i<=ops.size->np nr mu0 w0 L H i) (lt0: ∀b,mu0 b≠ .none->b<(H 0).n) (clt0: ∀b c base top,mu0 b=.blk c base top->c<w0.heap.size)
 {opsM:Array Oper} {σ:Nat->Nat} (hσ:SameAs ops opsM σ)
 {S:Nat->Bool} {mu:Mu} {w:World} {tmps:Array Value} (inv:Inv E ops q L H X nr mu0 w0 S mu w tmps) (hd:Down ops S) {p:Nat} {o:Oper} (ho:ops[p]? =some o) (hr:Ready o S) (hp:S p=false)
 {F:FC} {dfs:List Deferred} {k:List Item} {cs:List Frame} {rest:List Nat}:
 ∃ mu' w' tmps',Inv E ops q L H X nr mu0 w0 (kZ S p) mu' w' tmps'/\
   Steps P (lone (F.mk' tmps dfs (.inRegion opsM (σ p::rest)::k)) cs w) (lone (F.mk' tmps' dfs (.inRegion opsM rest::k)) cs w'):=by
 obtain⟨oM,hoM,e1,e2,e3⟩:=hσ.op p o ho
 have hpn:=(Array.getElem?_eq_some_iff.1 ho).1
 obtain⟨muT,wT,tmpsT,t1,t2,t3,t4⟩:=shd p (by omega)
 obtain⟨c,hC,hh⟩:=inv.c
 have named: ∀t∈jb ops.toList o,∀v,(L p).regs.get t=some v-> ∃v',tmps[t]? =some v'/\ao mu v v':=
  fun t ht v hv=>inv.regs p (by omega) t v (tq D hd ho hr hp ht) hv
 have hguard: ∀{b:Bool},bR ops.toList (L p).regs o=some b->Region.wanted oM (yielded opsM tmps)=b:=by
  intro b hg
  refine zk (mu:=mu) hσ e3 (fun j want o' d hgu hj hdj v hv=>named d ?_ v hv) hg
  unfold jb
  rw [hgu]
  simp only []
  rw [zO,hj]
  simp [hdj]
 have hρ: ∀x,ao mu ((L p).evD (tmpsOf o.op.operands.toList) x) (c7 tmps x):=
  fun x=>tG t3.sized inv.size _ (fun t ht v hv=>named t (by
   unfold jb
   have:Operand.tmp t∈o.op.operands.toList:=(pk t _).1 ht
   simp only [List.mem_append,List.mem_filterMap]
   exact .inl (.inr ⟨.tmp t,this,rfl⟩)) v hv) inv.glob x
 have hρT: ∀x,ao muT ((L p).evD (tmpsOf o.op.operands.toList) x) (c7 tmpsT x):=
  fun x=>tG t3.sized t3.size _ (fun t ht v hv=>t3.get t v hv) t2 x
 have sized: ∀j,j<=ops.size->(H j).t.Sized (H j).n:=fun j hj=>by obtain⟨_,_,_,g,_⟩:=shd j hj;exact g.sized
 have tp:=cZ p o hpn ho
 have hs:=D.step p o ho
 have hro: ∀j,j<=ops.size-> ∀b c base top t sz el,mu0 b=.blk c base top->(H 0).get b=some (.cells t sz el 0)->(H j).get b=some (.cells t sz el 0):=by
  intro j hj b c base top t sz el hm hg
  obtain⟨_,_,_,_,_,_,e⟩:=shd j hj
  exact((e.ro b c base top t sz el hm hg).2.1).trans hg
 have cW: ∀{i:Nat} {oi:Oper},ops[i]? =some oi->c=i->isW E X q oi i:=by
  intro i oi hoi hci
  subst hci
  rcases hC.2.1 with e|⟨oc,hoc,hwc,_⟩
  . have:=(Array.getElem?_eq_some_iff.1 hoi).1;omega
  . rw [hoi]at hoc;cases hoc;exact hwc
 generalize hL:L (p+1)=L1 at hs
 generalize hH:H (p+1)=H1 at hs
 generalize hTp:T p=T1 at hs
 generalize hXp:X p=X1 at hs
 cases hs with
 | skip hg=>
   have hpc:p≠c:=by
    intro e
    have:=(cW ho e.symm).1
    rw [hXp]at this;cases this
   have hst:=sf (P:=P) (F:=F) (tmps:=tmps) (dfs:=dfs) (k:=k) (cs:=cs) (w:=w) (ops:=opsM) (i:=σ p) (rest:=rest) (by rw [hoM];simpa using hguard hg)
   rw [hoM,show(some oM).bind (·.dst)=oM.dst from rfl,e2]at hst
   refine⟨mu,w,_,⟨⟨c,qO hC hpc,hh⟩,inv.glob,fun p' hp' hs' b h1 h2=>?_,by rw [mr];exact inv.size,?_,inv.ext,?_⟩,.one hst⟩
   . refine inv.non p' hp' ?_ b h1 h2
     by_cases e:p'=p
     . subst e;exact hp
     . rwa [bE S e]at hs'
   . exact mj D hd ho hr hp (Le.refl mu) inv.size t3.sized (v:=.tuple #[]) (v':=undef) (.tuple rfl (by intro i v v' hv;simp at hv)) hL inv.regs
   . intro p' hp' hs' b h1 h2
     by_cases e:p'=p
     . subst e;rw [hH]at h2;omega
     . rw [bE S e]at hs';exact inv.cov p' hp' hs' b h1 h2
 | exec hg hst=>
   rename_i v
   have hwant:=hguard hg
   cases hal:d6 o.op with
   | true =>
     obtain⟨e,hop⟩: ∃e,o.op=.alloc e:=by
      unfold d6 at hal
      split at hal
      . exact⟨_, ‹_›⟩
      . cases hal
     have h4:=ut (E:=E) hal
     have hb4:=D.four p o ho h4
     have hk:isQ E X q o p:=⟨hXp,by omega,hb4⟩
     rw [pD (by omega) hb4]at hst
     obtain⟨z,hz,hv,hH1⟩: ∃z,E.zero e=some z/\v=ptrTo (H p).n/\H1=(H p).new (.cells (Tr.ofList z) z.length e 1):=by
      unfold ct at hst
      simp only [cond_true,hop,aop]at hst
      cases hz:E.zero e with
      |none=>rw [hz]at hst;cases hst
      | some z=>
        rw [hz]at hst
        simp only [cH,cG,o7]at hst
        rw [show Xv (H p).n (({H p with lo:=(H p).n}:Hp).new (.cells (Tr.ofList z) z.length e 1)).lo=true from Xr (zQ _)]at hst
        cases hst
        exact⟨z,rfl,rfl,rfl⟩
     have hT:T p=some (H p).n:=by rw [hTp];unfold iP;rw [hal];rfl
     have hget1:(H (p+1)).get (H p).n=some (.cells (Tr.ofList z) z.length e 1):=by rw [hH,hH1,Hp.get_new _ _ (sized p (by omega)),if_pos rfl]
     have hn1:(H (p+1)).n=(H p).n+1:=by rw [hH,hH1];rfl
     have hpc:p<c:=by
      rcases zY p c with h|h|h
      . exact h
      . exfalso
        have hw:=cW ho h.symm
        rcases hw.2 with x|⟨_,x⟩
        . omega
        . rw [hb4]at x;cases x
      . exfalso
        rcases hC.2.1 with e|⟨oc,hoc,hwc,hsc⟩
        . omega
        . obtain⟨m,hm⟩:=mask D ho
          have:=mw D hd ho hm hr (cmp D ho hm h hoc (.inl ⟨hwc,.inr hk⟩))
          rw [hsc]at this;cases this
     have hnp1:(H (p+1)).n<=(H c).n:=dY cZ (by omega) hC.1
     have hgetc:(H c).get (H p).n=some (.cells (Tr.ofList z) z.length e 1):=by
      have :=walk_eq (fun j=>(H j).get (H p).n) (a:=p+1) (c-(p+1)) (fun j h1 h2=>by
       have hj:j<ops.size:=by have:=hC.1;omega
       have hoj:ops[j]? =some ops[j]:=zM hj
       have tj:=cZ j _ hj hoj
       show(H (j+1)).get (H p).n=(H j).get (H p).n
       rcases kinds D hoj with x|x|x
       . rw [tj.still x]
       . refine tj.quiet x _ ?_
         have:=dY cZ h1 (by omega)
         omega
       . obtain⟨m,hm⟩:=mask D hoj
         have hsj:=hC.2.2 j _ (by omega) hoj x
         have hb:m.testBit p=false:=by
          cases hb:m.testBit p with
          |false=>rfl
          |true=>have:=lz D hd j _ m p hoj hm hsj hb;rw [hp]at this;cases this
         obtain⟨_,hu⟩:=D.owe j _ m p o hoj hm (by omega) ho hb
         have hw2:=x.2
         have h5:=cls_le (E:=E) ops[j].op
         rcases hu with h|h|⟨_,h⟩|⟨_,h,_⟩|⟨_,h,_⟩|⟨_,h,_⟩|⟨_,h,_⟩|⟨a,b,c',d⟩|⟨_,h,_⟩|⟨_,h,_⟩|⟨_,_,hrun,_,hm'⟩
         . omega
         . omega
         . omega
         . omega
         . omega
         . omega
         . omega
         . rcases hw2 with hx|⟨hx,hq⟩
           . exact absurd hx a
           . rw [d hx]at hq;cases hq
         . omega
         . omega
         . exact D.leave (.inl hm') ho hoj (kz (E:=E) (by omega)) hrun x.1 (rZ x) hT)
      rw [show p+1+(c-(p+1))=c by omega]at this
      exact this.trans hget1
     have hbn:=inv.non p hpn hp (H p).n (zQ _) (by omega)
     obtain⟨w',top,ob,r1,r2,r3,r4⟩:=yW (P:=P) ok hz hh hbn (by omega) hgetc (c7 tmps) (o:=oM) (e1.trans hop)
     have hst1:=wd (P:=P) (F:=F) (dfs:=dfs) (k:=k) (cs:=cs) (rest:=rest) hoM hwant (.inr fun cc hcc=>by rw [e1,hop]at hcc;cases hcc) r1
     rw [e2]at hst1
     refine⟨upd mu (H p).n (.blk w.heap.size 0 top),w',_,⟨⟨c,qO hC (by omega),r3⟩,inv.glob.mono r4,fun p' hp' hs' b h1 h2=>?_,by rw [mr];exact inv.size,?_,?_,?_⟩,.one hst1⟩
     . have hne:p'≠p:=by intro e;subst e;rw [gu]at hs';cases hs'
       rw [bE S hne]at hs'
       rw [aK _ _ (by
        rcases zV p p' with x|x
        . have:=dY cZ (show p+1<=p' from x) (by omega);omega
        . have:=dY cZ (show p'+1<=p by omega) (by omega);omega)]
       exact inv.non p' hp' hs' b h1 h2
     . refine mj D hd ho hr hp r4 inv.size t3.sized (v:=v) (v':=.pointer (some ⟨w.heap.size,0,none⟩)) ?_ hL inv.regs
       rw [hv]
       exact .ptr (tH mu (H p).n w.heap.size 0 _)
     . exact inv.ext.alloc lt0 clt0 (dY cZ (Xd p) (by omega)) r2
     . intro p' hp' hs' b h1 h2 hb0
       by_cases e:p'=p
       . subst e
         have:b=(H p').n:=by omega
         subst this
         rw [upd_same]at hb0;cases hb0
       . rw [bE S e]at hs'
         have hmb:=inv.cov p' hp' hs' b h1 h2
         rcases r4 b hmb with x|x
         . rw [hb0]at x;exact hmb x.symm
         . rw [hb0]at x;cases x
   |false=>
   rcases kinds D ho with hk|hk|hk
   . -- a read
     have hcls:cls E o.op<=1:=by
      rcases hk with x|x
      . rw [hXp]at x;cases x
      . exact x
     have hpc:p≠c:=by
      intro e
      rcases(cW ho e.symm).2 with x|⟨x,_⟩<;>omega
     obtain⟨f,f1,f2,f3⟩:=wL (E:=E) (op:=o.op) (ρ:=(L p).evD (tmpsOf o.op.operands.toList)) (by omega)
     rw [uw hcls]at hst
     have hfp:f (H p)=some v:=by
      simp only [ct,cond_false]at hst
      rw [f1 (H p)]at hst
      cases hf:f (H p)with
      |none=>rw [hf]at hst;cases hst
      |some u=>rw [hf]at hst;cases hst;rfl
     have hfc:f (H c)=some v:=by
      rw [<-hfp]
      exact read_at D cZ sized hd hC ho hr hp hcls (hTp.trans (o9 (E:=E) (by omega) _ _)) (fun b hb=>t1.lt b (vI hρT hb)) (fun b hb=>hh.lt b (vI hρ hb)) f1 f2 f3
     have hstc:ct E R ((L p).evD (tmpsOf o.op.operands.toList)) false o (H c)=some (v,H c):=by
      simp only [ct,cond_false]
      rw [f1 (H c),hfc];rfl
     obtain⟨mu1,w1,v',k1,k2,k3,_,k4⟩:=nR ok hc hcode hh inv.glob hρ (F:=F) (ops:=opsM) (i:=σ p) (dfs:=dfs) (k:=k) (cs:=cs) (rest:=rest) hoM hwant ((rx e1).trans hstc)
     rw [e2]at k4
     have le:=k2.le hh
     have hnone: ∀b,mu b=.none->mu1 b=.none:=by
      intro b hb
      by_cases hbc:b<(H c).n
      . rcases k2.old b hbc with x|⟨x,_⟩
        . rw [x];exact hb
        . exact absurd hb x
      . exact k1.none_ge (by omega)
     refine⟨mu1,w1,_,⟨⟨c,qO hC hpc,k1⟩,inv.glob.mono le,fun p' hp' hs' b h1 h2=>?_,by rw [mr];exact inv.size,?_,?_,?_⟩,k4⟩
     . refine hnone b (inv.non p' hp' ?_ b h1 h2)
       by_cases e:p'=p
       . subst e;exact hp
       . rwa [bE S e]at hs'
     . exact mj D hd ho hr hp le inv.size t3.sized k3 hL inv.regs
     . refine inv.ext.step lt0 (dY cZ (Xd c) hC.1) (by rw [xx hh.lt];exact k2) (hro c hC.1) (fun _ _=>rfl) (fun b hb=>?_)
       rw [k1.none_ge hb,hh.none_ge hb]
     . intro p' hp' hs' b h1 h2 hb0
       by_cases e:p'=p
       . subst e;rw [tp.still hk]at h2;omega
       . rw [bE S e]at hs'
         have hmb:=inv.cov p' hp' hs' b h1 h2
         rcases le b hmb with x|x
         . rw [hb0]at x;exact hmb x.symm
         . rw [hb0]at x;cases x
   . -- a quiet one:it runs at p,below c
     have hpc:p<c:=by
      rcases zY p c with h|h|h
      . exact h
      . exfalso
        have hw:=cW ho h.symm
        rcases hw.2 with x|⟨_,x⟩
        . have:=hk.2.1;omega
        . rw [hk.2.2]at x;cases x
      . exfalso
        rcases hC.2.1 with e|⟨oc,hoc,hwc,hsc⟩
        . omega
        . obtain⟨m,hm⟩:=mask D ho
          have:=mw D hd ho hm hr (cmp D ho hm h hoc (.inl ⟨hwc,.inr hk⟩))
          rw [hsc]at this;cases this
     have hnoW: ∀j oj,p<=j->j<c->ops[j]? =some oj->isR E X oj j\/isQ E X q oj j:=by
      intro j oj h1 h2 hoj
      rcases kinds D hoj with x|x|x
      . exact .inl x
      . exact .inr x
      . exfalso
        by_cases e:j=p
        . subst e
          rw [ho]at hoj;cases hoj
          rcases x.2 with y|⟨_,y⟩
          . have:=hk.2.1;omega
          . rw [hk.2.2]at y;cases y
        . obtain⟨m,hm⟩:=mask D hoj
          have:=lz D hd j oj m p hoj hm (hC.2.2 j oj h2 hoj x) (cmp D hoj hm (by omega) ho (.inr ⟨hk,x,hal⟩))
          rw [hp]at this;cases this
     have hsame: ∀b,b<(H p).n->(H c).get b=(H p).get b:=fun b hb=>stand cZ (by omega) hC.1 hnoW hb
     have hsame1: ∀b,b<(H (p+1)).n->(H c).get b=(H (p+1)).get b:=fun b hb=>stand cZ (by omega) hC.1 (fun j oj h1 h2=>hnoW j oj (by omega) h2) hb
     have hnp:(H p).n<=(H c).n:=dY cZ (by omega) hC.1
     have hnp1:(H (p+1)).n<=(H c).n:=dY cZ (by omega) hC.1
     have hcut:aJ (cut mu (H p).n) (H p) w:=by
      refine⟨sized p (by omega),fun b c0 base top hm=>?_,fun b hm=>?_,fun b b' c0 base top base' top' h1 h2=>?_,fun b hm=>?_⟩
      . by_cases hb:b<(H p).n
        . rw [dJ hb]at hm
          obtain⟨x,ob,g1,g2,g3⟩:=hh.blk b c0 base top hm
          refine⟨x,ob,by rw [<-hsame b hb];exact g1,g2,?_⟩
          have hTn:muT b≠ .none:=by
           by_cases hb0:b<(H 0).n
           . have hm0:mu0 b≠ .none:=by
              rcases inv.ext.old b hb0 with y|⟨y,_⟩
              . rw [<-y,hm];simp
              . exact y
             rcases t4.old b hb0 with y|⟨_,y⟩
             . rw [y];exact hm0
             . rw [y];simp
           . exact t4.cover b (by omega) hb
          cases hmT:muT b with
          |none=>exact absurd hmT hTn
          | dead=>
            have:=t1.dead b hmT
            rw [<-hsame b hb,g1]at this
            cases this
            exact g3.elim
          | blk cT baseT topT=>
            obtain⟨xT,oT,j1,j2,j3⟩:=t1.blk b cT baseT topT hmT
            rw [<-hsame b hb,g1]at j1
            cases j1
            exact kc.cut (fun b' hb'=>t1.lt b' hb') g3 j3
        . rw [mg (by omega)]at hm;cases hm
      . by_cases hb:b<(H p).n
        . rw [dJ hb]at hm;rw [<-hsame b hb];exact hh.dead b hm
        . rw [mg (by omega)]at hm;cases hm
      . exact hh.inj b b' c0 base top base' top' (by
         by_cases hb:b<(H p).n
         . rw [dJ hb]at h1;exact h1
         . rw [mg (by omega)]at h1;cases h1) (by
         by_cases hb:b'<(H p).n
         . rw [dJ hb]at h2;exact h2
         . rw [mg (by omega)]at h2;cases h2)
      . by_cases hb:b<(H p).n
        . exact hb
        . rw [mg (by omega)]at hm;exact absurd rfl hm
     have hρc: ∀x,ao (cut mu (H p).n) ((L p).evD (tmpsOf o.op.operands.toList) x) (c7 tmps x):=fun x=>ao.cut (fun b' hb'=>t1.lt b' hb') (hρT x) (hρ x)
     have hgc:j8 (cut mu (H p).n):=fun g hg=>(inv.glob g hg).cut (t1.lt _ (t2 g hg).in)
     have hst':=hst
     rw [pD hk.2.1 hk.2.2]at hst'
     obtain⟨mu1,w1,v',k1,k2,k3,_,k4⟩:=nR ok hc hcode hcut hgc hρc (F:=F) (ops:=opsM) (i:=σ p) (dfs:=dfs) (k:=k) (cs:=cs) (rest:=rest) hoM hwant ((rx e1).trans hst')
     rw [e2]at k4
     rw [<-hH]at k1 k2
     obtain⟨gh,le,le1⟩:=glue_rel hh k1 k2 (fun b h1 h2=>inv.non p hpn hp b h1 h2) hnp1 hsame1
     refine⟨glue mu1 mu (H (p+1)).n,w1,_,⟨⟨c,qO hC (by omega),gh⟩,inv.glob.mono le,fun p' hp' hs' b h1 h2=>?_,by rw [mr];exact inv.size,?_,?_,?_⟩,k4⟩
     . have hne:p'≠p:=by intro e;subst e;rw [gu]at hs';cases hs'
       rw [bE S hne]at hs'
       have hmb:=inv.non p' hp' hs' b h1 h2
       rcases zV p p' with x|x
       . rw [jC (Xb (dY cZ (show p+1<=p' from x) (by omega)) h1)];exact hmb
       . have hbp:b<(H p).n:=zW h2 (dY cZ (show p'+1<=p by omega) (by omega))
         rw [ja (zW hbp tp.n)]
         rcases k2.old b hbp with y|⟨y,_⟩
         . rw [y,dJ hbp];exact hmb
         . rw [dJ hbp]at y;exact absurd hmb y
     . exact mj D hd ho hr hp le inv.size t3.sized (k3.mono le1) hL inv.regs
     . exact inv.ext.step lt0 (dY cZ (Xd p) (by omega)) k2 (hro p (by omega)) (fun b hb=>ja hb) (fun b hb=>jC hb)
     . intro p' hp' hs' b h1 h2 hb0
       by_cases e:p'=p
       . subst e;rw [ja h2]at hb0;exact k2.cover b h1 h2 hb0
       . rw [bE S e]at hs'
         have hmb:=inv.cov p' hp' hs' b h1 h2
         rcases le b hmb with x|x
         . rw [hb0]at x;exact hmb x.symm
         . rw [hb0]at x;cases x
   . -- a writer:it is the one at c
     have hpc:p=c:=by
      rcases zY p c with h|h|h
      . have:=hC.2.2 p o h ho hk;rw [hp]at this;cases this
      . exact h
      . rcases hC.2.1 with e|⟨oc,hoc,hwc,hsc⟩
        . omega
        . obtain⟨m,hm⟩:=mask D ho
          have:=mw D hd ho hm hr (cmp D ho hm h hoc (.inl ⟨hwc,.inl hk⟩))
          rw [hsc]at this;cases this
     subst hpc
     rw [rZ hk]at hst
     obtain⟨mu1,w1,v',k1,k2,k3,_,k4⟩:=nR ok hc hcode hh inv.glob hρ (F:=F) (ops:=opsM) (i:=σ p) (dfs:=dfs) (k:=k) (cs:=cs) (rest:=rest) hoM hwant ((rx e1).trans hst)
     rw [e2]at k4
     have le:=k2.le hh
     rw [<-hH]at k1 k2
     obtain⟨c',d1,d2,d3,d4⟩:=next_W (E:=E) (ops:=ops) (q:=q) (X:=X) (ops.size-(p+1)) (p+1) (by omega)
     have hmove:aJ mu1 (H c') w1:=by
      refine tg k1 (sized c' d2) (dY cZ d1 d2) (fun b hb=>stand cZ d1 d2 (fun j oj h1 h2 hoj=>?_) hb)
      rcases kinds D hoj with x|x|x
      . exact .inl x
      . exact .inr x
      . exact absurd x (d4 j oj h1 h2 hoj)
     refine⟨mu1,w1,_,⟨⟨c',⟨d2,?_,?_⟩,hmove⟩,inv.glob.mono le,fun p' hp' hs' b h1 h2=>?_,by rw [mr];exact inv.size,?_,?_,?_⟩,k4⟩
     . rcases d3 with e|⟨o',ho',hw'⟩
       . exact .inl e
       . refine .inr ⟨o',ho',hw',?_⟩
         rw [bE S (by omega)]
         exact after_c D hd hC (by omega) ho' (.inl hw') (fun _=>by omega)
     . intro i oi hi hoi hwi
       by_cases hip:i=p
       . subst hip;exact gu S i
       . rw [bE S hip]
         rcases zV i p with x|x
         . exact hC.2.2 i oi x hoi hwi
         . exact absurd hwi (d4 i oi (by omega) hi hoi)
     . have hne:p'≠p:=by intro e;subst e;rw [gu]at hs';cases hs'
       rw [bE S hne]at hs'
       rcases zV p p' with x|x
       . exact k1.none_ge (Xb (dY cZ (show p+1<=p' from x) (by omega)) h1)
       . have hbp:b<(H p).n:=zW h2 (dY cZ (show p'+1<=p by omega) (by omega))
         have hmb:=inv.non p' hp' hs' b h1 h2
         rcases k2.old b hbp with y|⟨y,_⟩
         . rw [y];exact hmb
         . exact absurd hmb y
     . exact mj D hd ho hr hp le inv.size t3.sized k3 hL inv.regs
     . refine inv.ext.step lt0 (dY cZ (Xd p) hC.1) (by rw [xx hh.lt];exact k2) (hro p hC.1) (fun _ _=>rfl) (fun b hb=>?_)
       rw [k1.none_ge hb,hh.none_ge (Xb tp.n hb)]
     . intro p' hp' hs' b h1 h2 hb0
       by_cases e:p'=p
       . subst e;exact k2.cover b h1 h2 hb0
       . rw [bE S e]at hs'
         have hmb:=inv.cov p' hp' hs' b h1 h2
         rcases le b hmb with x|x
         . rw [hb0]at x;exact hmb x.symm
         . rw [hb0]at x;cases x
end
end Go.Ab

namespace Go.Ab
theorem nC{e e':Edge}(h:e.ground=e'.ground):binds e=binds e':=by
 unfold binds Region.binds;rw [h]
structure Ord(ops opsM:Array Oper)(σ τ:Nat->Nat):Prop where
 size:ops.size=opsM.size
 lt: ∀p,p<ops.size↔σ p<ops.size
 st: ∀i,σ (τ i)=i
 ts: ∀p,τ (σ p)=p
 op: ∀p o,ops[p]? =some o-> ∃oM,opsM[σ p]? =some oM/\oM.op=o.op/\oM.dst=o.dst/\((o.guard=none/\oM.guard=none)\/ ∃j want,o.guard=some (j,want)/\oM.guard=some (σ j,want))/\
  (∀e∈o.after.toList,∃eM∈oM.after.toList,e.ground=eM.ground/\(eM.on<ops.size->e.on=τ eM.on)/\(ops.size<=eM.on->ops.size<=e.on))/\
  ∀eM∈oM.after.toList,∃e∈o.after.toList,e.ground=eM.ground/\(eM.on<ops.size->e.on=τ eM.on)/\(ops.size<=eM.on->ops.size<=e.on)
theorem Ord.same{ops opsM:Array Oper}{σ τ:Nat->Nat}(o:Ord ops opsM σ τ):SameAs ops opsM σ:=by
 refine⟨fun p x hx=>?_,fun p hp=>?_⟩
 . obtain⟨oM,a,b,c,d,_⟩:=o.op p x hx;exact⟨oM,a,b,c,d⟩
 . have h1: ¬p<ops.size:=by intro h;rw [zM h]at hp;cases hp
   refine Xo ?_
   rw [<-o.size]
   have:=mt (o.lt p).2 h1
   omega
theorem Ord.id(ops:Array Oper):Ord ops ops (fun i=>i) (fun i=>i):=by
 refine⟨rfl,fun _=>Iff.rfl,fun _=>rfl,fun _=>rfl,fun p o ho=>⟨o,ho,rfl,rfl,?_,fun e he=>⟨e,he,rfl,fun _=>rfl,fun h=>h⟩,fun e he=>⟨e,he,rfl,fun _=>rfl,fun h=>h⟩⟩⟩
 cases hg:o.guard with
 |none=>exact .inl ⟨rfl,rfl⟩
 |some q=>obtain⟨j,w⟩:=q;exact .inr ⟨j,w,rfl,rfl⟩
theorem po{i:Nat}: ∀{l:List Nat},i∈l->fZ i l<l.length/\l[fZ i l]? =some i
 | [],h=>by cases h
 | x ::l,h=>by
   unfold fZ
   cases hb:Xc i x with
   | true=>
     have:=zN hb
     subst this
     simp
   | false=>
     have hne:i≠x:=by intro e;subst e;rw [Xj]at hb;cases hb
     rcases List.mem_cons.1 h with e|h
     . exact absurd e hne
     . obtain⟨a,b⟩:=po h
       simp only [cond_false,Xe,Xl]
       exact⟨by omega,b⟩
theorem qg{i:Nat}: ∀{l:List Nat},i∉l->fZ i l=l.length
 | [],_=>rfl
 | x::l,h=>by
   unfold fZ
   have hb:Xc i x=false:=by
    cases hb:Xc i x with
    |false=>rfl
    |true=>exact absurd (List.mem_cons.2 (.inl (zN hb))) h
   rw [hb]
   simp only [cond_false,Xe]
   rw [qg (fun h'=>h (zR _ h'))]
theorem ordL_mem(ops:List Oper)(i:Nat):i∈ordL ops↔i<ops.length:=by
 unfold ordL
 simp only [List.mem_append,Xm,Xs]
 cases freeAt ops i<;>simp
theorem zy(ops:List Oper):(ordL ops).Nodup:=by
 unfold ordL
 rw [List.nodup_append]
 refine⟨List.nodup_range.filter _,List.nodup_range.filter _,fun a ha b hb e=>?_⟩
 subst e
 have h1:=(List.mem_filter.1 ha).2
 have h2:=(List.mem_filter.1 hb).2
 rw [h1]at h2
 cases h2
theorem ordL_len(ops:List Oper):(ordL ops).length=ops.length:=by
 unfold ordL
 rw [List.length_append]
 have key: ∀(l:List Nat) (f:Nat->Bool),(l.filter f).length+(l.filter fun i=>!f i).length=l.length:=by
  intro l f
  induction l with
  |nil=>rfl
  | cons x l ih=>
    simp only [List.filter_cons]
    cases f x<;>simp<;>omega
 rw [key,List.length_range]
theorem um(ops:List Oper)(ord:List Nat): ∀(l:List Nat),(∀i∈l,i<ops.length)-> ∀(p:Nat),(gk ops ord l)[p]? =(l[p]?).bind fun(i:Nat)=>(ops[i]?).map (reix ord)
 | [],_,p=>by simp [gk]
 | i ::l,h,p=>by
   have hi:i<ops.length:=h i zU
   unfold gk
   rw [zX hi]
   simp only []
   cases p with
   |zero=>simp [hi]
   | succ p=>
     simp only [Xl]
     exact um ops ord l (fun j hj=>h j (zR _ hj)) p
theorem hoist_ord(ops:Array Oper): ∃(opsC:Array Oper) (σ τ:Nat->Nat),opsC.toList=eh ops.toList/\Ord opsC ops σ τ:=by
 unfold eh
 cases hh:ops.toList.any qc&&ops.toList.all (oN ops.toList.length)with
 |false=>exact⟨ops,_,_,rfl,Ord.id ops⟩
 | true=>
   simp only [zP]at hh
   have hgu:=hh.2
   simp only [cond_true]
   have hmem:=ordL_mem ops.toList
   have hnd:=zy ops.toList
   have hlen:=ordL_len ops.toList
   generalize ordL ops.toList=ord at*
   have hn:ops.toList.length=ops.size:=by simp
   rw [hn]at hlen hmem
   have hget:=um ops.toList ord ord (fun i hi=>by rw [hn];exact(hmem i).1 hi)
   have hsz:(gk ops.toList ord ord).length=ops.size:=by
    have key: ∀p,p<(gk ops.toList ord ord).length↔p<ops.size:=by
     intro p
     have h0:p<(gk ops.toList ord ord).length↔((gk ops.toList ord ord)[p]?).isSome=true:=by simp
     rw [h0,hget]
     rcases zV p ops.size with h|h
     . have h1:p<ord.length:=by omega
       rw [zX h1]
       have h2:ord[p]<ops.size:=(hmem _).1 (Xk h1)
       simp [h2,h]
     . rw [Xa (by omega)]
       simp;omega
    have a:=key (gk ops.toList ord ord).length
    have b:=key ops.size
    omega
   refine⟨(gk ops.toList ord ord).toArray,fun p=>(ord[p]?).getD p,fun i=>if i<ops.size then fZ i ord else i,rfl,?_⟩
   have hs: ∀p,p<ops.size-> ∃i,ord[p]? =some i/\i<ops.size:=fun p hp=>⟨ord[p]'(by omega),zX _,(hmem _).1 (Xk _)⟩
   have hts: ∀p i,ord[p]? =some i->fZ i ord=p:=by
    intro p i hp
    have hi:i∈ord:=Xt hp
    obtain⟨a,b⟩:=po hi
    have h1:=List.getElem?_eq_some_iff.1 hp
    have h2:=List.getElem?_eq_some_iff.1 b
    obtain⟨c,c'⟩:=h1
    obtain⟨d,d'⟩:=h2
    rcases zY (fZ i ord) p with hij|hij|hij
    . exact absurd (d'.trans c'.symm) (List.pairwise_iff_getElem.1 hnd _ _ d c hij)
    . exact hij
    . exact absurd (c'.trans d'.symm) (List.pairwise_iff_getElem.1 hnd _ _ c d hij)
   have hsize:(gk ops.toList ord ord).toArray.size=ops.size:=by simp [hsz]
   refine⟨hsize,fun p=>?_,fun i=>?_,fun p=>?_,fun p o ho=>?_⟩
   . rw [hsize]
     rcases zV p ops.size with h|h
     . obtain⟨i,h1,h2⟩:=hs p h
       simp [h1,h,h2]
     . rw [Xa (by omega)];simp
   . by_cases h:i<ops.size
     . rw [if_pos h,(po ((hmem i).2 h)).2];rfl
     . rw [if_neg h,Xa (by omega)];rfl
   . rcases zV p ops.size with h|h
     . obtain⟨i,h1,h2⟩:=hs p h
       simp only [h1,Xf,h2,if_true]
       exact hts p i h1
     . rw [Xa (by omega)]
       simp only [Option.getD_none]
       rw [if_neg (by omega)]
   . have ho':(gk ops.toList ord ord)[p]? =some o:=by simpa using ho
     rw [hget]at ho'
     obtain⟨i,h1,h2⟩:=Option.bind_eq_some_iff.1 ho'
     obtain⟨oM,h3,rfl⟩:=Option.map_eq_some_iff.1 h2
     have h3':ops[i]? =some oM:=by simpa using h3
     refine⟨oM,by simp only [h1,Xf];exact h3',rfl,rfl,?_,?_,?_⟩
     . have hg:=List.all_eq_true.1 hgu oM (Xt h3)
       unfold oN at hg
       cases hgm:oM.guard with
       |none=>left;simp [reix,hgm]
       | some q=>
         obtain⟨j,w⟩:=q
         rw [hgm]at hg
         have hj:j<ops.size:=by rw [<-hn];simpa [Nat.blt_eq]using hg
         right
         refine⟨fZ j ord,w,by simp [reix,hgm],?_⟩
         rw [(po ((hmem j).2 hj)).2];rfl
     . intro e he
       simp only [reix,Array.toList_map,List.mem_map]at he
       obtain⟨eM,k1,rfl⟩:=he
       refine⟨eM,k1,rfl,fun h=>?_,fun h=>?_⟩
       . rw [hsize]at h;simp [h]
       . rw [hsize]at h
         show _<=fZ eM.on ord
         rw [qg (fun hm=>by have:=(hmem _).1 hm;omega),hlen,hsize];exact zQ _
     . intro eM k1
       refine⟨{eM with on:=fZ eM.on ord},by simp only [reix,Array.toList_map,List.mem_map];exact⟨eM,k1,rfl⟩,rfl,fun h=>?_,fun h=>?_⟩
       . rw [hsize]at h;simp [h]
       . rw [hsize]at h
         show _<=fZ eM.on ord
         rw [qg (fun hm=>by have:=(hmem _).1 hm;omega),hlen,hsize];exact zQ _
end Go.Ab

namespace Go.Ab

def iK(S:Nat->Bool):Nat->Nat
 |0=>0
 |n+1=>iK S n+(if S n=true then 0 else 1)
theorem o8{S:Nat->Bool}: ∀{n:Nat},iK S n=0-> ∀i,i<n->S i=true
 |0,_,i,hi=>by omega
 | n +1,h,i,hi=>by
   simp only [iK]at h
   by_cases hs:S n=true
   . rw [if_pos hs]at h
     by_cases e:i=n
     . subst e;exact hs
     . exact o8 (n:=n) (by omega) i (by omega)
   . rw [if_neg hs]at h;omega
theorem uE{S:Nat->Bool}: ∀{n:Nat},iK S n≠0-> ∃i,i<n/\S i=false/\ ∀j,j<i->S j=true
 |0,h=>absurd rfl h
 | n +1,h=>by
   by_cases hn:iK S n=0
   . have hall:=o8 hn
     simp only [iK,hn]at h
     by_cases hs:S n=true
     . rw [if_pos hs]at h;omega
     . exact⟨n,by omega,by simpa using hs,hall⟩
   . obtain⟨i,h1,h2,h3⟩:=uE hn
     exact⟨i,by omega,h2,h3⟩
theorem v9{S:Nat->Bool}{p:Nat}: ∀{n:Nat},n<=p->iK (kZ S p) n=iK S n
 |0,_=>rfl
 | n+1,h=>by
   simp only [iK]
   rw [v9 (by omega),bE S (by omega)]
theorem uB{S:Nat->Bool}{p:Nat}(hp:S p=false): ∀{n:Nat},p<n->iK (kZ S p) n+1=iK S n
 |0,h=>by omega
 | n +1,h=>by
   simp only [iK]
   by_cases e:p=n
   . subst e
     rw [v9 (zQ _),gu,hp];simp
   . have:=uB hp (n:=n) (by omega)
     rw [bE S (by omega)];omega
theorem sc: ∀(n:Nat),iK (fun _=>false) n=n
 |0=>rfl
 |n+1=>by simp [iK,sc n]

def cV(listed:Array Bool):Nat->Bool:=fun i=>listed.getD i false
theorem yo{listed:Array Bool}{p:Nat}(hp:p<listed.size):cV (listed.setIfInBounds p true)=kZ (cV listed) p:=by
 funext i
 simp only [cV,kZ,zT,Xh]
 by_cases e:p=i
 . subst e;simp [hp]
 . rw [if_neg e,if_neg (Ne.symm e)]

theorem qV(l:Loc)(d:Option Tmp)(v:Value):(l.put d v).dfs=l.dfs/\(l.put d v).rc=l.rc:=by cases d<;>exact⟨rfl,rfl⟩

section
variable{E:Env}{P:Program}(ok:EOk E P){R:Rec}(hc:gQ E P R.call)(hcode:iU P R.code)
variable{ops:Array Oper}{q:Nat}{ps:List (Nat×Nat)}{M:List Nat}{L:Nat->Loc}{H:Nat->Hp}{T:Nat->Option Nat}{X:Nat->Bool}(D:DT E R ops q ps M L H T X)
variable{nr:Nat}{mu0:Mu}{w0:World}

include D in
theorem down_add{S:Nat->Bool}(hd:Down ops S){p:Nat}{o:Oper}(ho:ops[p]? =some o)(hr:Ready o S):Down ops (kZ S p):=by
 intro i oi hoi hs e he hb
 by_cases hip:i=p
 . subst hip
   rw [ho]at hoi;cases hoi
   obtain⟨m,_,h2,_⟩:=D.bef i o (by rw [zO];exact ho)
   have:=h2 e he hb
   rw [bE S (by omega)]
   exact hr e he hb
 . rw [bE S hip]at hs
   have:=hd i oi hoi hs e he hb
   by_cases hep:e.on=p
   . rw [hep];exact gu S p
   . rw [bE S hep];exact this

include ok hc hcode D in
theorem go_sim(cZ: ∀j o,j<ops.size->ops[j]? =some o->Turn ops E X q H T j o)(shd: ∀i,i<=ops.size->np nr mu0 w0 L H i)(lt0: ∀b,mu0 b≠ .none->b<(H 0).n)(clt0: ∀b c base top,mu0 b=.blk c base top->c<w0.heap.size)
 {opsM:Array Oper} {σ τ:Nat->Nat} (od:Ord ops opsM σ τ)
 {F :FC} {dfs:List Deferred} {k:List Item} {cs:List Frame}: ∀(fuel t:Nat) (listed:Array Bool) (mu:Mu) (w:World) (tmps:Array Value),listed.size=ops.size->Down ops (fun p=>cV listed (σ p))->iK (fun p=>cV listed (σ p)) ops.size=fuel->
  Inv E ops q L H X nr mu0 w0 (fun p=>cV listed (σ p)) mu w tmps->
  ∃ S' mu' w' tmps',Inv E ops q L H X nr mu0 w0 S' mu' w' tmps'/\(∀i,i<ops.size->S' i=true)/\
    Steps P (lone (F.mk' tmps dfs (.inRegion opsM (Region.linearise.go .any opsM fuel t listed [])::k)) cs w) (lone (F.mk' tmps' dfs (.inRegion opsM []::k)) cs w')
 |0,t,listed,mu,w,tmps,hsz,hd,hl,inv=>⟨fun p=>cV listed (σ p),mu,w,tmps,inv,o8 hl,Steps.refl _ _⟩
 | fuel + 1,t,listed,mu,w,tmps,hsz,hd,hl,inv=>by
   have hτ: ∀i,i<ops.size->τ i<ops.size:=fun i hi=>(od.lt (τ i)).2 (by rw [od.st];exact hi)
   have hmem: ∀i,i∈Region.ready .any opsM listed->i<ops.size/\cV listed i=false/\ ∀o,ops[τ i]? =some o->Ready o (fun p=>cV listed (σ p)):=by
    intro i hi
    unfold Region.ready at hi
    simp only [Xm,Xs,zP,zZ]at hi
    obtain⟨h1,h2,h3⟩:=hi
    rw [<-od.size]at h1
    refine⟨h1,?_,fun o ho e he hb=>?_⟩
    . simp only [cV]
      rw [zT,zM (by omega)]at h2⊢
      simpa using h2
    . obtain⟨oM,k1,_,_,_,k5,_⟩:=od.op (τ i) o ho
      rw [od.st]at k1
      rw [k1]at h3
      simp only [Option.map_some,Xf]at h3
      obtain⟨eM,j1,j2,j3,j4⟩:=k5 e he
      have:=(Array.all_eq_true'.1 h3) eM (by simpa using j1)
      rw [nC j2]at hb
      unfold binds at hb
      rw [hb]at this
      obtain⟨m,_,hbef,_⟩:=D.bef (τ i) o (by rw [zO];exact ho)
      have hon:=hbef e he (by rw [nC j2];unfold binds;exact hb)
      have:=hτ i h1
      have hlt:eM.on<ops.size:=by
       rcases zV eM.on ops.size with x|x
       . exact x
       . have:=j4 x;omega
      show cV listed (σ e.on)=true
      rw [j3 hlt,od.st]
      simp only [cV]
      simpa using(Array.all_eq_true'.1 h3) eM (by simpa using j1)|>fun h=>by rw [hb]at h;simpa using h
   have hne:Region.ready .any opsM listed≠ []:=by
    obtain⟨p,h1,h2,h3⟩:=uE (S:=fun p=>cV listed (σ p)) (n:=ops.size) (by omega)
    intro e
    have ho:ops[p]? =some ops[p]:=zM h1
    obtain⟨m,_,hb,_⟩:=D.bef p ops[p] (by rw [zO];exact ho)
    obtain⟨oM,k1,_,_,_,_,k6⟩:=od.op p _ ho
    have hσp:=(od.lt p).1 h1
    have :σ p∈Region.ready .any opsM listed:=by
     unfold Region.ready
     simp only [Xm,Xs,zP,zZ]
     refine⟨by rw [<-od.size];exact hσp,?_,?_⟩
     . simp only [cV]at h2
       rw [zT,zM (by omega)]at h2⊢
       simpa using h2
     . rw [k1]
       simp only [Option.map_some,Xf]
       refine Array.all_eq_true'.2 fun eM he=>?_
       cases hbe:Region.binds .any eM with
       |false=>rfl
       | true=>
         obtain⟨e',j1,j2,j3,j4⟩:=k6 eM (by simpa using he)
         have hon:=hb e' j1 (by rw [nC j2];unfold binds;exact hbe)
         have hlt:eM.on<ops.size:=by
          rcases zV eM.on ops.size with x|x
          . exact x
          . have:=j4 x;omega
         have:=h3 e'.on hon
         rw [j3 hlt,od.st]at this
         simpa [cV]using this
    rw [e]at this;cases this
   simp only [Region.linearise.go]
   change∃S' mu' w' tmps',Inv E ops q L H X nr mu0 w0 S' mu' w' tmps'/\(∀i,i<ops.size->S' i=true)/\
    Steps P (lone (F.mk' tmps dfs (.inRegion opsM (match(Region.ready .any opsM listed)[t%(Region.ready .any opsM listed).length]? with
    |some i=>Region.linearise.go .any opsM fuel (t/(Region.ready .any opsM listed).length) (listed.setIfInBounds i true) [i]
    |none=>[].reverse)::k)) cs w) (lone (F.mk' tmps' dfs (.inRegion opsM []::k)) cs w')
   have hlen:0<(Region.ready .any opsM listed).length:=List.length_pos_iff.2 hne
   have hlt:=Nat.mod_lt t hlen
   rw [zX hlt]
   simp only []
   generalize hi:(Region.ready .any opsM listed)[t%(Region.ready .any opsM listed).length]=i
   have him:i∈Region.ready .any opsM listed:=by rw [<-hi];exact Xk hlt
   obtain⟨h1,h2,h3⟩:=hmem i him
   have h1':=hτ i h1
   have ho:ops[τ i]? =some ops[τ i]:=zM h1'
   have hr:=h3 _ ho
   rw [linearise_go_acc,List.reverse_singleton,List.singleton_append]
   obtain⟨mu1,w1,tmps1,inv1,st1⟩:=inv_step ok hc hcode D cZ shd lt0 clt0 od.same inv hd ho hr (by show cV listed (σ (τ i))=false;rw [od.st];exact h2) (F:=F) (dfs:=dfs) (k:=k) (cs:=cs)
    (rest:=Region.linearise.go .any opsM fuel (t/(Region.ready .any opsM listed).length) (listed.setIfInBounds i true) [])
   rw [od.st]at st1
   have hS:(fun p=>cV (listed.setIfInBounds i true) (σ p))=kZ (fun p=>cV listed (σ p)) (τ i):=by
    funext p
    rw [yo (listed:=listed) (p:=i) (by omega)]
    by_cases e:p=τ i
    . subst e
      rw [od.st,gu,gu]
    . rw [bE _ e,bE _ (by intro e2;exact e (by rw [<-e2,od.ts]))]
   obtain⟨S',mu',w',tmps',g1,g2,g3⟩:=go_sim cZ shd lt0 clt0 od fuel (t/(Region.ready .any opsM listed).length) (listed.setIfInBounds i true) mu1 w1 tmps1 (by simpa using hsz)
    (by rw [hS];exact down_add D hd ho hr) (by rw [hS];have:=uB (S:=fun p=>cV listed (σ p)) (p:=τ i) (by show cV listed (σ (τ i))=false;rw [od.st];exact h2) h1';omega) (by rw [hS];exact inv1)
   exact⟨S',mu',w',tmps',g1,g2,Steps.trans st1 g3⟩

include ok hc hcode in
theorem draw_ok:DrawOk E P R:=by
 intro cx id opsM l h l' h' q ps tr hp he hpo mu w F cs0 tmps dfs rcC k s
 obtain⟨ops,σ,τ,hC,od⟩:=hoist_ord opsM
 rw [<-hC]at hp he
 obtain⟨M,hM1,hM2⟩:=plan_ok hp
 obtain⟨_,L,H,T,X,hL0,hH0,hLn,hHn,hstep,htr,hrun⟩:=vV _ _ _ _ _ _ _ _ he
 rw [zS,Array.length_toList]at hLn hHn
 have D:DT E R ops q ps M L H T X:=by
  refine⟨hM1,fun n o ho h4=>?_,fun n o m i p ho hm hi hp' hb=>?_,fun i o ho=>?_,fun {i j a b o p} hij ho hp ro rp ha hb=>?_,fun {i j a o p} hij ho hp ro rp hx hh ha=>?_⟩
  . exact(hM2 n o (by rw [zO];exact ho)).1 h4
  . exact(hM2 n o (by rw [zO];exact ho)).2 m hm i p hi (by rw [zO];exact hp') hb
  . have:=hstep i o (by rw [zO];exact ho)
    rwa [zS]at this
  . have e1:=htr i o a (by rw [zO];exact ho) ro (by rw [zS];exact ha)
    have e2:=htr j p b (by rw [zO];exact hp) rp (by rw [zS];exact hb)
    rw [zS]at e1 e2
    have:=pI hpo hij
    rw [e1,e2]at this
    intro e
    subst e
    simp [iT,Xj]at this
  . have e1:=htr i o a (by rw [zO];exact ho) ro (by rw [zS];exact ha)
    have e2:=hrun j p (by rw [zO];exact hp) rp (by rw [zS];exact hx) (by rw [zS];exact hh)
    rw [zS]at e1 e2
    rcases hij with hij|hij
    . have:=pI hpo hij
      rw [e1,e2]at this
      exact ux this
    . have:=pI hpo hij
      rw [e1,e2]at this
      exact ux this
 let w0:World:={w with drawn:=w.drawn+1}
 have hr0:aJ mu h w0:=qq s.hr rfl
 have e0:Ext mu h w mu h w0:=rB s.hr rfl rfl rfl rfl
 have sh0:np cx.nr mu w0 L H 0:=⟨mu,w0,tmps,by rw [hH0];exact hr0,s.glob,by rw [hL0];exact s.regs,by rw [hH0];exact Ext.refl mu h w0 hr0⟩
 have shd: ∀i,i<=ops.size->np cx.nr mu w0 L H i:=fun i hi=>(shadow ok hc hcode D i hi sh0).1
 have cZ: ∀j o,j<ops.size->ops[j]? =some o->Turn ops E X q H T j o:=fun j o hj ho=>(shadow ok hc hcode D ops.size (zQ _) sh0).2 j o hj ho
 have lt0: ∀b,mu b≠ .none->b<(H 0).n:=by rw [hH0];exact s.hr.lt
 have clt0: ∀b c base top,mu b=.blk c base top->c<w0.heap.size:=fun b c base top hm=>hr0.clt hm
 have sized: ∀j,j<=ops.size->(H j).t.Sized (H j).n:=fun j hj=>by obtain⟨_,_,_,g,_⟩:=shd j hj;exact g.sized
 have hlS:(fun p=>cV (Xn opsM.size false) (σ p))=fun _=>false:=by
  funext i
  simp only [cV,zT,Array.getElem?_replicate]
  split<;>rfl
 have inv0:Inv E ops q L H X cx.nr mu w0 (fun _=>false) mu w0 tmps:=by
  obtain⟨c',d1,d2,d3,d4⟩:=next_W (E:=E) (ops:=ops) (q:=q) (X:=X) ops.size 0 (by omega)
  refine⟨⟨c',⟨d2,?_,fun i o hi ho hw=>absurd hw (d4 i o (Xd _) hi ho)⟩,?_⟩,s.glob,fun p hpp _ b h1 h2=>?_,s.regs.size,fun i hi t v hcond hv=>?_,by rw [hH0];exact WExt.refl hr0,fun p _ hs=>by cases hs⟩
  . rcases d3 with e|⟨o',ho',hw'⟩
    . exact .inl e
    . exact .inr ⟨o',ho',hw',rfl⟩
  . refine tg (h:=H 0) (by rw [hH0];exact hr0) (sized c' d2) (dY cZ d1 d2) (fun b hb=>stand cZ d1 d2 (fun j oj h1 h2 hoj=>?_) hb)
    rcases kinds D hoj with x|x|x
    . exact .inl x
    . exact .inr x
    . exact absurd x (d4 j oj h1 h2 hoj)
  . exact hr0.none_ge (by
     have:=dY cZ (Xd p) (by omega)
     rw [hH0]at this;omega)
  . have hwalk:(L (0+i)).regs.get t=(L 0).regs.get t:=by
     refine walk_eq (fun j=>(L j).regs.get t) (a:=0) i (fun j h1 h2=>?_)
     have hoj:ops[j]? =some ops[j]:=zM (by omega)
     refine ss D hoj fun hdj=>?_
     have:=(hcond j _ hoj hdj).1 (by omega)
     cases this
    rw [zS]at hwalk
    rw [hwalk,hL0]at hv
    exact s.regs.get t v hv
 have hsched:Region.schedule (P.follows .mixedOrders) opsM (w.tape w.drawn (.order F.fn id))=Region.linearise.go .any opsM opsM.size (w.tape w.drawn (.order F.fn id)) (Xn opsM.size false) []:=by
  rw [ok.mixed];rfl
 obtain⟨S',mu',w',tmps',g1,g2,g3⟩:=go_sim ok hc hcode D cZ shd lt0 clt0 od (F:=F) (dfs:=dfs) (k:=k) (cs:=aN rcC cs0) opsM.size (w.tape w.drawn (.order F.fn id)) (Xn opsM.size false) mu w0 tmps (by simp [od.size])
  (by rw [hlS];intro i o _ hs;cases hs) (by rw [hlS,<-od.size];exact sc _) (by rw [hlS];exact inv0)
 obtain⟨c,hC,hh⟩:=g1.c
 have hcn:c=ops.size:=by
  rcases hC.2.1 with e|⟨o,ho,_,hs⟩
  . exact e
  . rw [g2 c (Array.getElem?_eq_some_iff.1 ho).1]at hs;cases hs
 subst hcn
 rw [hHn]at hh
 obtain⟨muT,wT,tmpsT,t1,t2,t3,t4⟩:=shd ops.size (zQ _)
 rw [hLn]at t3
 rw [hHn]at t1 t4
 have le:Le mu mu':=by
  intro b hb
  rcases g1.ext.old b (lt0 b hb)with x|⟨_,x⟩
  . exact .inl x
  . exact .inr x
 have hkeep: ∀i,i<=ops.size->(L i).dfs=l.dfs/\(L i).rc=l.rc:=by
  intro i
  induction i with
  |zero=>intro _;rw [hL0];exact⟨rfl,rfl⟩
  | succ i ih=>
    intro hi
    have:=ih (by omega)
    have hs:=D.step i ops[i] (zM (by omega))
    generalize L (i+1)=L1 at hs⊢
    generalize H (i+1)=H1 at hs
    generalize T i=T1 at hs
    generalize X i=X1 at hs
    cases hs with
    |skip hg=>exact⟨(qV _ _ _).1.trans this.1,(qV _ _ _).2.trans this.2⟩
    |exec hg hst=>exact⟨(qV _ _ _).1.trans this.1,(qV _ _ _).2.trans this.2⟩
 have hk:=hkeep ops.size (zQ _)
 rw [hLn]at hk
 have ext:Ext mu h w0 mu' h' w':=by
  have W:=g1.ext
  rw [hH0]at W t4
  refine⟨t4.n,W.old,W.fresh,t4.lo,t4.same,W.frame,fun b c base top t sz el hm hg=>?_,W.wsize,W.os,W.tape,W.output,fun b h1 h2=>?_⟩
  . obtain⟨x,y⟩:=W.ro b c base top t sz el hm hg
    exact⟨x,(t4.ro b c base top t sz el hm hg).2.1,y⟩
  . have key: ∀i,i<=ops.size->b<(H i).n->mu' b≠ .none:=by
     intro i
     induction i with
     |zero=>intro _ hb;rw [hH0]at hb;omega
     | succ i ih=>
       intro hi hb
       by_cases hbi:b<(H i).n
       . exact ih (by omega) hbi
       . exact g1.cov i (by omega) (g2 i (by omega)) b (by omega) hb
    exact key ops.size (zQ _) (by rw [hHn];exact h2)
 refine⟨mu',w',tmps',dfs,rcC,⟨hh,g1.glob,⟨g1.size,t3.sized,fun i v hv=>?_⟩,?_,?_,s.ko,s.fn,s.rd.mono le,s.rn,s.fs⟩,Ext.trans e0 ext,?_⟩
 . refine g1.regs ops.size (zQ _) i v (fun p o ho _=>?_) (by rw [hLn];exact hv)
   have:=(Array.getElem?_eq_some_iff.1 ho).1
   exact⟨fun _=>g2 p this,fun _=>this⟩
 . rw [hk.1];exact LR.mono s.dfs fun _ _=>kK.mono le
 . rw [hk.2];exact s.rc.mono le
 . refine Steps.trans (.one ?_) (Steps.trans g3 (.one pQ))
   rw [<-hsched]
   exact tI
end

end Go.Ab

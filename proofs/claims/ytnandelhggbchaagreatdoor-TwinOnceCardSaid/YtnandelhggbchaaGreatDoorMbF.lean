/- A deterministic evaluator of the model's code, and that the model follows it (part 6). -/
import Derived.Test.YtnandelhggbchaaGreatDoorMbE
import Derived.WalkKit
import Derived.ProofKit
import Derived.OpenShut
import Derived.Carry
open List renaming mem_of_getElem?->zM,getElem?_map->Xc,map_congr_left->Xe,mem_cons_self->Xf,length_append->Xg,replicate->Xi,mem_append_right->Xj,filterMap_cons_some->Xn,length_replicate->Xp,filterMap_append->Xq,mem_cons_of_mem->Xr,mem_append_left->Xs,filterMap_cons->Xu,getElem?_set->Xv,getElem?_append_left->Xw,getElem?_replicate->Xy,mem_map_of_mem->XD
open Nat renaming ble->zN,ble_eq_true_of_le->Xb,beq->Xh,le_refl->Xl,lt_or_ge->Xm,beq_refl->Xt,blt->Xx,le_mul_of_pos_right->Xz,eq_of_beq_eq_true->XA,blt_eq->XC,le_trans->XE
open Iff renaming rfl->Xa
open Array renaming getElem?_eq_getElem->Xd,map_congr_left->XB
open Bool renaming and_eq_true->Xk
open Option renaming map_eq_some_iff->Xo
set_option maxHeartbeats 400000
set_option linter.defProp false
set_option linter.unusedVariables false
set_option linter.unusedSimpArgs false
namespace Go.Ab

theorem pop_ext {E:Env} {op:Op} {ρ d:Operand->Value} (e: ∀x∈op.operands.toList,ρ x=d x):pop E ρ op=pop E d op:=by
 cases op
 case build t z=>
  simp only [pop]
  congr 1
  apply Xe
  intro p o
  rw [e p.2 (by simp only [Op.operands];simp;exact⟨p.1,by simpa using o⟩)]
 case makeFunc q a b=>
  cases q<;>(try rfl)
  simp only [pop]
  have s:a.map ρ=a.map d:=by
   apply XB
   intro x g
   exact e x (by simp only [Op.operands];simp;exact .inl g)
  have u:b.map ρ=b.map d:=by
   apply XB
   intro x g
   exact e x (by simp only [Op.operands];simp;exact .inr g)
  rw [s,u]
 case slice t x l h m=>
  simp only [pop]
  have g:=e x (by simp [Op.operands])
  have j:l.map ρ=l.map d:=by cases l with|none=>rfl|some y=>simp [e y (by simp [Op.operands])]
  have v:h.map ρ=h.map d:=by cases h with|none=>rfl|some y=>simp [e y (by simp [Op.operands])]
  have w:m.map ρ=m.map d:=by cases m with|none=>rfl|some y=>simp [e y (by simp [Op.operands])]
  rw [g,j,v,w]
 case call c=>
  have k:c.args.toList.map ρ=c.args.toList.map d:=by
   apply Xe
   intro x g
   refine e x ?_
   simp only [Op.operands,Call.operands]
   cases c.callee<;>simp_all
  cases i:c.callee with
  |value f=>simp only [pop,i]
  |invoke r n=>simp only [pop,i]
  | builtin b=>
    cases b<;>simp only [pop,i]<;>(try rfl)
    . cases j:c.args.toList with
      |nil=>cases c.argTypes.toList<;>rfl
      | cons x A=>
        have g:ρ x=d x:=e x (by
         have:x∈c.args.toList:=by rw [j];exact Xf
         simp only [Op.operands,Call.operands,i];simpa using this)
        cases c.argTypes.toList with
        |nil=>rfl
        |cons t B=>simp only [g]
    . rw [k]
    . rw [k]
 all_goals (try rfl)
 all_goals first
  |(unfold Op.operands at e;simp at e;simp only [pop];simp [e];done)
  |(simp only [pop];done)
  |(cases ‹Fn› <;>simp only [pop];done)

theorem ss{E:Env}{op:Op}{h:Hp}{ρ a:Operand->Value}(e: ∀x∈op.operands.toList,ρ x=a x):aop E ρ h op=aop E a h op:=by
 have i:=pop_ext (E:=E) e
 cases op
 case buildSlice t n q=>
  simp only [aop]
  congr 2
  apply Xe
  intro p i
  rw [e p.2 (by simp only [Op.operands];simp;exact⟨p.1,by simpa using i⟩)]
 case makeMap t r=>cases r<;>simp only [aop,i]
 case call c=>
  have k:c.args.toList.map ρ=c.args.toList.map a:=by
   apply Xe
   intro x g
   refine e x ?_
   simp only [Op.operands,Call.operands]
   cases c.callee<;>simp_all
  have g: ∀x∈c.args.toList,ρ x=a x:=by
   intro x g
   refine e x ?_
   simp only [Op.operands,Call.operands]
   cases c.callee<;>simp_all
  cases d:c.callee with
  | value f=>
    have hf:ρ f=a f:=e f (by simp [Op.operands,Call.operands,d])
    simp only [aop,d,k,hf]
  |invoke r n=>simp only [aop,d]
  | builtin b=>
    cases b<;>simp only [aop,d,i]<;>(try rfl)
    all_goals (cases m:c.args.toList with
     |nil=>first|rfl|(cases c.argTypes.toList<;>rfl)
     | cons s o=>
       simp only [m]at g
       have j:=g s Xf
       cases o with
       |nil=>first|rfl|(cases c.argTypes.toList<;>rfl)|simp only [j]
       | cons y u=>
         have l:=g y (Xr _ Xf)
         first|rfl|(simp only [j,l];done)|(simp only [j];done)|(cases c.argTypes.toList with
          |nil=>rfl
          |cons t v=>simp only [j,l]))
 case defer c=>
  have k:c.args.toList.map ρ=c.args.toList.map a:=by
   apply Xe
   intro x g
   refine e x ?_
   simp only [Op.operands,Call.operands]
   cases c.callee<;>simp_all
  cases d:c.callee with
  | value f=>
    have hf:ρ f=a f:=e f (by simp [Op.operands,Call.operands,d])
    simp only [aop,d,k,hf]
  |invoke r n=>simp only [aop,d]
  |builtin b=>simp only [aop,d]
 all_goals first
  |(simp only [aop];done)
  |(simp only [aop,i];done)
  |(unfold Op.operands at e;simp at e;simp only [aop,e];done)
theorem touch_ext{op:Op}{ρ a:Operand->Value}(e: ∀x∈op.operands.toList,ρ x=a x):touch ρ op=touch a op:=by
 cases op
 case call c=>
  simp only [touch]
  cases b:c.args.toList with
  |nil=>rfl
  | cons x d=>
    simp only []
    rw [e x (by simp only [Op.operands,Call.operands];cases c.callee<;>simp_all)]
 all_goals first
  |rfl
  |(unfold Op.operands at e;simp at e;simp only [touch,e];done)
  |(simp only [touch];done)
theorem rN(l:Loc)(op:Op): ∀x∈op.operands.toList,l.evD (tmpsOf op.operands.toList) x=l.ev x:=by
 intro x a
 cases x with
 | tmp t=>
   simp only [Loc.evD]
   rw [(mr t _).2 ((qj t _).2 a)]
   rfl
 |_=>rfl

def ju(E:Env)(K:Value->Hp->Prop):Option (c8×Hp)->Prop
 |some (.val v,c)=>K v c
 |some (.skip,c)=>K (.tuple #[]) c
 | some (.call f a,c)=>eu E f a none c fun x _ d=>match x with
   | .ret v=>K v d
   | .pan _=>False
 | some (.yield b a,c)=>j5 E b a c fun x d=>match x with
   | .ret v=>K v d
   | .pan _=>False
 |_=>False
theorem opVal_n{E:Env}{x:Option (c8×Hp)}{K:Value->Hp->Prop}:(∃v h',cI E (lim E) x=some (.ret v,h')/\K v h')↔ju E K x:=by
 cases x with
 |none=>exact⟨fun⟨_,_,a,_⟩=>(by cases a),fun h=>h.elim⟩
 | some q=>
   obtain⟨j,k⟩:=q
   cases j with
   |val v=>exact⟨fun⟨_,_,a,b⟩=>(by cases a;exact b),fun h=>⟨_,_,rfl,h⟩⟩
   |skip=>exact⟨fun⟨_,_,a,b⟩=>(by cases a;exact b),fun h=>⟨_,_,rfl,h⟩⟩
   |panic v=>exact⟨fun⟨_,_,a,_⟩=>(by cases a),fun h=>h.elim⟩
   |recov=>exact⟨fun⟨_,_,a,_⟩=>(by cases a),fun h=>h.elim⟩
   |defer d=>exact⟨fun⟨_,_,a,_⟩=>(by cases a),fun h=>h.elim⟩
   | call f e=>
     simp only [ju,cI,eu]
     constructor
     . intro⟨v,h',a,b⟩
       cases g:(lim E).call f e none k with
       |none=>rw [g]at a;cases a
       |some q=>obtain⟨x,l,i⟩:=q;rw [g]at a;cases a;exact⟨_,_,_,rfl,b⟩
     . intro⟨x,l,i,a,b⟩
       rw [a]
       cases x with
       |ret v=>exact⟨_,_,rfl,b⟩
       |pan v=>exact b.elim
   | yield b e=>
     simp only [ju,cI,j5]
     constructor
     . intro⟨v,h',a,c⟩;exact⟨_,_,a,c⟩
     . intro⟨x,i,a,c⟩
       cases x with
       |ret v=>exact⟨_,_,a,c⟩
       |pan v=>exact c.elim
theorem stepD_iff{E:Env}{l:Loc}{c:Bool}{o:Oper}{h:Hp}{K:Value->Hp->Prop}:(∃v h',cw E (lim E) (l.evD (tmpsOf o.op.operands.toList)) c o h=some (v,h')/\K v h')↔
 (if c=true then ju E (fun v h'=>zN h.n h'.lo=true/\K v {h' with lo:=h.lo}) (aop E l.ev {h with lo:=h.n} o.op)else ju E K (aop E l.ev h o.op)):=by
 have e:=rN l o.op
 unfold cw
 cases c with
 | false=>
   rw [if_neg (by simp)]
   simp only [cond_false]
   rw [ss e,<-opVal_n]
   constructor
   . intro⟨v,h',a,b⟩
     cases d:cI E (lim E) (aop E l.ev h o.op)with
     |none=>rw [d]at a;cases a
     |some q=>obtain⟨x,g⟩:=q;rw [d]at a;cases x<;>cases a;exact⟨_,_,rfl,b⟩
   . intro⟨v,h',a,b⟩;rw [a];exact⟨_,_,rfl,b⟩
 | true=>
   rw [if_pos rfl]
   simp only [cond_true]
   rw [ss e,<-opVal_n]
   constructor
   . intro⟨v,h',a,b⟩
     cases d:cI E (lim E) (aop E l.ev {h with lo:=h.n} o.op)with
     |none=>rw [d]at a;cases a
     | some q=>
       obtain⟨x,g⟩:=q
       rw [d]at a
       cases x with
       |pan v=>cases a
       | ret v=>
         simp only []at a
         cases f:zN h.n g.lo with
         |false=>rw [f]at a;cases a
         |true=>rw [f]at a;cases a;exact⟨_,_,rfl,f,b⟩
   . intro⟨v,h',a,f,b⟩
     rw [a]
     simp only [f,cond_true]
     exact⟨_,_,rfl,b⟩
theorem Bd{op:Op}{ρ a:Operand->Value}{b:Bool}{h h':Hp}(e: ∀x∈op.operands.toList,ρ x=a x):bU ρ b op h h'=bU a b op h h':=by
 unfold bU ij;rw [touch_ext e]
theorem run_opsD{E:Env}{cx:Cx}{Q:ew}{k:List Fr}{l:Loc}{h:Hp}{a os:List Oper}{o:Oper}{q i:Nat}{ps:List (Nat×Nat)}{c:List (Nat×Tch)}:Run E (lim E) cx Q (.opsD a q ps (o::os) i c::k) .normal l h↔ ∃b,bV a l.regs o=some b/\
 (if b =true then(if dQ E q i o.op=true then
       ju E (fun v h'=>zN h.n h'.lo=true/\Run E (lim E) cx Q (.opsD a q ps os (i+1) (gw i c (bU l.ev true o.op h h))::k) .normal (l.put o.dst v) {h' with lo:=h.lo}) (aop E l.ev {h with lo:=h.n} o.op)
     else ju E (fun v h'=>Run E (lim E) cx Q (.opsD a q ps os (i+1) (gw i c (bU l.ev false o.op h h'))::k) .normal (l.put o.dst v) h') (aop E l.ev h o.op))
   else Run E (lim E) cx Q (.opsD a q ps os (i+1) c::k) .normal (l.put o.dst (.tuple #[])) h):=by
 rw [xd]
 simp only [Bd (rN l o.op),stepD_iff]
 cases dQ E q i o.op with
 | true=>
   simp only [if_pos]
   exact Xa
 |false=>exact Xa
theorem rA{E:Env}{K:Value->Hp->Prop}{f:FuncId}{args:List Value}{h:Hp}{Q:Value->Hp->Prop}(c:Ret E f args h Q)(d: ∀v h',Q v h'->K v h'):ju E K (some (.call f args,h)):=by
 obtain⟨v,h',a,b⟩:=c
 exact⟨.ret v,none,h',a,d v h' b⟩
end Go.Ab

namespace Go.Ab
noncomputable section
abbrev Opt:=Option (Ex×Loc×Hp)

def getK{α:Type}(t:Tr α):Nat->Option α:=Tr.rec (motive:=fun _=>Nat->Option α) (fun _=>none)
 (fun x _ _ a b i=>Nat.rec (some x) (fun n _=>Bool.rec (b (n/2)) (a (n/2)) (Xh (n%2) 0)) i) t
def setK{α:Type}(t:Tr α):Nat->α->Tr α:=Tr.rec (motive:=fun _=>Nat->α->Tr α) (fun _ _=>.nil)
 (fun y l r a b i x=>Nat.rec (.node x l r) (fun n _=>Bool.rec (.node y l (b (n/2) x)) (.node y (a (n/2) x) r) (Xh (n%2) 0)) i) t
def fS(l:Loc)(d:Option Tmp)(v:Value):Loc:=Option.rec l (fun t=>Loc.mk (setK l.regs t v) l.dfs l.rc) d
def evK(l:Loc)(x:Operand):Value:=Operand.rec (motive:=fun _=>Loc->Value) (fun t l=>Option.rec (.tuple #[]) (fun v=>v) (getK l.regs t)) (fun v _=>Bool.rec poison v (cJ v))
 (fun g _=>Bool.rec poison (.pointer (some ⟨g,0,none⟩)) (Xx g 16)) (fun f _=>.func (.func f) #[] #[]) x l
def exK(e:Ex):(Loc->Hp->Opt)->(Ex->Loc->Hp->Opt)->Loc->Hp->Opt:=Ex.rec (motive:=fun _=>(Loc->Hp->Opt)->(Ex->Loc->Hp->Opt)->Loc->Hp->Opt)
 (fun b _ l h=>b l h) (fun id _ a l h=>a (.exit id) l h) (fun _ a l h=>a .ret l h) (fun v _ a l h=>a (.pan v) l h) e
def dA(x:Opt)(a:Loc->Hp->Opt)(b:Ex->Loc->Hp->Opt):Opt:=Option.rec none (fun q=>Prod.rec (fun e c=>Prod.rec (fun l h=>exK e a b l h) c) q) x
def asInt:Value->Option (IntKind×Int)
 | .int k n=>some (k,n)
 |_=>none
abbrev BM:=IntKind->Int->IntKind->Int->Option Value->Option Value
def arK(f:IntKind->Int->Int->Option Value):BM:=fun k m a n _=>Bool.rec none (f k m n) (jS k a)
def binI(op:BinOp):BM:=BinOp.rec (motive:=fun _=>BM)
 (add:=arK fun k x y=>some (.int k (an k (x+y)))) (sub:=arK fun k x y=>some (.int k (an k (x-y)))) (mul:=arK fun k x y=>some (.int k (an k (x*y))))
 (quo:=fun _ _ _ _ s=>s) (rem:=fun _ _ _ _ s=>s) (and:=fun _ _ _ _ s=>s) (or:=fun _ _ _ _ s=>s) (xor:=fun _ _ _ _ s=>s) (andNot:=fun _ _ _ _ s=>s) (shl:=fun _ _ _ _ s=>s) (shr:=fun _ _ _ _ s=>s)
 (eql:=arK fun _ x y=>some (.bool (gX x y))) (neq:=arK fun _ x y=>some (.bool (!gX x y))) (lss:=arK fun _ x y=>some (.bool (lG x y))) (leq:=arK fun _ x y=>some (.bool (!lG y x)))
 (gtr:=arK fun _ x y=>some (.bool (lG y x))) (geq:=arK fun _ x y=>some (.bool (!lG x y))) op
def binK(E:Env)(op:BinOp)(t:TypeId)(x y:Operand)(a b:Value):Option Value:=
 Option.rec (bQ E op t x y a b) (fun p=>Option.rec (bQ E op t x y a b) (fun q=>binI op p.1 p.2 q.1 q.2 (bQ E op t x y a b)) (asInt b)) (asInt a)
abbrev OpM:=Env->Rec->Cx->Option Tmp->Loc->Hp->(Loc->Hp->Opt)->(Ex->Loc->Hp->Opt)->Opt
def jm(r:Option Value)(d:Option Tmp)(l:Loc)(h:Hp)(a:Loc->Hp->Opt):Opt:=Option.rec none (fun v=>a (fS l d v) h) r
def retHK(r:Option (Hp×Value))(d:Option Tmp)(l:Loc)(a:Loc->Hp->Opt):Opt:=Option.rec none (fun p=>Prod.rec (fun h v=>a (fS l d v) h) p) r
def rP(r:Option Hp)(d:Option Tmp)(l:Loc)(a:Loc->Hp->Opt):Opt:=Option.rec none (fun h=>a (fS l d (.tuple #[])) h) r
def cU(op:Op):OpM:=fun E R a d l h b c=>dA (dG E R a ⟨d,op,0,"",#[],none⟩ l h) b c
def outK(o:Out):Option Tmp->Loc->Hp->(Loc->Hp->Opt)->(Ex->Loc->Hp->Opt)->Opt:=Out.rec (motive:=fun _=>Option Tmp->Loc->Hp->(Loc->Hp->Opt)->(Ex->Loc->Hp->Opt)->Opt)
 (fun v d l h a _=>a (fS l d v) h) (fun v _ l h _ b=>b (.pan v) l h) o
def resK(r:Option (Out×Option (Value×Bool)×Hp))(d:Option Tmp)(l:Loc)(a:Loc->Hp->Opt)(b:Ex->Loc->Hp->Opt):Opt:=Option.rec none (fun q=>Prod.rec (fun o c=>Prod.rec (fun _ h=>outK o d l h a b) c) q) r
def asFn:Value->Option (FuncId×Array Value×Array Value)
 | .func (.func g) a b=>some (g,a,b)
 |_=>none
def callK(c:Call):OpM:=fun E R e d l h a b=>Callee.rec (motive:=fun _=>Opt)
 (fun f=>Option.rec (cU (.call c) E R e d l h a b) (fun p=>resK (R.call p.1 (p.2.1.toList++c.args.toList.map (evK l)++p.2.2.toList) none h) d l a b) (asFn (evK l f)))
 (fun _ _=>cU (.call c) E R e d l h a b) (fun _=>cU (.call c) E R e d l h a b) c.callee
def opK(op:Op):OpM:=Op.rec (motive:=fun _=>OpM)
 (move:=fun x _ _ _ d l h j _=>j (fS l d (evK l x)) h)
 (assign:=fun x _ _ _ d l h j _=>j (fS l d (evK l x)) h)
 (pick:=fun c a b=>cU (.pick c a b))
 (alloc:=fun e=>cU (.alloc e))
 (box:=fun e v=>cU (.box e v))
 (build:=fun t p=>cU (.build t p))
 (buildSlice:=fun t n p=>cU (.buildSlice t n p))
 (insert:=fun t m k v=>cU (.insert t m k v))
 (load:=fun t a E _ _ d l h j _=>jm (eJ E h t (evK l a)) d l h j)
 (store:=fun t a v E _ _ d l h j _=>rP (ii E h t (evK l a) (evK l v)) d l j)
 (ready:=fun g=>cU (.ready g))
 (waits:=fun g=>cU (.waits g))
 (nilCheck:=fun x=>cU (.nilCheck x))
 (binOp:=fun op t x y u E _ _ d l h j _=>jm (binK E op t x y (evK l x) (evK l y)) d l h j)
 (unOp:=fun op t x E _ _ d l h j _=>jm (unP op (evK l x)) d l h j)
 (convert:=fun s t x=>cU (.convert s t x))
 (sliceToArrayPointer:=fun t x=>cU (.sliceToArrayPointer t x))
 (makeInterface:=fun t x=>cU (.makeInterface t x))
 (makeFunc:=fun f a b=>cU (.makeFunc f a b))
 (makeMap:=fun t r=>cU (.makeMap t r))
 (makeChan:=fun t s=>cU (.makeChan t s))
 (makeSlice:=fun t a c=>cU (.makeSlice t a c))
 (slice:=fun t x a b c=>cU (.slice t x a b c))
 (fieldAddr:=fun s x i E _ _ d l h j _=>jm (aw E s (evK l x) i) d l h j)
 (field:=fun t x i E _ _ d l h j _=>jm (aQ E t (evK l x) i) d l h j)
 (indexAddr:=fun t x i E _ _ d l h j _=>jm (er E t (evK l x) (evK l i)) d l h j)
 (index:=fun t x i E _ _ d l h j _=>jm (iP E t (evK l x) (evK l i)) d l h j)
 (lookup:=fun t m k o E _ _ d l h j _=>jm (ce E h t (evK l m) (evK l k) o) d l h j)
 (mapUpdate:=fun t m k v E _ _ d l h j _=>rP (dH E h t (evK l m) (evK l k) (evK l v)) d l j)
 (mapEntry:=fun t m k E _ _ d l h j _=>retHK (ic E h t (evK l m) (evK l k)) d l j)
 (entryStore:=fun t m s v=>cU (.entryStore t m s v))
 (range:=fun t x=>cU (.range t x))
 (next:=fun i s=>cU (.next i s))
 (entry:=fun i=>cU (.entry i))
 (typeAssert:=fun x s t o=>cU (.typeAssert x s t o))
 (extract:=fun t i=>cU (.extract t i))
 (call:=fun c=>callK c)
 (go:=fun c=>cU (.go c))
 (defer:=fun c=>cU (.defer c))
 (panic:=fun x=>cU (.panic x))
 (send:=fun c x=>cU (.send c x))
 (recv:=fun t c o=>cU (.recv t c o))
 (select:=fun q b=>cU (.select q b)) op
def pY(ops:List Oper)(l:Loc)(o:Oper):Option Bool:=Option.rec (some true) (fun _=>bV ops l.regs o) o.guard
def opsK(E:Env)(R:Rec)(cx:Cx)(ops:List Oper)(c:Loc->Hp->Opt)(d:Ex->Loc->Hp->Opt)(os:List Oper):Loc->Hp->Opt:=List.rec (motive:=fun _=>Loc->Hp->Opt) c
 (fun o _ a l h=>Option.rec none (fun b=>Bool.rec (a (fS l o.dst (.tuple #[])) h) (opK o.op E R cx o.dst l h a d) b) (pY ops l o)) os
def pP(op:Op):Bool:=Op.rec (motive:=fun _=>Bool)
 (move:=fun _=>true) (assign:=fun _=>true) (pick:=fun _ _ _=>false) (alloc:=fun _=>false) (box:=fun _ _=>false) (build:=fun _ _=>false) (buildSlice:=fun _ _ _=>false)
 (insert:=fun _ _ _ _=>false) (load:=fun _ _=>true) (store:=fun _ _ _=>true) (ready:=fun _=>false) (waits:=fun _=>false) (nilCheck:=fun _=>false) (binOp:=fun _ _ _ _ _=>true)
 (unOp:=fun _ _ _=>true) (convert:=fun _ _ _=>false) (sliceToArrayPointer:=fun _ _=>false) (makeInterface:=fun _ _=>false) (makeFunc:=fun _ _ _=>false) (makeMap:=fun _ _=>false)
 (makeChan:=fun _ _=>false) (makeSlice:=fun _ _ _=>false) (slice:=fun _ _ _ _ _=>false) (fieldAddr:=fun _ _ _=>true) (field:=fun _ _ _=>true) (indexAddr:=fun _ _ _=>true) (index:=fun _ _ _=>true)
 (lookup:=fun _ _ _ _=>true) (mapUpdate:=fun _ _ _ _=>true) (mapEntry:=fun _ _ _=>true) (entryStore:=fun _ _ _ _=>false) (range:=fun _ _=>false) (next:=fun _ _=>false) (entry:=fun _=>false)
 (typeAssert:=fun _ _ _ _=>false) (extract:=fun _ _=>false) (call:=fun _=>false) (go:=fun _=>false) (defer:=fun _=>false) (panic:=fun _=>false) (send:=fun _ _=>false) (recv:=fun _ _ _=>false)
 (select:=fun _ _=>false) op
def qG(E:Env)(q i:Nat)(op:Op):Bool:=Bool.rec (Bool.rec false (zN 3 (cls E op)) (Nat.testBit q i)) false (Xh q 0)
def outDK(o:Out):(Value->Hp->Opt)->Hp->Opt:=Out.rec (motive:=fun _=>(Value->Hp->Opt)->Hp->Opt) (fun v k h=>k v h) (fun _ _ _=>none) o
def resDK(r:Option (Out×Option (Value×Bool)×Hp))(k:Value->Hp->Opt):Opt:=Option.rec none (fun q=>Prod.rec (fun o a=>Prod.rec (fun _ h=>outDK o k h) a) q) r
def jZ(E:Env)(R:Rec)(a:Bool)(o:Oper)(l:Loc)(h:Hp)(k:Value->Hp->Opt):Opt:=Option.rec none (fun p=>k p.1 p.2) (cw E R l.ev a o h)
def uo(h:Hp)(k:Value->Hp->Opt)(v:Value)(h':Hp):Opt:=Bool.rec none (k v {h' with lo:=h.lo}) (zN h.n h'.lo)
def callDK(E:Env)(R:Rec)(a:Bool)(o:Oper)(c:Call)(l:Loc)(h:Hp)(k:Value->Hp->Opt):Opt:=Callee.rec (motive:=fun _=>Opt)
 (fun f=>Option.rec (jZ E R a o l h k) (fun p=>Bool.rec (resDK (R.call p.1 (p.2.1.toList++c.args.toList.map (evK l)++p.2.2.toList) none h) k)
   (resDK (R.call p.1 (p.2.1.toList++c.args.toList.map (evK l)++p.2.2.toList) none {h with lo:=h.n}) (uo h k)) a) (asFn (evK l f)))
 (fun _ _=>jZ E R a o l h k) (fun _=>jZ E R a o l h k) c.callee
def asCall(op:Op):Option Call:=match op with
 | .call c=>some c
 |_=>none
def tU(E:Env)(R:Rec)(a:Bool)(o:Oper)(l:Loc)(h:Hp)(k:Value->Hp->Opt):Opt:=Option.rec (jZ E R a o l h k) (fun c=>callDK E R a o c l h k) (asCall o.op)
def tX(l:Loc)(op:Op):Option Tch:=match touch (l.evD (tmpsOf op.operands.toList)) op with
 |none=>none
 |some b=>some (.blk b)
abbrev DM:=Nat->Loc->Hp->List (Nat×Tch)->Opt
def ul (E:Env) (R:Rec) (cx:Cx) (q:Nat) (o:Oper) (b:DM) (i:Nat) (l:Loc) (h:Hp) (c:List (Nat×Tch)):Opt:=
 Bool.rec (tU E R (qG E q i o.op) o l h fun v a=>b (i+1) (fS l o.dst v) a (gw i c (bU (l.evD (tmpsOf o.op.operands.toList)) (qG E q i o.op) o.op h a)))
  (Bool.rec (opK o.op E R cx o.dst l h (fun d a=>b (i+1) d a (gw i c (tX l o.op))) (fun _ _ _=>none))
    (jZ E R true o l h fun v a=>b (i+1) (fS l o.dst v) a (gw i c (tX l o.op))) (qG E q i o.op)) (pP o.op)
def nN(E:Env)(R:Rec)(cx:Cx)(ops:List Oper)(q:Nat)(a:DM)(os:List Oper):DM:=List.rec (motive:=fun _=>DM) a
 (fun o _ c i l h d=>Option.rec none (fun b=>Bool.rec (c (i+1) (fS l o.dst (.tuple #[])) h d) (ul E R cx q o c i l h d) b) (pY ops l o)) os
def drawKo(E:Env)(R:Rec)(cx:Cx)(ops:List Oper)(l:Loc)(h:Hp)(a:Loc->Hp->Opt):Opt:=
 Option.rec none (fun p=>nN E R cx ops p.1 (fun _ l h b=>Bool.rec none (a l h) (cg b p.2)) ops 0 l h []) (iS E ops)
def drawK(E:Env)(R:Rec)(cx:Cx)(ops:List Oper)(l:Loc)(h:Hp)(a:Loc->Hp->Opt):Opt:=drawKo E R cx (bC ops) l h a

abbrev CodeM:=Cx->Code->Loc->Hp->(Loc->Hp->Opt)->(Ex->Loc->Hp->Opt)->Opt
def asBool:Value->Option Bool
 | .bool b=>some b
 |_=>none
def blkK(e:Ex):Nat->(Loc->Hp->Opt)->(Ex->Loc->Hp->Opt)->Loc->Hp->Opt:=Ex.rec (motive:=fun _=>Nat->(Loc->Hp->Opt)->(Ex->Loc->Hp->Opt)->Loc->Hp->Opt)
 (fun _ b _ l h=>b l h) (fun i id b a l h=>Bool.rec (a (.exit i) l h) (b l h) (Xh i id)) (fun _ _ a l h=>a .ret l h) (fun v _ _ a l h=>a (.pan v) l h) e
def mE(E:Env)(R:Rec)(M:CodeM)(cx:Cx)(c:Code):Loc->Hp->(Loc->Hp->Opt)->(Ex->Loc->Hp->Opt)->Opt:=Code.rec (motive:=fun _=>Loc->Hp->(Loc->Hp->Opt)->(Ex->Loc->Hp->Opt)->Opt)
 (skip:=fun l h a _=>a l h)
 (region:=fun _ g k l h a d=>Bool.rec (opsK E R cx g.toList a d g.toList l h) (Bool.rec (drawK E R cx g.toList l h a) (dA (cutD E R cx g.toList l h) a d) (E.cut cx.fn)) k)
 (seq:=fun _ _ i j l h a d=>i l h (fun l h=>j l h a d) d)
 (cond:=fun c _ _ i j l h a d=>Option.rec none (fun t=>Bool.rec (j l h a d) (i l h a d) t) (asBool (evK l c)))
 (block:=fun id _ m l h a d=>m l h a (fun e l h=>blkK e id a d l h))
 (loop:=fun b m l h a d=>m l h (fun l h=>M cx (.loop b) l h a d) d)
 (rangeFunc:=fun f p o n _ _ l h a d=>dA (ie R cx (evK l f) p o n l h) a d)
 (exit:=fun id l h _ d=>d (.exit id) l h)
 (scope:=fun _ m l h a d=>m l h a d)
 (label:=fun _ l h a _=>a l h)
 (goto:=fun _ _ _ _ _=>none)
 (ret:=fun l h _ d=>d .ret l h)
 (refuse:=fun _ _ _ _ _=>none) c
abbrev np:=Option (Out×Option (Value×Bool)×Hp)
def tL(E:Env)(R:Rec)(b:Func)(l:Loc)(h':Hp):np:=match bR R l.dfs none h' with
 | some (none,a)=>match aU E l.regs a b.results.toList with
   |none=>none
   |some c=>some (.ret (ac c),l.rc,a)
 |_=>none
def doneK(E:Env)(R:Rec)(a:Func)(l:Loc)(h:Hp):np:=List.rec (motive:=fun _=>np)
 (Option.rec none (fun b=>some (.ret (ac b),l.rc,h)) (aU E l.regs h a.results.toList)) (fun _ _ _=>tL E R a l h) l.dfs
def slowPan(E:Env)(R:Rec)(b:Func)(v:Value)(l:Loc)(h':Hp):np:=match bR R l.dfs (some v) h' with
 |none=>none
 |some (some v,a)=>some (.pan v,l.rc,a)
 | some (none,a)=>match aU E l.regs a b.results.toList with
   |none=>none
   |some c=>some (.ret (ac c),l.rc,a)
def exLeave(e:Ex):Env->Rec->Func->Loc->Hp->np:=Ex.rec (motive:=fun _=>Env->Rec->Func->Loc->Hp->np) doneK (fun _ _ _ _ _ _=>none) doneK (fun v E R a l h=>slowPan E R a v l h) e
def leaveK(E:Env)(R:Rec)(a:Func)(r:Opt):np:=Option.rec none (fun q=>Prod.rec (fun e b=>Prod.rec (fun l h=>exLeave e E R a l h) b) q) r
def uw(E:Env)(R:Rec)(f:FuncId)(args:List Value)(b:Option (Value×Bool))(h:Hp)(a:Func)(body:Code):np:=
 Bool.rec none (leaveK E R a (R.code ⟨f,a.ntmps,none⟩ body ⟨(Tr.blank (.tuple #[]) a.ntmps a.ntmps).setAll 0 args,[],b⟩ h)) (zN args.length a.ntmps)
def callBK(E:Env)(R:Rec)(f:FuncId)(args:List Value)(c:Option (Value×Bool))(h:Hp):np:=
 Option.rec none (fun b=>Option.rec none (fun a=>uw E R f args c h b a) b.body) (E.fn f)
def uB(E:Env)(R:Rec)(f:FuncId)(args:List Value)(a:Option (Value×Bool))(h:Hp):np:=
 Option.rec (callBK E R f args a h) (fun v=>Option.rec (some (.ret v,none,h)) (fun _=>none) a) (E.orc f args)
structure RK where
 call:FuncId->List Value->Option (Value×Bool)->Hp->np
 code:CodeM
def RK.rec'(K:RK):Rec:=⟨K.call,fun a c l h=>K.code a c l h (fun l h=>some (.normal,l,h)) (fun e l h=>some (e,l,h))⟩
def botK:RK:=⟨fun _ _ _ _=>none,fun _ _ _ _ _ _=>none⟩
def nextRK(E:Env)(K:RK):RK:=⟨fun f a b h=>uB E K.rec' f a b h,fun d c l h e g=>mE E K.rec' K.code d c l h e g⟩
def runK(E:Env)(n:Nat):RK:=Nat.rec botK (fun _ K=>nextRK E K) n
def envK(a:Tr Func)(b:Tr TypeInfo)(c:List Nat):Env:={fn:=fun f=>getK a f,ty:=fun t=>getK b t,eqok:=fun t=>mi t c}
end
end Go.Ab

namespace Go.Ab
noncomputable section
theorem getK_eq{α:Type}(t:Tr α)(i:Nat):getK t i=t.get i:=rfl
theorem setK_eq{α:Type}(t:Tr α)(i:Nat)(x:α):setK t i x=t.set i x:=rfl

theorem mh(l:Loc)(d:Option Tmp)(v:Value):fS l d v=l.put d v:=by
 cases d with
 |none=>rfl
 |some t=>show Loc.mk (setK l.regs t v) l.dfs l.rc=_;rw [setK_eq];rfl
theorem fG(l:Loc):evK l=l.ev:=by
 funext x
 cases x with
 | tmp t=>
   show Option.rec (motive:=fun _=>Value) _ _ (getK l.regs t)=_
   rw [getK_eq]
   simp only [Loc.ev]
   cases l.regs.get t<;>rfl
 |const v=>simp only [Loc.ev];show Bool.rec (motive:=fun _=>Value) poison v (cJ v)=_;cases cJ v<;>rfl
 |global g=>simp only [Loc.ev];show Bool.rec (motive:=fun _=>Value) poison _ (Xx g 16)=_;cases Xx g 16<;>rfl
 |func f=>rfl

theorem bind2_id(x:Opt):dA x (fun l h=>some (.normal,l,h)) (fun e l h=>some (e,l,h))=x:=by
 cases x with
 |none=>rfl
 |some q=>obtain⟨e,l,h⟩:=q;cases e<;>rfl
theorem qI(x:Opt)(c:Loc->Hp->Opt)(d:Ex->Loc->Hp->Opt)(f:Loc->Hp->Opt)(a:Ex->Loc->Hp->Opt)(b: ∀e l h,e≠ .normal->d e l h=a e l h):
 dA x (fun l h=>dA (c l h) f a) d=dA (match x with
  |some (.normal,l,h)=>c l h
  |r=>r) f a:=by
 cases x with
 |none=>rfl
 | some q=>
   obtain⟨e,l,h⟩:=q
   cases e with
   |normal=>rfl
   |exit i=>exact b _ _ _ (by simp)
   |ret=>exact b _ _ _ (by simp)
   |pan v=>exact b _ _ _ (by simp)

theorem binK_eq(E:Env)(op:BinOp)(t:TypeId)(x y:Operand)(a b:Value):binK E op t x y a b=bQ E op t x y a b:=by
 cases a<;>(try rfl)
 cases b<;>(try rfl)
 rename_i k m c n
 cases op<;>(try rfl)
 all_goals (show Bool.rec (motive:=fun _=>Option Value) none _ (jS k c)=(bif jS k c then _ else none);cases jS k c<;>rfl)

theorem retK_eq(r:Option Value)(o:Oper)(l:Loc)(h:Hp)(E:Env)(R:Rec)(a:Loc->Hp->Opt)(b:Ex->Loc->Hp->Opt):jm r o.dst l h a=dA (mI o l (cI E R (cq h r))) a b:=by
 cases r with
 |none=>rfl
 |some v=>show a (fS l o.dst v) h=a (l.put o.dst v) h;rw [mh]
theorem retHK_eq(r:Option (Hp×Value))(o:Oper)(l:Loc)(E:Env)(R:Rec)(a:Loc->Hp->Opt)(b:Ex->Loc->Hp->Opt):retHK r o.dst l a=dA (mI o l (cI E R (cR r))) a b:=by
 cases r with
 |none=>rfl
 |some p=>obtain⟨h,v⟩:=p;show a (fS l o.dst v) h=a (l.put o.dst v) h;rw [mh]
theorem retUK_eq(r:Option Hp)(o:Oper)(l:Loc)(E:Env)(R:Rec)(a:Loc->Hp->Opt)(b:Ex->Loc->Hp->Opt):rP r o.dst l a=dA (mI o l (cI E R (eQ r))) a b:=by
 cases r with
 |none=>rfl
 |some h=>show a (fS l o.dst (.tuple #[])) h=a (l.put o.dst (.tuple #[])) h;rw [mh]
theorem resK_eq(R:Rec)(g:FuncId)(args:List Value)(o:Oper)(l:Loc)(h:Hp)(E:Env)(a:Loc->Hp->Opt)(b:Ex->Loc->Hp->Opt):
 resK (R.call g args none h) o.dst l a b=dA (mI o l (cI E R (some (.call g args,h)))) a b:=by
 simp only [cI]
 cases R.call g args none h with
 |none=>rfl
 | some q=>
   obtain⟨x,d,c⟩:=q
   cases x with
   |ret v=>show a (fS l o.dst v) c=a (l.put o.dst v) c;rw [mh]
   |pan v=>rfl
theorem lC{E:Env}{R:Rec}{cx:Cx}{o:Oper}{l:Loc}{h:Hp}{x:Option (c8×Hp)}(a:aop E l.ev h o.op=x)(b: ∀h',x≠some (.recov,h'))(c: ∀d h',x≠some (.defer d,h')):dG E R cx o l h=mI o l (cI E R x):=by
 unfold dG
 rw [a]
 split
 . exact absurd rfl (b _)
 . exact absurd rfl (c _ _)
 . rfl
theorem sZ{h:Hp}{r:Option Value}:(∀h',cq h r≠some (.recov,h'))/\ ∀d h',cq h r≠some (.defer d,h'):=by cases r<;>exact⟨by intros;simp [cq],by intros;simp [cq]⟩
theorem tJ{r:Option (Hp×Value)}:(∀h',cR r≠some (.recov,h'))/\ ∀d h',cR r≠some (.defer d,h'):=by cases r<;>exact⟨by intros;simp [cR],by intros;simp [cR]⟩
theorem tK{r:Option Hp}:(∀h',eQ r≠some (.recov,h'))/\ ∀d h',eQ r≠some (.defer d,h'):=by cases r<;>exact⟨by intros;simp [eQ],by intros;simp [eQ]⟩
theorem opK_eq(E:Env)(R:Rec)(cx:Cx)(o:Oper)(l:Loc)(h:Hp)(q:Loc->Hp->Opt)(s:Ex->Loc->Hp->Opt):opK o.op E R cx o.dst l h q s=dA (dG E R cx o l h) q s:=by
 have w: ∀r,aop E l.ev h o.op=cq h r->jm r o.dst l h q=dA (dG E R cx o l h) q s:=fun r A=>by rw [lC A sZ.1 sZ.2];exact retK_eq r o l h E R q s
 have B: ∀r,aop E l.ev h o.op=cR r->retHK r o.dst l q=dA (dG E R cx o l h) q s:=fun r A=>by rw [lC A tJ.1 tJ.2];exact retHK_eq r o l E R q s
 have C: ∀r,aop E l.ev h o.op=eQ r->rP r o.dst l q=dA (dG E R cx o l h) q s:=fun r A=>by rw [lC A tK.1 tK.2];exact retUK_eq r o l E R q s
 obtain⟨j,op,D,pos,z,guard⟩:=o
 simp only []at w B C⊢
 cases op
 case move x=>
  have:=w (some (l.ev x)) rfl
  rw [<-this]
  show q (fS l j (evK l x)) h=q (fS l j (l.ev x)) h
  rw [fG]
 case assign x=>
  have:=w (some (l.ev x)) rfl
  rw [<-this]
  show q (fS l j (evK l x)) h=q (fS l j (l.ev x)) h
  rw [fG]
 case load t a=>rw [<-w _ rfl];show jm (eJ E h t (evK l a)) j l h q=_;rw [fG]
 case store t a v=>rw [<-C _ rfl];show rP (ii E h t (evK l a) (evK l v)) j l q=_;rw [fG]
 case binOp b t x y u=>rw [<-w (bQ E b t x y (l.ev x) (l.ev y)) rfl];show jm (binK E b t x y (evK l x) (evK l y)) j l h q=_;rw [fG,binK_eq]
 case unOp b t x=>rw [<-w (unP b (l.ev x)) rfl];show jm (unP b (evK l x)) j l h q=_;rw [fG]
 case fieldAddr t x i=>rw [<-w (aw E t (l.ev x) i) rfl];show jm (aw E t (evK l x) i) j l h q=_;rw [fG]
 case field t x i=>rw [<-w (aQ E t (l.ev x) i) rfl];show jm (aQ E t (evK l x) i) j l h q=_;rw [fG]
 case indexAddr t x i=>rw [<-w (er E t (l.ev x) (l.ev i)) rfl];show jm (er E t (evK l x) (evK l i)) j l h q=_;rw [fG]
 case index t x i=>rw [<-w (iP E t (l.ev x) (l.ev i)) rfl];show jm (iP E t (evK l x) (evK l i)) j l h q=_;rw [fG]
 case lookup t m k b=>rw [<-w _ rfl];show jm (ce E h t (evK l m) (evK l k) b) j l h q=_;rw [fG]
 case mapUpdate t m k v=>rw [<-C _ rfl];show rP (dH E h t (evK l m) (evK l k) (evK l v)) j l q=_;rw [fG]
 case mapEntry t m k=>rw [<-B _ rfl];show retHK (ic E h t (evK l m) (evK l k)) j l q=_;rw [fG]
 case call c=>
  show callK c E R cx j l h q s=_
  unfold callK
  cases F:c.callee with
  |invoke r n=>rfl
  |builtin b=>rfl
  | value f=>
    show Option.rec (motive:=fun _=>Opt) (cU (.call c) E R cx j l h q s) _ (asFn (evK l f))=_
    rw [fG]
    cases hf:asFn (l.ev f)with
    |none=>rfl
    | some p=>
      obtain⟨g,a,b⟩:=p
      have B:l.ev f=.func (.func g) a b:=by
       unfold asFn at hf
       split at hf
       . rename_i G;cases hf;exact G
       . cases hf
      have A:aop E l.ev h (.call c)=some (.call g (a.toList++c.args.toList.map l.ev++b.toList),h):=by simp only [aop,F,B,target]
      rw [lC (o:=⟨j,.call c,D,pos,z,guard⟩) A (by intro H e;cases e) (by intro d H e;cases e)]
      exact resK_eq R g _ ⟨j,.call c,D,pos,z,guard⟩ l h E q s
 all_goals rfl

theorem wp(ops:List Oper)(l:Loc)(o:Oper):pY ops l o=bV ops l.regs o:=by
 unfold pY
 cases a:o.guard with
 |none=>unfold bV;rw [a]
 |some q=>rfl
theorem opsK_eq(E:Env)(R:Rec)(cx:Cx)(ops:List Oper)(c:Loc->Hp->Opt)(a:Ex->Loc->Hp->Opt): ∀(os:List Oper) (l:Loc) (h:Hp),opsK E R cx ops c a os l h=dA (ik E R cx ops os l h) c a
 | [],l,h=>rfl
 | o ::os,l,h=>by
   have d:=opsK_eq E R cx ops c a os
   show Option.rec (motive:=fun _=>Opt) none (fun b=>Bool.rec (opsK E R cx ops c a os (fS l o.dst (.tuple #[])) h) (opK o.op E R cx o.dst l h (opsK E R cx ops c a os) a) b) (pY ops l o)=_
   rw [wp]
   simp only [ik]
   cases bV ops l.regs o with
   |none=>rfl
   | some b=>
     cases b with
     |false=>show opsK E R cx ops c a os (fS l o.dst (.tuple #[])) h=_;rw [d,mh]
     | true=>
       show opK o.op E R cx o.dst l h (opsK E R cx ops c a os) a=_
       rw [opK_eq,show opsK E R cx ops c a os=fun l h=>dA (ik E R cx ops os l h) c a from funext fun l=>funext fun h=>d l h]
       rw [qI _ _ _ _ _ (fun _ _ _ _=>rfl)]
       simp only []
       cases dG E R cx o l h with
       |none=>rfl
       |some q=>obtain⟨e,f,g⟩:=q;cases e<;>rfl

end
end Go.Ab

namespace Go.Ab
noncomputable section

theorem v8(E:Env)(R:Rec)(l:Loc)(a:Bool)(o:Oper)(h:Hp):cw E R (l.evD (tmpsOf o.op.operands.toList)) a o h=cw E R l.ev a o h:=by
 unfold cw
 rw [ss (rN l o.op),ss (rN l o.op)]
theorem fast_step{E:Env}{R:Rec}{cx:Cx}{o:Oper}{l:Loc}{h:Hp}(hf:pP o.op=true){K:Value->Hp->Opt}:
 dA (dG E R cx o l h) (fun l' h'=>none) (fun _ _ _=>none)=none/\
 ∀ b:Loc->Hp->Opt,dA (dG E R cx o l h) b (fun _ _ _=>none)=(match cw E R l.ev false o h with
   |none=>none
   |some (v,h')=>b (l.put o.dst v) h'):=by
 have c: ∀x,aop E l.ev h o.op=x->((∃e r,x=cq e r)\/(∃r,x=cR r)\/ ∃r,x=eQ r)-> ∀b:Loc->Hp->Opt,dA (dG E R cx o l h) b (fun _ _ _=>none)=(match cw E R l.ev false o h with
  |none=>none
  |some (v,h')=>b (l.put o.dst v) h'):=by
  intro x g i b
  have j:(∀h',x≠some (.recov,h'))/\ ∀d h',x≠some (.defer d,h'):=by
   rcases i with⟨e,r,rfl⟩|⟨r,rfl⟩|⟨r,rfl⟩
   . exact sZ
   . exact tJ
   . exact tK
  rw [lC g j.1 j.2]
  simp only [cw,cond_false,g]
  rcases i with⟨e,r,rfl⟩|⟨r,rfl⟩|⟨r,rfl⟩<;>cases r<;>rfl
 have a:(∃e r,aop E l.ev h o.op=cq e r)\/(∃r,aop E l.ev h o.op=cR r)\/ ∃r,aop E l.ev h o.op=eQ r:=by
  obtain⟨k,op,m,pos,f,guard⟩:=o
  simp only []at hf⊢
  cases op<;>(try (cases hf;done))
  all_goals first
   |exact .inl ⟨h,some (l.ev _),rfl⟩
   |exact .inl ⟨h,_,rfl⟩
   |exact .inr (.inl ⟨_,rfl⟩)
   |exact .inr (.inr ⟨_,rfl⟩)
 refine⟨?_,c _ rfl a⟩
 rw [c _ rfl a]
 cases cw E R l.ev false o h<;>rfl
theorem tD(E:Env)(q i:Nat)(op:Op):qG E q i op=dQ E q i op:=by
 unfold qG dQ
 cases a:Xh q 0 with
 | true=>
   have:q=0:=XA a
   subst this
   simp
 |false=>cases Nat.testBit q i<;>rfl
theorem elseDK_eq (E:Env) (R:Rec) (d:Bool) (o:Oper) (l:Loc) (h:Hp) (k:Value->Hp->Opt):tU E R d o l h k=jZ E R d o l h k:=by
 unfold tU
 cases e:asCall o.op with
 |none=>rfl
 | some c=>
   show callDK E R d o c l h k=_
   have t:o.op=.call c:=by
    unfold asCall at e
    split at e
    . rename_i i;cases e;exact i
    . cases e
   unfold callDK
   cases j:c.callee with
   |invoke r n=>rfl
   |builtin b=>rfl
   | value f =>
     show Option.rec (motive:=fun _=>Opt) (jZ E R d o l h k) _ (asFn (evK l f))=_
     rw [fG]
     cases hf:asFn (l.ev f)with
     |none=>rfl
     | some p=>
       obtain⟨g,a,b⟩:=p
       have u:l.ev f=.func (.func g) a b:=by
        unfold asFn at hf
        split at hf
        . rename_i i;cases hf;exact i
        . cases hf
       have s: ∀h,aop E l.ev h o.op=some (.call g (a.toList++c.args.toList.map l.ev++b.toList),h):=by intro h;rw [t];simp only [aop,j,u,target]
       unfold jZ cw
       cases d with
       | false=>
         simp only [cond_false,s,cI]
         show resDK (R.call g (a.toList++c.args.toList.map l.ev++b.toList) none h) k=_
         cases R.call g (a.toList++c.args.toList.map l.ev++b.toList) none h with
         |none=>rfl
         |some q=>obtain⟨x,w,m⟩:=q;cases x<;>rfl
       | true=>
         simp only [cond_true,s,cI]
         show resDK (R.call g (a.toList++c.args.toList.map l.ev++b.toList) none {h with lo:=h.n}) (uo h k)=_
         cases R.call g (a.toList++c.args.toList.map l.ev++b.toList) none {h with lo:=h.n}with
         |none=>rfl
         | some q=>
           obtain⟨x,w,m⟩:=q
           cases x with
           |pan v=>rfl
           | ret v=>
             show uo h k v m=_
             simp only [uo]
             cases zN h.n m.lo<;>rfl
theorem zX{op:Op}(h:pP op=true):di op=false:=by
 cases op<;>first|rfl|exact absurd h (by simp [pP])
theorem yt (E:Env) (R:Rec) (cx:Cx) (ops:List Oper) (q:Nat) (K:Loc->Hp->List (Nat×Tch)->Opt): ∀(os:List Oper) (i:Nat) (l:Loc) (h:Hp) (a:List (Nat×Tch)),
 nN E R cx ops q (fun _ l h a=>K l h a) os i l h a=(match a8 E R ops q os i l h a with
  |none=>none
  |some (l',h',d)=>K l' h' d)
 | [],i,l,h,a=>rfl
 | o :: os,i,l,h,a=>by
   have g:=yt E R cx ops q K os
   show Option.rec (motive:=fun _=>Opt) none (fun b=>Bool.rec (nN E R cx ops q (fun _ l h a=>K l h a) os (i+1) (fS l o.dst (.tuple #[])) h a) (ul E R cx q o (nN E R cx ops q (fun _ l h a=>K l h a) os) i l h a) b) (pY ops l o)=_
   rw [wp]
   simp only [a8]
   cases bV ops l.regs o with
   |none=>rfl
   | some b=>
     cases b with
     |false=>show nN E R cx ops q (fun _ l h a=>K l h a) os (i+1) (fS l o.dst (.tuple #[])) h a=_;rw [g,mh]
     | true=>
       show ul E R cx q o (nN E R cx ops q (fun _ l h a=>K l h a) os) i l h a=_
       simp only []
       have c: ∀f,dQ E q i o.op=f->jZ E R f o l h (fun v h'=>nN E R cx ops q (fun _ l h a=>K l h a) os (i+1) (fS l o.dst v) h' (gw i a (bU (l.evD (tmpsOf o.op.operands.toList)) f o.op h h')))=
        (match(match cw E R (l.evD (tmpsOf o.op.operands.toList)) (dQ E q i o.op) o h with
          |none=>none
          |some (v,h')=>a8 E R ops q os (i+1) (l.put o.dst v) h' (gw i a (bU (l.evD (tmpsOf o.op.operands.toList)) (dQ E q i o.op) o.op h h')))with
          |none=>none
          |some (l',h',d)=>K l' h' d):=by
        intro f e
        rw [e,v8]
        unfold jZ
        cases cw E R l.ev f o h with
        |none=>rfl
        |some p=>obtain⟨v,h'⟩:=p;show nN E R cx ops q _ os (i+1) (fS l o.dst v) h' _=_;rw [g,mh]
       unfold ul
       cases hf:pP o.op with
       | false=>
         show tU E R (qG E q i o.op) o l h _=_
         rw [elseDK_eq,tD]
         exact c _ rfl
       | true=>
         have k: ∀b (h h':Hp),bU (l.evD (tmpsOf o.op.operands.toList)) b o.op h h'=tX l o.op:=by
          intro b h h'
          have j:dR o.op=false:=by cases m:o.op<;>first|rfl|(rw [m]at hf;simp [pP]at hf)
          unfold bU tX ij
          rw [zX hf,j];rfl
         simp only [k]at c⊢
         cases e:qG E q i o.op with
         | true=>
           rw [tD]at e
           exact c true e
         | false=>
           rw [tD]at e
           show opK o.op E R cx o.dst l h _ _=_
           rw [opK_eq,(fast_step (R:=R) hf (K:=fun _ _=>none)).2,v8,e]
           cases cw E R l.ev false o h with
           |none=>rfl
           |some p=>obtain⟨v,h'⟩:=p;simp only [];rw [g]
theorem codeK_eq(E:Env)(R:Rec)(M:CodeM)(D: ∀cx c l h d g,M cx c l h d g=dA (R.code cx c l h) d g)(cx:Cx): ∀(c:Code) (l:Loc) (h:Hp) (d:Loc->Hp->Opt) (g:Ex->Loc->Hp->Opt),
 mE E R M cx c l h d g=dA (aE E R cx c l h) d g:=by
 intro c
 induction c with
 |skip=>intro l h d g;rfl
 |label n=>intro l h d g;rfl
 | region id j s=>
   intro l h d g
   cases s with
   |false=>exact opsK_eq E R cx j.toList d g j.toList l h
   | true=>
     show(Bool.rec (motive:=fun _=>Opt) (drawK E R cx j.toList l h d) (dA (cutD E R cx j.toList l h) d g) (E.cut cx.fn):Opt)=_
     simp only [aE,cond_true]
     cases E.cut cx.fn with
     |true=>rfl
     |false=>
     show drawK E R cx j.toList l h d=_
     simp only [cond_false]
     unfold drawK drawKo
     generalize bC j.toList=r
     cases iS E r with
     |none=>rfl
     | some p=>
       obtain⟨q,u⟩:=p
       show nN E R cx r q (fun _ l h B=>Bool.rec none (d l h) (cg B u)) r 0 l h []=_
       rw [yt E R cx r q (fun l h B=>Bool.rec none (d l h) (cg B u))]
       simp only []
       cases a8 E R r q r 0 l h []with
       |none=>rfl
       | some x=>
         obtain⟨a,b,c⟩:=x
         simp only []
         cases cg c u<;>rfl
 | seq a b k o=>
   intro l h d g
   show mE E R M cx a l h (fun l h=>mE E R M cx b l h d g) g=_
   rw [k,show(fun l h=>mE E R M cx b l h d g)=fun l h=>dA (aE E R cx b l h) d g from funext fun l=>funext fun h=>o l h d g]
   rw [qI _ _ _ _ _ (fun _ _ _ _=>rfl)]
   simp only [aE]
   cases aE E R cx a l h with
   |none=>rfl
   |some q=>obtain⟨e,z,A⟩:=q;cases e<;>rfl
 | cond c a b k o=>
   intro l h d g
   show Option.rec (motive:=fun _=>Opt) none (fun t=>Bool.rec (mE E R M cx b l h d g) (mE E R M cx a l h d g) t) (asBool (evK l c))=_
   rw [fG,k,o]
   simp only [aE]
   cases l.ev c<;>(try rfl)
   rename_i t
   cases t<;>rfl
 | block id b w=>
   intro l h d g
   show mE E R M cx b l h d (fun e l h=>blkK e id d g l h)=_
   rw [w]
   simp only [aE]
   cases aE E R cx b l h with
   |none=>rfl
   | some q=>
     obtain⟨e,z,A⟩:=q
     cases e with
     |normal=>rfl
     |ret=>rfl
     |pan v=>rfl
     | exit i=>
       show Bool.rec (motive:=fun _=>Opt) (g (.exit i) z A) (d z A) (Xh i id)=_
       simp only []
       cases Xh i id<;>rfl
 | loop b w=>
   intro l h d g
   show mE E R M cx b l h (fun l h=>M cx (.loop b) l h d g) g=_
   rw [w,show(fun l h=>M cx (.loop b) l h d g)=fun l h=>dA (R.code cx (.loop b) l h) d g from funext fun l=>funext fun h=>D cx (.loop b) l h d g]
   rw [qI _ _ _ _ _ (fun _ _ _ _=>rfl)]
   simp only [aE]
   cases aE E R cx b l h with
   |none=>rfl
   |some q=>obtain⟨e,z,A⟩:=q;cases e<;>rfl
 | rangeFunc f u C y _ _=>
   intro l h d g
   show dA (ie R cx (evK l f) u C y l h) d g=_
   rw [fG];rfl
 |exit id=>intro l h d g;rfl
 |scope b w=>intro l h d g;exact w l h d g
 |goto n=>intro l h d g;rfl
 |ret=>intro l h d g;rfl
 |refuse m=>intro l h d g;rfl

theorem yI(E:Env)(R:Rec)(a:Func)(l:Loc)(h:Hp):doneK E R a l h=tL E R a l h:=by
 unfold doneK tL
 cases b:l.dfs with
 |cons d c=>rfl
 | nil=>
   simp only [bR]
   cases aU E l.regs h a.results.toList<;>rfl
theorem callBK_eq(E:Env)(R:Rec)(f:FuncId)(args:List Value)(c:Option (Value×Bool))(h:Hp):callBK E R f args c h=jG E R f args c h:=by
 unfold callBK jG
 cases E.fn f with
 |none=>rfl
 | some b=>
   show Option.rec (motive:=fun _=>np) none (fun a=>uw E R f args c h b a) b.body=_
   simp only []
   cases b.body with
   |none=>rfl
   | some a=>
     show uw E R f args c h b a=_
     unfold uw
     simp only []
     cases zN args.length b.ntmps with
     |false=>rfl
     | true=>
       show leaveK E R b _=_
       simp only [cond_true]
       cases R.code ⟨f,b.ntmps,none⟩ a ⟨(Tr.blank (.tuple #[]) b.ntmps b.ntmps).setAll 0 args,[],c⟩ h with
       |none=>rfl
       | some q=>
         obtain⟨e,l,d⟩:=q
         cases e with
         |exit i=>rfl
         |pan v=>rfl
         |normal=>exact yI E R b l d
         |ret=>exact yI E R b l d

theorem callSK_eq(E:Env)(R:Rec)(f:FuncId)(args:List Value)(a:Option (Value×Bool))(h:Hp):uB E R f args a h=iq E R f args a h:=by
 unfold uB iq
 cases E.orc f args with
 |none=>exact callBK_eq E R f args a h
 |some v=>cases a<;>rfl

theorem yD(E:Env): ∀n,(runK E n).rec'=run E n/\ ∀cx c l h b d,(runK E n).code cx c l h b d=dA ((run E n).code cx c l h) b d
 |0=>⟨rfl,fun _ _ _ _ _ _=>rfl⟩
 | n+1=>by
   obtain⟨i,k⟩:=yD E n
   have j: ∀cx c l h b d,(runK E (n+1)).code cx c l h b d=dA ((run E (n+1)).code cx c l h) b d:=by
    intro cx c l h b d
    show mE E (runK E n).rec' (runK E n).code cx c l h b d=dA (aE E (run E n) cx c l h) b d
    rw [i]
    exact codeK_eq E (run E n) (runK E n).code k cx c l h b d
   refine⟨?_,j⟩
   show Rec.mk (fun f a g h=>uB E (runK E n).rec' f a g h) (fun cx c l h=>(runK E (n+1)).code cx c l h (fun l h=>some (.normal,l,h)) (fun e l h=>some (e,l,h)))=next E (run E n)
   rw [i]
   unfold next
   congr 1
   . funext f a g h;exact callSK_eq E (run E n) f a g h
   . funext cx c l h;rw [j,bind2_id];rfl
theorem runK_call(E:Env)(n:Nat)(f:FuncId)(args:List Value)(a:Option (Value×Bool))(h:Hp):(runK E n).call f args a h=(run E n).call f args a h:=by
 rw [<-(yD E n).1];rfl

theorem envK_eq(a:Tr Func)(b:Tr TypeInfo)(c:List Nat):envK a b c=envOf a b c:=rfl

end
end Go.Ab

namespace Go.Ab
section
variable{E:Env}{ρ:Operand->Value}{h:Hp}
theorem o_move{x:Operand}:aop E ρ h (.move x)=some (.val (ρ x),h):=rfl
theorem o_assign{x:Operand}:aop E ρ h (.assign x)=some (.val (ρ x),h):=rfl
theorem o_load{t:TypeId}{a:Operand}:aop E ρ h (.load t a)=cq h (eJ E h t (ρ a)):=rfl
theorem o_store{t:TypeId}{a x:Operand}:aop E ρ h (.store t a x)=eQ (ii E h t (ρ a) (ρ x)):=rfl
theorem o_binOp{op:BinOp}{t u:TypeId}{x y:Operand}:aop E ρ h (.binOp op t x y u)=cq h (bQ E op t x y (ρ x) (ρ y)):=rfl
theorem o_unOp{op:UnOp}{t:TypeId}{x:Operand}:aop E ρ h (.unOp op t x)=cq h (unP op (ρ x)):=rfl
theorem Ak{f:FuncId}{a b:Array Operand}:aop E ρ h (.makeFunc (.func f) a b)=some (.val (.func (.func f) (a.map ρ) (b.map ρ)),h):=rfl
theorem o_slice{t:TypeId}{x:Operand}{l u m:Option Operand}:aop E ρ h (.slice t x l u m)=cq h (dZ E t (ρ x) (l.map ρ) (u.map ρ) (m.map ρ)):=rfl
theorem zI{s:TypeId}{x:Operand}{i:Nat}:aop E ρ h (.fieldAddr s x i)=cq h (aw E s (ρ x) i):=rfl
theorem o_field{s:TypeId}{x:Operand}{i:Nat}:aop E ρ h (.field s x i)=cq h (aQ E s (ρ x) i):=rfl
theorem zP{t:TypeId}{x i:Operand}:aop E ρ h (.indexAddr t x i)=cq h (er E t (ρ x) (ρ i)):=rfl
theorem o_index{t:TypeId}{x i:Operand}:aop E ρ h (.index t x i)=cq h (iP E t (ρ x) (ρ i)):=rfl
theorem o_extract{t:Operand}{i:Nat}:aop E ρ h (.extract t i)=cq h (match ρ t with| .tuple vs=>vs.toList[i]? |_=>none):=rfl
theorem o_build{t:TypeId}{ps:Array (Nat×Operand)}:aop E ρ h (.build t ps)=cq h (iK E t (ps.toList.map fun p=>(p.1,ρ p.2))):=rfl
theorem xV{t:TypeId}{n:Nat}{ps:Array (Nat×Operand)}:aop E ρ h (.buildSlice t n ps)=cR (je E h t n (ps.toList.map fun p=>(p.1,ρ p.2))):=rfl
theorem zZ{t:TypeId}{l c:Operand}:aop E ρ h (.makeSlice t l c)=cR (iZ E h t (ρ l) (ρ c)):=rfl
theorem zj{x:Operand}{s t:TypeId}{a:Bool}:aop E ρ h (.typeAssert x s t a)=cq h (ol E (ρ x) t a):=rfl
theorem o_convert{s t:TypeId}{x:Operand}:aop E ρ h (.convert s t x)=cR (jy E h s t (ρ x)):=rfl
theorem o_lookup{t:TypeId}{m k:Operand}{a:Bool}:aop E ρ h (.lookup t m k a)=cq h (ce E h t (ρ m) (ρ k) a):=rfl
theorem zY{t:TypeId}{m k v:Operand}:aop E ρ h (.mapUpdate t m k v)=eQ (dH E h t (ρ m) (ρ k) (ρ v)):=rfl
theorem AO{t:TypeId}{m k:Operand}:aop E ρ h (.mapEntry t m k)=cR (ic E h t (ρ m) (ρ k)):=rfl
theorem zk{t:TypeId}{m s v:Operand}:aop E ρ h (.entryStore t m s v)=eQ (ku h (ρ m) (ρ s) (ρ v)):=rfl
theorem o_callv{f:Operand}{as:Array Operand}{ts:Array TypeId}:aop E ρ h (.call ⟨.value f,as,ts⟩)=match target (ρ f) (as.toList.map ρ)with|none=>none|some x=>some (x,h):=rfl
theorem o_max{x y:Operand}{ts:Array TypeId}:aop E ρ h (.call ⟨.builtin .max,#[x,y],ts⟩)=cq h (fZ true (ρ x) [ρ y]):=rfl
theorem o_min{x y:Operand}{ts:Array TypeId}:aop E ρ h (.call ⟨.builtin .min,#[x,y],ts⟩)=cq h (fZ false (ρ x) [ρ y]):=rfl
theorem o_append{s x:Operand}{ts:Array TypeId}:aop E ρ h (.call ⟨.builtin .append,#[s,x],ts⟩)=cR (cZ E h ts.toList (ρ s) (ρ x)):=rfl
theorem o_copy{s x:Operand}{ts:Array TypeId}:aop E ρ h (.call ⟨.builtin .copy,#[s,x],ts⟩)=cR (copyV E h ts.toList (ρ s) (ρ x)):=rfl
end
theorem AC{h:Hp}{v:Value}:cq h (some v)=some (.val v,h):=rfl
theorem AQ{h:Hp}{v:Value}:cR (some (h,v))=some (.val v,h):=rfl
theorem AW{h:Hp}:eQ (some h)=some (.skip,h):=rfl
theorem fb(k:IntKind):jS k k=true:=by rw [fQ];simp
theorem b_add{E:Env}{t:TypeId}{x y:Operand}{k:IntKind}{m n:Int}:bQ E .add t x y (.int k m) (.int k n)=some (.int k (an k (m+n))):=by simp [bQ,fb,gR]
theorem b_sub{E:Env}{t:TypeId}{x y:Operand}{k:IntKind}{m n:Int}:bQ E .sub t x y (.int k m) (.int k n)=some (.int k (an k (m-n))):=by simp [bQ,fb,gR]
theorem b_mul{E:Env}{t:TypeId}{x y:Operand}{k:IntKind}{m n:Int}:bQ E .mul t x y (.int k m) (.int k n)=some (.int k (an k (m*n))):=by simp [bQ,fb,gR]
theorem oJ(m n:Int):gX m n=decide (m=n):=by rw [gI];by_cases h:m=n<;>simp [h]
theorem b_eql{E:Env}{t:TypeId}{x y:Operand}{k:IntKind}{m n:Int}:bQ E .eql t x y (.int k m) (.int k n)=some (.bool (decide (m=n))):=by simp [bQ,fb,gR,oJ]
theorem b_neq{E:Env}{t:TypeId}{x y:Operand}{k:IntKind}{m n:Int}:bQ E .neq t x y (.int k m) (.int k n)=some (.bool (!decide (m=n))):=by simp [bQ,fb,gR,oJ]
theorem b_lss{E:Env}{t:TypeId}{x y:Operand}{k:IntKind}{m n:Int}:bQ E .lss t x y (.int k m) (.int k n)=some (.bool (decide (m<n))):=by simp [bQ,fb,gR,ia]
theorem b_leq{E:Env}{t:TypeId}{x y:Operand}{k:IntKind}{m n:Int}:bQ E .leq t x y (.int k m) (.int k n)=some (.bool (decide (m<=n))):=by
 simp only [bQ,fb,gR,ia,cond_true]
 by_cases a:m<=n
 . rw [decide_eq_true a,decide_eq_false (by omega)];rfl
 . rw [decide_eq_false a,decide_eq_true (by omega)];rfl
theorem b_gtr{E:Env}{t:TypeId}{x y:Operand}{k:IntKind}{m n:Int}:bQ E .gtr t x y (.int k m) (.int k n)=some (.bool (decide (n<m))):=by simp [bQ,fb,gR,ia]
theorem b_geq{E:Env}{t:TypeId}{x y:Operand}{k:IntKind}{m n:Int}:bQ E .geq t x y (.int k m) (.int k n)=some (.bool (decide (n<=m))):=by
 simp only [bQ,fb,gR,ia,cond_true]
 by_cases a:n<=m
 . rw [decide_eq_true a,decide_eq_false (by omega)];rfl
 . rw [decide_eq_false a,decide_eq_true (by omega)];rfl
theorem b_quo{E:Env}{t:TypeId}{x y:Operand}{k:IntKind}{m n:Int}(h:n≠0):bQ E .quo t x y (.int k m) (.int k n)=some (.int k (an k (m.tdiv n))):=by
 simp [bQ,fb,gR,oJ,h]
theorem mO{E:Env}{t:TypeId}{x y:Operand}{k:IntKind}{m n:Int}(h:n≠0):bQ E .rem t x y (.int k m) (.int k n)=some (.int k (m.tmod n)):=by
 simp [bQ,fb,gR,oJ,h]
theorem mm_max{k k':IntKind}{a b:Int}:fZ true (.int k a) [.int k' b]=some (.int k (max a b)):=by
 simp only [fZ,ia,cond_true]
 by_cases h:a<b
 . rw [decide_eq_true h];simp only [cond_true];rw [Int.max_eq_right (by omega)]
 . rw [decide_eq_false h];simp only [cond_false];rw [Int.max_eq_left (by omega)]
theorem mm_min{k k':IntKind}{a b:Int}:fZ false (.int k a) [.int k' b]=some (.int k (min a b)):=by
 simp only [fZ,ia,cond_false]
 by_cases h:b<a
 . rw [decide_eq_true h];simp only [cond_true];rw [Int.min_eq_right (by omega)]
 . rw [decide_eq_false h];simp only [cond_false];rw [Int.min_eq_left (by omega)]
theorem wrap64{n:Int}(a: -9223372036854775808<=n)(b:n<9223372036854775808):an .i64 n=n:=by
 unfold an
 cases n with
 | ofNat m=>
   have:Xx m (hf .i64)=true:=by rw [XC];simp only [hf];have c:(m:Int)<9223372036854775808:=b;omega
   simp only [this,cond_true]
 | negSucc m=>
   have:Xx m (hf .i64)=true:=by rw [XC];simp only [hf];have: -9223372036854775808<=Int.negSucc m:=a;omega
   simp only [sgn,this,cond_true]
theorem sQ{α:Type}{a:α}{P:α->Prop}:(∃b,some a=some b/\P b)↔P a:=⟨fun⟨b,c,d⟩=>by cases c;exact d,fun h=>⟨a,rfl,h⟩⟩
theorem zF{a:Bool}{P:Bool->Prop}:(∃t,Value.bool a=Value.bool t/\P t)↔P a:=⟨fun⟨b,c,d⟩=>by cases c;exact d,fun h=>⟨a,rfl,h⟩⟩
end Go.Ab
namespace Go.Ab
theorem aZ{v:Value}{l:List Value}:cD (v::l) 0=v:=rfl
theorem cG{v:Value}{l:List Value}{i:Nat}:cD (v::l) (i+1)=cD l i:=rfl
end Go.Ab
namespace Go.Ab
section
variable{l:Loc}
theorem c_int{k:IntKind}{n:Int}:l.ev (.const (.int k n))=.int k n:=rfl
theorem c_bool{b:Bool}:l.ev (.const (.bool b))=.bool b:=rfl
theorem c_string{s:ByteArray}:l.ev (.const (.string s))=.string s:=rfl
theorem c_nilp:l.ev (.const (.pointer none))=.pointer none:=rfl
theorem c_nils:l.ev (.const (.slice none 0 0))=.slice none 0 0:=rfl
theorem c_nilm:l.ev (.const (.map none))=.map none:=rfl
theorem c_nilf:l.ev (.const .nilFunc)=.nilFunc:=rfl
theorem c_nili:l.ev (.const .nilIface)=.nilIface:=rfl
end
end Go.Ab
namespace Go.Ab
def one1:Option (List Value)->Option Value
 |some [v]=>some v
 |_=>none
theorem one1_some{v:Value}:one1 (some [v])=some v:=rfl
theorem AD{E:Env}{h:Hp}{t:TypeId}{b o:Nat}{s:Option Nat}(a:E.agg t=some false):eJ E h t (.pointer (some ⟨b,o,s⟩))=one1 (h.load b o 1):=by
 simp only [eJ,a]
 unfold one1
 rfl
end Go.Ab
namespace Go.Ab
def gv(a:Bool):Option Value->Option Bool
 |some (.bool b)=>some (bif b then a else !a)
 |some (.tuple _)=>some false
 |_=>none
noncomputable def gj(a:Bool)(b:Tr Value):Option Oper->Option Bool
 |none=>some false
 | some o=>match o.dst with
   |none=>some false
   |some d=>gv a (b.get d)
theorem AE{a:List Oper}{c:Tr Value}{d:Option Tmp}{op:Op}{t:TypeId}{p:String}{e:Array Edge}{j:Nat}{b:Bool}:bV a c ⟨d,op,t,p,e,some (j,b)⟩=gj b c (a[j]?):=by
 simp only [bV,gj]
 cases a[j]? with
 |none=>rfl
 | some o=>
   simp only []
   cases o.dst with
   |none=>rfl
   | some d=>
     simp only [gv]
     cases c.get d with
     |none=>rfl
     |some v=>cases v<;>rfl
theorem gj_some{a:Bool}{b:Tr Value}{d:Tmp}{op:Op}{t:TypeId}{p:String}{c:Array Edge}{g:Option (Nat×Bool)}:gj a b (some ⟨some d,op,t,p,c,g⟩)=gv a (b.get d):=rfl
theorem gv_true{b:Bool}:gv true (some (.bool b))=some b:=by cases b<;>rfl
theorem gv_false{b:Bool}:gv false (some (.bool b))=some (!b):=by cases b<;>rfl
theorem gv_tuple{a:Bool}{x:Array Value}:gv a (some (.tuple x))=some false:=rfl
theorem u_not{b:Bool}:unP .not (.bool b)=some (.bool (!b)):=rfl
theorem target_fn{g:FuncId}{a b:Array Value}{args:List Value}:target (.func (.func g) a b) args=some (.call g (a.toList++args++b.toList)):=rfl
theorem n_new{h:Hp}{x:Blk}:(h.new x).n=h.n+1:=rfl
def bz(E:Env)(f:FuncId)(args:List Value)(h:Hp)(v:Value):Prop:=Ret E f args h fun a b=>a=v/\Gr h b
end Go.Ab
namespace Go.Ab
theorem bG{E:Env}{cx:Cx}{Q:ew}{k:List Fr}{l:Loc}{h:Hp}{b:Code}:Run E (lim E) cx Q (.code (.loop b)::k) .normal l h↔Run E (lim E) cx Q (.code b:: .code (.loop b)::k) .normal l h:=by
 rw [<-run_seq]
 simp only [Run]
 have:aE E (lim E) cx (.loop b) l h=aE E (lim E) cx (.seq b (.loop b)) l h:=by
  simp only [aE]
  cases aE E (lim E) cx b l h with
  |none=>rfl
  | some q=>
    obtain⟨e,a,c⟩:=q
    cases e with
    |normal=>show(lim E).code cx (.loop b) a c=_;rw [vd];rfl
    |exit i=>rfl
    |ret=>rfl
    |pan v=>rfl
 rw [this]
def lenK(r:Option (c8×Hp))(h:Hp):Option Value->Option (c8×Hp)
 |some v=>some (.val v,h)
 |none=>r
theorem o_lenK{E:Env}{ρ:Operand->Value}{h:Hp}{x:Operand}{t:TypeId}:aop E ρ h (.call ⟨.builtin .len,#[x],#[t]⟩)=lenK (match ρ x with
 | .map (some r)=>match h.get r with
   |some (.map a _)=>match E.und t with
    |some (.map _ _)=>some (.val (.int .i64 (.ofNat a.length)),h)
    |_=>none
   |_=>none
 |_=>none) h (ns E t (ρ x)):=by
 simp only [aop,pop]
 cases ns E t (ρ x)with
 |some v=>rfl
 | none=>
   simp only [lenK]
   cases ρ x<;>rfl
theorem natOf_nn{i:Int}(h:0<=i):gf i=some i.toNat:=by
 cases i with
 |ofNat n=>rfl
 |negSucc n=>exact absurd h (by simp)
theorem idxP_in{k:IntKind}{i:Int}{n:Nat}(h0:0<=i)(a:i<n):fU (.int k i) n=some i.toNat:=by
 simp only [fU,natOf_nn h0]
 have:Xx i.toNat n=true:=by rw [XC];omega
 rw [this];rfl
theorem ir{k:IntKind}{i n:Nat}(a:i<n):fU (.int k (i:Int)) n=some i:=by
 rw [idxP_in (Int.natCast_nonneg i) (by omega)];simp
theorem ia_slice{E:Env}{t e:TypeId}{k:Nat}{a:Addr}{n c:Nat}{v:Value}(b:E.und t=some (.slice e))(d:E.sz e=some k):er E t (.slice (some a) n c) v=(fU v n).map fun i=>.pointer (some (eH a (i*k))):=by
 simp only [er,b,d]
 cases fU v n<;>rfl
end Go.Ab
namespace Go.Ab
theorem am{E:Env}{cx:Cx}{o:Oper}{l:Loc}{K:Ex->Loc->Hp->Prop}{h:Hp}{f:FuncId}{args:List Value}{v:Value}(a:bz E f args h v)(b: ∀h',Gr h h'->K .normal (l.put o.dst v) h'):eR E cx o l K (some (.call f args,h)):=
 step_ret a fun c h' ⟨e,g⟩=>by rw [e];exact b h' g
theorem us{E:Env}{K:Value->Hp->Prop}{f:FuncId}{args:List Value}{h:Hp}{v:Value}(a:bz E f args h v)(b: ∀h',Gr h h'->K v h'):ju E K (some (.call f args,h)):=
 rA a fun c h' ⟨e,g⟩=>by rw [e];exact b h' g
theorem bz.of{E:Env}{f:FuncId}{args:List Value}{h:Hp}{v:Value}(a:Ret E f args h fun v' h'=>v'=v/\Gr h h'):bz E f args h v:=a
end Go.Ab
namespace Go.Ab
section
variable(E:Env)(cx:Cx)(Q:ew)
def GStep(a:List Oper)(o:Oper)(os:List Oper)(k:List Fr)(l:Loc)(h:Hp):Option Bool->Prop
 |some true=>eR E cx o l (fun e b c=>Run E (lim E) cx Q (.ops a os::k) e b c) (aop E l.ev h o.op)
 |some false=>Run E (lim E) cx Q (.ops a os::k) .normal (l.put o.dst (.tuple #[])) h
 |none=>False
def CStep(a b:Code)(k:List Fr)(l:Loc)(h:Hp):Value->Prop
 | .bool true=>Run E (lim E) cx Q (.code a::k) .normal l h
 | .bool false=>Run E (lim E) cx Q (.code b::k) .normal l h
 |_=>False
def uc(a:List Oper)(q:Nat)(ps:List (Nat×Nat))(o:Oper)(os:List Oper)(i:Nat)(c:List (Nat×Tch))(k:List Fr)(l:Loc)(h:Hp):Option Bool->Bool->Prop
 |some true,false=>ju E (fun v b=>Run E (lim E) cx Q (.opsD a q ps os (i+1) (gw i c (bU l.ev false o.op h b))::k) .normal (l.put o.dst v) b) (aop E l.ev h o.op)
 |some true,true=>ju E (fun v b=>zN h.n b.lo=true/\Run E (lim E) cx Q (.opsD a q ps os (i+1) (gw i c (bU l.ev true o.op h h))::k) .normal (l.put o.dst v) {b with lo:=h.lo}) (aop E l.ev {h with lo:=h.n} o.op)
 |some false,_=>Run E (lim E) cx Q (.opsD a q ps os (i+1) c::k) .normal (l.put o.dst (.tuple #[])) h
 |none,_=>False
end
section
variable{E:Env}{cx:Cx}{Q:ew}{k:List Fr}{l:Loc}{h:Hp}
theorem r_ops{a os:List Oper}{o:Oper}:Run E (lim E) cx Q (.ops a (o::os)::k) .normal l h↔GStep E cx Q a o os k l h (bV a l.regs o):=by
 rw [yF]
 cases bV a l.regs o with
 |none=>exact⟨fun⟨_,e,_⟩=>(by cases e),fun h=>h.elim⟩
 | some b=>
   rw [sQ]
   cases b with
   |true=>rw [if_pos rfl];exact then_step
   |false=>rw [if_neg (by simp)];exact Xa
theorem g_true{a os:List Oper}{o:Oper}:GStep E cx Q a o os k l h (some true)↔eR E cx o l (fun e l' h'=>Run E (lim E) cx Q (.ops a os::k) e l' h') (aop E l.ev h o.op):=Xa
theorem g_false{a os:List Oper}{o:Oper}:GStep E cx Q a o os k l h (some false)↔Run E (lim E) cx Q (.ops a os::k) .normal (l.put o.dst (.tuple #[])) h:=Xa
theorem r_cond{c:Operand}{a b:Code}:Run E (lim E) cx Q (.code (.cond c a b)::k) .normal l h↔CStep E cx Q a b k l h (l.ev c):=by
 rw [run_cond]
 cases l.ev c<;>(try (exact⟨fun⟨_,e,_⟩=>(by cases e),fun h=>h.elim⟩))
 rename_i t
 rw [zF]
 cases t with
 |true=>rw [if_pos rfl];exact Xa
 |false=>rw [if_neg (by simp)];exact Xa
theorem c_true{a b:Code}:CStep E cx Q a b k l h (.bool true)↔Run E (lim E) cx Q (.code a::k) .normal l h:=Xa
theorem c_false{a b:Code}:CStep E cx Q a b k l h (.bool false)↔Run E (lim E) cx Q (.code b::k) .normal l h:=Xa
theorem r_opsD{a os:List Oper}{o:Oper}{q i:Nat}{ps:List (Nat×Nat)}{c:List (Nat×Tch)}:Run E (lim E) cx Q (.opsD a q ps (o::os) i c::k) .normal l h↔uc E cx Q a q ps o os i c k l h (bV a l.regs o) (dQ E q i o.op):=by
 rw [run_opsD]
 cases bV a l.regs o with
 |none=>exact⟨fun⟨_,e,_⟩=>(by cases e),fun h=>h.elim⟩
 | some b=>
   rw [sQ]
   cases b with
   | true=>
     rw [if_pos rfl]
     cases dQ E q i o.op with
     |true=>rw [if_pos rfl];exact Xa
     |false=>rw [if_neg (by simp)];exact Xa
   |false=>rw [if_neg (by simp)];exact Xa
theorem d_skip{a os:List Oper}{o:Oper}{q i:Nat}{ps:List (Nat×Nat)}{c:List (Nat×Tch)}{b:Bool}:uc E cx Q a q ps o os i c k l h (some false) b↔Run E (lim E) cx Q (.opsD a q ps os (i+1) c::k) .normal (l.put o.dst (.tuple #[])) h:=Xa
theorem kZ{i:Nat}{a:List (Nat×Tch)}:gw i a none=a:=rfl
theorem aX{i:Nat}{b:Tch}{a:List (Nat×Tch)}:gw i a (some b)=(i,b)::a:=rfl
theorem bE{a:List (Nat×Tch)}:cg a []=true:=rfl
theorem guard_no{a:List Oper}{b:Tr Value}{d:Option Tmp}{op:Op}{t:TypeId}{p:String}{c:Array Edge}:bV a b ⟨d,op,t,p,c,none⟩=some true:=rfl
end
end Go.Ab
namespace Go.Ab
theorem b_eqlB{E:Env}{t:TypeId}{x y:Operand}{a b:Bool}(c:E.und t=some .bool):bQ E .eql t x y (.bool a) (.bool b)=some (.bool (bif a then b else !b)):=by
 simp [bQ,fm,dN,c]
theorem b_neqB{E:Env}{t:TypeId}{x y:Operand}{a b:Bool}(c:E.und t=some .bool):bQ E .neq t x y (.bool a) (.bool b)=some (.bool (!(bif a then b else !b))):=by
 simp [bQ,fm,dN,c]
theorem same_bool{d:Bool}:(bif d then d else !d)=true:=by cases d<;>rfl
end Go.Ab
namespace Go.Ab
noncomputable def boxR(h:Hp)(t:TypeId):Value->Option (c8×Hp)
 | .chan _=>none
 |v=>some (.val (ptrTo h.n),h.new (.cells (Tr.ofList (ah v)) (ah v).length t 1))
theorem o_boxR{E:Env}{ρ:Operand->Value}{h:Hp}{t:TypeId}{x:Operand}:aop E ρ h (.box t x)=boxR h t (ρ x):=by
 simp only [aop];cases ρ x<;>rfl
noncomputable def allocR(h:Hp)(t:TypeId):Option (List Value)->Option (c8×Hp)
 |none=>none
 |some z=>some (.val (ptrTo h.n),h.new (.cells (Tr.ofList z) z.length t 1))
theorem o_allocR{E:Env}{ρ:Operand->Value}{h:Hp}{t:TypeId}:aop E ρ h (.alloc t)=allocR h t (E.zero t):=by
 simp only [aop];cases E.zero t<;>rfl
section
variable{E:Env}{cx:Cx}{o:Oper}{l:Loc}{K:Ex->Loc->Hp->Prop}{h:Hp}
theorem aG{ops:List Oper}(h:((ops.any ry||qR ops)&&ops.all (iJ ops.length))=false):bC ops=ops:=by unfold bC;rw [h];rfl
theorem aB{Q:ew}{k:List Fr}{id:Nat}{ops:Array Oper}{q:Nat}{ps:List (Nat×Nat)}{os:List Oper}(b:bC ops.toList=os)(c:iS E os=some (q,ps))(d:Run E (lim E) cx Q (.opsD os q ps os 0 []::k) .normal l h)(a:E.cut cx.fn=false:=by rfl):Run E (lim E) cx Q (.code (.region id ops true)::k) .normal l h:=(run_draw a b c).2 d
theorem fork_step{Q:ew}{k:List Fr}{id:Nat}{ops:Array Oper}{q:Nat}{ps:List (Nat×Nat)}{os:List Oper}{t:Tmp}(b:bC ops.toList=os)(c:pA E os (lu os)=some t)(d:rX E os=some (q,ps))
 (e:Run E (lim E) cx Q (.opsD os q ps os 0 []:: .kill t::k) .normal l h) (a:E.cut cx.fn=true:=by rfl):Run E (lim E) cx Q (.code (.region id ops true)::k) .normal l h:=run_fork a b c d e
theorem Bc{Q:ew}{k:List Fr}{id:Nat}{ops:Array Oper}{q:Nat}{ps:List (Nat×Nat)}{os:List Oper}(b:n8 ops.toList (ops.toList.length-1)=true)(c:bC (ops.toList.take (ops.toList.length-1))=os)(d:iS E os=some (q,ps))
 (e:Run E (lim E) cx Q (.opsD os q ps os 0 []:: .ops ops.toList (ops.toList.drop (ops.toList.length-1))::k) .normal l h) (a:E.cut cx.fn=true:=by rfl) (hf:oE E ops.toList=false:=by rfl):Run E (lim E) cx Q (.code (.region id ops true)::k) .normal l h:=run_split a b hf c d e
end
theorem ye{h h':Hp}(g:Gr {h with lo:=h.n} h'):zN h.n h'.lo=true:=g.hlo
theorem gr_lo{h h':Hp}(g:Gr {h with lo:=h.n} h'):Gr h {h' with lo:=h.lo}:=
 ⟨g.ok0,g.ok,g.n,g.get,fun _ _ h=>h⟩
end Go.Ab
namespace Go.Ab
theorem hush_s{E:Env}{q i:Nat}{op:Op}:dQ E q i op=(decide (q/2 ^i%2=1)&&decide (3<=cls E op)):=by
 unfold dQ
 rw [Nat.testBit_eq_decide_div_mod_eq,dK]
end Go.Ab
namespace Go.Ab
theorem zz{E:Env}{K:Value->Hp->Prop}{f:FuncId}{args:List Value}{h:Hp}{v:Value}(a:bz E f args {h with lo:=h.n} v)(b: ∀h',Gr h h'->K v h'):
 ju E (fun v h'=>zN h.n h'.lo=true/\K v {h' with lo:=h.lo}) (some (.call f args,{h with lo:=h.n})):=
 us a fun h' g=>⟨ye g,b _ (gr_lo g)⟩
end Go.Ab
namespace Go.Ab
section
variable(E:Env)(cx:Cx)(Q:ew)(a:List Oper)(q:Nat)(ps:List (Nat×Nat))(o:Oper)(os:List Oper)(i:Nat)(k:List Fr)(l:Loc)
def DN(c:Hp->List (Nat×Tch))(x:Option (c8×Hp)):Prop:=ju E (fun v b=>Run E (lim E) cx Q (.opsD a q ps os (i+1) (c b)::k) .normal (l.put o.dst v) b) x
def DQ(h:Hp)(c:List (Nat×Tch))(x:Option (c8×Hp)):Prop:=ju E (fun v b=>zN h.n b.lo=true/\Run E (lim E) cx Q (.opsD a q ps os (i+1) c::k) .normal (l.put o.dst v) {b with lo:=h.lo}) x
end
section
variable{E:Env}{cx:Cx}{Q:ew}{a:List Oper}{q:Nat}{ps:List (Nat×Nat)}{o:Oper}{os:List Oper}{i:Nat}{k:List Fr}{l:Loc}{h:Hp}{tr:List (Nat×Tch)}{tf:Hp->List (Nat×Tch)}
theorem dn_loud:uc E cx Q a q ps o os i tr k l h (some true) false↔DN E cx Q a q ps o os i k l (fun h'=>gw i tr (bU l.ev false o.op h h')) (aop E l.ev h o.op):=Xa
theorem dn_quiet:uc E cx Q a q ps o os i tr k l h (some true) true↔DQ E cx Q a q ps o os i k l h (gw i tr (bU l.ev true o.op h h)) (aop E l.ev {h with lo:=h.n} o.op):=Xa
theorem dn_val{v:Value}{h':Hp}:DN E cx Q a q ps o os i k l tf (some (.val v,h'))↔Run E (lim E) cx Q (.opsD a q ps os (i+1) (tf h')::k) .normal (l.put o.dst v) h':=Xa
theorem dn_skip{h':Hp}:DN E cx Q a q ps o os i k l tf (some (.skip,h'))↔Run E (lim E) cx Q (.opsD a q ps os (i+1) (tf h')::k) .normal (l.put o.dst (.tuple #[])) h':=Xa
theorem cV{f:FuncId}{args:List Value}{P:Value->Hp->Prop}(b:Ret E f args h P)(c: ∀v h',P v h'->Run E (lim E) cx Q (.opsD a q ps os (i+1) (tf h')::k) .normal (l.put o.dst v) h'):DN E cx Q a q ps o os i k l tf (some (.call f args,h)):=rA b c
theorem df{f:FuncId}{args:List Value}{v:Value}(b:bz E f args h v)(c: ∀h',Gr h h'->Run E (lim E) cx Q (.opsD a q ps os (i+1) (tf h')::k) .normal (l.put o.dst v) h'):DN E cx Q a q ps o os i k l tf (some (.call f args,h)):=us b c
theorem pU{f:FuncId}{args:List Value}{v:Value}(b:bz E f args {h with lo:=h.n} v)(c: ∀h',Gr h h'->Run E (lim E) cx Q (.opsD a q ps os (i+1) tr::k) .normal (l.put o.dst v) h'):DQ E cx Q a q ps o os i k l h tr (some (.call f args,{h with lo:=h.n})):=zz b c
theorem dq_ret{f:FuncId}{args:List Value}{P:Value->Hp->Prop}(b:Ret E f args {h with lo:=h.n} fun v h'=>Gr {h with lo:=h.n} h'/\P v {h' with lo:=h.lo})(c: ∀v h',Gr h h'->P v h'->Run E (lim E) cx Q (.opsD a q ps os (i+1) tr::k) .normal (l.put o.dst v) h'):DQ E cx Q a q ps o os i k l h tr (some (.call f args,{h with lo:=h.n})):=
 rA b fun v h' ⟨g,p⟩=>⟨ye g,c v _ (gr_lo g) p⟩
end
end Go.Ab
namespace Go.Ab
theorem ag{b:Nat}:ptrTo b=.pointer (some ⟨b,0,none⟩):=rfl
end Go.Ab

namespace Go.Ab
open Go.ChangeShapes Go.WideShapes Go.RowKit

theorem len2{α:Type}{l:List α}(h:l.length=2): ∃a b,l=[a,b]:=by
 match l,h with
 | [a,b],_=>exact⟨a,b,rfl⟩
section
variable{H:Type}{enc:TypeId×Value->H}{P:Program}
theorem qL(f:laidOutB P=true){W g:World}(i:Below W.heap.size W g): ∀{ts:List TypeId} {vs:List Value} {c:List (DataW H)} {ps:List MemPlace},(ts.all fun t=>P.readableRec t&&decide (t<P.types.size))=true->
 DataW.TrodAll enc P W 0 (fun _=>true) true ts vs c ps->(∀x∈ps,x.block<W.heap.size)->DataW.TrodAll enc P g 0 (fun b=>decide (b<W.heap.size)) true ts vs c ps
 | [],vs,c,ps,_,h,_=>by
   obtain⟨rfl,rfl,rfl⟩:=trodAll_nil h
   exact rfl
 | t::ts,vs,c,ps,a,h,hlt=>by
   obtain⟨v,j,d,k,p,q,rfl,rfl,rfl,l,m⟩:=trodAll_cons h
   simp only [List.all_cons,Xk,decide_eq_true_eq]at a
   exact⟨p,q,Below.trod f a.1.1 a.1.2 l i (fun x e=>hlt x (by simp [e])),qL f i a.2 m (fun x e=>hlt x (by simp [e])),rfl⟩
theorem xg{f:Func}{s:ChangeSpec}{a b:Bool}{W u:World}{args:Array Value}{g:List (DataW H)}{c:List MemPlace}{bt:TypeId}
 (y:laidOutB P=true) (k:(f.params.toList.all fun t=>P.readableRec t&&decide (t<P.types.size))=true) (v:s.vars=[])
 (l:DataW.Whole enc P f.params.toList s.vars a W args.toList g [] c) (d:s.fn H (g++[])={results:=[.lit (.bool true)],args:=g}) (j:Below W.heap.size W u)
 (m:P.underlying bt=some .bool) (n:f.resultTypes=#[bt]):
 s.post enc P f a true b false W args (.bool true) u:=by
 have hlt:=l.lt
 have o:=l
 obtain⟨p,q,z,w,rfl,C,D⟩:=l
 rw [v]at w
 obtain⟨_,rfl⟩:=trodVars_none w
 refine⟨g,[],_,[],p,[],o,?_,?_,?_,⟨j.os,j.output,fun i A=>?_⟩,fun h=>by cases h⟩
 . rw [d,n]
   exact trodAll_cons_mk (shut_bool m _) trodAll_mk0
 . rw [d]
   exact qL y j k z (fun x B=>hlt x (by simpa using B))
 . rw [d,v];rfl
 . rw [j.block i A]
   split
   . rename_i r e;rw [r]at e;cases e;exact⟨rfl,rfl,rfl,fun _ _=>rfl⟩
   . rename_i r e;rw [r]at e;cases e;exact .inr ⟨rfl,rfl⟩
   . rfl

end
end Go.Ab

namespace Go.Ab
open Go.ChangeShapes Go.WideShapes Go.RowKit
noncomputable section

def jo(n:Nat):Value->Value
 | .bool b=>.bool b
 | .int k i=>.int k i
 | .string s=>.string s
 | .pointer none=>.pointer none
 | .pointer (some a)=>if a.spot=none/\a.block<n then .pointer (some ⟨a.block+16,a.off,none⟩)else poison
 | .slice none 0 0=>.slice none 0 0
 | .slice (some a) c d=>if c<=d then(if a.spot=none/\a.block<n then .slice (some ⟨a.block+16,a.off,none⟩) c d else .slice (some ⟨0,0,none⟩) c d)else poison
 |_=>poison
def absA(n:Nat):Value->Value
 | .agg a=>.agg ⟨a.toList.map (jo n)⟩
 |v=>jo n v
def absO(n:Nat):Obj->Blk
 | .cells a _ _=>.cells (Tr.ofList (a.toList.map (jo n))) (a.toList.map (jo n)).length 0 0
 |_=>.dead
def hpW(W:World):Hp:={n:=16+W.heap.size,t:=Tr.ofList (Xi 16 .dead++W.heap.toList.map (absO W.heap.size)),lo:=16+W.heap.size}
def muW(W:World):Mu:=fun b=>if b<16 then .dead else match W.heap[b-16]? with
 |some (.cells a _ _)=>.blk (b-16) 0 a.size
 |some _=>.dead
 |none=>.none

theorem hpW_ok(W:World):(hpW W).t.Sized (hpW W).n:=by
 have h:=Tr.sized_ofList (Xi 16 Blk.dead++W.heap.toList.map (absO W.heap.size))
 have a:(Xi 16 Blk.dead++W.heap.toList.map (absO W.heap.size)).length=16+W.heap.size:=by rw [Xg,Xp,List.length_map,Array.length_toList]
 rw [a]at h
 exact h
theorem hpW_dead(W:World){b:Nat}(h:b<16):(hpW W).get b=some .dead:=by
 show(Tr.ofList _).get b=_
 rw [Tr.get_ofList,Xw (by simpa using h),Xy,if_pos h]
theorem qW(W:World)(c:Nat):(hpW W).get (c+16)=(W.heap[c]?).map (absO W.heap.size):=by
 show(Tr.ofList _).get (c+16)=_
 rw [Tr.get_ofList,List.getElem?_append_right (by simp)]
 simp
theorem mX(W:World)(c:Nat):muW W (c+16)=match W.heap[c]? with
 |some (.cells cs _ _)=>.blk c 0 cs.size
 |some _=>.dead
 |none=>.none:=by
 unfold muW
 rw [if_neg (by omega),show c+16-16=c by omega]
theorem arel_W{W:World}{a:Addr}(h:a.spot=none/\a.block<W.heap.size):eg (muW W) ⟨a.block+16,a.off,none⟩ a:=by
 obtain⟨b,o,s⟩:=a
 obtain⟨c,d⟩:=h
 simp only []at c d
 subst c
 unfold eg
 rw [mX]
 rw [Xd d]
 cases W.heap[b]<;>simp
theorem vrel_V(W:World)(v:Value):ao (muW W) (jo W.heap.size v) v:=by
 cases v<;>(try exact .poison _)
 . exact .bool _
 . exact .int _ _
 . exact .string _
 . rename_i a
   cases a with
   |none=>exact .nilp
   | some a=>
     simp only [jo]
     split
     . exact .ptr (arel_W ‹_›)
     . exact .poison _
 . rename_i a d e
   cases a with
   | none=>
     cases d with
     | zero=>cases e with
       |zero=>exact .nils
       |succ n=>exact .poison _
     |succ n=>exact .poison _
   | some a=>
     simp only [jo]
     split
     . rename_i c
       split
       . rename_i h
         refine .slice c ?_
         have:=arel_W h
         obtain⟨b,o,s⟩:=a
         obtain⟨f,g⟩:=h
         simp only []at f g
         subst f
         unfold dE
         rw [mX]
         rw [Xd g]
         cases W.heap[b]<;>simp
       . refine .slice c ?_
         unfold dE
         have:muW W 0=.dead:=by simp [muW]
         rw [this]
         exact Xl _
     . exact .poison _
theorem vrel_A(W:World)(v:Value):ao (muW W) (absA W.heap.size v) v:=by
 cases v
 case agg d=>
  refine .agg (by simp) fun i x e a b=>?_
  simp only [Xc,Xo]at a
  obtain⟨y,c,rfl⟩:=a
  rw [c]at b
  cases b
  exact vrel_V W _
 all_goals (unfold absA;exact vrel_V W _)
theorem hrelW(W:World):aJ (muW W) (hpW W) W:=by
 refine⟨hpW_ok W,fun b c d e a=>?_,fun b a=>?_,fun b t c d e j p u f=>?_,fun b a=>?_⟩
 . have x:16<=b:=by
    rcases Xm b 16 with h|h
    . unfold muW at a;rw [if_pos h]at a;cases a
    . exact h
   obtain⟨k,rfl⟩: ∃k,b=k+16:=⟨b-16,by omega⟩
   rw [mX]at a
   split at a
   next q el r s=>
    cases a
    refine⟨absO W.heap.size (.cells q el r),_,by rw [qW,s];rfl,s,q,el,r,rfl,rfl,by simp,Tr.sized_ofList _,fun i v l=>?_,fun h=>absurd rfl h⟩
    rw [Tr.get_ofList]at l
    simp only [Xc,Xo]at l
    obtain⟨y,w,rfl⟩:=l
    exact⟨y,by simpa using w,vrel_V W y⟩
   next=>cases a
   next=>cases a
 . rcases Xm b 16 with h|h
   . exact hpW_dead W h
   . obtain⟨k,rfl⟩: ∃k,b=k+16:=⟨b-16,by omega⟩
     rw [mX]at a
     split at a
     next=>cases a
     next o m n=>
      rw [qW,n]
      cases o<;>first|rfl|exact absurd rfl (m _ _ _)
     next=>cases a
 . have g: ∀b c d e,muW W b=.blk c d e->b=c+16:=by
    intro b c d e a
    rcases Xm b 16 with h|h
    . unfold muW at a;rw [if_pos h]at a;cases a
    . obtain⟨k,rfl⟩: ∃k,b=k+16:=⟨b-16,by omega⟩
      rw [mX]at a
      split at a<;>cases a
      rfl
   rw [g b c _ _ u,g t c _ _ f]
 . show b<16+W.heap.size
   rcases Xm b 16 with h|h
   . omega
   . obtain⟨k,rfl⟩: ∃k,b=k+16:=⟨b-16,by omega⟩
     rw [mX]at a
     have:k<W.heap.size:=by
      rcases Xm k W.heap.size with f|f
      . exact f
      . rw [Array.getElem?_eq_none f]at a;exact absurd rfl a
     omega
theorem globW(W:World):kI (muW W):=by
 intro g a
 unfold eg
 have:muW W g=.dead:=by unfold muW;rw [if_pos a]
 simp only [this]
theorem belowW{W w':World}{f:Mu}{h':Hp}(e:Ext (muW W) (hpW W) W f h' w'):Below W.heap.size W w':=by
 refine⟨e.os,e.tape,e.output,e.wsize,fun c g=>?_⟩
 cases j:W.heap[c]with
 | cells i el n=>
   have l:W.heap[c]? =some (.cells i el n):=by rw [Xd g,j]
   have o:muW W (c+16)=.blk c 0 i.size:=by rw [mX,l]
   exact(e.ro (c+16) c 0 i.size _ _ 0 o (by rw [qW,l];rfl)).1
 | _ =>
   refine e.frame c g fun b m p a=>?_
   rcases Xm b 16 with h|h
   . unfold muW at a;rw [if_pos h]at a;cases a
   . obtain⟨k,rfl⟩: ∃k,b=k+16:=⟨b-16,by omega⟩
     rw [mX]at a
     split at a
     next q r s d=>
      cases a
      rw [Xd g,j]at d
      cases d
     next=>cases a
     next=>cases a
theorem calls_W{E:Env}{P:Program}(h:EOk E P){f:FuncId}{args:Array Value}{W:World}(j:bz E f (args.toList.map (absA W.heap.size)) (hpW W) (.bool true)):
 Calls P f args W fun e w'=>e=.returned (.bool true)/\Below W.heap.size W w':=by
 obtain⟨v,C,k,rfl,g⟩:=j
 intro l
 obtain⟨_,a⟩:=lim_ok h _ _ _ _ _ _ _ k
 have m:VL (muW W) (args.toList.map (absA W.heap.size)) args.toList:=by
  refine⟨by simp,fun i x D a c=>?_⟩
  simp only [Xc,Xo]at a
  obtain⟨y,n,rfl⟩:=a
  rw [n]at c
  cases c
  exact vrel_A W _
 obtain⟨o,w',d,p,F,q,G,r,s,t,u⟩:=a (muW W) W args none l .normal (hrelW W) (globW W) m trivial (.inl rfl)
 have:=r.normal
 subst this
 obtain⟨H,b,w⟩:=t
 cases w
 obtain⟨z,A,B⟩:=b.res
 exact⟨.returned (.bool true),w',p,⟨rfl,belowW q⟩,s,u,b.mode,b.defers,b.kind,z,A,B⟩
theorem load_W{W:World}{a:Addr}{i:Nat}{v:Value}(c:a.spot=none)(h:W.cell? (a.add i)=some v):(hpW W).load (a.block+16) (a.off+i) 1=some [jo W.heap.size v]:=by
 obtain⟨b,o,s⟩:=a
 simp only []at c
 subst c
 have d:(Addr.mk b o none).add i=⟨b,o+i,none⟩:=by
  unfold Addr.add
  split
  . rename_i h;subst h;rfl
  . rfl
 rw [d]at h
 unfold World.cell? at h
 simp only []at h
 split at h
 next e el k f=>
  have g:Row (hpW W) (b+16) (e.toList.map (jo W.heap.size)) 0:=⟨_,_,by rw [qW,f];rfl,Tr.sized_ofList _,fun j=>Tr.get_ofList _ j⟩
  refine g.load1 ?_
  rw [Xc]
  simp at h
  simp [h]
 all_goals (first|cases h|skip)
end
end Go.Ab

namespace Go.Ab
def argEq:Value->Value->Bool
 | .int k a,.int c b=>jS k c&&gX a b
 | .bool a,.bool b=>bif a then b else !b
 | .string s,.string u=>gH (aF s) (aF u)
 |_,_=>false
def oH:List Value->List Value->Bool
 | [],[]=>true
 |a::l,b::m=>argEq a b&&oH l m
 |_,_=>false
def orcOf:List (Nat×List Value×Value)->Nat->List Value->Option Value
 | [],_,_=>none
 |(f,as,v)::l,g,a=>bif Xh f g&&oH as a then some v else orcOf l g a
theorem yh{a b:Value}(h:argEq a b=true):a=b:=by
 unfold argEq at h
 split at h
 . rename_i k m c n
   simp only [Xk]at h
   have d:k=c:=by simpa [fQ]using h.1
   have e:m=n:=by simpa [gI]using h.2
   rw [d,e]
 . rename_i a b
   cases a<;>cases b<;>first|rfl|cases h
 . rename_i s u
   have this:s.data.toList=u.data.toList:=by
    have:=h
    rw [iR]at this
    simpa [aF]using this
   cases s with|mk a=>cases u with|mk b=>rw [show a=b from Array.ext' this]
 . cases h
theorem vq: ∀{a b:List Value},oH a b=true->a=b
 | [],[],_=>rfl
 | [],_::_,h=>by simp [oH]at h
 |_::_,[],h=>by simp [oH]at h
 | a::x,b::y,h=>by
   simp only [oH,Xk]at h
   rw [vq h.2,yh h.1]
theorem wd{P:Nat->List Value->Value->Prop}: ∀{l:List (Nat×List Value×Value)},(∀e∈l,P e.1 e.2.1 e.2.2)-> ∀{g:Nat} {args:List Value} {v:Value},orcOf l g args=some v->P g args v
 | [],_,g,args,v,h=>by cases h
 | (f,as,x)::l,b,g,args,v,h=>by
   simp only [orcOf]at h
   cases a:Xh f g&&oH as args with
   | true=>
     rw [a]at h
     cases h
     simp only [Xk]at a
     have c:=XA a.1
     have d:=vq a.2
     subst c
     subst d
     exact b _ (Xf)
   | false=>
     rw [a]at h
     exact wd (fun e i=>b e (Xr _ i)) h
def isVal(v:Value)(r:Option (Out×Option (Value×Bool)×Hp)):Bool:=match r with
 |some (.ret u,none,_)=>argEq u v
 |_=>false
theorem isVal_ret{v:Value}{r:Option (Out×Option (Value×Bool)×Hp)}(h:isVal v r=true): ∃h',r=some (.ret v,none,h'):=by
 unfold isVal at h
 split at h
 . rw [yh h];exact⟨_,rfl⟩
 . cases h
def j9(E:Env)(P:Program)(e:Nat×List Value×Value):Prop:=(∃a,E.fn e.1=some a/\a.body.isSome=true)/\OrcAt P e.1 e.2.1 e.2.2
theorem s6{E:Env}{P:Program}(c:EOk E P){n:Nat}{f:Nat}{args:List Value}{v:Value}(b:(args.all cJ&&cJ v)=true)(a:isVal v ((runK E n).call f args none hp0)=true):j9 E P (f,args,v):=by
 simp only [Xk]at b
 obtain⟨d,a⟩:=isVal_ret a
 rw [runK_call]at a
 exact AZ c b.1 b.2 a
theorem j9.with{E:Env}{P:Program}{o:Nat->List Value->Option Value}{e:Nat×List Value×Value}(k:j9 E P e):j9 (pV E o) P e:=k
theorem j9.without{E:Env}{P:Program}{o:Nat->List Value->Option Value}{e:Nat×List Value×Value}(k:j9 (pV E o) P e):j9 E P e:=k
theorem eok_table{E:Env}{P:Program}(b:EOk E P){l:List (Nat×List Value×Value)}(c: ∀e∈l,j9 E P e):EOk (pV E (orcOf l)) P:=
 eok_with b fun _ _ _ h=>wd (P:=fun g a v=>j9 E P (g,a,v)) c h
end Go.Ab

namespace Go.Ab

inductive Ob where
 |row (l:List Value) (md:Nat)
 |map (es:List (Value×Value×Nat)) (c:Nat)
 |loop (x:gW)
 |dfr
def Has(h:Hp)(b:Nat):Ob->Prop
 | .row l a=>Row h b l a
 | .map d c=>h.get b=some (.map d c)
 | .loop x=>h.get b=some (.loop x)
 | .dfr=>h.get b=some .dfr
theorem Row.of_get{h h':Hp}{b:Nat}{l:List Value}{md:Nat}(e:h'.get b=h.get b)(k:Row h b l md):Row h' b l md:=by
 obtain⟨t,el,a,c,d⟩:=k;exact⟨t,el,by rw [e];exact a,c,d⟩
theorem Has.of_get{h h':Hp}{b:Nat}{o:Ob}(e:h'.get b=h.get b)(k:Has h b o):Has h' b o:=by
 cases o with
 |row l a=>exact Row.of_get e k
 |map d c=>exact e.trans k
 |loop x=>exact e.trans k
 |dfr=>exact e.trans k
theorem Has.lt{h:Hp}(a:h.t.Sized h.n){b:Nat}{o:Ob}(k:Has h b o):b<h.n:=by
 cases o with
 |row l d=>exact Row.lt a k
 |map e c=>exact fF a k
 |loop x=>exact fF a k
 |dfr=>exact fF a k
theorem Has.some{h:Hp}{b:Nat}{o:Ob}(k:Has h b o):(h.get b).isSome=true:=by
 cases o with
 |row l d=>obtain⟨t,el,a,_⟩:=k;rw [a];rfl
 |map e c=>rw [show h.get b=_ from k];rfl
 |loop x=>rw [show h.get b=_ from k];rfl
 |dfr=>rw [show h.get b=_ from k];rfl

structure Mo(M:Nat->Prop)(h h':Hp):Prop where
 ok0:h.t.Sized h.n
 ok:h'.t.Sized h'.n
 n:h.n<=h'.n
 get: ∀b,b<h.n-> ¬M b->h'.get b=h.get b
 lo: ∀x,x<=h.n->x<=h.lo->(∀b,M b->x<=b)->x<=h'.lo
abbrev NoM:Nat->Prop:=fun _=>False
theorem Gr.fr{M:Nat->Prop}{h h':Hp}(g:Gr h h'):Mo M h h':=⟨g.ok0,g.ok,g.n,fun b a _=>g.get b a,fun x c d _=>g.lo x c d⟩
theorem Mo.gr{h h':Hp}(g:Mo NoM h h'):Gr h h':=⟨g.ok0,g.ok,g.n,fun b a=>g.get b a (fun x=>x),fun x c d=>g.lo x c d (fun _ h=>h.elim)⟩
theorem Mo.refl{M:Nat->Prop}{h:Hp}(a:h.t.Sized h.n):Mo M h h:=(Gr.refl a).fr
theorem Mo.trans{M M':Nat->Prop}{a b c:Hp}(x:Mo M a b)(y:Mo M' b c)(e: ∀i,M' i->M i\/a.n<=i):Mo M a c:=
 ⟨x.ok0,y.ok,XE x.n y.n,fun i f g=>(y.get i (Nat.lt_of_lt_of_le f x.n) (fun d=>(e i d).elim g (fun h=>by omega))).trans (x.get i f g),
  fun i k m l=>y.lo i (XE k x.n) (x.lo i k m l) fun j n=>(e j n).elim (l j) (fun h=>by omega)⟩
theorem Mo.mono{M M':Nat->Prop}{a b:Hp}(x:Mo M a b)(c: ∀i,M i->M' i):Mo M' a b:=
 ⟨x.ok0,x.ok,x.n,fun i d e=>x.get i d (fun h=>e (c i h)),fun i f g k=>x.lo i f g fun j l=>k j (c j l)⟩
theorem Mo.new{M:Nat->Prop}{a h:Hp}(g:Mo M a h)(x:Blk):Mo M a (h.new x):=g.trans (M':=NoM) (Gr.new g.ok x).fr (fun _ h=>h.elim)
theorem Mo.put{M:Nat->Prop}{a h:Hp}(g:Mo M a h){b:Nat}(c:a.n<=b\/M b)(x:Blk):Mo M a (h.put b x):=by
 refine g.trans (M':=fun i=>i=b) ⟨g.ok,put_ok g.ok b x,Xl _,fun i j d=>cd (fun e=>d e.symm),fun i k l f=>?_⟩ (fun i h=>by subst h;exact c.symm)
 show i<=dO b h.lo
 have:=f b rfl
 unfold dO
 cases zN b h.lo<;>simp<;>omega
theorem Mo.has{M:Nat->Prop}{a h:Hp}(g:Mo M a h){b:Nat}{o:Ob}(k:Has a b o)(c: ¬M b):Has h b o:=Has.of_get (g.get b (k.lt g.ok0) c) k

abbrev GL:=Value×Nat×List Value
def dM:GL->Option Nat
 |(.slice (some a) _ _,_,_)=>some a.block
 |_=>none
def fL(h:Hp)(p:GL):Prop:=(p.1=.slice none 0 0/\p.2.2=[])\/ ∃b n,p.1=.slice (some ⟨b,0,some p.2.1⟩) n n/\n*p.2.1=p.2.2.length/\Row h b p.2.2 1
def keys(L:List (Nat×Ob))(G:List GL):List Nat:=L.map Prod.fst++G.filterMap dM

structure St(M:Nat->Prop)(h0 h:Hp)(L:List (Nat×Ob))(G:List GL):Prop where
 fr:Mo M h0 h
 own: ∀p∈L,(h0.n<=p.1\/M p.1)/\Has h p.1 p.2
 gown: ∀p∈G,fL h p/\ ∀b,dM p=some b->h0.n<=b\/M b
 apart:(keys L G).Nodup

section
variable{M:Nat->Prop}{h0 h:Hp}{L:List (Nat×Ob)}{G:List GL}
theorem fL.of_get{h':Hp}{p:GL}(k:fL h p)(e: ∀b,dM p=some b->h'.get b=h.get b):fL h' p:=by
 rcases k with k|⟨b,n,a,c,d⟩
 . exact .inl k
 . refine .inr ⟨b,n,a,c,Row.of_get (e b ?_) d⟩
   obtain⟨v,k,f⟩:=p
   simp only []at a
   subst a
   rfl
theorem fL.lt(d:h.t.Sized h.n){p:GL}(k:fL h p){b:Nat}(c:dM p=some b):b<h.n:=by
 rcases k with k|⟨j,n,a,e,f⟩
 . obtain⟨v,g,i⟩:=p
   obtain⟨a,e⟩:=k
   simp only []at a
   subst a
   cases c
 . obtain⟨v,g,i⟩:=p
   simp only []at a
   subst a
   cases c
   exact Row.lt d f
theorem gm{p:Nat×Ob}(a:p∈L):p.1∈keys L G:=Xs _ (XD a)
theorem eW{p:GL}{b:Nat}(a:p∈G)(c:dM p=some b):b∈keys L G:=Xj _ (List.mem_filterMap.2 ⟨p,a,c⟩)
theorem St.key_lt(S:St M h0 h L G){b:Nat}(a:b∈keys L G):b<h.n:=by
 unfold keys at a
 rcases List.mem_append.1 a with a|a
 . obtain⟨p,c,rfl⟩:=List.mem_map.1 a
   exact(S.own p c).2.lt S.fr.ok
 . obtain⟨p,c,d⟩:=List.mem_filterMap.1 a
   exact(S.gown p c).1.lt S.fr.ok d
theorem St.init(a:h.t.Sized h.n):St M h h [] []:=⟨Mo.refl a,fun _ h=>(by cases h),fun _ h=>(by cases h),.nil⟩
theorem St.ok(S:St M h0 h L G):h.t.Sized h.n:=S.fr.ok
theorem St.gr(S:St NoM h0 h L G):Gr h0 h:=S.fr.gr
theorem St.push(S:St M h0 h L G){b:Nat}{o:Ob}(c:h0.n<=b\/M b)(d:Has h b o)(e:b∉keys L G):St M h0 h ((b,o)::L) G:=
 ⟨S.fr,fun p a=>by
  rcases List.mem_cons.1 a with rfl|a
  . exact⟨c,d⟩
  . exact S.own p a,S.gown,List.nodup_cons.2 ⟨e,S.apart⟩⟩
theorem St.step(S:St M h0 h L G){M':Nat->Prop}{h':Hp}(f:Mo M' h h')(e: ∀b,M' b->M b\/h0.n<=b)(c: ∀b∈keys L G,¬M' b):St M h0 h' L G:=
 ⟨S.fr.trans f e,fun p a=>⟨(S.own p a).1,f.has (S.own p a).2 (c _ (gm a))⟩,
  fun p a=>⟨(S.gown p a).1.of_get fun b d=>f.get b ((S.gown p a).1.lt S.ok d) (c b (eW a d)),(S.gown p a).2⟩,S.apart⟩
theorem St.call(S:St M h0 h L G){h':Hp}(g:Gr h h'):St M h0 h' L G:=S.step (M':=NoM) g.fr (fun _ h=>h.elim) (fun _ _ h=>h)
theorem St.new(S:St M h0 h L G){x:Blk}{o:Ob}(a:Has (h.new x) h.n o):St M h0 (h.new x) ((h.n,o)::L) G:=
 (S.call (Gr.new S.ok x)).push (.inl S.fr.n) a (fun b=>by have:=S.key_lt b;omega)
theorem St.newG(S:St M h0 h L G){x:Blk}{k n:Nat}{vs:List Value}(d:n*k=vs.length)(f:Row (h.new x) h.n vs 1):St M h0 (h.new x) L ((.slice (some ⟨h.n,0,some k⟩) n n,k,vs)::G):=by
 have a:=S.call (Gr.new S.ok x)
 refine⟨a.fr,a.own,fun p c=>?_,?_⟩
 . rcases List.mem_cons.1 c with rfl|c
   . exact⟨.inr ⟨_,n,rfl,d,f⟩,fun b g=>by cases g;exact .inl S.fr.n⟩
   . exact a.gown p c
 . unfold keys
   have e:List.filterMap dM ((Value.slice (some ⟨h.n,0,some k⟩) n n,k,vs)::G)=h.n::List.filterMap dM G:=rfl
   rw [e]
   refine(List.perm_middle.nodup_iff).2 (List.nodup_cons.2 ⟨fun i=>?_,S.apart⟩)
   have:=S.key_lt i
   omega
theorem St.nilG(S:St M h0 h L G){k:Nat}:St M h0 h L ((.slice none 0 0,k,[])::G):=
 ⟨S.fr,S.own,fun p a=>by
  rcases List.mem_cons.1 a with rfl|a
  . exact⟨.inl ⟨rfl,rfl⟩,fun b c=>by cases c⟩
  . exact S.gown p a,S.apart⟩
theorem kW{α:Type}{l:List α}{i:Nat}{x y:α}(h:y∈l.set i x):y=x\/ ∃j,j≠i/\l[j]? =some y:=by
 rw [List.mem_iff_getElem?]at h
 obtain⟨j,a⟩:=h
 rw [Xv]at a
 split at a
 . split at a
   . cases a;exact .inl rfl
   . cases a
 . exact .inr ⟨j,by omega,a⟩
theorem oW{α:Type}{l:List α}(h:l.Nodup){i j:Nat}{x:α}(f:l[i]? =some x)(g:l[j]? =some x):i=j:=by
 have k:=(List.getElem?_eq_some_iff.1 f)
 have m:=(List.getElem?_eq_some_iff.1 g)
 obtain⟨a,d⟩:=k
 obtain⟨b,e⟩:=m
 rcases Nat.lt_trichotomy i j with c|c|c
 . exact absurd (d.trans e.symm) (List.pairwise_iff_getElem.1 h i j a b c)
 . exact c
 . exact absurd (e.trans d.symm) (List.pairwise_iff_getElem.1 h j i b a c)
theorem oa{L:List (Nat×Ob)}{G:List GL}{i:Nat}{p:Nat×Ob}(a:L[i]? =some p):(keys L G)[i]? =some p.1:=by
 unfold keys
 have:=(List.getElem?_eq_some_iff.1 a).1
 rw [Xw (by simpa using this),Xc,a];rfl
theorem St.put(S:St M h0 h L G){i b:Nat}{o o':Ob}(f:L[i]? =some (b,o)){x:Blk}(l:Has (h.put b x) b o'):St M h0 (h.put b x) (L.set i (b,o')) G:=by
 have k:=S.own _ (zM f)
 have g:(keys L G)[i]? =some b:=oa f
 refine⟨S.fr.put k.1 x,fun p a=>?_,fun p a=>⟨(S.gown p a).1.of_get fun c m=>?_,(S.gown p a).2⟩,?_⟩
 . rcases kW a with rfl|⟨j,n,a⟩
   . exact⟨k.1,l⟩
   . have d:=S.own p (zM a)
     refine⟨d.1,d.2.of_get (cd fun e=>n ?_)⟩
     have q:(keys L G)[j]? =some b:=by rw [oa a];rw [e]
     exact oW S.apart q g
 . refine cd fun e=>?_
   subst e
   have d:=S.apart
   unfold keys at d
   rw [List.nodup_append]at d
   exact d.2.2 b (List.mem_map.2 ⟨_,zM f,rfl⟩) b (List.mem_filterMap.2 ⟨p,a,m⟩) rfl
 . have:keys (L.set i (b,o')) G=keys L G:=by
    unfold keys
    congr 1
    rw [List.map_set]
    refine List.ext_getElem? fun j=>?_
    rw [Xv]
    split
    . rename_i e;subst e
      have:=(List.getElem?_eq_some_iff.1 f).1
      rw [if_pos (by simpa using this),Xc,f];rfl
    . rfl
   rw [this];exact S.apart
theorem St.row(S:St M h0 h L G){b:Nat}{l:List Value}{md:Nat}(a:(b,Ob.row l md)∈L):Row h b l md:=(S.own _ a).2
theorem St.ld(S:St M h0 h L G){b o:Nat}{l:List Value}{md:Nat}{v:Value}(a:(b,Ob.row l md)∈L)(c:l[o]? =some v):h.load b o 1=some [v]:=(S.row a).load1 c
theorem St.lds(S:St M h0 h L G){b o n:Nat}{l:List Value}{md:Nat}(a:(b,Ob.row l md)∈L)(c:o+n<=l.length):h.load b o n=some ((l.drop o).take n):=(S.row a).load c
theorem m0{α:Type}{a:α}{l:List α}:a∈a::l:=Xf
theorem m1{α:Type}{a b:α}{l:List α}:a∈b::a::l:=.tail _ m0
theorem m2{α:Type}{a b c:α}{l:List α}:a∈b::c::a::l:=.tail _ m1
theorem m3{α:Type}{a b c d:α}{l:List α}:a∈b::c::d::a::l:=.tail _ m2
theorem m4{α:Type}{a b c d e:α}{l:List α}:a∈b::c::d::e::a::l:=.tail _ m3
theorem m5{α:Type}{a b c d e f:α}{l:List α}:a∈b::c::d::e::f::a::l:=.tail _ m4
theorem m6{α:Type}{a b c d e f g:α}{l:List α}:a∈b::c::d::e::f::g::a::l:=.tail _ m5
theorem m7{α:Type}{a b c d e f g i:α}{l:List α}:a∈b::c::d::e::f::g::i::a::l:=.tail _ m6
theorem St.old(S:St M h0 h L G){b o n:Nat}{l:List Value}(e:h0.load b o n=some l)(a: ¬M b):h.load b o n=some l:=by
 have:=S.fr.get b (bD S.fr.ok0 e) a
 unfold Hp.load at e⊢
 rw [this];exact e
end
end Go.Ab

namespace Go.Ab

def px(h:Hp)(X:Hp->Option (c8×Hp))(F:Nat->Value)(o:Ob):Prop:=
 ∃a,(∀x,X {h with lo:=x}=some (.val (F h.n),({h with lo:=x}:Hp).new a))/\(h.t.Sized h.n->Has (h.new a) h.n o)
section
variable{M:Nat->Prop}{h0 h:Hp}{L:List (Nat×Ob)}{G:List GL}
section
variable{E:Env}{cx:Cx}{o:Oper}{l:Loc}{K:Ex->Loc->Hp->Prop}{X:Hp->Option (c8×Hp)}{F:Nat->Value}{ob:Ob}
theorem ae(N:px h X F ob)(S:St M h0 h L G)(a: ∀h' b,St M h0 h' ((b,ob)::L) G->h0.n<=b->K .normal (l.put o.dst (F b)) h'):eR E cx o l K (X h):=by
 obtain⟨c,d,f⟩:=N
 have e:X h=_:=d h.lo
 rw [e]
 exact a _ _ (S.new (f S.ok)) S.fr.n
theorem dC{cx:Cx}{Q:ew}{a:List Oper}{q:Nat}{ps:List (Nat×Nat)}{os:List Oper}{i:Nat}{k:List Fr}{c:List (Nat×Tch)}(N:px h X F ob)(S:St M h0 h L G)
 (d: ∀h' b,St M h0 h' ((b,ob)::L) G->h0.n<=b->b=h.n->Run E (lim E) cx Q (.opsD a q ps os (i+1) c::k) .normal (l.put o.dst (F b)) h'):DQ E cx Q a q ps o os i k l h c (X {h with lo:=h.n}):=by
 obtain⟨e,f,g⟩:=N
 rw [f]
 exact⟨Xb (Xl _),d _ _ (S.new (g S.ok)) S.fr.n rfl⟩
end
theorem aS{v:Value}{t:TypeId}(a: ∀x,v≠ .chan x):px h (fun h=>boxR h t v) ptrTo (.row (ah v) 1):=by
 refine⟨.cells (Tr.ofList (ah v)) (ah v).length t 1,fun x=>?_,fun b=>oe b _ _ _⟩
 cases v<;>first|rfl|exact absurd rfl (a _)
theorem aA{z:List Value}{t:TypeId}:px h (fun h=>allocR h t (some z)) ptrTo (.row z 1):=
 ⟨.cells (Tr.ofList z) z.length t 1,fun _=>rfl,fun a=>oe a _ _ _⟩
noncomputable def mapR(h:Hp):Option (c8×Hp):=some (.val (.map (some h.n)),h.new (.map [] 0))
theorem Bf{E:Env}{ρ:Operand->Value}{h:Hp}{t:TypeId}:aop E ρ h (.makeMap t none)=mapR h:=rfl
theorem kR:px h mapR (fun b=>.map (some b)) (.map [] 0):=⟨.map [] 0,fun _=>rfl,fun a=>by show(h.new _).get h.n=_;rw [h.get_new _ a,if_pos rfl]⟩
theorem sY(a:List Value): ∀n,(bA a n).length=n*a.length
 |0=>by simp [bA]
 |n+1=>by simp only [bA,Xg,sY a n];rw [Nat.succ_mul];omega
theorem row_blank{h:Hp}(a:h.t.Sized h.n)(z:Value)(n:Nat)(e:TypeId):Row (h.new (.cells (Tr.blank z n n) n e 1)) h.n (Xi n z) 1:=by
 refine⟨Tr.blank z n n,e,?_,?_,fun i=>?_⟩
 . rw [h.get_new _ a,if_pos rfl,Xp]
 . rw [Xp];exact Tr.sized_blank _ _ _ (Xl _)
 . rw [Tr.get_blank _ _ _ (Xl _),Xy]
def eS(E:Env)(e:TypeId)(a k:Nat)(b:List Value):Prop:=(∃i,E.ty e=some i/\i.bytes=a/\i.size=k)/\E.zero e=some b/\b.length=k
theorem pQ{E:Env}{t e:TypeId}{f k:Nat}{d:List Value}{kd kd':IntKind}{n:Int}(q:E.und t=some (.slice e))(y:eS E e f k d)(h0:0<=n)(A:n.toNat*(f+1)<=70368744177664):
 px h (fun h=>cR (iZ E h t (.int kd n) (.int kd' n))) (fun b=>.slice (some ⟨b,0,none⟩) n.toNat n.toNat) (.row (bA d n.toNat) 1):=by
 obtain⟨⟨i,r,rfl,rfl⟩,s,p⟩:=y
 obtain⟨m,rfl⟩:=Int.eq_ofNat_of_zero_le h0
 have hle:zN (m*(i.bytes+1)) 70368744177664=true:=Xb A
 have u:Xh d.length i.size=true:=by rw [p];exact Xt _
 have g:natV (.int kd (m:Int))=some m:=rfl
 have j:natV (.int kd' (m:Int))=some m:=rfl
 have v:(zN m m&&zN (m*(i.bytes+1)) 70368744177664)=true:=by rw [hle,Xb (Xl _)];rfl
 by_cases w: ∃z,d=[z]
 . obtain⟨z,rfl⟩:=w
   refine⟨.cells (Tr.blank z m m) m e 1,fun x=>?_,fun o=>?_⟩
   . simp only [iZ,q,r,s,g,j,v,u,cond_true,cR]
     rfl
   . have:bA [z] (m:Int).toNat=Xi m z:=by
      have: ∀n,bA [z] n=Xi n z:=by intro n;induction n with
       |zero=>rfl
       |succ n B=>simp [bA,B,List.replicate_succ]
      exact this m
     rw [this]
     exact row_blank o z m e
 . refine⟨.cells (Tr.ofList (bA d m)) (m*i.size) e 1,fun x=>?_,fun o=>?_⟩
   . simp only [iZ,q,r,s,g,j,v,u,cond_true]
     cases d with
     |nil=>rfl
     | cons a l=>
       cases l with
       |nil=>exact absurd ⟨a,rfl⟩ w
       |cons b l=>rfl
   . have:=oe o (bA d m) e 1
     rw [sY,p]at this
     show Row _ _ (bA d m) 1
     obtain⟨t,el,a,b,c⟩:=this
     exact⟨Tr.ofList (bA d m),e,by rw [h.get_new _ o,if_pos rfl,sY,p],Tr.sized_ofList _,Tr.get_ofList _⟩

theorem St.store(S:St M h0 h L G){E:Env}{t:TypeId}{i b off n md:Nat}{s:Option Nat}{l:List Value}{v:Value}(c:L[i]? =some (b,.row l md))(d:E.sz t=some n)(k: ∀x,v≠ .chan x)(e:(ah v).length=n)
 (hf:(ah v).all iU=true) (f:off+n<=l.length) (a:md≠0): ∃h',ii E h t (.pointer (some ⟨b,off,s⟩)) v=some h'/\St M h0 h' (L.set i (b,.row (lay l off (ah v)) md)) G/\Mo (· =b) h h':=by
 subst e
 obtain⟨x,g,j⟩:=(S.row (zM c)).store S.ok a (vs:=ah v) f hf
 refine⟨h.put b x,?_,S.put c j,(Mo.refl (M:=(· =b)) S.ok).put (.inr rfl) x⟩
 have:ii E h t (.pointer (some ⟨b,off,s⟩)) v=bif Xh (ah v).length (ah v).length then h.store b off (ah v)else none:=by
  simp only [ii,d]
 rw [this,Xt]
 exact g
section
variable{E:Env}{cx:Cx}{o:Oper}{l:Loc}{K:Ex->Loc->Hp->Prop}
theorem az{x:Option Hp}{P:Hp->Prop}(a: ∃h',x=some h'/\P h')(b: ∀h',P h'->K .normal (l.put o.dst (.tuple #[])) h'):eR E cx o l K (eQ x):=by
 obtain⟨h',rfl,c⟩:=a
 exact b h' c
theorem eh{x:Option (Hp×Value)}{P:Hp->Value->Prop}(a: ∃h' v,x=some (h',v)/\P h' v)(b: ∀h' v,P h' v->K .normal (l.put o.dst v) h'):eR E cx o l K (cR x):=by
 obtain⟨h',v,rfl,c⟩:=a
 exact b h' v c
theorem dS{cx:Cx}{Q:ew}{a:List Oper}{q:Nat}{ps:List (Nat×Nat)}{os:List Oper}{i:Nat}{k:List Fr}{b:Hp->List (Nat×Tch)}{x:Option Hp}{P:Hp->Prop}(c: ∃h',x=some h'/\P h')
 (d: ∀h',P h'->Run E (lim E) cx Q (.opsD a q ps os (i+1) (b h')::k) .normal (l.put o.dst (.tuple #[])) h'):DN E cx Q a q ps o os i k l b (eQ x):=by
 obtain⟨h',rfl,e⟩:=c
 exact d h' e
theorem jF{cx:Cx}{Q:ew}{a:List Oper}{q:Nat}{ps:List (Nat×Nat)}{os:List Oper}{i:Nat}{k:List Fr}{b:Hp->List (Nat×Tch)}{x:Option (Hp×Value)}{P:Hp->Value->Prop}(c: ∃h' v,x=some (h',v)/\P h' v)
 (d: ∀h' v,P h' v->Run E (lim E) cx Q (.opsD a q ps os (i+1) (b h')::k) .normal (l.put o.dst v) h'):DN E cx Q a q ps o os i k l b (cR x):=by
 obtain⟨h',v,rfl,e⟩:=c
 exact d h' v e
end

theorem pk{L:List (Nat×Ob)}{G:List GL}{j:Nat}{p d:GL}(e:(keys L G).Nodup)(g:G[j]? =some p){b:Nat}(i:dM d=some b)(c:b∉keys L G):(keys L (G.set j d)).Nodup:=by
 obtain⟨hlt,k⟩:=List.getElem?_eq_some_iff.1 g
 have f:G=G.take j++p::G.drop (j+1):=by rw [<-k,List.getElem_cons_drop hlt,List.take_append_drop]
 have l:G.set j d=G.take j++d::G.drop (j+1):=List.set_eq_take_append_cons_drop.trans (if_pos hlt)
 unfold keys at*
 rw [l,Xq,Xn i,<-List.append_assoc]
 refine List.perm_middle.nodup_iff.2 (List.nodup_cons.2 ⟨fun a=>c ?_,?_⟩)
 . rw [f,Xq]
   rcases List.mem_append.1 a with a|a
   . rcases List.mem_append.1 a with a|a
     . exact Xs _ a
     . exact Xj _ (Xs _ a)
   . refine Xj _ (Xj _ ?_)
     rw [Xu]
     split
     . exact a
     . exact Xr _ a
 . rw [f,Xq,<-List.append_assoc]at e
   refine e.sublist (List.Sublist.append (List.Sublist.refl _) ?_)
   rw [Xu]
   split
   . exact List.Sublist.refl _
   . exact List.sublist_cons_self _ _
theorem St.grow (S :St M h0 h L G) {E:Env} {t tx e:TypeId} {J k j m:Nat} {zs vs new:List Value} {v x:Value} (B:G[j]? =some (v,k,vs)) (hu:E.und t=some (.slice e)) (he:eS E e J k zs) (P:0<J)
 (Z:dD E tx=some false) (C:aM h k x=some (m,new)) (Y:m*k=new.length) (O:0<k) (hf:new.all iU=true) (ad:(vs.length+new.length)*(J+1)<=70368744177664) {ts:List TypeId}:
 ∃h' v',cZ E h (t::tx::ts) v x=some (h',v')/\St M h0 h' L (G.set j (v',k,vs++new)):=by
 obtain⟨⟨i,hi,rfl,rfl⟩,hz,hl⟩:=he
 have hlt:=(List.getElem?_eq_some_iff.1 B).1
 obtain⟨hg,Q⟩:=S.gown _ (zM B)
 have D : ∀ a d,v=.slice a d d->d*i.size=vs.length->(a=none/\d=0\/ ∃b,a=some ⟨b,0,some i.size⟩/\Row h b vs 1)->
  ∃h' v',eZ E h e i a d d m new=some (h',v')/\St M h0 h' L (G.set j (v',i.size,vs++new)):=by
  intro a d hv o y
  by_cases r:m=0
  . subst r
    have:new=[]:=by
     cases new with
     |nil=>rfl
     |cons a l=>simp at Y
    subst this
    refine⟨h,v,?_,?_⟩
    . unfold eZ
      rw [Xb (by omega:d+0<=d)]
      simp only [cond_true]
      rw [hv]
      cases a<;>rfl
    . rw [List.append_nil]
      have:G.set j (v,i.size,vs)=G:=by
       refine List.ext_getElem? fun n=>?_
       rw [Xv]
       split
       . rename_i e;subst e;first|rw [if_pos hlt,B]|exact B.symm
       . rfl
      rw [this];exact S
  . have R : zN (d+m) d=false:=by
     cases Z:zN (d+m) d with
     |false=>rfl
     |true=>exact absurd (Nat.le_of_ble_eq_true Z) (by omega)
    have T:d+m<=vs.length+new.length:=by
     rw [<-o,<-Y]
     have r:=Xz d O
     have h2:=Xz m O
     omega
    have z:(zN ((d+m)*(i.bytes+1)) 70368744177664&&Xx 0 i.bytes)=true:=by
     rw [Xb (XE (Nat.mul_le_mul_right _ T) ad)]
     simp only [Bool.true_and]
     rw [XC];exact P
    have af:Xh zs.length i.size=true:=by rw [hl];exact Xt _
    have A:eZ E h e i a d d m new=mD h e i.size a d m new:=by
     unfold eZ
     rw [R]
     simp only [cond_false]
     rw [z,hz]
     simp only [cond_true,af]
    rw [A]
    rcases y with⟨rfl,rfl⟩|⟨b,rfl,U⟩
    . have ai:vs=[]:=by
       cases vs with
       |nil=>rfl
       |cons a l=>simp at o
      subst ai
      refine⟨h.new (.cells (Tr.ofList new) new.length e 1),.slice (some ⟨h.n,0,some i.size⟩) m m,rfl,?_⟩
      have S':=S.call (Gr.new S.ok (.cells (Tr.ofList new) new.length e 1))
      have K:h.n∉keys L G:=fun O=>by have:=S.key_lt O;omega
      refine⟨S'.fr,S'.own,fun p f=>?_,pk S.apart B (b:=h.n) rfl K⟩
      rcases kW f with rfl|⟨j',_,f⟩
      . exact⟨.inr ⟨h.n,m,rfl,Y,oe S.ok new e 1⟩,fun b P=>by cases P;exact .inl S.fr.n⟩
      . exact S'.gown p (zM f)
    . obtain ⟨V,el,F,H,ak⟩:=U
      have al:i6 V vs.length 0 (d*i.size) new=some (V.pushAll vs.length new,vs.length+new.length):=by
       unfold i6
       rw [o,Xt vs.length]
       rfl
      refine⟨(h.put b .dead).new (.cells (V.pushAll vs.length new) (vs.length+new.length) e 1),.slice (some ⟨h.n,0,some i.size⟩) (d+m) (d+m),?_,?_⟩
      . unfold mD
        simp only [F,al,hf,Xt]
        rfl
      . have u:dM (v,i.size,vs)=some b:=by rw [hv];rfl
        have a3:=fF S.ok F
        have N:=(S.fr.put (Q b u) .dead)
        have ax: ∀c∈L.map Prod.fst,c≠b:=fun c s e=>by
         have r:=S.apart
         unfold keys at r
         rw [List.nodup_append]at r
         exact r.2.2 c s b (List.mem_filterMap.2 ⟨_,zM B,u⟩) e
        have w: ∀c,c<h.n->c≠b->((h.put b .dead).new (.cells (V.pushAll vs.length new) (vs.length+new.length) e 1)).get c=h.get c:=fun c s ay=>by
         rw [Hp.get_new _ _ N.ok,if_neg (by show c≠h.n;omega)]
         exact cd (Ne.symm ay)
        have K:h.n∉keys L G:=fun O=>by have:=S.key_lt O;omega
        refine⟨N.new _,fun p f=>?_,fun p f=>?_,pk S.apart B (b:=h.n) rfl K⟩
        . have r:=S.own p f
          exact⟨r.1,r.2.of_get (w _ (r.2.lt S.ok) (ax _ (XD f)))⟩
        . rcases kW f with rfl|⟨j',aL,f⟩
          . refine⟨.inr ⟨h.n,d+m,rfl,?_,?_⟩,fun b P=>by cases P;exact .inl S.fr.n⟩
            . show(d+m)*i.size=(vs++new).length
              rw [Nat.add_mul,o,Y,Xg]
            . refine⟨V.pushAll vs.length new,e,?_,?_,fun n=>?_⟩
              . rw [Hp.get_new _ _ N.ok]
                rw [if_pos (show h.n=(h.put b .dead).n from rfl),Xg]
              . rw [Xg];exact Tr.sized_pushAll _ H
              . rw [Tr.get_pushAll _ _ _ H,List.getElem?_append]
                split
                . exact ak n
                . rfl
          . have r:=S.gown p (zM f)
            refine⟨r.1.of_get fun c s=>w c (r.1.lt S.ok s) fun e=>aL ?_,r.2⟩
            subst e
            -- two lists with a4 a0
            have h2:=S.apart
            unfold keys at h2
            have h3:=(List.nodup_append.1 h2).2.1
            have a1: ∀(G:List GL) (a c:Nat) (p q:GL),(G.filterMap dM).Nodup->G[a]? =some p->G[c]? =some q-> ∀x,dM p=some x->dM q=some x->a=c:=by
             intro G
             induction G with
             |nil=>intro a c p q _ y;simp at y
             | cons g G ih=>
               intro a c p q I y s x f hq
               have a2:(G.filterMap dM).Nodup:=by
                rw [Xu]at I
                split at I
                . exact I
                . exact(List.nodup_cons.1 I).2
               cases a with
               | zero=>
                 cases c with
                 |zero=>rfl
                 | succ c=>
                   simp at y s
                   subst y
                   rw [Xn f]at I
                   exact absurd (List.mem_filterMap.2 ⟨q,zM s,hq⟩) (List.nodup_cons.1 I).1
               | succ a=>
                 cases c with
                 | zero=>
                   simp at y s
                   subst s
                   rw [Xn hq]at I
                   exact absurd (List.mem_filterMap.2 ⟨p,zM y,f⟩) (List.nodup_cons.1 I).1
                 | succ c=>
                   simp at y s
                   rw [ih a c p q a2 y s x f hq]
            exact a1 G j' j p _ h3 f B c s u
 unfold cZ
 simp only [Z]
 unfold jg
 simp only [hu,hi]
 rcases hg with⟨W,X⟩|⟨b,n,W,X,k3⟩
 . simp only []at W X
   subst W X
   simp only [C]
   exact D none 0 rfl (by simp) (.inl ⟨rfl,rfl⟩)
 . simp only []at W X k3
   subst W
   simp only [C]
   exact D _ n rfl X (.inr ⟨b,rfl,k3⟩)
end
end Go.Ab

namespace Go.Ab

theorem bL{E:Env}{cx:Cx}{Q:ew}{k:List Fr}{n:Nat}{d:List Deferred}{e:Option (Value×Bool)}{b:Code}{α:Type}(I:α->(Nat->Value)->Hp->Prop)(m:α->Nat)
 (o: ∀a,(∀f c h',m f<m a->I f c h'->Run E (lim E) cx Q (.code (.loop b)::k) .normal (LL n c d e) h')-> ∀ρ h,I a ρ h->Run E (lim E) cx Q (.code b:: .code (.loop b)::k) .normal (LL n ρ d e) h):
 ∀a ρ h,I a ρ h->Run E (lim E) cx Q (.code (.loop b)::k) .normal (LL n ρ d e) h:=by
 have g: ∀j a,m a<j-> ∀ρ h,I a ρ h->Run E (lim E) cx Q (.code (.loop b)::k) .normal (LL n ρ d e) h:=by
  intro j
  induction j with
  |zero=>intro a p;omega
  | succ j q=>
    intro a p ρ h i
    rw [bG]
    exact o a (fun f c h' hlt l=>q f (by omega) c h' l) ρ h i
 intro a ρ h i
 exact g (m a+1) a (by omega) ρ h i

def qx(b:Nat):Deferred:={target:=.collected b,args:=#[]}
section
variable(E:Env)(cx:Cx)(Q:ew)(k:List Fr)
def RangeGo(l:Loc)(h:Hp):Option Code->Prop
 |none=>Run E (lim E) cx Q k .normal l h
 |some (.exit id)=>Run E (lim E) cx Q k (.exit id) l h
 |some .ret=>Run E (lim E) cx Q k .ret l h
 |_=>False
def RangeQ(l:Loc)(b:Nat):Out->Option (Value×Bool)->Hp->Prop
 | .pan v,_,a=>Run E (lim E) cx Q k (.pan v) l a
 | .ret _,_,a=> ∃x,a.get b=some (.loop x)/\x.st≠1/\RangeGo E cx Q k l (a.put b .dead) x.pending
end
section
variable{E:Env}{cx:Cx}{Q:ew}{k:List Fr}{n:Nat}{ρ:Nat->Value}{d:List Deferred}{rc:Option (Value×Bool)}{M:Nat->Prop}{h0 h:Hp}{L:List (Nat×Ob)}{G:List GL}
theorem AM {f:Operand} {params:Array Tmp} {assign body:Code} {g:FuncId} {a b:Array Value} {j:Hp} {p:Nat} {dfs:List Deferred} (hf:(LL n ρ d rc).ev f=.func (.func g) a b) (F:cx.nr=n)
 (H :(match cx.round with
   |none=>some (h.new .dfr,h.n,({target:=.collected h.n,args:=#[]}:Deferred)::d)
   | some r=>match h.get r with
     |some (.loop x)=>some (h,x.defers,d)
     |_=>none)=some (j,p,dfs))
 (I:eu E g (a.toList++[.func (.yield j.n) #[] #[]]++b.toList) none (j.new (.loop {fn:=cx.fn,regs:=tab n ρ,nr:=n,params,assign,body,st:=0,pending:=none,defers:=p})) (RangeQ E cx Q k (LL n ρ dfs rc) j.n)):
 Run E (lim E) cx Q (.code (.rangeFunc f params assign body)::k) .normal (LL n ρ d rc) h:=by
 obtain⟨o,J,l,K,A⟩:=I
 simp only [Run]
 have e:aE E (lim E) cx (.rangeFunc f params assign body) (LL n ρ d rc) h=ie (lim E) cx ((LL n ρ d rc).ev f) params assign body (LL n ρ d rc) h:=rfl
 rw [e,hf]
 have N:ie (lim E) cx (.func (.func g) a b) params assign body (LL n ρ d rc) h=(match(some (j,p,dfs):Option (Hp×Nat×List Deferred))with
  |none=>none
  | some (j,p,dfs)=>
    match(lim E).call g (a.toList++[.func (.yield j.n) #[] #[]]++b.toList) none
     (j.new (.loop {fn:=cx.fn,regs:=tab n ρ,nr:=cx.nr,params,assign,body,st:=0,pending:=none,defers:=p}))with
    |none=>none
    |some (.pan v,_,l)=>some (.pan v,LL n ρ dfs rc,l)
    | some (.ret _,_,l)=>match l.get j.n with
      | some (.loop x)=>match x.st with
        |1=>none
        | _=>match x.pending with
          |none=>some (.normal,LL n ρ dfs rc,l.put j.n .dead)
          |some (.exit id)=>some (.exit id,LL n ρ dfs rc,l.put j.n .dead)
          |some .ret=>some (.ret,LL n ρ dfs rc,l.put j.n .dead)
          |_=>none
      |_=>none):=by rw [<-H];rfl
 rw [N]
 simp only [F,K]
 cases o with
 |pan v=>exact⟨_,_,_,rfl,A⟩
 | ret v=>
   obtain⟨x,O,t,u⟩:=A
   simp only [O]
   obtain⟨P,y,R,q,s,z,S,i,w⟩:=x
   simp only []at t u
   have m: ∃B C D,(match i with
    |none=>some (Ex.normal,LL n ρ dfs rc,l.put j.n .dead)
    |some (.exit id)=>some (.exit id,LL n ρ dfs rc,l.put j.n .dead)
    |some .ret=>some (.ret,LL n ρ dfs rc,l.put j.n .dead)
    |_=>none)=some (B,C,D)/\Run E (lim E) cx Q k B C D:=by
    cases i with
    |none=>exact⟨_,_,_,rfl,u⟩
    |some c=>cases c<;>first|exact u.elim|exact⟨_,_,_,rfl,u⟩
   match S,t with
   |0,_=>exact m
   |1,t=>exact absurd rfl t
   |_+2,_=>exact m
theorem kQ(S:St M h0 h L G){f:Operand}{params:Array Tmp}{assign body:Code}{g:FuncId}{a b:Array Value}(hf:(LL n ρ d rc).ev f=.func (.func g) a b)(j:cx.nr=n)(l:cx.round=none)
 (m: ∀h' c e,St M h0 h' ((e,.loop {fn:=cx.fn,regs:=tab n ρ,nr:=n,params,assign,body,st:=0,pending:=none,defers:=c})::(c,.dfr)::L) G->h.n<=c->h.n<=e->Gr h h'->
   eu E g (a.toList++[.func (.yield e) #[] #[]]++b.toList) none h' (RangeQ E cx Q k (LL n ρ (qx c::d) rc) e)):
 Run E (lim E) cx Q (.code (.rangeFunc f params assign body)::k) .normal (LL n ρ d rc) h:=by
 have i:St M h0 (h.new .dfr) ((h.n,.dfr)::L) G:=S.new (by show(h.new _).get h.n=_;rw [h.get_new _ S.ok,if_pos rfl])
 have p:=i.new (x:=.loop {fn:=cx.fn,regs:=tab n ρ,nr:=n,params,assign,body,st:=0,pending:=none,defers:=h.n}) (o:=.loop {fn:=cx.fn,regs:=tab n ρ,nr:=n,params,assign,body,st:=0,pending:=none,defers:=h.n})
  (by show(Hp.new _ _).get _=_;rw [Hp.get_new _ _ i.ok,if_pos rfl])
 exact AM hf j (by rw [l];rfl) (m _ _ _ p (Xl _) (Nat.le_succ _) ((Gr.new S.ok _).trans (Gr.new i.ok _)))
end

section
variable(E:Env)(cx:Cx)(lb:Nat)(Q:Out->Hp->Prop)
def tG:ew
 | .normal,_,a=> ∃x,a.get lb=some (.loop x)/\Q (.ret (.bool true)) (a.put lb (.loop {x with st:=0,pending:=none}))
 | .exit id,_,a=> ∃x,a.get lb=some (.loop x)/\Q (.ret (.bool false)) (a.put lb (.loop {x with st:=2,pending:=some (.exit id)}))
 | .ret,_,a=> ∃x,a.get lb=some (.loop x)/\Q (.ret (.bool false)) (a.put lb (.loop {x with st:=2,pending:=some .ret}))
 | .pan v,b,a=>b.dfs=[]/\Q (.pan v) a
def wP(body:Code):ew
 | .normal,l,a=> ∃x,a.get lb=some (.loop x)/\x.st=0/\x.fn=cx.fn/\x.nr=cx.nr/\x.body=body/\Run E (lim E) cx (tG lb Q) [.code body] .normal l (a.put lb (.loop {x with st:=1}))
 |_,_,_=>False
end
def setPs(ρ:Nat->Value):List Tmp->List Value->Option (Nat->Value)
 | [],[]=>some ρ
 |t::a,v::b=>setPs (aa ρ t v) a b
 |_,_=>none
theorem qM{n:Nat}: ∀(ts:List Tmp) (vs:List Value) (ρ a:Nat->Value),setPs ρ ts vs=some a->m9 (tab n ρ) ts vs=some (tab n a)
 | [],[],ρ,a,h=>by cases h;rfl
 | t::ts,v::vs,ρ,a,h=>by
   simp only [m9,tab_set]
   exact qM ts vs _ _ h
 | [],_::_,_,_,h=>by cases h
 |_::_,[],_,_,h=>by cases h
theorem sJ{E:Env}{cx:Cx}{Q:ew}{c:Code}{l:Loc}{h:Hp}(a:Run E (lim E) cx Q [.code c] .normal l h): ∃e l' h',(lim E).code cx c l h=some (e,l',h')/\Q e l' h':=by
 obtain⟨e,l',h',b,d⟩:=a
 exact⟨e,l',h',by rw [vd];exact b,d⟩
theorem kU{E:Env}{f n:Nat}{args:List Value}{h:Hp}{Q:Out->Hp->Prop}{fn:FuncId}{ρ a:Nat->Value}{params:Array Tmp}{assign body:Code}{o:Nat}
 (g:h.get f=some (.loop {fn,regs:=tab n ρ,nr:=n,params,assign,body,st:=0,pending:=none,defers:=o})) (k:(E.fn fn).isSome=true) (p:setPs ρ params.toList args=some a)
 (q:Run E (lim E) ⟨fn,n,some f⟩ (wP E ⟨fn,n,some f⟩ f Q body) [.code assign] .normal (LL n a [] none) h):j5 E f args h Q:=by
 obtain⟨e,l,z,r,j⟩:=sJ q
 unfold j5 iQ
 rw [g]
 simp only [k,cond_true,qM _ _ _ _ p]
 rw [show Loc.mk (tab n a) [] none=LL n a [] none from rfl,r]
 cases e with
 |exit i=>exact j.elim
 |ret=>exact j.elim
 |pan v=>exact j.elim
 | normal=>
   obtain⟨x,s,t,A,B,C,u⟩:=j
   obtain⟨w,D,F,m,b⟩:=sJ u
   simp only [s,t,m]
   cases w with
   |normal=>obtain⟨y,c,d⟩:=b;simp only [c];exact⟨_,_,rfl,d⟩
   |exit i=>obtain⟨y,c,d⟩:=b;simp only [c];exact⟨_,_,rfl,d⟩
   |ret=>obtain⟨y,c,d⟩:=b;simp only [c];exact⟨_,_,rfl,d⟩
   |pan v=>obtain⟨c,d⟩:=b;simp only [c];exact⟨_,_,rfl,d⟩
section
variable{E:Env}{cx:Cx}{lb:Nat}{Q:Out->Hp->Prop}{M:Nat->Prop}{h0 h:Hp}{L:List (Nat×Ob)}{G:List GL}{body:Code}{l:Loc}
theorem St.loopPut(S:St M h0 h L G){i:Nat}{X Y:gW}(a:L[i]? =some (lb,.loop X)):h.get lb=some (.loop X)/\St M h0 (h.put lb (.loop Y)) (L.set i (lb,.loop Y)) G:=by
 have b:h.get lb=some (.loop X):=(S.own _ (zM a)).2
 refine⟨b,S.put a ?_⟩
 show(h.put lb _).get lb=_
 rw [Hp.get_put,if_pos ⟨rfl,by rw [b];rfl⟩]
theorem jQ(S:St M h0 h L G){i:Nat}{X:gW}(a:L[i]? =some (lb,.loop X))(b:X.st=0)(c:X.fn=cx.fn)(h3:X.nr=cx.nr)(h4:X.body=body)
 (d: ∀h',St M h0 h' (L.set i (lb,.loop {X with st:=1})) G->Run E (lim E) cx (tG lb Q) [.code body] .normal l h'):wP E cx lb Q body .normal l h:=by
 obtain⟨e,f⟩:=S.loopPut (Y:={X with st:=1}) a
 exact⟨X,e,b,c,h3,h4,d _ f⟩
theorem gT(S:St M h0 h L G){i:Nat}{X:gW}(a:L[i]? =some (lb,.loop X))(b: ∀h',St M h0 h' (L.set i (lb,.loop {X with st:=0,pending:=none})) G->Q (.ret (.bool true)) h'):tG lb Q .normal l h:=by
 obtain⟨c,d⟩:=S.loopPut (Y:={X with st:=0,pending:=none}) a
 exact⟨X,c,b _ d⟩
end

def Iter(E:Env)(g:FuncId)(d post:List Value)(h0:Hp)(D:Nat->Prop)(xs:List (List Value)):Prop:=
 ∀ (e:Nat) (J:Nat->Hp->List Nat->Prop) (Z:Out->Hp->Prop) (h:Hp) (F:List Nat),
   h.t.Sized h.n->h0.n<=h.n->(∀b,b<h0.n->D b->h.get b=h0.get b)->
   (∀i h F,J i h F->h.t.Sized h.n/\ ∀b∈F,b<h.n)->(∀i h F a,J i h F->Gr h a->J i a F)->(∀h a,Z (.ret (.bool false)) h->Gr h a->Z (.ret (.bool false)) a)->(∀b∈F,¬(b<h0.n/\D b))->
   (∀i x h F,xs[i]? =some x->J i h F->j5 E e x h fun o a=>(o=.ret (.bool true)/\ ∃c,J (i+1) a c/\Mo (· ∈F) h a/\ ∀b∈c,b∈F\/h.n<=b)\/(o=.ret (.bool false)/\Z o a/\a.t.Sized a.n)\/((∃v,o=.pan v)/\Z o a))->
   J 0 h F->eu E g (d++[.func (.yield e) #[] #[]]++post) none h fun o f a=>f=none/\((∃u c,o=.ret u/\J xs.length a c)\/(∃u,o=.ret u/\Z (.ret (.bool false)) a)\/(∃v,o=.pan v/\Z o a))
end Go.Ab

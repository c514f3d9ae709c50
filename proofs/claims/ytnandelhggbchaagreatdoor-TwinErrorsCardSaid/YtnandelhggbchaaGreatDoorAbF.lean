/- A deterministic evaluator of the model's code, and that the model follows it (part 6). -/
import Derived.Test.YtnandelhggbchaaGreatDoorAbE
import Derived.WalkKit
import Derived.ProofKit
import Derived.OpenShut
import Derived.Carry
open Nat renaming ble_eq_true_of_le->zM,ble->Xb,le_of_ble_eq_true->Xe,le_refl->Xg,beq_refl->Xh,le_mul_of_pos_right->Xi,beq->Xj,lt_or_ge->Xl,succ_mul->Xo,mul_le_mul_right->Xx,blt->Xz,eq_of_mul_eq_mul_right->XA,blt_eq->XD,le_trans->XF,add_mul->XJ,eq_of_beq_eq_true->XK
open List renaming mem_of_getElem?->zN,length_append->Xa,getElem?_map->Xd,replicate->Xk,mem_append_right->Xm,filterMap_cons_some->Xp,ext_getElem?->Xq,length_replicate->Xs,filterMap_append->Xt,getElem?_eq_none->Xu,mem_cons_of_mem->Xv,mem_append_left->Xw,filterMap_cons->Xy,getElem?_set->XB,flatMap_cons->XC,getElem?_append_left->XE,take_length->XG,getElem?_replicate->XH,length_nil->XI,drop_zero->XL,getElem?_append->XM,mem_map_of_mem->XN
open Iff renaming rfl->Xc
open Array renaming getElem?_eq_getElem->Xf
open Bool renaming and_eq_true->Xn
open Option renaming map_eq_some_iff->Xr
set_option maxHeartbeats 400000
set_option linter.defProp false
set_option linter.unusedVariables false
set_option linter.unusedSimpArgs false
namespace Go.Ab
noncomputable section
abbrev Opt:=Option (Ex×Loc×Hp)

def getK{α:Type}(t:Tr α):Nat->Option α:=Tr.rec (motive:=fun _=>Nat->Option α) (fun _=>none)
 (fun x _ _ a b i=>Nat.rec (some x) (fun n _=>Bool.rec (b (n/2)) (a (n/2)) (Xj (n%2) 0)) i) t
def setK{α:Type}(t:Tr α):Nat->α->Tr α:=Tr.rec (motive:=fun _=>Nat->α->Tr α) (fun _ _=>.nil)
 (fun y l r a b i x=>Nat.rec (.node x l r) (fun n _=>Bool.rec (.node y l (b (n/2) x)) (.node y (a (n/2) x) r) (Xj (n%2) 0)) i) t
def fg(l:Loc)(d:Option Tmp)(v:Value):Loc:=Option.rec l (fun t=>Loc.mk (setK l.regs t v) l.dfs l.rc) d
def evK(l:Loc)(x:Operand):Value:=Operand.rec (motive:=fun _=>Loc->Value) (fun t l=>Option.rec (.tuple #[]) (fun v=>v) (getK l.regs t)) (fun v _=>Bool.rec poison v (cy v))
 (fun g _=>Bool.rec poison (.pointer (some ⟨g,0,none⟩)) (Xz g 16)) (fun f _=>.func (.func f) #[] #[]) x l
def exK(e:Ex):(Loc->Hp->Opt)->(Ex->Loc->Hp->Opt)->Loc->Hp->Opt:=Ex.rec (motive:=fun _=>(Loc->Hp->Opt)->(Ex->Loc->Hp->Opt)->Loc->Hp->Opt)
 (fun b _ l h=>b l h) (fun id _ a l h=>a (.exit id) l h) (fun _ a l h=>a .ret l h) (fun v _ a l h=>a (.pan v) l h) e
def dt(x:Opt)(a:Loc->Hp->Opt)(b:Ex->Loc->Hp->Opt):Opt:=Option.rec none (fun q=>Prod.rec (fun e c=>Prod.rec (fun l h=>exK e a b l h) c) q) x
def asInt:Value->Option (IntKind×Int)
 | .int k n=>some (k,n)
 |_=>none
abbrev BM:=IntKind->Int->IntKind->Int->Option Value->Option Value
def arK(f:IntKind->Int->Int->Option Value):BM:=fun k m a n _=>Bool.rec none (f k m n) (jG k a)
def binI(op:BinOp):BM:=BinOp.rec (motive:=fun _=>BM)
 (add:=arK fun k x y=>some (.int k (aq k (x+y)))) (sub:=arK fun k x y=>some (.int k (aq k (x-y)))) (mul:=arK fun k x y=>some (.int k (aq k (x*y))))
 (quo:=fun _ _ _ _ s=>s) (rem:=fun _ _ _ _ s=>s) (and:=fun _ _ _ _ s=>s) (or:=fun _ _ _ _ s=>s) (xor:=fun _ _ _ _ s=>s) (andNot:=fun _ _ _ _ s=>s) (shl:=fun _ _ _ _ s=>s) (shr:=fun _ _ _ _ s=>s)
 (eql:=arK fun _ x y=>some (.bool (gY x y))) (neq:=arK fun _ x y=>some (.bool (!gY x y))) (lss:=arK fun _ x y=>some (.bool (kw x y))) (leq:=arK fun _ x y=>some (.bool (!kw y x)))
 (gtr:=arK fun _ x y=>some (.bool (kw y x))) (geq:=arK fun _ x y=>some (.bool (!kw x y))) op
def binK(E:Env)(op:BinOp)(t:TypeId)(x y:Operand)(a b:Value):Option Value:=
 Option.rec (bE E op t x y a b) (fun p=>Option.rec (bE E op t x y a b) (fun q=>binI op p.1 p.2 q.1 q.2 (bE E op t x y a b)) (asInt b)) (asInt a)
abbrev OpM:=Env->Rec->Cx->Option Tmp->Loc->Hp->(Loc->Hp->Opt)->(Ex->Loc->Hp->Opt)->Opt
def je(r:Option Value)(d:Option Tmp)(l:Loc)(h:Hp)(a:Loc->Hp->Opt):Opt:=Option.rec none (fun v=>a (fg l d v) h) r
def retHK(r:Option (Hp×Value))(d:Option Tmp)(l:Loc)(a:Loc->Hp->Opt):Opt:=Option.rec none (fun p=>Prod.rec (fun h v=>a (fg l d v) h) p) r
def rC(r:Option Hp)(d:Option Tmp)(l:Loc)(a:Loc->Hp->Opt):Opt:=Option.rec none (fun h=>a (fg l d (.tuple #[])) h) r
def cK(op:Op):OpM:=fun E R a d l h b c=>dt (dz E R a ⟨d,op,0,"",#[],none⟩ l h) b c
def outK(o:Out):Option Tmp->Loc->Hp->(Loc->Hp->Opt)->(Ex->Loc->Hp->Opt)->Opt:=Out.rec (motive:=fun _=>Option Tmp->Loc->Hp->(Loc->Hp->Opt)->(Ex->Loc->Hp->Opt)->Opt)
 (fun v d l h a _=>a (fg l d v) h) (fun v _ l h _ b=>b (.pan v) l h) o
def resK(r:Option (Out×Option (Value×Bool)×Hp))(d:Option Tmp)(l:Loc)(a:Loc->Hp->Opt)(b:Ex->Loc->Hp->Opt):Opt:=Option.rec none (fun q=>Prod.rec (fun o c=>Prod.rec (fun _ h=>outK o d l h a b) c) q) r
def asFn:Value->Option (FuncId×Array Value×Array Value)
 | .func (.func g) a b=>some (g,a,b)
 |_=>none
def callK(c:Call):OpM:=fun E R e d l h a b=>Callee.rec (motive:=fun _=>Opt)
 (fun f=>Option.rec (cK (.call c) E R e d l h a b) (fun p=>resK (R.call p.1 (p.2.1.toList++c.args.toList.map (evK l)++p.2.2.toList) none h) d l a b) (asFn (evK l f)))
 (fun _ _=>cK (.call c) E R e d l h a b) (fun _=>cK (.call c) E R e d l h a b) c.callee
def opK(op:Op):OpM:=Op.rec (motive:=fun _=>OpM)
 (move:=fun x _ _ _ d l h j _=>j (fg l d (evK l x)) h)
 (assign:=fun x _ _ _ d l h j _=>j (fg l d (evK l x)) h)
 (pick:=fun c a b=>cK (.pick c a b))
 (alloc:=fun e=>cK (.alloc e))
 (box:=fun e v=>cK (.box e v))
 (build:=fun t p=>cK (.build t p))
 (buildSlice:=fun t n p=>cK (.buildSlice t n p))
 (insert:=fun t m k v=>cK (.insert t m k v))
 (load:=fun t a E _ _ d l h j _=>je (ee E h t (evK l a)) d l h j)
 (store:=fun t a v E _ _ d l h j _=>rC (gO E h t (evK l a) (evK l v)) d l j)
 (ready:=fun g=>cK (.ready g))
 (waits:=fun g=>cK (.waits g))
 (nilCheck:=fun x=>cK (.nilCheck x))
 (binOp:=fun op t x y u E _ _ d l h j _=>je (binK E op t x y (evK l x) (evK l y)) d l h j)
 (unOp:=fun op t x E _ _ d l h j _=>je (unP op (evK l x)) d l h j)
 (convert:=fun s t x=>cK (.convert s t x))
 (sliceToArrayPointer:=fun t x=>cK (.sliceToArrayPointer t x))
 (makeInterface:=fun t x=>cK (.makeInterface t x))
 (makeFunc:=fun f a b=>cK (.makeFunc f a b))
 (makeMap:=fun t r=>cK (.makeMap t r))
 (makeChan:=fun t s=>cK (.makeChan t s))
 (makeSlice:=fun t a c=>cK (.makeSlice t a c))
 (slice:=fun t x a b c=>cK (.slice t x a b c))
 (fieldAddr:=fun s x i E _ _ d l h j _=>je (aw E s (evK l x) i) d l h j)
 (field:=fun t x i E _ _ d l h j _=>je (aM E t (evK l x) i) d l h j)
 (indexAddr:=fun t x i E _ _ d l h j _=>je (dW E t (evK l x) (evK l i)) d l h j)
 (index:=fun t x i E _ _ d l h j _=>je (iB E t (evK l x) (evK l i)) d l h j)
 (lookup:=fun t m k o E _ _ d l h j _=>je (c9 E h t (evK l m) (evK l k) o) d l h j)
 (mapUpdate:=fun t m k v E _ _ d l h j _=>rC (dD E h t (evK l m) (evK l k) (evK l v)) d l j)
 (mapEntry:=fun t m k E _ _ d l h j _=>retHK (iV E h t (evK l m) (evK l k)) d l j)
 (entryStore:=fun t m s v=>cK (.entryStore t m s v))
 (range:=fun t x=>cK (.range t x))
 (next:=fun i s=>cK (.next i s))
 (entry:=fun i=>cK (.entry i))
 (typeAssert:=fun x s t o=>cK (.typeAssert x s t o))
 (extract:=fun t i=>cK (.extract t i))
 (call:=fun c=>callK c)
 (go:=fun c=>cK (.go c))
 (defer:=fun c=>cK (.defer c))
 (panic:=fun x=>cK (.panic x))
 (send:=fun c x=>cK (.send c x))
 (recv:=fun t c o=>cK (.recv t c o))
 (select:=fun q b=>cK (.select q b)) op
def pq(ops:List Oper)(l:Loc)(o:Oper):Option Bool:=Option.rec (some true) (fun _=>bO ops l.regs o) o.guard
def opsK(E:Env)(R:Rec)(cx:Cx)(ops:List Oper)(c:Loc->Hp->Opt)(d:Ex->Loc->Hp->Opt)(os:List Oper):Loc->Hp->Opt:=List.rec (motive:=fun _=>Loc->Hp->Opt) c
 (fun o _ a l h=>Option.rec none (fun b=>Bool.rec (a (fg l o.dst (.tuple #[])) h) (opK o.op E R cx o.dst l h a d) b) (pq ops l o)) os
def oV(op:Op):Bool:=Op.rec (motive:=fun _=>Bool)
 (move:=fun _=>true) (assign:=fun _=>true) (pick:=fun _ _ _=>false) (alloc:=fun _=>false) (box:=fun _ _=>false) (build:=fun _ _=>false) (buildSlice:=fun _ _ _=>false)
 (insert:=fun _ _ _ _=>false) (load:=fun _ _=>true) (store:=fun _ _ _=>true) (ready:=fun _=>false) (waits:=fun _=>false) (nilCheck:=fun _=>false) (binOp:=fun _ _ _ _ _=>true)
 (unOp:=fun _ _ _=>true) (convert:=fun _ _ _=>false) (sliceToArrayPointer:=fun _ _=>false) (makeInterface:=fun _ _=>false) (makeFunc:=fun _ _ _=>false) (makeMap:=fun _ _=>false)
 (makeChan:=fun _ _=>false) (makeSlice:=fun _ _ _=>false) (slice:=fun _ _ _ _ _=>false) (fieldAddr:=fun _ _ _=>true) (field:=fun _ _ _=>true) (indexAddr:=fun _ _ _=>true) (index:=fun _ _ _=>true)
 (lookup:=fun _ _ _ _=>true) (mapUpdate:=fun _ _ _ _=>true) (mapEntry:=fun _ _ _=>true) (entryStore:=fun _ _ _ _=>false) (range:=fun _ _=>false) (next:=fun _ _=>false) (entry:=fun _=>false)
 (typeAssert:=fun _ _ _ _=>false) (extract:=fun _ _=>false) (call:=fun _=>false) (go:=fun _=>false) (defer:=fun _=>false) (panic:=fun _=>false) (send:=fun _ _=>false) (recv:=fun _ _ _=>false)
 (select:=fun _ _=>false) op
def pS(E:Env)(q i:Nat)(op:Op):Bool:=Bool.rec (Bool.rec false (Xb 3 (cls E op)) (Nat.testBit q i)) false (Xj q 0)
def outDK(o:Out):(Value->Hp->Opt)->Hp->Opt:=Out.rec (motive:=fun _=>(Value->Hp->Opt)->Hp->Opt) (fun v k h=>k v h) (fun _ _ _=>none) o
def resDK(r:Option (Out×Option (Value×Bool)×Hp))(k:Value->Hp->Opt):Opt:=Option.rec none (fun q=>Prod.rec (fun o a=>Prod.rec (fun _ h=>outDK o k h) a) q) r
def jN(E:Env)(R:Rec)(a:Bool)(o:Oper)(l:Loc)(h:Hp)(k:Value->Hp->Opt):Opt:=Option.rec none (fun p=>k p.1 p.2) (co E R l.ev a o h)
def tz(h:Hp)(k:Value->Hp->Opt)(v:Value)(h':Hp):Opt:=Bool.rec none (k v {h' with lo:=h.lo}) (Xb h.n h'.lo)
def callDK(E:Env)(R:Rec)(a:Bool)(o:Oper)(c:Call)(l:Loc)(h:Hp)(k:Value->Hp->Opt):Opt:=Callee.rec (motive:=fun _=>Opt)
 (fun f=>Option.rec (jN E R a o l h k) (fun p=>Bool.rec (resDK (R.call p.1 (p.2.1.toList++c.args.toList.map (evK l)++p.2.2.toList) none h) k)
   (resDK (R.call p.1 (p.2.1.toList++c.args.toList.map (evK l)++p.2.2.toList) none {h with lo:=h.n}) (tz h k)) a) (asFn (evK l f)))
 (fun _ _=>jN E R a o l h k) (fun _=>jN E R a o l h k) c.callee
def asCall(op:Op):Option Call:=match op with
 | .call c=>some c
 |_=>none
def tT(E:Env)(R:Rec)(a:Bool)(o:Oper)(l:Loc)(h:Hp)(k:Value->Hp->Opt):Opt:=Option.rec (jN E R a o l h k) (fun c=>callDK E R a o c l h k) (asCall o.op)
def tI(l:Loc)(op:Op):Option Tch:=match touch (l.evD (tmpsOf op.operands.toList)) op with
 |none=>none
 |some b=>some (.blk b)
abbrev DM:=Nat->Loc->Hp->List (Nat×Tch)->Opt
def tU (E:Env) (R:Rec) (cx:Cx) (q:Nat) (o:Oper) (b:DM) (i:Nat) (l:Loc) (h:Hp) (c:List (Nat×Tch)):Opt:=
 Bool.rec (tT E R (pS E q i o.op) o l h fun v a=>b (i+1) (fg l o.dst v) a (fD i c (bU (l.evD (tmpsOf o.op.operands.toList)) (pS E q i o.op) o.op h a)))
  (Bool.rec (opK o.op E R cx o.dst l h (fun d a=>b (i+1) d a (fD i c (tI l o.op))) (fun _ _ _=>none))
    (jN E R true o l h fun v a=>b (i+1) (fg l o.dst v) a (fD i c (tI l o.op))) (pS E q i o.op)) (oV o.op)
def mU(E:Env)(R:Rec)(cx:Cx)(ops:List Oper)(q:Nat)(a:DM)(os:List Oper):DM:=List.rec (motive:=fun _=>DM) a
 (fun o _ c i l h d=>Option.rec none (fun b=>Bool.rec (c (i+1) (fg l o.dst (.tuple #[])) h d) (tU E R cx q o c i l h d) b) (pq ops l o)) os
def drawKo(E:Env)(R:Rec)(cx:Cx)(ops:List Oper)(l:Loc)(h:Hp)(a:Loc->Hp->Opt):Opt:=
 Option.rec none (fun p=>mU E R cx ops p.1 (fun _ l h b=>Bool.rec none (a l h) (bZ b p.2)) ops 0 l h []) (iR E ops)
def drawK(E:Env)(R:Rec)(cx:Cx)(ops:List Oper)(l:Loc)(h:Hp)(a:Loc->Hp->Opt):Opt:=drawKo E R cx (bn ops) l h a

abbrev CodeM:=Cx->Code->Loc->Hp->(Loc->Hp->Opt)->(Ex->Loc->Hp->Opt)->Opt
def asBool:Value->Option Bool
 | .bool b=>some b
 |_=>none
def blkK(e:Ex):Nat->(Loc->Hp->Opt)->(Ex->Loc->Hp->Opt)->Loc->Hp->Opt:=Ex.rec (motive:=fun _=>Nat->(Loc->Hp->Opt)->(Ex->Loc->Hp->Opt)->Loc->Hp->Opt)
 (fun _ b _ l h=>b l h) (fun i id b a l h=>Bool.rec (a (.exit i) l h) (b l h) (Xj i id)) (fun _ _ a l h=>a .ret l h) (fun v _ _ a l h=>a (.pan v) l h) e
def lZ(E:Env)(R:Rec)(M:CodeM)(cx:Cx)(c:Code):Loc->Hp->(Loc->Hp->Opt)->(Ex->Loc->Hp->Opt)->Opt:=Code.rec (motive:=fun _=>Loc->Hp->(Loc->Hp->Opt)->(Ex->Loc->Hp->Opt)->Opt)
 (skip:=fun l h a _=>a l h)
 (region:=fun _ g k l h a d=>Bool.rec (opsK E R cx g.toList a d g.toList l h) (Bool.rec (drawK E R cx g.toList l h a) (dt (cutD E R cx g.toList l h) a d) (E.cut cx.fn)) k)
 (seq:=fun _ _ i j l h a d=>i l h (fun l h=>j l h a d) d)
 (cond:=fun c _ _ i j l h a d=>Option.rec none (fun t=>Bool.rec (j l h a d) (i l h a d) t) (asBool (evK l c)))
 (block:=fun id _ m l h a d=>m l h a (fun e l h=>blkK e id a d l h))
 (loop:=fun b m l h a d=>m l h (fun l h=>M cx (.loop b) l h a d) d)
 (rangeFunc:=fun f p o n _ _ l h a d=>dt (gQ R cx (evK l f) p o n l h) a d)
 (exit:=fun id l h _ d=>d (.exit id) l h)
 (scope:=fun _ m l h a d=>m l h a d)
 (label:=fun _ l h a _=>a l h)
 (goto:=fun _ _ _ _ _=>none)
 (ret:=fun l h _ d=>d .ret l h)
 (refuse:=fun _ _ _ _ _=>none) c
abbrev mJ:=Option (Out×Option (Value×Bool)×Hp)
def sh(E:Env)(R:Rec)(b:Func)(l:Loc)(h':Hp):mJ:=match bG R l.dfs none h' with
 | some (none,a)=>match aQ E l.regs a b.results.toList with
   |none=>none
   |some c=>some (.ret (ac c),l.rc,a)
 |_=>none
def doneK(E:Env)(R:Rec)(a:Func)(l:Loc)(h:Hp):mJ:=List.rec (motive:=fun _=>mJ)
 (Option.rec none (fun b=>some (.ret (ac b),l.rc,h)) (aQ E l.regs h a.results.toList)) (fun _ _ _=>sh E R a l h) l.dfs
def slowPan(E:Env)(R:Rec)(b:Func)(v:Value)(l:Loc)(h':Hp):mJ:=match bG R l.dfs (some v) h' with
 |none=>none
 |some (some v,a)=>some (.pan v,l.rc,a)
 | some (none,a)=>match aQ E l.regs a b.results.toList with
   |none=>none
   |some c=>some (.ret (ac c),l.rc,a)
def exLeave(e:Ex):Env->Rec->Func->Loc->Hp->mJ:=Ex.rec (motive:=fun _=>Env->Rec->Func->Loc->Hp->mJ) doneK (fun _ _ _ _ _ _=>none) doneK (fun v E R a l h=>slowPan E R a v l h) e
def leaveK(E:Env)(R:Rec)(a:Func)(r:Opt):mJ:=Option.rec none (fun q=>Prod.rec (fun e b=>Prod.rec (fun l h=>exLeave e E R a l h) b) q) r
def uc(E:Env)(R:Rec)(f:FuncId)(args:List Value)(b:Option (Value×Bool))(h:Hp)(a:Func)(body:Code):mJ:=
 Bool.rec none (leaveK E R a (R.code ⟨f,a.ntmps,none⟩ body ⟨(Tr.blank (.tuple #[]) a.ntmps a.ntmps).setAll 0 args,[],b⟩ h)) (Xb args.length a.ntmps)
def callBK(E:Env)(R:Rec)(f:FuncId)(args:List Value)(c:Option (Value×Bool))(h:Hp):mJ:=
 Option.rec none (fun b=>Option.rec none (fun a=>uc E R f args c h b a) b.body) (E.fn f)
def tS(E:Env)(R:Rec)(f:FuncId)(args:List Value)(a:Option (Value×Bool))(h:Hp):mJ:=
 Option.rec (callBK E R f args a h) (fun v=>Option.rec (some (.ret v,none,h)) (fun _=>none) a) (E.orc f args)
structure RK where
 call:FuncId->List Value->Option (Value×Bool)->Hp->mJ
 code:CodeM
def RK.rec'(K:RK):Rec:=⟨K.call,fun a c l h=>K.code a c l h (fun l h=>some (.normal,l,h)) (fun e l h=>some (e,l,h))⟩
def botK:RK:=⟨fun _ _ _ _=>none,fun _ _ _ _ _ _=>none⟩
def nextRK(E:Env)(K:RK):RK:=⟨fun f a b h=>tS E K.rec' f a b h,fun d c l h e g=>lZ E K.rec' K.code d c l h e g⟩
def runK(E:Env)(n:Nat):RK:=Nat.rec botK (fun _ K=>nextRK E K) n
def envK(a:Tr Func)(b:Tr TypeInfo)(c:List Nat):Env:={fn:=fun f=>getK a f,ty:=fun t=>getK b t,eqok:=fun t=>kR t c}
end
end Go.Ab

namespace Go.Ab
noncomputable section
theorem getK_eq{α:Type}(t:Tr α)(i:Nat):getK t i=t.get i:=rfl
theorem setK_eq{α:Type}(t:Tr α)(i:Nat)(x:α):setK t i x=t.set i x:=rfl

theorem kY(l:Loc)(d:Option Tmp)(v:Value):fg l d v=l.put d v:=by
 cases d with
 |none=>rfl
 |some t=>show Loc.mk (setK l.regs t v) l.dfs l.rc=_;rw [setK_eq];rfl
theorem eY(l:Loc):evK l=l.ev:=by
 funext x
 cases x with
 | tmp t=>
   show Option.rec (motive:=fun _=>Value) _ _ (getK l.regs t)=_
   rw [getK_eq]
   simp only [Loc.ev]
   cases l.regs.get t<;>rfl
 |const v=>simp only [Loc.ev];show Bool.rec (motive:=fun _=>Value) poison v (cy v)=_;cases cy v<;>rfl
 |global g=>simp only [Loc.ev];show Bool.rec (motive:=fun _=>Value) poison _ (Xz g 16)=_;cases Xz g 16<;>rfl
 |func f=>rfl

theorem bind2_id(x:Opt):dt x (fun l h=>some (.normal,l,h)) (fun e l h=>some (e,l,h))=x:=by
 cases x with
 |none=>rfl
 |some q=>obtain⟨e,l,h⟩:=q;cases e<;>rfl
theorem pZ(x:Opt)(c:Loc->Hp->Opt)(a1:Ex->Loc->Hp->Opt)(d:Loc->Hp->Opt)(a:Ex->Loc->Hp->Opt)(b: ∀e l h,e≠ .normal->a1 e l h=a e l h):
 dt x (fun l h=>dt (c l h) d a) a1=dt (match x with
  |some (.normal,l,h)=>c l h
  |r=>r) d a:=by
 cases x with
 |none=>rfl
 | some q=>
   obtain⟨e,l,h⟩:=q
   cases e with
   |normal=>rfl
   |exit i=>exact b _ _ _ (by simp)
   |ret=>exact b _ _ _ (by simp)
   |pan v=>exact b _ _ _ (by simp)

theorem binK_eq(E:Env)(op:BinOp)(t:TypeId)(x y:Operand)(a b:Value):binK E op t x y a b=bE E op t x y a b:=by
 cases a<;>(try rfl)
 cases b<;>(try rfl)
 rename_i k m c n
 cases op<;>(try rfl)
 all_goals (show Bool.rec (motive:=fun _=>Option Value) none _ (jG k c)=(bif jG k c then _ else none);cases jG k c<;>rfl)

theorem retK_eq(r:Option Value)(o:Oper)(l:Loc)(h:Hp)(E:Env)(R:Rec)(a:Loc->Hp->Opt)(b:Ex->Loc->Hp->Opt):je r o.dst l h a=dt (lW o l (cw E R (ce h r))) a b:=by
 cases r with
 |none=>rfl
 |some v=>show a (fg l o.dst v) h=a (l.put o.dst v) h;rw [kY]
theorem retHK_eq(r:Option (Hp×Value))(o:Oper)(l:Loc)(E:Env)(R:Rec)(a:Loc->Hp->Opt)(b:Ex->Loc->Hp->Opt):retHK r o.dst l a=dt (lW o l (cw E R (cH r))) a b:=by
 cases r with
 |none=>rfl
 |some p=>obtain⟨h,v⟩:=p;show a (fg l o.dst v) h=a (l.put o.dst v) h;rw [kY]
theorem retUK_eq(r:Option Hp)(o:Oper)(l:Loc)(E:Env)(R:Rec)(a:Loc->Hp->Opt)(b:Ex->Loc->Hp->Opt):rC r o.dst l a=dt (lW o l (cw E R (eg r))) a b:=by
 cases r with
 |none=>rfl
 |some h=>show a (fg l o.dst (.tuple #[])) h=a (l.put o.dst (.tuple #[])) h;rw [kY]
theorem resK_eq(R:Rec)(g:FuncId)(args:List Value)(o:Oper)(l:Loc)(h:Hp)(E:Env)(a:Loc->Hp->Opt)(b:Ex->Loc->Hp->Opt):
 resK (R.call g args none h) o.dst l a b=dt (lW o l (cw E R (some (.call g args,h)))) a b:=by
 simp only [cw]
 cases R.call g args none h with
 |none=>rfl
 | some q=>
   obtain⟨x,d,c⟩:=q
   cases x with
   |ret v=>show a (fg l o.dst v) c=a (l.put o.dst v) c;rw [kY]
   |pan v=>rfl
theorem kK{E:Env}{R:Rec}{cx:Cx}{o:Oper}{l:Loc}{h:Hp}{x:Option (cS×Hp)}(a:aop E l.ev h o.op=x)(b: ∀h',x≠some (.recov,h'))(c: ∀d h',x≠some (.defer d,h')):dz E R cx o l h=lW o l (cw E R x):=by
 unfold dz
 rw [a]
 split
 . exact absurd rfl (b _)
 . exact absurd rfl (c _ _)
 . rfl
theorem sK{h:Hp}{r:Option Value}:(∀h',ce h r≠some (.recov,h'))/\ ∀d h',ce h r≠some (.defer d,h'):=by cases r<;>exact⟨by intros;simp [ce],by intros;simp [ce]⟩
theorem sg{r:Option (Hp×Value)}:(∀h',cH r≠some (.recov,h'))/\ ∀d h',cH r≠some (.defer d,h'):=by cases r<;>exact⟨by intros;simp [cH],by intros;simp [cH]⟩
theorem sY{r:Option Hp}:(∀h',eg r≠some (.recov,h'))/\ ∀d h',eg r≠some (.defer d,h'):=by cases r<;>exact⟨by intros;simp [eg],by intros;simp [eg]⟩
theorem opK_eq(E:Env)(R:Rec)(cx:Cx)(o:Oper)(l:Loc)(h:Hp)(q:Loc->Hp->Opt)(s:Ex->Loc->Hp->Opt):opK o.op E R cx o.dst l h q s=dt (dz E R cx o l h) q s:=by
 have w: ∀r,aop E l.ev h o.op=ce h r->je r o.dst l h q=dt (dz E R cx o l h) q s:=fun r A=>by rw [kK A sK.1 sK.2];exact retK_eq r o l h E R q s
 have B: ∀r,aop E l.ev h o.op=cH r->retHK r o.dst l q=dt (dz E R cx o l h) q s:=fun r A=>by rw [kK A sg.1 sg.2];exact retHK_eq r o l E R q s
 have C: ∀r,aop E l.ev h o.op=eg r->rC r o.dst l q=dt (dz E R cx o l h) q s:=fun r A=>by rw [kK A sY.1 sY.2];exact retUK_eq r o l E R q s
 obtain⟨j,op,D,pos,z,guard⟩:=o
 simp only []at w B C⊢
 cases op
 case move x=>
  have:=w (some (l.ev x)) rfl
  rw [<-this]
  show q (fg l j (evK l x)) h=q (fg l j (l.ev x)) h
  rw [eY]
 case assign x=>
  have:=w (some (l.ev x)) rfl
  rw [<-this]
  show q (fg l j (evK l x)) h=q (fg l j (l.ev x)) h
  rw [eY]
 case load t a=>rw [<-w _ rfl];show je (ee E h t (evK l a)) j l h q=_;rw [eY]
 case store t a v=>rw [<-C _ rfl];show rC (gO E h t (evK l a) (evK l v)) j l q=_;rw [eY]
 case binOp b t x y u=>rw [<-w (bE E b t x y (l.ev x) (l.ev y)) rfl];show je (binK E b t x y (evK l x) (evK l y)) j l h q=_;rw [eY,binK_eq]
 case unOp b t x=>rw [<-w (unP b (l.ev x)) rfl];show je (unP b (evK l x)) j l h q=_;rw [eY]
 case fieldAddr t x i=>rw [<-w (aw E t (l.ev x) i) rfl];show je (aw E t (evK l x) i) j l h q=_;rw [eY]
 case field t x i=>rw [<-w (aM E t (l.ev x) i) rfl];show je (aM E t (evK l x) i) j l h q=_;rw [eY]
 case indexAddr t x i=>rw [<-w (dW E t (l.ev x) (l.ev i)) rfl];show je (dW E t (evK l x) (evK l i)) j l h q=_;rw [eY]
 case index t x i=>rw [<-w (iB E t (l.ev x) (l.ev i)) rfl];show je (iB E t (evK l x) (evK l i)) j l h q=_;rw [eY]
 case lookup t m k b=>rw [<-w _ rfl];show je (c9 E h t (evK l m) (evK l k) b) j l h q=_;rw [eY]
 case mapUpdate t m k v=>rw [<-C _ rfl];show rC (dD E h t (evK l m) (evK l k) (evK l v)) j l q=_;rw [eY]
 case mapEntry t m k=>rw [<-B _ rfl];show retHK (iV E h t (evK l m) (evK l k)) j l q=_;rw [eY]
 case call c=>
  show callK c E R cx j l h q s=_
  unfold callK
  cases F:c.callee with
  |invoke r n=>rfl
  |builtin b=>rfl
  | value f=>
    show Option.rec (motive:=fun _=>Opt) (cK (.call c) E R cx j l h q s) _ (asFn (evK l f))=_
    rw [eY]
    cases hf:asFn (l.ev f)with
    |none=>rfl
    | some p=>
      obtain⟨g,a,b⟩:=p
      have B:l.ev f=.func (.func g) a b:=by
       unfold asFn at hf
       split at hf
       . rename_i G;cases hf;exact G
       . cases hf
      have A:aop E l.ev h (.call c)=some (.call g (a.toList++c.args.toList.map l.ev++b.toList),h):=by simp only [aop,F,B,target]
      rw [kK (o:=⟨j,.call c,D,pos,z,guard⟩) A (by intro H e;cases e) (by intro d H e;cases e)]
      exact resK_eq R g _ ⟨j,.call c,D,pos,z,guard⟩ l h E q s
 all_goals rfl

theorem vV(ops:List Oper)(l:Loc)(o:Oper):pq ops l o=bO ops l.regs o:=by
 unfold pq
 cases a:o.guard with
 |none=>unfold bO;rw [a]
 |some q=>rfl
theorem opsK_eq(E:Env)(R:Rec)(cx:Cx)(ops:List Oper)(c:Loc->Hp->Opt)(a:Ex->Loc->Hp->Opt): ∀(os:List Oper) (l:Loc) (h:Hp),opsK E R cx ops c a os l h=dt (gU E R cx ops os l h) c a
 | [],l,h=>rfl
 | o ::os,l,h=>by
   have d:=opsK_eq E R cx ops c a os
   show Option.rec (motive:=fun _=>Opt) none (fun b=>Bool.rec (opsK E R cx ops c a os (fg l o.dst (.tuple #[])) h) (opK o.op E R cx o.dst l h (opsK E R cx ops c a os) a) b) (pq ops l o)=_
   rw [vV]
   simp only [gU]
   cases bO ops l.regs o with
   |none=>rfl
   | some b=>
     cases b with
     |false=>show opsK E R cx ops c a os (fg l o.dst (.tuple #[])) h=_;rw [d,kY]
     | true=>
       show opK o.op E R cx o.dst l h (opsK E R cx ops c a os) a=_
       rw [opK_eq,show opsK E R cx ops c a os=fun l h=>dt (gU E R cx ops os l h) c a from funext fun l=>funext fun h=>d l h]
       rw [pZ _ _ _ _ _ (fun _ _ _ _=>rfl)]
       simp only []
       cases dz E R cx o l h with
       |none=>rfl
       |some q=>obtain⟨e,f,g⟩:=q;cases e<;>rfl

end
end Go.Ab

namespace Go.Ab
noncomputable section

theorem uW(E:Env)(R:Rec)(l:Loc)(a:Bool)(o:Oper)(h:Hp):co E R (l.evD (tmpsOf o.op.operands.toList)) a o h=co E R l.ev a o h:=by
 unfold co
 rw [qZ (ry l o.op),qZ (ry l o.op)]
theorem fast_step{E:Env}{R:Rec}{cx:Cx}{o:Oper}{l:Loc}{h:Hp}(hf:oV o.op=true){K:Value->Hp->Opt}:
 dt (dz E R cx o l h) (fun l' h'=>none) (fun _ _ _=>none)=none/\
 ∀ b:Loc->Hp->Opt,dt (dz E R cx o l h) b (fun _ _ _=>none)=(match co E R l.ev false o h with
   |none=>none
   |some (v,h')=>b (l.put o.dst v) h'):=by
 have c: ∀x,aop E l.ev h o.op=x->((∃e r,x=ce e r)\/(∃r,x=cH r)\/ ∃r,x=eg r)-> ∀b:Loc->Hp->Opt,dt (dz E R cx o l h) b (fun _ _ _=>none)=(match co E R l.ev false o h with
  |none=>none
  |some (v,h')=>b (l.put o.dst v) h'):=by
  intro x g i b
  have j:(∀h',x≠some (.recov,h'))/\ ∀d h',x≠some (.defer d,h'):=by
   rcases i with⟨e,r,rfl⟩|⟨r,rfl⟩|⟨r,rfl⟩
   . exact sK
   . exact sg
   . exact sY
  rw [kK g j.1 j.2]
  simp only [co,cond_false,g]
  rcases i with⟨e,r,rfl⟩|⟨r,rfl⟩|⟨r,rfl⟩<;>cases r<;>rfl
 have a:(∃e r,aop E l.ev h o.op=ce e r)\/(∃r,aop E l.ev h o.op=cH r)\/ ∃r,aop E l.ev h o.op=eg r:=by
  obtain⟨k,op,m,pos,f,guard⟩:=o
  simp only []at hf⊢
  cases op<;>(try (cases hf;done))
  all_goals first
   |exact .inl ⟨h,some (l.ev _),rfl⟩
   |exact .inl ⟨h,_,rfl⟩
   |exact .inr (.inl ⟨_,rfl⟩)
   |exact .inr (.inr ⟨_,rfl⟩)
 refine⟨?_,c _ rfl a⟩
 rw [c _ rfl a]
 cases co E R l.ev false o h<;>rfl
theorem sF(E:Env)(q i:Nat)(op:Op):pS E q i op=dG E q i op:=by
 unfold pS dG
 cases a:Xj q 0 with
 | true=>
   have:q=0:=XK a
   subst this
   simp
 |false=>cases Nat.testBit q i<;>rfl
theorem elseDK_eq (E:Env) (R:Rec) (d:Bool) (o:Oper) (l:Loc) (h:Hp) (k:Value->Hp->Opt):tT E R d o l h k=jN E R d o l h k:=by
 unfold tT
 cases e:asCall o.op with
 |none=>rfl
 | some c=>
   show callDK E R d o c l h k=_
   have t:o.op=.call c:=by
    unfold asCall at e
    split at e
    . rename_i i;cases e;exact i
    . cases e
   unfold callDK
   cases j:c.callee with
   |invoke r n=>rfl
   |builtin b=>rfl
   | value f =>
     show Option.rec (motive:=fun _=>Opt) (jN E R d o l h k) _ (asFn (evK l f))=_
     rw [eY]
     cases hf:asFn (l.ev f)with
     |none=>rfl
     | some p=>
       obtain⟨g,a,b⟩:=p
       have u:l.ev f=.func (.func g) a b:=by
        unfold asFn at hf
        split at hf
        . rename_i i;cases hf;exact i
        . cases hf
       have s: ∀h,aop E l.ev h o.op=some (.call g (a.toList++c.args.toList.map l.ev++b.toList),h):=by intro h;rw [t];simp only [aop,j,u,target]
       unfold jN co
       cases d with
       | false=>
         simp only [cond_false,s,cw]
         show resDK (R.call g (a.toList++c.args.toList.map l.ev++b.toList) none h) k=_
         cases R.call g (a.toList++c.args.toList.map l.ev++b.toList) none h with
         |none=>rfl
         |some q=>obtain⟨x,w,m⟩:=q;cases x<;>rfl
       | true=>
         simp only [cond_true,s,cw]
         show resDK (R.call g (a.toList++c.args.toList.map l.ev++b.toList) none {h with lo:=h.n}) (tz h k)=_
         cases R.call g (a.toList++c.args.toList.map l.ev++b.toList) none {h with lo:=h.n}with
         |none=>rfl
         | some q=>
           obtain⟨x,w,m⟩:=q
           cases x with
           |pan v=>rfl
           | ret v=>
             show tz h k v m=_
             simp only [tz]
             cases Xb h.n m.lo<;>rfl
theorem ze{op:Op}(h:oV op=true):dk op=false:=by
 cases op<;>first|rfl|exact absurd h (by simp [oV])
theorem yj (E:Env) (R:Rec) (cx:Cx) (ops:List Oper) (q:Nat) (K:Loc->Hp->List (Nat×Tch)->Opt): ∀(os:List Oper) (i:Nat) (l:Loc) (h:Hp) (a:List (Nat×Tch)),
 mU E R cx ops q (fun _ l h a=>K l h a) os i l h a=(match aT E R ops q os i l h a with
  |none=>none
  |some (l',h',d)=>K l' h' d)
 | [],i,l,h,a=>rfl
 | o :: os,i,l,h,a=>by
   have g:=yj E R cx ops q K os
   show Option.rec (motive:=fun _=>Opt) none (fun b=>Bool.rec (mU E R cx ops q (fun _ l h a=>K l h a) os (i+1) (fg l o.dst (.tuple #[])) h a) (tU E R cx q o (mU E R cx ops q (fun _ l h a=>K l h a) os) i l h a) b) (pq ops l o)=_
   rw [vV]
   simp only [aT]
   cases bO ops l.regs o with
   |none=>rfl
   | some b=>
     cases b with
     |false=>show mU E R cx ops q (fun _ l h a=>K l h a) os (i+1) (fg l o.dst (.tuple #[])) h a=_;rw [g,kY]
     | true=>
       show tU E R cx q o (mU E R cx ops q (fun _ l h a=>K l h a) os) i l h a=_
       simp only []
       have c: ∀f,dG E q i o.op=f->jN E R f o l h (fun v h'=>mU E R cx ops q (fun _ l h a=>K l h a) os (i+1) (fg l o.dst v) h' (fD i a (bU (l.evD (tmpsOf o.op.operands.toList)) f o.op h h')))=
        (match(match co E R (l.evD (tmpsOf o.op.operands.toList)) (dG E q i o.op) o h with
          |none=>none
          |some (v,h')=>aT E R ops q os (i+1) (l.put o.dst v) h' (fD i a (bU (l.evD (tmpsOf o.op.operands.toList)) (dG E q i o.op) o.op h h')))with
          |none=>none
          |some (l',h',d)=>K l' h' d):=by
        intro f e
        rw [e,uW]
        unfold jN
        cases co E R l.ev f o h with
        |none=>rfl
        |some p=>obtain⟨v,h'⟩:=p;show mU E R cx ops q _ os (i+1) (fg l o.dst v) h' _=_;rw [g,kY]
       unfold tU
       cases hf:oV o.op with
       | false=>
         show tT E R (pS E q i o.op) o l h _=_
         rw [elseDK_eq,sF]
         exact c _ rfl
       | true=>
         have k: ∀b (h h':Hp),bU (l.evD (tmpsOf o.op.operands.toList)) b o.op h h'=tI l o.op:=by
          intro b h h'
          have j:dQ o.op=false:=by cases m:o.op<;>first|rfl|(rw [m]at hf;simp [oV]at hf)
          unfold bU tI iA
          rw [ze hf,j];rfl
         simp only [k]at c⊢
         cases e:pS E q i o.op with
         | true=>
           rw [sF]at e
           exact c true e
         | false=>
           rw [sF]at e
           show opK o.op E R cx o.dst l h _ _=_
           rw [opK_eq,(fast_step (R:=R) hf (K:=fun _ _=>none)).2,uW,e]
           cases co E R l.ev false o h with
           |none=>rfl
           |some p=>obtain⟨v,h'⟩:=p;simp only [];rw [g]
theorem codeK_eq(E:Env)(R:Rec)(M:CodeM)(D: ∀cx c l h d g,M cx c l h d g=dt (R.code cx c l h) d g)(cx:Cx): ∀(c:Code) (l:Loc) (h:Hp) (d:Loc->Hp->Opt) (g:Ex->Loc->Hp->Opt),
 lZ E R M cx c l h d g=dt (aB E R cx c l h) d g:=by
 intro c
 induction c with
 |skip=>intro l h d g;rfl
 |label n=>intro l h d g;rfl
 | region id j s=>
   intro l h d g
   cases s with
   |false=>exact opsK_eq E R cx j.toList d g j.toList l h
   | true=>
     show(Bool.rec (motive:=fun _=>Opt) (drawK E R cx j.toList l h d) (dt (cutD E R cx j.toList l h) d g) (E.cut cx.fn):Opt)=_
     simp only [aB,cond_true]
     cases E.cut cx.fn with
     |true=>rfl
     |false=>
     show drawK E R cx j.toList l h d=_
     simp only [cond_false]
     unfold drawK drawKo
     generalize bn j.toList=r
     cases iR E r with
     |none=>rfl
     | some p=>
       obtain⟨q,u⟩:=p
       show mU E R cx r q (fun _ l h B=>Bool.rec none (d l h) (bZ B u)) r 0 l h []=_
       rw [yj E R cx r q (fun l h B=>Bool.rec none (d l h) (bZ B u))]
       simp only []
       cases aT E R r q r 0 l h []with
       |none=>rfl
       | some x=>
         obtain⟨a,b,c⟩:=x
         simp only []
         cases bZ c u<;>rfl
 | seq a b k o=>
   intro l h d g
   show lZ E R M cx a l h (fun l h=>lZ E R M cx b l h d g) g=_
   rw [k,show(fun l h=>lZ E R M cx b l h d g)=fun l h=>dt (aB E R cx b l h) d g from funext fun l=>funext fun h=>o l h d g]
   rw [pZ _ _ _ _ _ (fun _ _ _ _=>rfl)]
   simp only [aB]
   cases aB E R cx a l h with
   |none=>rfl
   |some q=>obtain⟨e,z,A⟩:=q;cases e<;>rfl
 | cond c a b k o=>
   intro l h d g
   show Option.rec (motive:=fun _=>Opt) none (fun t=>Bool.rec (lZ E R M cx b l h d g) (lZ E R M cx a l h d g) t) (asBool (evK l c))=_
   rw [eY,k,o]
   simp only [aB]
   cases l.ev c<;>(try rfl)
   rename_i t
   cases t<;>rfl
 | block id b w=>
   intro l h d g
   show lZ E R M cx b l h d (fun e l h=>blkK e id d g l h)=_
   rw [w]
   simp only [aB]
   cases aB E R cx b l h with
   |none=>rfl
   | some q=>
     obtain⟨e,z,A⟩:=q
     cases e with
     |normal=>rfl
     |ret=>rfl
     |pan v=>rfl
     | exit i=>
       show Bool.rec (motive:=fun _=>Opt) (g (.exit i) z A) (d z A) (Xj i id)=_
       simp only []
       cases Xj i id<;>rfl
 | loop b w=>
   intro l h d g
   show lZ E R M cx b l h (fun l h=>M cx (.loop b) l h d g) g=_
   rw [w,show(fun l h=>M cx (.loop b) l h d g)=fun l h=>dt (R.code cx (.loop b) l h) d g from funext fun l=>funext fun h=>D cx (.loop b) l h d g]
   rw [pZ _ _ _ _ _ (fun _ _ _ _=>rfl)]
   simp only [aB]
   cases aB E R cx b l h with
   |none=>rfl
   |some q=>obtain⟨e,z,A⟩:=q;cases e<;>rfl
 | rangeFunc f u C y _ _=>
   intro l h d g
   show dt (gQ R cx (evK l f) u C y l h) d g=_
   rw [eY];rfl
 |exit id=>intro l h d g;rfl
 |scope b w=>intro l h d g;exact w l h d g
 |goto n=>intro l h d g;rfl
 |ret=>intro l h d g;rfl
 |refuse m=>intro l h d g;rfl

theorem yv(E:Env)(R:Rec)(a:Func)(l:Loc)(h:Hp):doneK E R a l h=sh E R a l h:=by
 unfold doneK sh
 cases b:l.dfs with
 |cons d c=>rfl
 | nil=>
   simp only [bG]
   cases aQ E l.regs h a.results.toList<;>rfl
theorem callBK_eq(E:Env)(R:Rec)(f:FuncId)(args:List Value)(c:Option (Value×Bool))(h:Hp):callBK E R f args c h=jv E R f args c h:=by
 unfold callBK jv
 cases E.fn f with
 |none=>rfl
 | some b=>
   show Option.rec (motive:=fun _=>mJ) none (fun a=>uc E R f args c h b a) b.body=_
   simp only []
   cases b.body with
   |none=>rfl
   | some a=>
     show uc E R f args c h b a=_
     unfold uc
     simp only []
     cases Xb args.length b.ntmps with
     |false=>rfl
     | true=>
       show leaveK E R b _=_
       simp only [cond_true]
       cases R.code ⟨f,b.ntmps,none⟩ a ⟨(Tr.blank (.tuple #[]) b.ntmps b.ntmps).setAll 0 args,[],c⟩ h with
       |none=>rfl
       | some q=>
         obtain⟨e,l,d⟩:=q
         cases e with
         |exit i=>rfl
         |pan v=>rfl
         |normal=>exact yv E R b l d
         |ret=>exact yv E R b l d

theorem callSK_eq(E:Env)(R:Rec)(f:FuncId)(args:List Value)(a:Option (Value×Bool))(h:Hp):tS E R f args a h=gX E R f args a h:=by
 unfold tS gX
 cases E.orc f args with
 |none=>exact callBK_eq E R f args a h
 |some v=>cases a<;>rfl

theorem xV(E:Env): ∀n,(runK E n).rec'=run E n/\ ∀cx c l h b d,(runK E n).code cx c l h b d=dt ((run E n).code cx c l h) b d
 |0=>⟨rfl,fun _ _ _ _ _ _=>rfl⟩
 | n+1=>by
   obtain⟨i,k⟩:=xV E n
   have j: ∀cx c l h b d,(runK E (n+1)).code cx c l h b d=dt ((run E (n+1)).code cx c l h) b d:=by
    intro cx c l h b d
    show lZ E (runK E n).rec' (runK E n).code cx c l h b d=dt (aB E (run E n) cx c l h) b d
    rw [i]
    exact codeK_eq E (run E n) (runK E n).code k cx c l h b d
   refine⟨?_,j⟩
   show Rec.mk (fun f a g h=>tS E (runK E n).rec' f a g h) (fun cx c l h=>(runK E (n+1)).code cx c l h (fun l h=>some (.normal,l,h)) (fun e l h=>some (e,l,h)))=next E (run E n)
   rw [i]
   unfold next
   congr 1
   . funext f a g h;exact callSK_eq E (run E n) f a g h
   . funext cx c l h;rw [j,bind2_id];rfl
theorem runK_call(E:Env)(n:Nat)(f:FuncId)(args:List Value)(a:Option (Value×Bool))(h:Hp):(runK E n).call f args a h=(run E n).call f args a h:=by
 rw [<-(xV E n).1];rfl

theorem envK_eq(a:Tr Func)(b:Tr TypeInfo)(c:List Nat):envK a b c=envOf a b c:=rfl

end
end Go.Ab

namespace Go.Ab
section
variable{E:Env}{ρ:Operand->Value}{h:Hp}
theorem o_move{x:Operand}:aop E ρ h (.move x)=some (.val (ρ x),h):=rfl
theorem o_assign{x:Operand}:aop E ρ h (.assign x)=some (.val (ρ x),h):=rfl
theorem o_load{t:TypeId}{a:Operand}:aop E ρ h (.load t a)=ce h (ee E h t (ρ a)):=rfl
theorem o_store{t:TypeId}{a x:Operand}:aop E ρ h (.store t a x)=eg (gO E h t (ρ a) (ρ x)):=rfl
theorem o_binOp{op:BinOp}{t u:TypeId}{x y:Operand}:aop E ρ h (.binOp op t x y u)=ce h (bE E op t x y (ρ x) (ρ y)):=rfl
theorem o_unOp{op:UnOp}{t:TypeId}{x:Operand}:aop E ρ h (.unOp op t x)=ce h (unP op (ρ x)):=rfl
theorem zG{f:FuncId}{a b:Array Operand}:aop E ρ h (.makeFunc (.func f) a b)=some (.val (.func (.func f) (a.map ρ) (b.map ρ)),h):=rfl
theorem o_slice{t:TypeId}{x:Operand}{l u m:Option Operand}:aop E ρ h (.slice t x l u m)=ce h (dS E t (ρ x) (l.map ρ) (u.map ρ) (m.map ρ)):=rfl
theorem zy{s:TypeId}{x:Operand}{i:Nat}:aop E ρ h (.fieldAddr s x i)=ce h (aw E s (ρ x) i):=rfl
theorem o_field{s:TypeId}{x:Operand}{i:Nat}:aop E ρ h (.field s x i)=ce h (aM E s (ρ x) i):=rfl
theorem zh{t:TypeId}{x i:Operand}:aop E ρ h (.indexAddr t x i)=ce h (dW E t (ρ x) (ρ i)):=rfl
theorem o_index{t:TypeId}{x i:Operand}:aop E ρ h (.index t x i)=ce h (iB E t (ρ x) (ρ i)):=rfl
theorem o_extract{t:Operand}{i:Nat}:aop E ρ h (.extract t i)=ce h (match ρ t with| .tuple vs=>vs.toList[i]? |_=>none):=rfl
theorem o_build{t:TypeId}{ps:Array (Nat×Operand)}:aop E ρ h (.build t ps)=ce h (js E t (ps.toList.map fun p=>(p.1,ρ p.2))):=rfl
theorem xh{t:TypeId}{n:Nat}{ps:Array (Nat×Operand)}:aop E ρ h (.buildSlice t n ps)=cH (i9 E h t n (ps.toList.map fun p=>(p.1,ρ p.2))):=rfl
theorem zi{t:TypeId}{l c:Operand}:aop E ρ h (.makeSlice t l c)=cH (iJ E h t (ρ l) (ρ c)):=rfl
theorem xw{x:Operand}{s t:TypeId}{a:Bool}:aop E ρ h (.typeAssert x s t a)=ce h (nw E (ρ x) t a):=rfl
theorem o_convert{s t:TypeId}{x:Operand}:aop E ρ h (.convert s t x)=cH (iP E h s t (ρ x)):=rfl
theorem o_lookup{t:TypeId}{m k:Operand}{a:Bool}:aop E ρ h (.lookup t m k a)=ce h (c9 E h t (ρ m) (ρ k) a):=rfl
theorem zq{t:TypeId}{m k v:Operand}:aop E ρ h (.mapUpdate t m k v)=eg (dD E h t (ρ m) (ρ k) (ρ v)):=rfl
theorem AI{t:TypeId}{m k:Operand}:aop E ρ h (.mapEntry t m k)=cH (iV E h t (ρ m) (ρ k)):=rfl
theorem yI{t:TypeId}{m s v:Operand}:aop E ρ h (.entryStore t m s v)=eg (j6 h (ρ m) (ρ s) (ρ v)):=rfl
theorem o_callv{f:Operand}{as:Array Operand}{ts:Array TypeId}:aop E ρ h (.call ⟨.value f,as,ts⟩)=match target (ρ f) (as.toList.map ρ)with|none=>none|some x=>some (x,h):=rfl
theorem o_max{x y:Operand}{ts:Array TypeId}:aop E ρ h (.call ⟨.builtin .max,#[x,y],ts⟩)=ce h (fk true (ρ x) [ρ y]):=rfl
theorem o_min{x y:Operand}{ts:Array TypeId}:aop E ρ h (.call ⟨.builtin .min,#[x,y],ts⟩)=ce h (fk false (ρ x) [ρ y]):=rfl
theorem o_append{s x:Operand}{ts:Array TypeId}:aop E ρ h (.call ⟨.builtin .append,#[s,x],ts⟩)=cH (cM E h ts.toList (ρ s) (ρ x)):=rfl
theorem o_copy{s x:Operand}{ts:Array TypeId}:aop E ρ h (.call ⟨.builtin .copy,#[s,x],ts⟩)=cH (copyV E h ts.toList (ρ s) (ρ x)):=rfl
end
theorem zI{h:Hp}{v:Value}:ce h (some v)=some (.val v,h):=rfl
theorem Ao{h:Hp}{v:Value}:cH (some (h,v))=some (.val v,h):=rfl
theorem AE{h:Hp}:eg (some h)=some (.skip,h):=rfl
theorem fb(k:IntKind):jG k k=true:=by rw [fd];simp
theorem b_add{E:Env}{t:TypeId}{x y:Operand}{k:IntKind}{m n:Int}:bE E .add t x y (.int k m) (.int k n)=some (.int k (aq k (m+n))):=by simp [bE,fb,gm]
theorem b_sub{E:Env}{t:TypeId}{x y:Operand}{k:IntKind}{m n:Int}:bE E .sub t x y (.int k m) (.int k n)=some (.int k (aq k (m-n))):=by simp [bE,fb,gm]
theorem b_mul{E:Env}{t:TypeId}{x y:Operand}{k:IntKind}{m n:Int}:bE E .mul t x y (.int k m) (.int k n)=some (.int k (aq k (m*n))):=by simp [bE,fb,gm]
theorem nJ(m n:Int):gY m n=decide (m=n):=by rw [fO];by_cases h:m=n<;>simp [h]
theorem b_eql{E:Env}{t:TypeId}{x y:Operand}{k:IntKind}{m n:Int}:bE E .eql t x y (.int k m) (.int k n)=some (.bool (decide (m=n))):=by simp [bE,fb,gm,nJ]
theorem b_neq{E:Env}{t:TypeId}{x y:Operand}{k:IntKind}{m n:Int}:bE E .neq t x y (.int k m) (.int k n)=some (.bool (!decide (m=n))):=by simp [bE,fb,gm,nJ]
theorem b_lss{E:Env}{t:TypeId}{x y:Operand}{k:IntKind}{m n:Int}:bE E .lss t x y (.int k m) (.int k n)=some (.bool (decide (m<n))):=by simp [bE,fb,gm,gy]
theorem b_leq{E:Env}{t:TypeId}{x y:Operand}{k:IntKind}{m n:Int}:bE E .leq t x y (.int k m) (.int k n)=some (.bool (decide (m<=n))):=by
 simp only [bE,fb,gm,gy,cond_true]
 by_cases a:m<=n
 . rw [decide_eq_true a,decide_eq_false (by omega)];rfl
 . rw [decide_eq_false a,decide_eq_true (by omega)];rfl
theorem b_gtr{E:Env}{t:TypeId}{x y:Operand}{k:IntKind}{m n:Int}:bE E .gtr t x y (.int k m) (.int k n)=some (.bool (decide (n<m))):=by simp [bE,fb,gm,gy]
theorem b_geq{E:Env}{t:TypeId}{x y:Operand}{k:IntKind}{m n:Int}:bE E .geq t x y (.int k m) (.int k n)=some (.bool (decide (n<=m))):=by
 simp only [bE,fb,gm,gy,cond_true]
 by_cases a:n<=m
 . rw [decide_eq_true a,decide_eq_false (by omega)];rfl
 . rw [decide_eq_false a,decide_eq_true (by omega)];rfl
theorem b_quo{E:Env}{t:TypeId}{x y:Operand}{k:IntKind}{m n:Int}(h:n≠0):bE E .quo t x y (.int k m) (.int k n)=some (.int k (aq k (m.tdiv n))):=by
 simp [bE,fb,gm,nJ,h]
theorem mO{E:Env}{t:TypeId}{x y:Operand}{k:IntKind}{m n:Int}(h:n≠0):bE E .rem t x y (.int k m) (.int k n)=some (.int k (m.tmod n)):=by
 simp [bE,fb,gm,nJ,h]
theorem mm_max{k k':IntKind}{a b:Int}:fk true (.int k a) [.int k' b]=some (.int k (max a b)):=by
 simp only [fk,gy,cond_true]
 by_cases h:a<b
 . rw [decide_eq_true h];simp only [cond_true];rw [Int.max_eq_right (by omega)]
 . rw [decide_eq_false h];simp only [cond_false];rw [Int.max_eq_left (by omega)]
theorem mm_min{k k':IntKind}{a b:Int}:fk false (.int k a) [.int k' b]=some (.int k (min a b)):=by
 simp only [fk,gy,cond_false]
 by_cases h:b<a
 . rw [decide_eq_true h];simp only [cond_true];rw [Int.min_eq_right (by omega)]
 . rw [decide_eq_false h];simp only [cond_false];rw [Int.min_eq_left (by omega)]
theorem wrap64{n:Int}(a: -9223372036854775808<=n)(b:n<9223372036854775808):aq .i64 n=n:=by
 unfold aq
 cases n with
 | ofNat m=>
   have:Xz m (hf .i64)=true:=by rw [XD];simp only [hf];have c:(m:Int)<9223372036854775808:=b;omega
   simp only [this,cond_true]
 | negSucc m=>
   have:Xz m (hf .i64)=true:=by rw [XD];simp only [hf];have: -9223372036854775808<=Int.negSucc m:=a;omega
   simp only [sgn,this,cond_true]
theorem rY{α:Type}{a:α}{P:α->Prop}:(∃b,some a=some b/\P b)↔P a:=⟨fun⟨b,c,d⟩=>by cases c;exact d,fun h=>⟨a,rfl,h⟩⟩
theorem zp{a:Bool}{P:Bool->Prop}:(∃t,Value.bool a=Value.bool t/\P t)↔P a:=⟨fun⟨b,c,d⟩=>by cases c;exact d,fun h=>⟨a,rfl,h⟩⟩
end Go.Ab
namespace Go.Ab
theorem bR{v:Value}{l:List Value}:cL (v::l) 0=v:=rfl
theorem cJ{v:Value}{l:List Value}{i:Nat}:cL (v::l) (i+1)=cL l i:=rfl
end Go.Ab
namespace Go.Ab
section
variable{l:Loc}
theorem c_int{k:IntKind}{n:Int}:l.ev (.const (.int k n))=.int k n:=rfl
theorem c_bool{b:Bool}:l.ev (.const (.bool b))=.bool b:=rfl
theorem c_string{s:ByteArray}:l.ev (.const (.string s))=.string s:=rfl
theorem c_nilp:l.ev (.const (.pointer none))=.pointer none:=rfl
theorem c_nils:l.ev (.const (.slice none 0 0))=.slice none 0 0:=rfl
theorem c_nilm:l.ev (.const (.map none))=.map none:=rfl
theorem c_nilf:l.ev (.const .nilFunc)=.nilFunc:=rfl
theorem c_nili:l.ev (.const .nilIface)=.nilIface:=rfl
end
end Go.Ab
namespace Go.Ab
def one1:Option (List Value)->Option Value
 |some [v]=>some v
 |_=>none
theorem one1_some{v:Value}:one1 (some [v])=some v:=rfl
theorem AJ{E:Env}{h:Hp}{t:TypeId}{b o:Nat}{s:Option Nat}(a:E.agg t=some false):ee E h t (.pointer (some ⟨b,o,s⟩))=one1 (h.load b o 1):=by
 simp only [ee,a]
 unfold one1
 rfl
end Go.Ab
namespace Go.Ab
def gv(a:Bool):Option Value->Option Bool
 |some (.bool b)=>some (bif b then a else !a)
 |some (.tuple _)=>some false
 |_=>none
noncomputable def gj(a:Bool)(b:Tr Value):Option Oper->Option Bool
 |none=>some false
 | some o=>match o.dst with
   |none=>some false
   |some d=>gv a (b.get d)
theorem Aw{a:List Oper}{c:Tr Value}{d:Option Tmp}{op:Op}{t:TypeId}{p:String}{e:Array Edge}{j:Nat}{b:Bool}:bO a c ⟨d,op,t,p,e,some (j,b)⟩=gj b c (a[j]?):=by
 simp only [bO,gj]
 cases a[j]? with
 |none=>rfl
 | some o=>
   simp only []
   cases o.dst with
   |none=>rfl
   | some d=>
     simp only [gv]
     cases c.get d with
     |none=>rfl
     |some v=>cases v<;>rfl
theorem gj_some{a:Bool}{b:Tr Value}{d:Tmp}{op:Op}{t:TypeId}{p:String}{c:Array Edge}{g:Option (Nat×Bool)}:gj a b (some ⟨some d,op,t,p,c,g⟩)=gv a (b.get d):=rfl
theorem gv_true{b:Bool}:gv true (some (.bool b))=some b:=by cases b<;>rfl
theorem gv_false{b:Bool}:gv false (some (.bool b))=some (!b):=by cases b<;>rfl
theorem gv_tuple{a:Bool}{x:Array Value}:gv a (some (.tuple x))=some false:=rfl
theorem u_not{b:Bool}:unP .not (.bool b)=some (.bool (!b)):=rfl
theorem target_fn{g:FuncId}{a b:Array Value}{args:List Value}:target (.func (.func g) a b) args=some (.call g (a.toList++args++b.toList)):=rfl
theorem n_new{h:Hp}{x:Blk}:(h.new x).n=h.n+1:=rfl
def bI(E:Env)(f:FuncId)(args:List Value)(h:Hp)(v:Value):Prop:=Ret E f args h fun a b=>a=v/\Gr h b
end Go.Ab
namespace Go.Ab
theorem aZ{E:Env}{cx:Cx}{Q:eh}{k:List Fr}{l:Loc}{h:Hp}{b:Code}:Run E (lim E) cx Q (.code (.loop b)::k) .normal l h↔Run E (lim E) cx Q (.code b:: .code (.loop b)::k) .normal l h:=by
 rw [<-run_seq]
 simp only [Run]
 have:aB E (lim E) cx (.loop b) l h=aB E (lim E) cx (.seq b (.loop b)) l h:=by
  simp only [aB]
  cases aB E (lim E) cx b l h with
  |none=>rfl
  | some q=>
    obtain⟨e,a,c⟩:=q
    cases e with
    |normal=>show(lim E).code cx (.loop b) a c=_;rw [uL];rfl
    |exit i=>rfl
    |ret=>rfl
    |pan v=>rfl
 rw [this]
def lenK(r:Option (cS×Hp))(h:Hp):Option Value->Option (cS×Hp)
 |some v=>some (.val v,h)
 |none=>r
theorem o_lenK{E:Env}{ρ:Operand->Value}{h:Hp}{x:Operand}{t:TypeId}:aop E ρ h (.call ⟨.builtin .len,#[x],#[t]⟩)=lenK (match ρ x with
 | .map (some r)=>match h.get r with
   |some (.map a _)=>match E.und t with
    |some (.map _ _)=>some (.val (.int .i64 (.ofNat a.length)),h)
    |_=>none
   |_=>none
 |_=>none) h (mI E t (ρ x)):=by
 simp only [aop,pop]
 cases mI E t (ρ x)with
 |some v=>rfl
 | none=>
   simp only [lenK]
   cases ρ x<;>rfl
theorem natOf_nn{i:Int}(h:0<=i):fG i=some i.toNat:=by
 cases i with
 |ofNat n=>rfl
 |negSucc n=>exact absurd h (by simp)
theorem idxP_in{k:IntKind}{i:Int}{n:Nat}(h0:0<=i)(a:i<n):ff (.int k i) n=some i.toNat:=by
 simp only [ff,natOf_nn h0]
 have:Xz i.toNat n=true:=by rw [XD];omega
 rw [this];rfl
theorem hZ{k:IntKind}{i n:Nat}(a:i<n):ff (.int k (i:Int)) n=some i:=by
 rw [idxP_in (Int.natCast_nonneg i) (by omega)];simp
theorem ia_slice{E:Env}{t e:TypeId}{k:Nat}{a:Addr}{n c:Nat}{v:Value}(b:E.und t=some (.slice e))(d:E.sz e=some k):dW E t (.slice (some a) n c) v=(ff v n).map fun i=>.pointer (some (dH a (i*k))):=by
 simp only [dW,b,d]
 cases ff v n<;>rfl
end Go.Ab
namespace Go.Ab
theorem an{E:Env}{cx:Cx}{o:Oper}{l:Loc}{K:Ex->Loc->Hp->Prop}{h:Hp}{f:FuncId}{args:List Value}{v:Value}(a:bI E f args h v)(b: ∀h',Gr h h'->K .normal (l.put o.dst v) h'):eA E cx o l K (some (.call f args,h)):=
 step_ret a fun c h' ⟨e,g⟩=>by rw [e];exact b h' g
theorem us{E:Env}{K:Value->Hp->Prop}{f:FuncId}{args:List Value}{h:Hp}{v:Value}(a:bI E f args h v)(b: ∀h',Gr h h'->K v h'):ji E K (some (.call f args,h)):=
 qz a fun c h' ⟨e,g⟩=>by rw [e];exact b h' g
theorem bI.of{E:Env}{f:FuncId}{args:List Value}{h:Hp}{v:Value}(a:Ret E f args h fun v' h'=>v'=v/\Gr h h'):bI E f args h v:=a
end Go.Ab
namespace Go.Ab
section
variable(E:Env)(cx:Cx)(Q:eh)
def GStep(a:List Oper)(o:Oper)(os:List Oper)(k:List Fr)(l:Loc)(h:Hp):Option Bool->Prop
 |some true=>eA E cx o l (fun e b c=>Run E (lim E) cx Q (.ops a os::k) e b c) (aop E l.ev h o.op)
 |some false=>Run E (lim E) cx Q (.ops a os::k) .normal (l.put o.dst (.tuple #[])) h
 |none=>False
def CStep(a b:Code)(k:List Fr)(l:Loc)(h:Hp):Value->Prop
 | .bool true=>Run E (lim E) cx Q (.code a::k) .normal l h
 | .bool false=>Run E (lim E) cx Q (.code b::k) .normal l h
 |_=>False
def um(a:List Oper)(q:Nat)(ps:List (Nat×Nat))(o:Oper)(os:List Oper)(i:Nat)(c:List (Nat×Tch))(k:List Fr)(l:Loc)(h:Hp):Option Bool->Bool->Prop
 |some true,false=>ji E (fun v b=>Run E (lim E) cx Q (.opsD a q ps os (i+1) (fD i c (bU l.ev false o.op h b))::k) .normal (l.put o.dst v) b) (aop E l.ev h o.op)
 |some true,true=>ji E (fun v b=>Xb h.n b.lo=true/\Run E (lim E) cx Q (.opsD a q ps os (i+1) (fD i c (bU l.ev true o.op h h))::k) .normal (l.put o.dst v) {b with lo:=h.lo}) (aop E l.ev {h with lo:=h.n} o.op)
 |some false,_=>Run E (lim E) cx Q (.opsD a q ps os (i+1) c::k) .normal (l.put o.dst (.tuple #[])) h
 |none,_=>False
end
section
variable{E:Env}{cx:Cx}{Q:eh}{k:List Fr}{l:Loc}{h:Hp}
theorem r_ops{a os:List Oper}{o:Oper}:Run E (lim E) cx Q (.ops a (o::os)::k) .normal l h↔GStep E cx Q a o os k l h (bO a l.regs o):=by
 rw [yk]
 cases bO a l.regs o with
 |none=>exact⟨fun⟨_,e,_⟩=>(by cases e),fun h=>h.elim⟩
 | some b=>
   rw [rY]
   cases b with
   |true=>rw [if_pos rfl];exact then_step
   |false=>rw [if_neg (by simp)];exact Xc
theorem g_true{a os:List Oper}{o:Oper}:GStep E cx Q a o os k l h (some true)↔eA E cx o l (fun e l' h'=>Run E (lim E) cx Q (.ops a os::k) e l' h') (aop E l.ev h o.op):=Xc
theorem g_false{a os:List Oper}{o:Oper}:GStep E cx Q a o os k l h (some false)↔Run E (lim E) cx Q (.ops a os::k) .normal (l.put o.dst (.tuple #[])) h:=Xc
theorem r_cond{c:Operand}{a b:Code}:Run E (lim E) cx Q (.code (.cond c a b)::k) .normal l h↔CStep E cx Q a b k l h (l.ev c):=by
 rw [run_cond]
 cases l.ev c<;>(try (exact⟨fun⟨_,e,_⟩=>(by cases e),fun h=>h.elim⟩))
 rename_i t
 rw [zp]
 cases t with
 |true=>rw [if_pos rfl];exact Xc
 |false=>rw [if_neg (by simp)];exact Xc
theorem c_true{a b:Code}:CStep E cx Q a b k l h (.bool true)↔Run E (lim E) cx Q (.code a::k) .normal l h:=Xc
theorem c_false{a b:Code}:CStep E cx Q a b k l h (.bool false)↔Run E (lim E) cx Q (.code b::k) .normal l h:=Xc
theorem r_opsD{a os:List Oper}{o:Oper}{q i:Nat}{ps:List (Nat×Nat)}{c:List (Nat×Tch)}:Run E (lim E) cx Q (.opsD a q ps (o::os) i c::k) .normal l h↔um E cx Q a q ps o os i c k l h (bO a l.regs o) (dG E q i o.op):=by
 rw [run_opsD]
 cases bO a l.regs o with
 |none=>exact⟨fun⟨_,e,_⟩=>(by cases e),fun h=>h.elim⟩
 | some b=>
   rw [rY]
   cases b with
   | true=>
     rw [if_pos rfl]
     cases dG E q i o.op with
     |true=>rw [if_pos rfl];exact Xc
     |false=>rw [if_neg (by simp)];exact Xc
   |false=>rw [if_neg (by simp)];exact Xc
theorem d_skip{a os:List Oper}{o:Oper}{q i:Nat}{ps:List (Nat×Nat)}{c:List (Nat×Tch)}{b:Bool}:um E cx Q a q ps o os i c k l h (some false) b↔Run E (lim E) cx Q (.opsD a q ps os (i+1) c::k) .normal (l.put o.dst (.tuple #[])) h:=Xc
theorem mW{i:Nat}{a:List (Nat×Tch)}:fD i a none=a:=rfl
theorem aX{i:Nat}{b:Tch}{a:List (Nat×Tch)}:fD i a (some b)=(i,b)::a:=rfl
theorem bA{a:List (Nat×Tch)}:bZ a []=true:=rfl
theorem guard_no{a:List Oper}{b:Tr Value}{d:Option Tmp}{op:Op}{t:TypeId}{p:String}{c:Array Edge}:bO a b ⟨d,op,t,p,c,none⟩=some true:=rfl
end
end Go.Ab
namespace Go.Ab
theorem b_eqlB{E:Env}{t:TypeId}{x y:Operand}{a b:Bool}(c:E.und t=some .bool):bE E .eql t x y (.bool a) (.bool b)=some (.bool (bif a then b else !b)):=by
 simp [bE,eS,dI,c]
theorem b_neqB{E:Env}{t:TypeId}{x y:Operand}{a b:Bool}(c:E.und t=some .bool):bE E .neq t x y (.bool a) (.bool b)=some (.bool (!(bif a then b else !b))):=by
 simp [bE,eS,dI,c]
theorem same_bool{d:Bool}:(bif d then d else !d)=true:=by cases d<;>rfl
end Go.Ab
namespace Go.Ab
noncomputable def boxR(h:Hp)(t:TypeId):Value->Option (cS×Hp)
 | .chan _=>none
 |v=>some (.val (ptrTo h.n),h.new (.cells (Tr.ofList (ag v)) (ag v).length t 1))
theorem o_boxR{E:Env}{ρ:Operand->Value}{h:Hp}{t:TypeId}{x:Operand}:aop E ρ h (.box t x)=boxR h t (ρ x):=by
 simp only [aop];cases ρ x<;>rfl
noncomputable def allocR(h:Hp)(t:TypeId):Option (List Value)->Option (cS×Hp)
 |none=>none
 |some z=>some (.val (ptrTo h.n),h.new (.cells (Tr.ofList z) z.length t 1))
theorem o_allocR{E:Env}{ρ:Operand->Value}{h:Hp}{t:TypeId}:aop E ρ h (.alloc t)=allocR h t (E.zero t):=by
 simp only [aop];cases E.zero t<;>rfl
section
variable{E:Env}{cx:Cx}{o:Oper}{l:Loc}{K:Ex->Loc->Hp->Prop}{h:Hp}
theorem aJ{ops:List Oper}(h:((ops.any qK||qr ops)&&ops.all (iD ops.length))=false):bn ops=ops:=by unfold bn;rw [h];rfl
theorem aE{Q:eh}{k:List Fr}{id:Nat}{ops:Array Oper}{q:Nat}{ps:List (Nat×Nat)}{os:List Oper}(b:bn ops.toList=os)(c:iR E os=some (q,ps))(d:Run E (lim E) cx Q (.opsD os q ps os 0 []::k) .normal l h)(a:E.cut cx.fn=false:=by rfl):Run E (lim E) cx Q (.code (.region id ops true)::k) .normal l h:=(run_draw a b c).2 d
theorem ud{Q:eh}{k:List Fr}{id:Nat}{ops:Array Oper}{q:Nat}{ps:List (Nat×Nat)}{os:List Oper}(b:nu ops.toList (ops.toList.length-1)=true)(c:bn (ops.toList.take (ops.toList.length-1))=os)(d:iR E os=some (q,ps))
 (e:Run E (lim E) cx Q (.opsD os q ps os 0 []:: .ops ops.toList (ops.toList.drop (ops.toList.length-1))::k) .normal l h) (a:E.cut cx.fn=true:=by rfl) (hf:qV E ops.toList=false:=by rfl):Run E (lim E) cx Q (.code (.region id ops true)::k) .normal l h:=run_split a b hf c d e
end
theorem xj{h h':Hp}(g:Gr {h with lo:=h.n} h'):Xb h.n h'.lo=true:=g.hlo
theorem gr_lo{h h':Hp}(g:Gr {h with lo:=h.n} h'):Gr h {h' with lo:=h.lo}:=
 ⟨g.ok0,g.ok,g.n,g.get,fun _ _ h=>h⟩
end Go.Ab
namespace Go.Ab
theorem hush_s{E:Env}{q i:Nat}{op:Op}:dG E q i op=(decide (q/2 ^i%2=1)&&decide (3<=cls E op)):=by
 unfold dG
 rw [Nat.testBit_eq_decide_div_mod_eq,dK]
end Go.Ab
namespace Go.Ab
theorem yV{E:Env}{K:Value->Hp->Prop}{f:FuncId}{args:List Value}{h:Hp}{v:Value}(a:bI E f args {h with lo:=h.n} v)(b: ∀h',Gr h h'->K v h'):
 ji E (fun v h'=>Xb h.n h'.lo=true/\K v {h' with lo:=h.lo}) (some (.call f args,{h with lo:=h.n})):=
 us a fun h' g=>⟨xj g,b _ (gr_lo g)⟩
end Go.Ab
namespace Go.Ab
section
variable(E:Env)(cx:Cx)(Q:eh)(a:List Oper)(q:Nat)(ps:List (Nat×Nat))(o:Oper)(os:List Oper)(i:Nat)(k:List Fr)(l:Loc)
def DN(c:Hp->List (Nat×Tch))(x:Option (cS×Hp)):Prop:=ji E (fun v b=>Run E (lim E) cx Q (.opsD a q ps os (i+1) (c b)::k) .normal (l.put o.dst v) b) x
def DQ(h:Hp)(c:List (Nat×Tch))(x:Option (cS×Hp)):Prop:=ji E (fun v b=>Xb h.n b.lo=true/\Run E (lim E) cx Q (.opsD a q ps os (i+1) c::k) .normal (l.put o.dst v) {b with lo:=h.lo}) x
end
section
variable{E:Env}{cx:Cx}{Q:eh}{a:List Oper}{q:Nat}{ps:List (Nat×Nat)}{o:Oper}{os:List Oper}{i:Nat}{k:List Fr}{l:Loc}{h:Hp}{tr:List (Nat×Tch)}{tf:Hp->List (Nat×Tch)}
theorem dn_loud:um E cx Q a q ps o os i tr k l h (some true) false↔DN E cx Q a q ps o os i k l (fun h'=>fD i tr (bU l.ev false o.op h h')) (aop E l.ev h o.op):=Xc
theorem dn_quiet:um E cx Q a q ps o os i tr k l h (some true) true↔DQ E cx Q a q ps o os i k l h (fD i tr (bU l.ev true o.op h h)) (aop E l.ev {h with lo:=h.n} o.op):=Xc
theorem dn_val{v:Value}{h':Hp}:DN E cx Q a q ps o os i k l tf (some (.val v,h'))↔Run E (lim E) cx Q (.opsD a q ps os (i+1) (tf h')::k) .normal (l.put o.dst v) h':=Xc
theorem dn_skip{h':Hp}:DN E cx Q a q ps o os i k l tf (some (.skip,h'))↔Run E (lim E) cx Q (.opsD a q ps os (i+1) (tf h')::k) .normal (l.put o.dst (.tuple #[])) h':=Xc
theorem cV{f:FuncId}{args:List Value}{P:Value->Hp->Prop}(b:Ret E f args h P)(c: ∀v h',P v h'->Run E (lim E) cx Q (.opsD a q ps os (i+1) (tf h')::k) .normal (l.put o.dst v) h'):DN E cx Q a q ps o os i k l tf (some (.call f args,h)):=qz b c
theorem cD{f:FuncId}{args:List Value}{v:Value}(b:bI E f args h v)(c: ∀h',Gr h h'->Run E (lim E) cx Q (.opsD a q ps os (i+1) (tf h')::k) .normal (l.put o.dst v) h'):DN E cx Q a q ps o os i k l tf (some (.call f args,h)):=us b c
theorem uF{f:FuncId}{args:List Value}{v:Value}(b:bI E f args {h with lo:=h.n} v)(c: ∀h',Gr h h'->Run E (lim E) cx Q (.opsD a q ps os (i+1) tr::k) .normal (l.put o.dst v) h'):DQ E cx Q a q ps o os i k l h tr (some (.call f args,{h with lo:=h.n})):=yV b c
theorem dq_ret{f:FuncId}{args:List Value}{P:Value->Hp->Prop}(b:Ret E f args {h with lo:=h.n} fun v h'=>Gr {h with lo:=h.n} h'/\P v {h' with lo:=h.lo})(c: ∀v h',Gr h h'->P v h'->Run E (lim E) cx Q (.opsD a q ps os (i+1) tr::k) .normal (l.put o.dst v) h'):DQ E cx Q a q ps o os i k l h tr (some (.call f args,{h with lo:=h.n})):=
 qz b fun v h' ⟨g,p⟩=>⟨xj g,c v _ (gr_lo g) p⟩
end
end Go.Ab
namespace Go.Ab
theorem ab{b:Nat}:ptrTo b=.pointer (some ⟨b,0,none⟩):=rfl
end Go.Ab

namespace Go.Ab
open Go.ChangeShapes Go.WideShapes Go.RowKit

theorem len2{α:Type}{l:List α}(h:l.length=2): ∃a b,l=[a,b]:=by
 match l,h with
 | [a,b],_=>exact⟨a,b,rfl⟩
section
variable{H:Type}{enc:TypeId×Value->H}{P:Program}
theorem qc(f:laidOutB P=true){W g:World}(i:Below W.heap.size W g): ∀{ts:List TypeId} {vs:List Value} {c:List (DataW H)} {ps:List MemPlace},(ts.all fun t=>P.readableRec t&&decide (t<P.types.size))=true->
 DataW.TrodAll enc P W 0 (fun _=>true) true ts vs c ps->(∀x∈ps,x.block<W.heap.size)->DataW.TrodAll enc P g 0 (fun b=>decide (b<W.heap.size)) true ts vs c ps
 | [],vs,c,ps,_,h,_=>by
   obtain⟨rfl,rfl,rfl⟩:=trodAll_nil h
   exact rfl
 | t::ts,vs,c,ps,a,h,hlt=>by
   obtain⟨v,j,d,k,p,q,rfl,rfl,rfl,l,m⟩:=trodAll_cons h
   simp only [List.all_cons,Xn,decide_eq_true_eq]at a
   exact⟨p,q,Below.trod f a.1.1 a.1.2 l i (fun x e=>hlt x (by simp [e])),qc f i a.2 m (fun x e=>hlt x (by simp [e])),rfl⟩
theorem wE{f:Func}{s:ChangeSpec}{a b:Bool}{W u:World}{args:Array Value}{g:List (DataW H)}{c:List MemPlace}{bt:TypeId}
 (y:laidOutB P=true) (k:(f.params.toList.all fun t=>P.readableRec t&&decide (t<P.types.size))=true) (v:s.vars=[])
 (l:DataW.Whole enc P f.params.toList s.vars a W args.toList g [] c) (d:s.fn H (g++[])={results:=[.lit (.bool true)],args:=g}) (j:Below W.heap.size W u)
 (m:P.underlying bt=some .bool) (n:f.resultTypes=#[bt]):
 s.post enc P f a true b false W args (.bool true) u:=by
 have hlt:=l.lt
 have o:=l
 obtain⟨p,q,z,w,rfl,C,D⟩:=l
 rw [v]at w
 obtain⟨_,rfl⟩:=trodVars_none w
 refine⟨g,[],_,[],p,[],o,?_,?_,?_,⟨j.os,j.output,fun i A=>?_⟩,fun h=>by cases h⟩
 . rw [d,n]
   exact trodAll_cons_mk (shut_bool m _) trodAll_mk0
 . rw [d]
   exact qc y j k z (fun x B=>hlt x (by simpa using B))
 . rw [d,v];rfl
 . rw [j.block i A]
   split
   . rename_i r e;rw [r]at e;cases e;exact⟨rfl,rfl,rfl,fun _ _=>rfl⟩
   . rename_i r e;rw [r]at e;cases e;exact .inr ⟨rfl,rfl⟩
   . rfl

end
end Go.Ab

namespace Go.Ab
open Go.ChangeShapes Go.WideShapes Go.RowKit
noncomputable section

def jg(n:Nat):Value->Value
 | .bool b=>.bool b
 | .int k i=>.int k i
 | .string s=>.string s
 | .pointer none=>.pointer none
 | .pointer (some a)=>if a.spot=none/\a.block<n then .pointer (some ⟨a.block+16,a.off,none⟩)else poison
 | .slice none 0 0=>.slice none 0 0
 | .slice (some a) c d=>if c<=d then(if a.spot=none/\a.block<n then .slice (some ⟨a.block+16,a.off,none⟩) c d else .slice (some ⟨0,0,none⟩) c d)else poison
 |_=>poison
def absA(n:Nat):Value->Value
 | .agg a=>.agg ⟨a.toList.map (jg n)⟩
 |v=>jg n v
def absO(n:Nat):Obj->Blk
 | .cells a _ _=>.cells (Tr.ofList (a.toList.map (jg n))) (a.toList.map (jg n)).length 0 0
 |_=>.dead
def hpW(W:World):Hp:={n:=16+W.heap.size,t:=Tr.ofList (Xk 16 .dead++W.heap.toList.map (absO W.heap.size)),lo:=16+W.heap.size}
def muW(W:World):Mu:=fun b=>if b<16 then .dead else match W.heap[b-16]? with
 |some (.cells a _ _)=>.blk (b-16) 0 a.size
 |some _=>.dead
 |none=>.none

theorem hpW_ok(W:World):(hpW W).t.Sized (hpW W).n:=by
 have h:=Tr.sized_ofList (Xk 16 Blk.dead++W.heap.toList.map (absO W.heap.size))
 have a:(Xk 16 Blk.dead++W.heap.toList.map (absO W.heap.size)).length=16+W.heap.size:=by rw [Xa,Xs,List.length_map,Array.length_toList]
 rw [a]at h
 exact h
theorem hpW_dead(W:World){b:Nat}(h:b<16):(hpW W).get b=some .dead:=by
 show(Tr.ofList _).get b=_
 rw [Tr.get_ofList,XE (by simpa using h),XH,if_pos h]
theorem qy(W:World)(c:Nat):(hpW W).get (c+16)=(W.heap[c]?).map (absO W.heap.size):=by
 show(Tr.ofList _).get (c+16)=_
 rw [Tr.get_ofList,List.getElem?_append_right (by simp)]
 simp
theorem mh(W:World)(c:Nat):muW W (c+16)=match W.heap[c]? with
 |some (.cells cs _ _)=>.blk c 0 cs.size
 |some _=>.dead
 |none=>.none:=by
 unfold muW
 rw [if_neg (by omega),show c+16-16=c by omega]
theorem arel_W{W:World}{a:Addr}(h:a.spot=none/\a.block<W.heap.size):dR (muW W) ⟨a.block+16,a.off,none⟩ a:=by
 obtain⟨b,o,s⟩:=a
 obtain⟨c,d⟩:=h
 simp only []at c d
 subst c
 unfold dR
 rw [mh]
 rw [Xf d]
 cases W.heap[b]<;>simp
theorem vrel_V(W:World)(v:Value):am (muW W) (jg W.heap.size v) v:=by
 cases v<;>(try exact .poison _)
 . exact .bool _
 . exact .int _ _
 . exact .string _
 . rename_i a
   cases a with
   |none=>exact .nilp
   | some a=>
     simp only [jg]
     split
     . exact .ptr (arel_W ‹_›)
     . exact .poison _
 . rename_i a d e
   cases a with
   | none=>
     cases d with
     | zero=>cases e with
       |zero=>exact .nils
       |succ n=>exact .poison _
     |succ n=>exact .poison _
   | some a=>
     simp only [jg]
     split
     . rename_i c
       split
       . rename_i h
         refine .slice c ?_
         have:=arel_W h
         obtain⟨b,o,s⟩:=a
         obtain⟨f,g⟩:=h
         simp only []at f g
         subst f
         unfold dB
         rw [mh]
         rw [Xf g]
         cases W.heap[b]<;>simp
       . refine .slice c ?_
         unfold dB
         have:muW W 0=.dead:=by simp [muW]
         rw [this]
         exact Xg _
     . exact .poison _
theorem vrel_A(W:World)(v:Value):am (muW W) (absA W.heap.size v) v:=by
 cases v
 case agg d=>
  refine .agg (by simp) fun i x e a b=>?_
  simp only [Xd,Xr]at a
  obtain⟨y,c,rfl⟩:=a
  rw [c]at b
  cases b
  exact vrel_V W _
 all_goals (unfold absA;exact vrel_V W _)
theorem hrelW(W:World):aH (muW W) (hpW W) W:=by
 refine⟨hpW_ok W,fun b c d e a=>?_,fun b a=>?_,fun b t c d e j p u f=>?_,fun b a=>?_⟩
 . have x:16<=b:=by
    rcases Xl b 16 with h|h
    . unfold muW at a;rw [if_pos h]at a;cases a
    . exact h
   obtain⟨k,rfl⟩: ∃k,b=k+16:=⟨b-16,by omega⟩
   rw [mh]at a
   split at a
   next q el r s=>
    cases a
    refine⟨absO W.heap.size (.cells q el r),_,by rw [qy,s];rfl,s,q,el,r,rfl,rfl,by simp,Tr.sized_ofList _,fun i v l=>?_,fun h=>absurd rfl h⟩
    rw [Tr.get_ofList]at l
    simp only [Xd,Xr]at l
    obtain⟨y,w,rfl⟩:=l
    exact⟨y,by simpa using w,vrel_V W y⟩
   next=>cases a
   next=>cases a
 . rcases Xl b 16 with h|h
   . exact hpW_dead W h
   . obtain⟨k,rfl⟩: ∃k,b=k+16:=⟨b-16,by omega⟩
     rw [mh]at a
     split at a
     next=>cases a
     next o m n=>
      rw [qy,n]
      cases o<;>first|rfl|exact absurd rfl (m _ _ _)
     next=>cases a
 . have g: ∀b c d e,muW W b=.blk c d e->b=c+16:=by
    intro b c d e a
    rcases Xl b 16 with h|h
    . unfold muW at a;rw [if_pos h]at a;cases a
    . obtain⟨k,rfl⟩: ∃k,b=k+16:=⟨b-16,by omega⟩
      rw [mh]at a
      split at a<;>cases a
      rfl
   rw [g b c _ _ u,g t c _ _ f]
 . show b<16+W.heap.size
   rcases Xl b 16 with h|h
   . omega
   . obtain⟨k,rfl⟩: ∃k,b=k+16:=⟨b-16,by omega⟩
     rw [mh]at a
     have:k<W.heap.size:=by
      rcases Xl k W.heap.size with f|f
      . exact f
      . rw [Array.getElem?_eq_none f]at a;exact absurd rfl a
     omega
theorem globW(W:World):j7 (muW W):=by
 intro g a
 unfold dR
 have:muW W g=.dead:=by unfold muW;rw [if_pos a]
 simp only [this]
theorem belowW{W w':World}{f:Mu}{h':Hp}(e:Ext (muW W) (hpW W) W f h' w'):Below W.heap.size W w':=by
 refine⟨e.os,e.tape,e.output,e.wsize,fun c g=>?_⟩
 cases j:W.heap[c]with
 | cells i el n=>
   have l:W.heap[c]? =some (.cells i el n):=by rw [Xf g,j]
   have o:muW W (c+16)=.blk c 0 i.size:=by rw [mh,l]
   exact(e.ro (c+16) c 0 i.size _ _ 0 o (by rw [qy,l];rfl)).1
 | _ =>
   refine e.frame c g fun b m p a=>?_
   rcases Xl b 16 with h|h
   . unfold muW at a;rw [if_pos h]at a;cases a
   . obtain⟨k,rfl⟩: ∃k,b=k+16:=⟨b-16,by omega⟩
     rw [mh]at a
     split at a
     next q r s d=>
      cases a
      rw [Xf g,j]at d
      cases d
     next=>cases a
     next=>cases a
theorem calls_W{E:Env}{P:Program}(h:EOk E P){f:FuncId}{args:Array Value}{W:World}(j:bI E f (args.toList.map (absA W.heap.size)) (hpW W) (.bool true)):
 Calls P f args W fun e w'=>e=.returned (.bool true)/\Below W.heap.size W w':=by
 obtain⟨v,C,k,rfl,g⟩:=j
 intro l
 obtain⟨_,a⟩:=lim_ok h _ _ _ _ _ _ _ k
 have m:VL (muW W) (args.toList.map (absA W.heap.size)) args.toList:=by
  refine⟨by simp,fun i x D a c=>?_⟩
  simp only [Xd,Xr]at a
  obtain⟨y,n,rfl⟩:=a
  rw [n]at c
  cases c
  exact vrel_A W _
 obtain⟨o,w',d,p,F,q,G,r,s,t,u⟩:=a (muW W) W args none l .normal (hrelW W) (globW W) m trivial (.inl rfl)
 have:=r.normal
 subst this
 obtain⟨H,b,w⟩:=t
 cases w
 obtain⟨z,A,B⟩:=b.res
 exact⟨.returned (.bool true),w',p,⟨rfl,belowW q⟩,s,u,b.mode,b.defers,b.kind,z,A,B⟩
theorem load_W{W:World}{a:Addr}{i:Nat}{v:Value}(c:a.spot=none)(h:W.cell? (a.add i)=some v):(hpW W).load (a.block+16) (a.off+i) 1=some [jg W.heap.size v]:=by
 obtain⟨b,o,s⟩:=a
 simp only []at c
 subst c
 have d:(Addr.mk b o none).add i=⟨b,o+i,none⟩:=by
  unfold Addr.add
  split
  . rename_i h;subst h;rfl
  . rfl
 rw [d]at h
 unfold World.cell? at h
 simp only []at h
 split at h
 next e el k f=>
  have g:Row (hpW W) (b+16) (e.toList.map (jg W.heap.size)) 0:=⟨_,_,by rw [qy,f];rfl,Tr.sized_ofList _,fun j=>Tr.get_ofList _ j⟩
  refine g.load1 ?_
  rw [Xd]
  simp at h
  simp [h]
 all_goals (first|cases h|skip)
end
end Go.Ab

namespace Go.Ab
def argEq:Value->Value->Bool
 | .int k a,.int c b=>jG k c&&gY a b
 | .bool a,.bool b=>bif a then b else !b
 | .string s,.string u=>fS (aD s) (aD u)
 |_,_=>false
def nZ:List Value->List Value->Bool
 | [],[]=>true
 |a::l,b::m=>argEq a b&&nZ l m
 |_,_=>false
def orcOf:List (Nat×List Value×Value)->Nat->List Value->Option Value
 | [],_,_=>none
 |(f,as,v)::l,g,a=>bif Xj f g&&nZ as a then some v else orcOf l g a
theorem xY{a b:Value}(h:argEq a b=true):a=b:=by
 unfold argEq at h
 split at h
 . rename_i k m c n
   simp only [Xn]at h
   have d:k=c:=by simpa [fd]using h.1
   have e:m=n:=by simpa [fO]using h.2
   rw [d,e]
 . rename_i a b
   cases a<;>cases b<;>first|rfl|cases h
 . rename_i s u
   have this:s.data.toList=u.data.toList:=by
    have:=h
    rw [iQ]at this
    simpa [aD]using this
   cases s with|mk a=>cases u with|mk b=>rw [show a=b from Array.ext' this]
 . cases h
theorem uV: ∀{a b:List Value},nZ a b=true->a=b
 | [],[],_=>rfl
 | [],_::_,h=>by simp [nZ]at h
 |_::_,[],h=>by simp [nZ]at h
 | a::x,b::y,h=>by
   simp only [nZ,Xn]at h
   rw [uV h.2,xY h.1]
theorem uP{P:Nat->List Value->Value->Prop}: ∀{l:List (Nat×List Value×Value)},(∀e∈l,P e.1 e.2.1 e.2.2)-> ∀{g:Nat} {args:List Value} {v:Value},orcOf l g args=some v->P g args v
 | [],_,g,args,v,h=>by cases h
 | (f,as,x)::l,b,g,args,v,h=>by
   simp only [orcOf]at h
   cases a:Xj f g&&nZ as args with
   | true=>
     rw [a]at h
     cases h
     simp only [Xn]at a
     have c:=XK a.1
     have d:=uV a.2
     subst c
     subst d
     exact b _ (List.mem_cons_self)
   | false=>
     rw [a]at h
     exact uP (fun e i=>b e (Xv _ i)) h
def isVal(v:Value)(r:Option (Out×Option (Value×Bool)×Hp)):Bool:=match r with
 |some (.ret u,none,_)=>argEq u v
 |_=>false
theorem isVal_ret{v:Value}{r:Option (Out×Option (Value×Bool)×Hp)}(h:isVal v r=true): ∃h',r=some (.ret v,none,h'):=by
 unfold isVal at h
 split at h
 . rw [xY h];exact⟨_,rfl⟩
 . cases h
def jR(E:Env)(P:Program)(e:Nat×List Value×Value):Prop:=(∃a,E.fn e.1=some a/\a.body.isSome=true)/\OrcAt P e.1 e.2.1 e.2.2
theorem s8{E:Env}{P:Program}(c:EOk E P){n:Nat}{f:Nat}{args:List Value}{v:Value}(b:(args.all cy&&cy v)=true)(a:isVal v ((runK E n).call f args none hp0)=true):jR E P (f,args,v):=by
 simp only [Xn]at b
 obtain⟨d,a⟩:=isVal_ret a
 rw [runK_call]at a
 exact Ac c b.1 b.2 a
theorem jR.with{E:Env}{P:Program}{o:Nat->List Value->Option Value}{e:Nat×List Value×Value}(k:jR E P e):jR (pd E o) P e:=k
theorem jR.without{E:Env}{P:Program}{o:Nat->List Value->Option Value}{e:Nat×List Value×Value}(k:jR (pd E o) P e):jR E P e:=k
theorem eok_table{E:Env}{P:Program}(b:EOk E P){l:List (Nat×List Value×Value)}(c: ∀e∈l,jR E P e):EOk (pd E (orcOf l)) P:=
 eok_with b fun _ _ _ h=>uP (P:=fun g a v=>jR E P (g,a,v)) c h
end Go.Ab

namespace Go.Ab

inductive Ob where
 |row (l:List Value) (md:Nat)
 |map (es:List (Value×Value×Nat)) (c:Nat)
 |loop (x:gR)
 |dfr
def Has(h:Hp)(b:Nat):Ob->Prop
 | .row l a=>Row h b l a
 | .map d c=>h.get b=some (.map d c)
 | .loop x=>h.get b=some (.loop x)
 | .dfr=>h.get b=some .dfr
theorem Row.of_get{h h':Hp}{b:Nat}{l:List Value}{md:Nat}(e:h'.get b=h.get b)(k:Row h b l md):Row h' b l md:=by
 obtain⟨t,el,a,c,d⟩:=k;exact⟨t,el,by rw [e];exact a,c,d⟩
theorem Has.of_get{h h':Hp}{b:Nat}{o:Ob}(e:h'.get b=h.get b)(k:Has h b o):Has h' b o:=by
 cases o with
 |row l a=>exact Row.of_get e k
 |map d c=>exact e.trans k
 |loop x=>exact e.trans k
 |dfr=>exact e.trans k
theorem Has.lt{h:Hp}(a:h.t.Sized h.n){b:Nat}{o:Ob}(k:Has h b o):b<h.n:=by
 cases o with
 |row l d=>exact Row.lt a k
 |map e c=>exact eZ a k
 |loop x=>exact eZ a k
 |dfr=>exact eZ a k
theorem Has.some{h:Hp}{b:Nat}{o:Ob}(k:Has h b o):(h.get b).isSome=true:=by
 cases o with
 |row l d=>obtain⟨t,el,a,_⟩:=k;rw [a];rfl
 |map e c=>rw [show h.get b=_ from k];rfl
 |loop x=>rw [show h.get b=_ from k];rfl
 |dfr=>rw [show h.get b=_ from k];rfl

structure Mo(M:Nat->Prop)(h h':Hp):Prop where
 ok0:h.t.Sized h.n
 ok:h'.t.Sized h'.n
 n:h.n<=h'.n
 get: ∀b,b<h.n-> ¬M b->h'.get b=h.get b
 lo: ∀x,x<=h.n->x<=h.lo->(∀b,M b->x<=b)->x<=h'.lo
abbrev NoM:Nat->Prop:=fun _=>False
theorem Gr.fr{M:Nat->Prop}{h h':Hp}(g:Gr h h'):Mo M h h':=⟨g.ok0,g.ok,g.n,fun b a _=>g.get b a,fun x c d _=>g.lo x c d⟩
theorem Mo.gr{h h':Hp}(g:Mo NoM h h'):Gr h h':=⟨g.ok0,g.ok,g.n,fun b a=>g.get b a (fun x=>x),fun x c d=>g.lo x c d (fun _ h=>h.elim)⟩
theorem Mo.refl{M:Nat->Prop}{h:Hp}(a:h.t.Sized h.n):Mo M h h:=(Gr.refl a).fr
theorem Mo.trans{M M':Nat->Prop}{a b c:Hp}(x:Mo M a b)(y:Mo M' b c)(e: ∀i,M' i->M i\/a.n<=i):Mo M a c:=
 ⟨x.ok0,y.ok,XF x.n y.n,fun i f g=>(y.get i (Nat.lt_of_lt_of_le f x.n) (fun d=>(e i d).elim g (fun h=>by omega))).trans (x.get i f g),
  fun i k m l=>y.lo i (XF k x.n) (x.lo i k m l) fun j n=>(e j n).elim (l j) (fun h=>by omega)⟩
theorem Mo.mono{M M':Nat->Prop}{a b:Hp}(x:Mo M a b)(c: ∀i,M i->M' i):Mo M' a b:=
 ⟨x.ok0,x.ok,x.n,fun i d e=>x.get i d (fun h=>e (c i h)),fun i f g k=>x.lo i f g fun j l=>k j (c j l)⟩
theorem Mo.new{M:Nat->Prop}{a h:Hp}(g:Mo M a h)(x:Blk):Mo M a (h.new x):=g.trans (M':=NoM) (Gr.new g.ok x).fr (fun _ h=>h.elim)
theorem Mo.put{M:Nat->Prop}{a h:Hp}(g:Mo M a h){b:Nat}(c:a.n<=b\/M b)(x:Blk):Mo M a (h.put b x):=by
 refine g.trans (M':=fun i=>i=b) ⟨g.ok,put_ok g.ok b x,Xg _,fun i j d=>bW (fun e=>d e.symm),fun i k l f=>?_⟩ (fun i h=>by subst h;exact c.symm)
 show i<=dJ b h.lo
 have:=f b rfl
 unfold dJ
 cases Xb b h.lo<;>simp<;>omega
theorem Mo.has{M:Nat->Prop}{a h:Hp}(g:Mo M a h){b:Nat}{o:Ob}(k:Has a b o)(c: ¬M b):Has h b o:=Has.of_get (g.get b (k.lt g.ok0) c) k

abbrev GL:=Value×Nat×List Value
def dY:GL->Option Nat
 |(.slice (some a) _ _,_,_)=>some a.block
 |_=>none
def eX(h:Hp)(p:GL):Prop:=(p.1=.slice none 0 0/\p.2.2=[])\/ ∃b n,p.1=.slice (some ⟨b,0,some p.2.1⟩) n n/\n*p.2.1=p.2.2.length/\Row h b p.2.2 1
def keys(L:List (Nat×Ob))(G:List GL):List Nat:=L.map Prod.fst++G.filterMap dY

structure St(M:Nat->Prop)(h0 h:Hp)(L:List (Nat×Ob))(G:List GL):Prop where
 fr:Mo M h0 h
 own: ∀p∈L,(h0.n<=p.1\/M p.1)/\Has h p.1 p.2
 gown: ∀p∈G,eX h p/\ ∀b,dY p=some b->h0.n<=b\/M b
 apart:(keys L G).Nodup

section
variable{M:Nat->Prop}{h0 h:Hp}{L:List (Nat×Ob)}{G:List GL}
theorem eX.of_get{h':Hp}{p:GL}(k:eX h p)(e: ∀b,dY p=some b->h'.get b=h.get b):eX h' p:=by
 rcases k with k|⟨b,n,a,c,d⟩
 . exact .inl k
 . refine .inr ⟨b,n,a,c,Row.of_get (e b ?_) d⟩
   obtain⟨v,k,f⟩:=p
   simp only []at a
   subst a
   rfl
theorem eX.lt(d:h.t.Sized h.n){p:GL}(k:eX h p){b:Nat}(c:dY p=some b):b<h.n:=by
 rcases k with k|⟨j,n,a,e,f⟩
 . obtain⟨v,g,i⟩:=p
   obtain⟨a,e⟩:=k
   simp only []at a
   subst a
   cases c
 . obtain⟨v,g,i⟩:=p
   simp only []at a
   subst a
   cases c
   exact Row.lt d f
theorem fI{p:Nat×Ob}(a:p∈L):p.1∈keys L G:=Xw _ (XN a)
theorem eo{p:GL}{b:Nat}(a:p∈G)(c:dY p=some b):b∈keys L G:=Xm _ (List.mem_filterMap.2 ⟨p,a,c⟩)
theorem St.key_lt(S:St M h0 h L G){b:Nat}(a:b∈keys L G):b<h.n:=by
 unfold keys at a
 rcases List.mem_append.1 a with a|a
 . obtain⟨p,c,rfl⟩:=List.mem_map.1 a
   exact(S.own p c).2.lt S.fr.ok
 . obtain⟨p,c,d⟩:=List.mem_filterMap.1 a
   exact(S.gown p c).1.lt S.fr.ok d
theorem St.init(a:h.t.Sized h.n):St M h h [] []:=⟨Mo.refl a,fun _ h=>(by cases h),fun _ h=>(by cases h),.nil⟩
theorem St.ok(S:St M h0 h L G):h.t.Sized h.n:=S.fr.ok
theorem St.gr(S:St NoM h0 h L G):Gr h0 h:=S.fr.gr
theorem St.push(S:St M h0 h L G){b:Nat}{o:Ob}(c:h0.n<=b\/M b)(d:Has h b o)(e:b∉keys L G):St M h0 h ((b,o)::L) G:=
 ⟨S.fr,fun p a=>by
  rcases List.mem_cons.1 a with rfl|a
  . exact⟨c,d⟩
  . exact S.own p a,S.gown,List.nodup_cons.2 ⟨e,S.apart⟩⟩
theorem St.step(S:St M h0 h L G){M':Nat->Prop}{h':Hp}(f:Mo M' h h')(e: ∀b,M' b->M b\/h0.n<=b)(c: ∀b∈keys L G,¬M' b):St M h0 h' L G:=
 ⟨S.fr.trans f e,fun p a=>⟨(S.own p a).1,f.has (S.own p a).2 (c _ (fI a))⟩,
  fun p a=>⟨(S.gown p a).1.of_get fun b d=>f.get b ((S.gown p a).1.lt S.ok d) (c b (eo a d)),(S.gown p a).2⟩,S.apart⟩
theorem St.call(S:St M h0 h L G){h':Hp}(g:Gr h h'):St M h0 h' L G:=S.step (M':=NoM) g.fr (fun _ h=>h.elim) (fun _ _ h=>h)
theorem St.new(S:St M h0 h L G){x:Blk}{o:Ob}(a:Has (h.new x) h.n o):St M h0 (h.new x) ((h.n,o)::L) G:=
 (S.call (Gr.new S.ok x)).push (.inl S.fr.n) a (fun b=>by have:=S.key_lt b;omega)
theorem St.newG(S:St M h0 h L G){x:Blk}{k n:Nat}{vs:List Value}(d:n*k=vs.length)(f:Row (h.new x) h.n vs 1):St M h0 (h.new x) L ((.slice (some ⟨h.n,0,some k⟩) n n,k,vs)::G):=by
 have a:=S.call (Gr.new S.ok x)
 refine⟨a.fr,a.own,fun p c=>?_,?_⟩
 . rcases List.mem_cons.1 c with rfl|c
   . exact⟨.inr ⟨_,n,rfl,d,f⟩,fun b g=>by cases g;exact .inl S.fr.n⟩
   . exact a.gown p c
 . unfold keys
   have e:List.filterMap dY ((Value.slice (some ⟨h.n,0,some k⟩) n n,k,vs)::G)=h.n::List.filterMap dY G:=rfl
   rw [e]
   refine(List.perm_middle.nodup_iff).2 (List.nodup_cons.2 ⟨fun i=>?_,S.apart⟩)
   have:=S.key_lt i
   omega
theorem St.nilG(S:St M h0 h L G){k:Nat}:St M h0 h L ((.slice none 0 0,k,[])::G):=
 ⟨S.fr,S.own,fun p a=>by
  rcases List.mem_cons.1 a with rfl|a
  . exact⟨.inl ⟨rfl,rfl⟩,fun b c=>by cases c⟩
  . exact S.gown p a,S.apart⟩
theorem ki{α:Type}{l:List α}{i:Nat}{x y:α}(h:y∈l.set i x):y=x\/ ∃j,j≠i/\l[j]? =some y:=by
 rw [List.mem_iff_getElem?]at h
 obtain⟨j,a⟩:=h
 rw [XB]at a
 split at a
 . split at a
   . cases a;exact .inl rfl
   . cases a
 . exact .inr ⟨j,by omega,a⟩
theorem om{α:Type}{l:List α}(h:l.Nodup){i j:Nat}{x:α}(f:l[i]? =some x)(g:l[j]? =some x):i=j:=by
 have k:=(List.getElem?_eq_some_iff.1 f)
 have m:=(List.getElem?_eq_some_iff.1 g)
 obtain⟨a,d⟩:=k
 obtain⟨b,e⟩:=m
 rcases Nat.lt_trichotomy i j with c|c|c
 . exact absurd (d.trans e.symm) (List.pairwise_iff_getElem.1 h i j a b c)
 . exact c
 . exact absurd (e.trans d.symm) (List.pairwise_iff_getElem.1 h j i b a c)
theorem nC{L:List (Nat×Ob)}{G:List GL}{i:Nat}{p:Nat×Ob}(a:L[i]? =some p):(keys L G)[i]? =some p.1:=by
 unfold keys
 have:=(List.getElem?_eq_some_iff.1 a).1
 rw [XE (by simpa using this),Xd,a];rfl
theorem St.put(S:St M h0 h L G){i b:Nat}{o o':Ob}(f:L[i]? =some (b,o)){x:Blk}(l:Has (h.put b x) b o'):St M h0 (h.put b x) (L.set i (b,o')) G:=by
 have k:=S.own _ (zN f)
 have g:(keys L G)[i]? =some b:=nC f
 refine⟨S.fr.put k.1 x,fun p a=>?_,fun p a=>⟨(S.gown p a).1.of_get fun c m=>?_,(S.gown p a).2⟩,?_⟩
 . rcases ki a with rfl|⟨j,n,a⟩
   . exact⟨k.1,l⟩
   . have d:=S.own p (zN a)
     refine⟨d.1,d.2.of_get (bW fun e=>n ?_)⟩
     have q:(keys L G)[j]? =some b:=by rw [nC a];rw [e]
     exact om S.apart q g
 . refine bW fun e=>?_
   subst e
   have d:=S.apart
   unfold keys at d
   rw [List.nodup_append]at d
   exact d.2.2 b (List.mem_map.2 ⟨_,zN f,rfl⟩) b (List.mem_filterMap.2 ⟨p,a,m⟩) rfl
 . have:keys (L.set i (b,o')) G=keys L G:=by
    unfold keys
    congr 1
    rw [List.map_set]
    refine Xq fun j=>?_
    rw [XB]
    split
    . rename_i e;subst e
      have:=(List.getElem?_eq_some_iff.1 f).1
      rw [if_pos (by simpa using this),Xd,f];rfl
    . rfl
   rw [this];exact S.apart
theorem St.row(S:St M h0 h L G){b:Nat}{l:List Value}{md:Nat}(a:(b,Ob.row l md)∈L):Row h b l md:=(S.own _ a).2
theorem St.ld(S:St M h0 h L G){b o:Nat}{l:List Value}{md:Nat}{v:Value}(a:(b,Ob.row l md)∈L)(c:l[o]? =some v):h.load b o 1=some [v]:=(S.row a).load1 c
theorem St.lds(S:St M h0 h L G){b o n:Nat}{l:List Value}{md:Nat}(a:(b,Ob.row l md)∈L)(c:o+n<=l.length):h.load b o n=some ((l.drop o).take n):=(S.row a).load c
theorem m0{α:Type}{a:α}{l:List α}:a∈a::l:=List.mem_cons_self
theorem m1{α:Type}{a b:α}{l:List α}:a∈b::a::l:=.tail _ m0
theorem m2{α:Type}{a b c:α}{l:List α}:a∈b::c::a::l:=.tail _ m1
theorem m3{α:Type}{a b c d:α}{l:List α}:a∈b::c::d::a::l:=.tail _ m2
theorem m4{α:Type}{a b c d e:α}{l:List α}:a∈b::c::d::e::a::l:=.tail _ m3
theorem m5{α:Type}{a b c d e f:α}{l:List α}:a∈b::c::d::e::f::a::l:=.tail _ m4
theorem m6{α:Type}{a b c d e f g:α}{l:List α}:a∈b::c::d::e::f::g::a::l:=.tail _ m5
theorem m7{α:Type}{a b c d e f g i:α}{l:List α}:a∈b::c::d::e::f::g::i::a::l:=.tail _ m6
theorem St.old(S:St M h0 h L G){b o n:Nat}{l:List Value}(e:h0.load b o n=some l)(a: ¬M b):h.load b o n=some l:=by
 have:=S.fr.get b (bD S.fr.ok0 e) a
 unfold Hp.load at e⊢
 rw [this];exact e
end
end Go.Ab

namespace Go.Ab

def ol(h:Hp)(X:Hp->Option (cS×Hp))(F:Nat->Value)(o:Ob):Prop:=
 ∃a,(∀x,X {h with lo:=x}=some (.val (F h.n),({h with lo:=x}:Hp).new a))/\(h.t.Sized h.n->Has (h.new a) h.n o)
section
variable{M:Nat->Prop}{h0 h:Hp}{L:List (Nat×Ob)}{G:List GL}
section
variable{E:Env}{cx:Cx}{o:Oper}{l:Loc}{K:Ex->Loc->Hp->Prop}{X:Hp->Option (cS×Hp)}{F:Nat->Value}{ob:Ob}
theorem ah(N:ol h X F ob)(S:St M h0 h L G)(a: ∀h' b,St M h0 h' ((b,ob)::L) G->h0.n<=b->K .normal (l.put o.dst (F b)) h'):eA E cx o l K (X h):=by
 obtain⟨c,d,f⟩:=N
 have e:X h=_:=d h.lo
 rw [e]
 exact a _ _ (S.new (f S.ok)) S.fr.n
theorem df{cx:Cx}{Q:eh}{a:List Oper}{q:Nat}{ps:List (Nat×Nat)}{os:List Oper}{i:Nat}{k:List Fr}{c:List (Nat×Tch)}(N:ol h X F ob)(S:St M h0 h L G)
 (d: ∀h' b,St M h0 h' ((b,ob)::L) G->h0.n<=b->b=h.n->Run E (lim E) cx Q (.opsD a q ps os (i+1) c::k) .normal (l.put o.dst (F b)) h'):DQ E cx Q a q ps o os i k l h c (X {h with lo:=h.n}):=by
 obtain⟨e,f,g⟩:=N
 rw [f]
 exact⟨zM (Xg _),d _ _ (S.new (g S.ok)) S.fr.n rfl⟩
end
theorem a8{v:Value}{t:TypeId}(a: ∀x,v≠ .chan x):ol h (fun h=>boxR h t v) ptrTo (.row (ag v) 1):=by
 refine⟨.cells (Tr.ofList (ag v)) (ag v).length t 1,fun x=>?_,fun b=>nI b _ _ _⟩
 cases v<;>first|rfl|exact absurd rfl (a _)
theorem aA{z:List Value}{t:TypeId}:ol h (fun h=>allocR h t (some z)) ptrTo (.row z 1):=
 ⟨.cells (Tr.ofList z) z.length t 1,fun _=>rfl,fun a=>nI a _ _ _⟩
noncomputable def mapR(h:Hp):Option (cS×Hp):=some (.val (.map (some h.n)),h.new (.map [] 0))
theorem zS{E:Env}{ρ:Operand->Value}{h:Hp}{t:TypeId}:aop E ρ h (.makeMap t none)=mapR h:=rfl
theorem nG:ol h mapR (fun b=>.map (some b)) (.map [] 0):=⟨.map [] 0,fun _=>rfl,fun a=>by show(h.new _).get h.n=_;rw [h.get_new _ a,if_pos rfl]⟩
theorem sC(a:List Value): ∀n,(bq a n).length=n*a.length
 |0=>by simp [bq]
 |n+1=>by simp only [bq,Xa,sC a n];rw [Xo];omega
theorem row_blank{h:Hp}(a:h.t.Sized h.n)(z:Value)(n:Nat)(e:TypeId):Row (h.new (.cells (Tr.blank z n n) n e 1)) h.n (Xk n z) 1:=by
 refine⟨Tr.blank z n n,e,?_,?_,fun i=>?_⟩
 . rw [h.get_new _ a,if_pos rfl,Xs]
 . rw [Xs];exact Tr.sized_blank _ _ _ (Xg _)
 . rw [Tr.get_blank _ _ _ (Xg _),XH]
def er(E:Env)(e:TypeId)(a k:Nat)(b:List Value):Prop:=(∃i,E.ty e=some i/\i.bytes=a/\i.size=k)/\E.zero e=some b/\b.length=k
theorem po{E:Env}{t e:TypeId}{f k:Nat}{d:List Value}{kd kd':IntKind}{n:Int}(q:E.und t=some (.slice e))(y:er E e f k d)(h0:0<=n)(A:n.toNat*(f+1)<=70368744177664):
 ol h (fun h=>cH (iJ E h t (.int kd n) (.int kd' n))) (fun b=>.slice (some ⟨b,0,none⟩) n.toNat n.toNat) (.row (bq d n.toNat) 1):=by
 obtain⟨⟨i,r,rfl,rfl⟩,s,p⟩:=y
 obtain⟨m,rfl⟩:=Int.eq_ofNat_of_zero_le h0
 have hle:Xb (m*(i.bytes+1)) 70368744177664=true:=zM A
 have u:Xj d.length i.size=true:=by rw [p];exact Xh _
 have g:natV (.int kd (m:Int))=some m:=rfl
 have j:natV (.int kd' (m:Int))=some m:=rfl
 have v:(Xb m m&&Xb (m*(i.bytes+1)) 70368744177664)=true:=by rw [hle,zM (Xg _)];rfl
 by_cases w: ∃z,d=[z]
 . obtain⟨z,rfl⟩:=w
   refine⟨.cells (Tr.blank z m m) m e 1,fun x=>?_,fun o=>?_⟩
   . simp only [iJ,q,r,s,g,j,v,u,cond_true,cH]
     rfl
   . have:bq [z] (m:Int).toNat=Xk m z:=by
      have: ∀n,bq [z] n=Xk n z:=by intro n;induction n with
       |zero=>rfl
       |succ n B=>simp [bq,B,List.replicate_succ]
      exact this m
     rw [this]
     exact row_blank o z m e
 . refine⟨.cells (Tr.ofList (bq d m)) (m*i.size) e 1,fun x=>?_,fun o=>?_⟩
   . simp only [iJ,q,r,s,g,j,v,u,cond_true]
     cases d with
     |nil=>rfl
     | cons a l=>
       cases l with
       |nil=>exact absurd ⟨a,rfl⟩ w
       |cons b l=>rfl
   . have:=nI o (bq d m) e 1
     rw [sC,p]at this
     show Row _ _ (bq d m) 1
     obtain⟨t,el,a,b,c⟩:=this
     exact⟨Tr.ofList (bq d m),e,by rw [h.get_new _ o,if_pos rfl,sC,p],Tr.sized_ofList _,Tr.get_ofList _⟩

theorem St.store(S:St M h0 h L G){E:Env}{t:TypeId}{i b off n md:Nat}{s:Option Nat}{l:List Value}{v:Value}(c:L[i]? =some (b,.row l md))(d:E.sz t=some n)(k: ∀x,v≠ .chan x)(e:(ag v).length=n)
 (hf:(ag v).all iT=true) (f:off+n<=l.length) (a:md≠0): ∃h',gO E h t (.pointer (some ⟨b,off,s⟩)) v=some h'/\St M h0 h' (L.set i (b,.row (lay l off (ag v)) md)) G/\Mo (· =b) h h':=by
 subst e
 obtain⟨x,g,j⟩:=(S.row (zN c)).store S.ok a (vs:=ag v) f hf
 refine⟨h.put b x,?_,S.put c j,(Mo.refl (M:=(· =b)) S.ok).put (.inr rfl) x⟩
 have:gO E h t (.pointer (some ⟨b,off,s⟩)) v=bif Xj (ag v).length (ag v).length then h.store b off (ag v)else none:=by
  simp only [gO,d]
 rw [this,Xh]
 exact g
section
variable{E:Env}{cx:Cx}{o:Oper}{l:Loc}{K:Ex->Loc->Hp->Prop}
theorem aC{x:Option Hp}{P:Hp->Prop}(a: ∃h',x=some h'/\P h')(b: ∀h',P h'->K .normal (l.put o.dst (.tuple #[])) h'):eA E cx o l K (eg x):=by
 obtain⟨h',rfl,c⟩:=a
 exact b h' c
theorem gf{x:Option (Hp×Value)}{P:Hp->Value->Prop}(a: ∃h' v,x=some (h',v)/\P h' v)(b: ∀h' v,P h' v->K .normal (l.put o.dst v) h'):eA E cx o l K (cH x):=by
 obtain⟨h',v,rfl,c⟩:=a
 exact b h' v c
theorem dP{cx:Cx}{Q:eh}{a:List Oper}{q:Nat}{ps:List (Nat×Nat)}{os:List Oper}{i:Nat}{k:List Fr}{b:Hp->List (Nat×Tch)}{x:Option Hp}{P:Hp->Prop}(c: ∃h',x=some h'/\P h')
 (d: ∀h',P h'->Run E (lim E) cx Q (.opsD a q ps os (i+1) (b h')::k) .normal (l.put o.dst (.tuple #[])) h'):DN E cx Q a q ps o os i k l b (eg x):=by
 obtain⟨h',rfl,e⟩:=c
 exact d h' e
theorem jE{cx:Cx}{Q:eh}{a:List Oper}{q:Nat}{ps:List (Nat×Nat)}{os:List Oper}{i:Nat}{k:List Fr}{b:Hp->List (Nat×Tch)}{x:Option (Hp×Value)}{P:Hp->Value->Prop}(c: ∃h' v,x=some (h',v)/\P h' v)
 (d: ∀h' v,P h' v->Run E (lim E) cx Q (.opsD a q ps os (i+1) (b h')::k) .normal (l.put o.dst v) h'):DN E cx Q a q ps o os i k l b (cH x):=by
 obtain⟨h',v,rfl,e⟩:=c
 exact d h' v e
end

theorem oz{L:List (Nat×Ob)}{G:List GL}{j:Nat}{p d:GL}(e:(keys L G).Nodup)(g:G[j]? =some p){b:Nat}(i:dY d=some b)(c:b∉keys L G):(keys L (G.set j d)).Nodup:=by
 obtain⟨hlt,k⟩:=List.getElem?_eq_some_iff.1 g
 have f:G=G.take j++p::G.drop (j+1):=by rw [<-k,List.getElem_cons_drop hlt,List.take_append_drop]
 have l:G.set j d=G.take j++d::G.drop (j+1):=List.set_eq_take_append_cons_drop.trans (if_pos hlt)
 unfold keys at*
 rw [l,Xt,Xp i,<-List.append_assoc]
 refine List.perm_middle.nodup_iff.2 (List.nodup_cons.2 ⟨fun a=>c ?_,?_⟩)
 . rw [f,Xt]
   rcases List.mem_append.1 a with a|a
   . rcases List.mem_append.1 a with a|a
     . exact Xw _ a
     . exact Xm _ (Xw _ a)
   . refine Xm _ (Xm _ ?_)
     rw [Xy]
     split
     . exact a
     . exact Xv _ a
 . rw [f,Xt,<-List.append_assoc]at e
   refine e.sublist (List.Sublist.append (List.Sublist.refl _) ?_)
   rw [Xy]
   split
   . exact List.Sublist.refl _
   . exact List.sublist_cons_self _ _
theorem St.grow (S :St M h0 h L G) {E:Env} {t tx e:TypeId} {J k j m:Nat} {zs vs new:List Value} {v x:Value} (B:G[j]? =some (v,k,vs)) (hu:E.und t=some (.slice e)) (he:er E e J k zs) (P:0<J)
 (Z:dw E tx=some false) (C:aP h k x=some (m,new)) (Y:m*k=new.length) (O:0<k) (hf:new.all iT=true) (ad:(vs.length+new.length)*(J+1)<=70368744177664) {ts:List TypeId}:
 ∃h' v',cM E h (t::tx::ts) v x=some (h',v')/\St M h0 h' L (G.set j (v',k,vs++new)):=by
 obtain⟨⟨i,hi,rfl,rfl⟩,hz,hl⟩:=he
 have hlt:=(List.getElem?_eq_some_iff.1 B).1
 obtain⟨hg,Q⟩:=S.gown _ (zN B)
 have D : ∀ a d,v=.slice a d d->d*i.size=vs.length->(a=none/\d=0\/ ∃b,a=some ⟨b,0,some i.size⟩/\Row h b vs 1)->
  ∃h' v',eB E h e i a d d m new=some (h',v')/\St M h0 h' L (G.set j (v',i.size,vs++new)):=by
  intro a d hv o y
  by_cases r:m=0
  . subst r
    have:new=[]:=by
     cases new with
     |nil=>rfl
     |cons a l=>simp at Y
    subst this
    refine⟨h,v,?_,?_⟩
    . unfold eB
      rw [zM (by omega:d+0<=d)]
      simp only [cond_true]
      rw [hv]
      cases a<;>rfl
    . rw [List.append_nil]
      have:G.set j (v,i.size,vs)=G:=by
       refine Xq fun n=>?_
       rw [XB]
       split
       . rename_i e;subst e;first|rw [if_pos hlt,B]|exact B.symm
       . rfl
      rw [this];exact S
  . have R : Xb (d+m) d=false:=by
     cases Z:Xb (d+m) d with
     |false=>rfl
     |true=>exact absurd (Xe Z) (by omega)
    have T:d+m<=vs.length+new.length:=by
     rw [<-o,<-Y]
     have r:=Xi d O
     have h2:=Xi m O
     omega
    have z:(Xb ((d+m)*(i.bytes+1)) 70368744177664&&Xz 0 i.bytes)=true:=by
     rw [zM (XF (Xx _ T) ad)]
     simp only [Bool.true_and]
     rw [XD];exact P
    have af:Xj zs.length i.size=true:=by rw [hl];exact Xh _
    have A:eB E h e i a d d m new=lV h e i.size a d m new:=by
     unfold eB
     rw [R]
     simp only [cond_false]
     rw [z,hz]
     simp only [cond_true,af]
    rw [A]
    rcases y with⟨rfl,rfl⟩|⟨b,rfl,U⟩
    . have ai:vs=[]:=by
       cases vs with
       |nil=>rfl
       |cons a l=>simp at o
      subst ai
      refine⟨h.new (.cells (Tr.ofList new) new.length e 1),.slice (some ⟨h.n,0,some i.size⟩) m m,rfl,?_⟩
      have S':=S.call (Gr.new S.ok (.cells (Tr.ofList new) new.length e 1))
      have K:h.n∉keys L G:=fun O=>by have:=S.key_lt O;omega
      refine⟨S'.fr,S'.own,fun p f=>?_,oz S.apart B (b:=h.n) rfl K⟩
      rcases ki f with rfl|⟨j',_,f⟩
      . exact⟨.inr ⟨h.n,m,rfl,Y,nI S.ok new e 1⟩,fun b P=>by cases P;exact .inl S.fr.n⟩
      . exact S'.gown p (zN f)
    . obtain ⟨V,el,F,H,ak⟩:=U
      have al:iU V vs.length 0 (d*i.size) new=some (V.pushAll vs.length new,vs.length+new.length):=by
       unfold iU
       rw [o,Xh vs.length]
       rfl
      refine⟨(h.put b .dead).new (.cells (V.pushAll vs.length new) (vs.length+new.length) e 1),.slice (some ⟨h.n,0,some i.size⟩) (d+m) (d+m),?_,?_⟩
      . unfold lV
        simp only [F,al,hf,Xh]
        rfl
      . have u:dY (v,i.size,vs)=some b:=by rw [hv];rfl
        have a3:=eZ S.ok F
        have N:=(S.fr.put (Q b u) .dead)
        have ax: ∀c∈L.map Prod.fst,c≠b:=fun c s e=>by
         have r:=S.apart
         unfold keys at r
         rw [List.nodup_append]at r
         exact r.2.2 c s b (List.mem_filterMap.2 ⟨_,zN B,u⟩) e
        have w: ∀c,c<h.n->c≠b->((h.put b .dead).new (.cells (V.pushAll vs.length new) (vs.length+new.length) e 1)).get c=h.get c:=fun c s ay=>by
         rw [Hp.get_new _ _ N.ok,if_neg (by show c≠h.n;omega)]
         exact bW (Ne.symm ay)
        have K:h.n∉keys L G:=fun O=>by have:=S.key_lt O;omega
        refine⟨N.new _,fun p f=>?_,fun p f=>?_,oz S.apart B (b:=h.n) rfl K⟩
        . have r:=S.own p f
          exact⟨r.1,r.2.of_get (w _ (r.2.lt S.ok) (ax _ (XN f)))⟩
        . rcases ki f with rfl|⟨j',aL,f⟩
          . refine⟨.inr ⟨h.n,d+m,rfl,?_,?_⟩,fun b P=>by cases P;exact .inl S.fr.n⟩
            . show(d+m)*i.size=(vs++new).length
              rw [XJ,o,Y,Xa]
            . refine⟨V.pushAll vs.length new,e,?_,?_,fun n=>?_⟩
              . rw [Hp.get_new _ _ N.ok]
                rw [if_pos (show h.n=(h.put b .dead).n from rfl),Xa]
              . rw [Xa];exact Tr.sized_pushAll _ H
              . rw [Tr.get_pushAll _ _ _ H,XM]
                split
                . exact ak n
                . rfl
          . have r:=S.gown p (zN f)
            refine⟨r.1.of_get fun c s=>w c (r.1.lt S.ok s) fun e=>aL ?_,r.2⟩
            subst e
            -- two lists with a4 a0
            have h2:=S.apart
            unfold keys at h2
            have h3:=(List.nodup_append.1 h2).2.1
            have a1: ∀(G:List GL) (a c:Nat) (p q:GL),(G.filterMap dY).Nodup->G[a]? =some p->G[c]? =some q-> ∀x,dY p=some x->dY q=some x->a=c:=by
             intro G
             induction G with
             |nil=>intro a c p q _ y;simp at y
             | cons g G ih=>
               intro a c p q I y s x f hq
               have a2:(G.filterMap dY).Nodup:=by
                rw [Xy]at I
                split at I
                . exact I
                . exact(List.nodup_cons.1 I).2
               cases a with
               | zero=>
                 cases c with
                 |zero=>rfl
                 | succ c=>
                   simp at y s
                   subst y
                   rw [Xp f]at I
                   exact absurd (List.mem_filterMap.2 ⟨q,zN s,hq⟩) (List.nodup_cons.1 I).1
               | succ a=>
                 cases c with
                 | zero=>
                   simp at y s
                   subst s
                   rw [Xp hq]at I
                   exact absurd (List.mem_filterMap.2 ⟨p,zN y,f⟩) (List.nodup_cons.1 I).1
                 | succ c=>
                   simp at y s
                   rw [ih a c p q a2 y s x f hq]
            exact a1 G j' j p _ h3 f B c s u
 unfold cM
 simp only [Z]
 unfold iY
 simp only [hu,hi]
 rcases hg with⟨W,X⟩|⟨b,n,W,X,k3⟩
 . simp only []at W X
   subst W X
   simp only [C]
   exact D none 0 rfl (by simp) (.inl ⟨rfl,rfl⟩)
 . simp only []at W X k3
   subst W
   simp only [C]
   exact D _ n rfl X (.inr ⟨b,rfl,k3⟩)
end
end Go.Ab

namespace Go.Ab

theorem cm{E:Env}{cx:Cx}{Q:eh}{k:List Fr}{n:Nat}{d:List Deferred}{e:Option (Value×Bool)}{b:Code}{α:Type}(I:α->(Nat->Value)->Hp->Prop)(m:α->Nat)
 (o: ∀a,(∀f c h',m f<m a->I f c h'->Run E (lim E) cx Q (.code (.loop b)::k) .normal (LL n c d e) h')-> ∀ρ h,I a ρ h->Run E (lim E) cx Q (.code b:: .code (.loop b)::k) .normal (LL n ρ d e) h):
 ∀a ρ h,I a ρ h->Run E (lim E) cx Q (.code (.loop b)::k) .normal (LL n ρ d e) h:=by
 have g: ∀j a,m a<j-> ∀ρ h,I a ρ h->Run E (lim E) cx Q (.code (.loop b)::k) .normal (LL n ρ d e) h:=by
  intro j
  induction j with
  |zero=>intro a p;omega
  | succ j q=>
    intro a p ρ h i
    rw [aZ]
    exact o a (fun f c h' hlt l=>q f (by omega) c h' l) ρ h i
 intro a ρ h i
 exact g (m a+1) a (by omega) ρ h i

def pR(b:Nat):Deferred:={target:=.collected b,args:=#[]}
section
variable(E:Env)(cx:Cx)(Q:eh)(k:List Fr)
def RangeGo(l:Loc)(h:Hp):Option Code->Prop
 |none=>Run E (lim E) cx Q k .normal l h
 |some (.exit id)=>Run E (lim E) cx Q k (.exit id) l h
 |some .ret=>Run E (lim E) cx Q k .ret l h
 |_=>False
def RangeQ(l:Loc)(b:Nat):Out->Option (Value×Bool)->Hp->Prop
 | .pan v,_,a=>Run E (lim E) cx Q k (.pan v) l a
 | .ret _,_,a=> ∃x,a.get b=some (.loop x)/\x.st≠1/\RangeGo E cx Q k l (a.put b .dead) x.pending
end
section
variable{E:Env}{cx:Cx}{Q:eh}{k:List Fr}{n:Nat}{ρ:Nat->Value}{d:List Deferred}{rc:Option (Value×Bool)}{M:Nat->Prop}{h0 h:Hp}{L:List (Nat×Ob)}{G:List GL}
theorem Ae {f:Operand} {params:Array Tmp} {assign body:Code} {g:FuncId} {a b:Array Value} {j:Hp} {p:Nat} {dfs:List Deferred} (hf:(LL n ρ d rc).ev f=.func (.func g) a b) (F:cx.nr=n)
 (H :(match cx.round with
   |none=>some (h.new .dfr,h.n,({target:=.collected h.n,args:=#[]}:Deferred)::d)
   | some r=>match h.get r with
     |some (.loop x)=>some (h,x.defers,d)
     |_=>none)=some (j,p,dfs))
 (I:du E g (a.toList++[.func (.yield j.n) #[] #[]]++b.toList) none (j.new (.loop {fn:=cx.fn,regs:=tab n ρ,nr:=n,params,assign,body,st:=0,pending:=none,defers:=p})) (RangeQ E cx Q k (LL n ρ dfs rc) j.n)):
 Run E (lim E) cx Q (.code (.rangeFunc f params assign body)::k) .normal (LL n ρ d rc) h:=by
 obtain⟨o,J,l,K,A⟩:=I
 simp only [Run]
 have e:aB E (lim E) cx (.rangeFunc f params assign body) (LL n ρ d rc) h=gQ (lim E) cx ((LL n ρ d rc).ev f) params assign body (LL n ρ d rc) h:=rfl
 rw [e,hf]
 have N:gQ (lim E) cx (.func (.func g) a b) params assign body (LL n ρ d rc) h=(match(some (j,p,dfs):Option (Hp×Nat×List Deferred))with
  |none=>none
  | some (j,p,dfs)=>
    match(lim E).call g (a.toList++[.func (.yield j.n) #[] #[]]++b.toList) none
     (j.new (.loop {fn:=cx.fn,regs:=tab n ρ,nr:=cx.nr,params,assign,body,st:=0,pending:=none,defers:=p}))with
    |none=>none
    |some (.pan v,_,l)=>some (.pan v,LL n ρ dfs rc,l)
    | some (.ret _,_,l)=>match l.get j.n with
      | some (.loop x)=>match x.st with
        |1=>none
        | _=>match x.pending with
          |none=>some (.normal,LL n ρ dfs rc,l.put j.n .dead)
          |some (.exit id)=>some (.exit id,LL n ρ dfs rc,l.put j.n .dead)
          |some .ret=>some (.ret,LL n ρ dfs rc,l.put j.n .dead)
          |_=>none
      |_=>none):=by rw [<-H];rfl
 rw [N]
 simp only [F,K]
 cases o with
 |pan v=>exact⟨_,_,_,rfl,A⟩
 | ret v=>
   obtain⟨x,O,t,u⟩:=A
   simp only [O]
   obtain⟨P,y,R,q,s,z,S,i,w⟩:=x
   simp only []at t u
   have m: ∃B C D,(match i with
    |none=>some (Ex.normal,LL n ρ dfs rc,l.put j.n .dead)
    |some (.exit id)=>some (.exit id,LL n ρ dfs rc,l.put j.n .dead)
    |some .ret=>some (.ret,LL n ρ dfs rc,l.put j.n .dead)
    |_=>none)=some (B,C,D)/\Run E (lim E) cx Q k B C D:=by
    cases i with
    |none=>exact⟨_,_,_,rfl,u⟩
    |some c=>cases c<;>first|exact u.elim|exact⟨_,_,_,rfl,u⟩
   match S,t with
   |0,_=>exact m
   |1,t=>exact absurd rfl t
   |_+2,_=>exact m
theorem mF(S:St M h0 h L G){f:Operand}{params:Array Tmp}{assign body:Code}{g:FuncId}{a b:Array Value}(hf:(LL n ρ d rc).ev f=.func (.func g) a b)(j:cx.nr=n)(l:cx.round=none)
 (m: ∀h' c e,St M h0 h' ((e,.loop {fn:=cx.fn,regs:=tab n ρ,nr:=n,params,assign,body,st:=0,pending:=none,defers:=c})::(c,.dfr)::L) G->h.n<=c->h.n<=e->Gr h h'->
   du E g (a.toList++[.func (.yield e) #[] #[]]++b.toList) none h' (RangeQ E cx Q k (LL n ρ (pR c::d) rc) e)):
 Run E (lim E) cx Q (.code (.rangeFunc f params assign body)::k) .normal (LL n ρ d rc) h:=by
 have i:St M h0 (h.new .dfr) ((h.n,.dfr)::L) G:=S.new (by show(h.new _).get h.n=_;rw [h.get_new _ S.ok,if_pos rfl])
 have p:=i.new (x:=.loop {fn:=cx.fn,regs:=tab n ρ,nr:=n,params,assign,body,st:=0,pending:=none,defers:=h.n}) (o:=.loop {fn:=cx.fn,regs:=tab n ρ,nr:=n,params,assign,body,st:=0,pending:=none,defers:=h.n})
  (by show(Hp.new _ _).get _=_;rw [Hp.get_new _ _ i.ok,if_pos rfl])
 exact Ae hf j (by rw [l];rfl) (m _ _ _ p (Xg _) (Nat.le_succ _) ((Gr.new S.ok _).trans (Gr.new i.ok _)))
end

section
variable(E:Env)(cx:Cx)(lb:Nat)(Q:Out->Hp->Prop)
def sW:eh
 | .normal,_,a=> ∃x,a.get lb=some (.loop x)/\Q (.ret (.bool true)) (a.put lb (.loop {x with st:=0,pending:=none}))
 | .exit id,_,a=> ∃x,a.get lb=some (.loop x)/\Q (.ret (.bool false)) (a.put lb (.loop {x with st:=2,pending:=some (.exit id)}))
 | .ret,_,a=> ∃x,a.get lb=some (.loop x)/\Q (.ret (.bool false)) (a.put lb (.loop {x with st:=2,pending:=some .ret}))
 | .pan v,b,a=>b.dfs=[]/\Q (.pan v) a
def vc(body:Code):eh
 | .normal,l,a=> ∃x,a.get lb=some (.loop x)/\x.st=0/\x.fn=cx.fn/\x.nr=cx.nr/\x.body=body/\Run E (lim E) cx (sW lb Q) [.code body] .normal l (a.put lb (.loop {x with st:=1}))
 |_,_,_=>False
end
def setPs(ρ:Nat->Value):List Tmp->List Value->Option (Nat->Value)
 | [],[]=>some ρ
 |t::a,v::b=>setPs (aa ρ t v) a b
 |_,_=>none
theorem qd{n:Nat}: ∀(ts:List Tmp) (vs:List Value) (ρ a:Nat->Value),setPs ρ ts vs=some a->mi (tab n ρ) ts vs=some (tab n a)
 | [],[],ρ,a,h=>by cases h;rfl
 | t::ts,v::vs,ρ,a,h=>by
   simp only [mi,tab_set]
   exact qd ts vs _ _ h
 | [],_::_,_,_,h=>by cases h
 |_::_,[],_,_,h=>by cases h
theorem rU{E:Env}{cx:Cx}{Q:eh}{c:Code}{l:Loc}{h:Hp}(a:Run E (lim E) cx Q [.code c] .normal l h): ∃e l' h',(lim E).code cx c l h=some (e,l',h')/\Q e l' h':=by
 obtain⟨e,l',h',b,d⟩:=a
 exact⟨e,l',h',by rw [uL];exact b,d⟩
theorem mw{E:Env}{f n:Nat}{args:List Value}{h:Hp}{Q:Out->Hp->Prop}{fn:FuncId}{ρ a:Nat->Value}{params:Array Tmp}{assign body:Code}{o:Nat}
 (g:h.get f=some (.loop {fn,regs:=tab n ρ,nr:=n,params,assign,body,st:=0,pending:=none,defers:=o})) (k:(E.fn fn).isSome=true) (p:setPs ρ params.toList args=some a)
 (q:Run E (lim E) ⟨fn,n,some f⟩ (vc E ⟨fn,n,some f⟩ f Q body) [.code assign] .normal (LL n a [] none) h):jI E f args h Q:=by
 obtain⟨e,l,z,r,j⟩:=rU q
 unfold jI iF
 rw [g]
 simp only [k,cond_true,qd _ _ _ _ p]
 rw [show Loc.mk (tab n a) [] none=LL n a [] none from rfl,r]
 cases e with
 |exit i=>exact j.elim
 |ret=>exact j.elim
 |pan v=>exact j.elim
 | normal=>
   obtain⟨x,s,t,A,B,C,u⟩:=j
   obtain⟨w,D,F,m,b⟩:=rU u
   simp only [s,t,m]
   cases w with
   |normal=>obtain⟨y,c,d⟩:=b;simp only [c];exact⟨_,_,rfl,d⟩
   |exit i=>obtain⟨y,c,d⟩:=b;simp only [c];exact⟨_,_,rfl,d⟩
   |ret=>obtain⟨y,c,d⟩:=b;simp only [c];exact⟨_,_,rfl,d⟩
   |pan v=>obtain⟨c,d⟩:=b;simp only [c];exact⟨_,_,rfl,d⟩
section
variable{E:Env}{cx:Cx}{lb:Nat}{Q:Out->Hp->Prop}{M:Nat->Prop}{h0 h:Hp}{L:List (Nat×Ob)}{G:List GL}{body:Code}{l:Loc}
theorem St.loopPut(S:St M h0 h L G){i:Nat}{X Y:gR}(a:L[i]? =some (lb,.loop X)):h.get lb=some (.loop X)/\St M h0 (h.put lb (.loop Y)) (L.set i (lb,.loop Y)) G:=by
 have b:h.get lb=some (.loop X):=(S.own _ (zN a)).2
 refine⟨b,S.put a ?_⟩
 show(h.put lb _).get lb=_
 rw [Hp.get_put,if_pos ⟨rfl,by rw [b];rfl⟩]
theorem kz(S:St M h0 h L G){i:Nat}{X:gR}(a:L[i]? =some (lb,.loop X))(b:X.st=0)(c:X.fn=cx.fn)(h3:X.nr=cx.nr)(h4:X.body=body)
 (d: ∀h',St M h0 h' (L.set i (lb,.loop {X with st:=1})) G->Run E (lim E) cx (sW lb Q) [.code body] .normal l h'):vc E cx lb Q body .normal l h:=by
 obtain⟨e,f⟩:=S.loopPut (Y:={X with st:=1}) a
 exact⟨X,e,b,c,h3,h4,d _ f⟩
theorem iu(S:St M h0 h L G){i:Nat}{X:gR}(a:L[i]? =some (lb,.loop X))(b: ∀h',St M h0 h' (L.set i (lb,.loop {X with st:=0,pending:=none})) G->Q (.ret (.bool true)) h'):sW lb Q .normal l h:=by
 obtain⟨c,d⟩:=S.loopPut (Y:={X with st:=0,pending:=none}) a
 exact⟨X,c,b _ d⟩
end

def Iter(E:Env)(g:FuncId)(d post:List Value)(h0:Hp)(D:Nat->Prop)(xs:List (List Value)):Prop:=
 ∀ (e:Nat) (J:Nat->Hp->List Nat->Prop) (Z:Out->Hp->Prop) (h:Hp) (F:List Nat),
   h.t.Sized h.n->h0.n<=h.n->(∀b,b<h0.n->D b->h.get b=h0.get b)->
   (∀i h F,J i h F->h.t.Sized h.n/\ ∀b∈F,b<h.n)->(∀i h F a,J i h F->Gr h a->J i a F)->(∀h a,Z (.ret (.bool false)) h->Gr h a->Z (.ret (.bool false)) a)->(∀b∈F,¬(b<h0.n/\D b))->
   (∀i x h F,xs[i]? =some x->J i h F->jI E e x h fun o a=>(o=.ret (.bool true)/\ ∃c,J (i+1) a c/\Mo (· ∈F) h a/\ ∀b∈c,b∈F\/h.n<=b)\/(o=.ret (.bool false)/\Z o a/\a.t.Sized a.n)\/((∃v,o=.pan v)/\Z o a))->
   J 0 h F->du E g (d++[.func (.yield e) #[] #[]]++post) none h fun o f a=>f=none/\((∃u c,o=.ret u/\J xs.length a c)\/(∃u,o=.ret u/\Z (.ret (.bool false)) a)\/(∃v,o=.pan v/\Z o a))
end Go.Ab

namespace Go.Ab

theorem load_len{h:Hp}{b o n:Nat}{l:List Value}(e:h.load b o n=some l):l.length=n:=by
 unfold Hp.load at e
 split at e
 next t c el d f=>
  cases a:Xb (o+n) c with
  |false=>rw [a]at e;cases e
  |true=>rw [a]at e;exact(Tr.slice_spec e).1
 next=>cases e
theorem nY{h:Hp}{b o n:Nat}{l:List Value}(e:h.load b o n=some l){i m:Nat}(p:i+m<=n):h.load b (o+i) m=some ((l.drop i).take m):=by
 unfold Hp.load at e⊢
 split at e
 next t c el q r=>
  cases a:Xb (o+n) c with
  |false=>rw [a]at e;cases e
  | true=>
    rw [a]at e
    have hle:=Xe a
    rw [zM (by omega:o+i+m<=c)]
    simp only [cond_true]at e⊢
    obtain⟨s,d⟩:=Tr.slice_spec e
    obtain⟨u,f⟩:=Tr.slice_mk (t:=t) (i:=o+i) (n:=m) (fun k g=>by
     have:=d (i+k) (by omega)
     rw [show o+i+k=o+(i+k) by omega,this]
     rw [List.getElem?_eq_getElem (by omega)];rfl)
    rw [f]
    obtain⟨v,j⟩:=Tr.slice_spec f
    congr 1
    refine Xq fun k=>?_
    rw [List.getElem?_take]
    split
    . rename_i g
      rw [<-j k g,List.getElem?_drop,<-d (i+k) (by omega)]
      congr 1
      omega
    . exact Xu (by omega)
 next=>cases e
theorem load_join{h:Hp}{b o n:Nat}{f:Nat->Value}(h0: ∃l,h.load b o 0=some l)(e: ∀i,i<n->h.load b (o+i) 1=some [f i]):h.load b o n=some ((List.range n).map f):=by
 unfold Hp.load at h0 e⊢
 cases c:h.get b with
 |none=>rw [c]at h0;obtain⟨l,h0⟩:=h0;cases h0
 |some m=>
 cases m with
 |dead=>rw [c]at h0;obtain⟨l,h0⟩:=h0;cases h0
 |map=>rw [c]at h0;obtain⟨l,h0⟩:=h0;cases h0
 |loop=>rw [c]at h0;obtain⟨l,h0⟩:=h0;cases h0
 |dfr=>rw [c]at h0;obtain⟨l,h0⟩:=h0;cases h0
 | cells t j el s=>
   rw [c]at h0
   simp only [c]at e
   simp only []at h0
   have hle:o+n<=j:=by
    cases n with
    | zero=>
      obtain⟨l,h0⟩:=h0
      cases g:Xb (o+0) j with
      |false=>rw [g]at h0;cases h0
      |true=>exact Xe g
    | succ n=>
      have:=e n (by omega)
      cases g:Xb (o+n+1) j with
      |false=>rw [g]at this;cases this
      |true=>have:=Xe g;omega
   have a: ∀i,i<n->t.get (o+i)=some (f i):=by
    intro i q
    have:=e i q
    rw [zM (by omega:o+i+1<=j)]at this
    have:=(Tr.slice_spec this).2 0 (by omega)
    simpa using this
   simp only []
   rw [zM hle]
   simp only [cond_true]
   obtain⟨l,p⟩:=Tr.slice_mk (t:=t) (i:=o) (n:=n) (fun k d=>by rw [a k d];rfl)
   rw [p]
   obtain⟨u,r⟩:=Tr.slice_spec p
   congr 1
   refine Xq fun k=>?_
   rw [Xd]
   rcases Xl k n with d|d
   . rw [<-r k d,a k d,List.getElem?_range d];rfl
   . rw [Xu (by omega),Xu (by simpa using d)];rfl

section
variable{α:Type}
theorem bw{k:Nat}{enc:α->List Value}(a: ∀x,(enc x).length=k)(xs:List α):(xs.flatMap enc).length=xs.length*k:=by
 induction xs with
 |nil=>simp
 |cons x xs b=>rw [XC,Xa,a,b,List.length_cons,Xo];omega
theorem As{k:Nat}{enc:α->List Value}(a: ∀x,(enc x).length=k)(xs:List α){i:Nat}(b:i<xs.length):((xs.flatMap enc).drop (i*k)).take k=enc xs[i]:=by
 induction xs generalizing i with
 |nil=>simp at b
 | cons x xs c=>
   cases i with
   |zero=>simp [XC,<-a x]
   | succ i=>
     rw [XC,Xo,Nat.add_comm,<-List.drop_drop]
     rw [show List.drop k (enc x++List.flatMap enc xs)=List.flatMap enc xs by rw [<-a x];exact List.drop_left]
     simpa using c (i:=i) (by simpa using b)
def az(h:Hp)(k:Nat)(enc:α->List Value)(v:Value)(xs:List α):Prop:=
 (v=.slice none 0 0/\xs=[])\/ ∃b o s c,v=.slice (some ⟨b,o,s⟩) xs.length c/\xs.length<=c/\h.load b o (xs.length*k)=some (xs.flatMap enc)
variable{h:Hp}{k:Nat}{enc:α->List Value}{v:Value}{xs:List α}
theorem az.gr{h':Hp}(g:Gr h h')(s:az h k enc v xs):az h' k enc v xs:=by
 rcases s with s|⟨b,o,s,c,a,d,e⟩
 . exact .inl s
 . exact .inr ⟨b,o,s,c,a,d,g.load e⟩
def ar:Value->Nat->Prop
 | .slice (some a) _ _,b=>a.block=b
 | .pointer (some a),b=>a.block=b
 |_,_=>False
theorem az.mo{M:Nat->Prop}{h':Hp}(g:Mo M h h')(s:az h k enc v xs)(e: ∀b,ar v b-> ¬M b):az h' k enc v xs:=by
 rcases s with s|⟨b,o,s,c,d,f,a⟩
 . exact .inl s
 . refine .inr ⟨b,o,s,c,d,f,?_⟩
   have:=g.get b (bD g.ok0 a) (e b (by rw [d];rfl))
   unfold Hp.load at a⊢
   rw [this];exact a
theorem az.lt(d:h.t.Sized h.n)(s:az h k enc v xs){b:Nat}(a:ar v b):b<h.n:=by
 rcases s with⟨rfl,_⟩|⟨e,o,s,c,rfl,g,f⟩
 . exact a.elim
 . have:e=b:=a
   subst this
   exact bD d f
theorem az.len{E:Env}{t e:TypeId}(s:az h k enc v xs)(a:E.und t=some (.slice e)):mI E t v=some (.int .i64 xs.length):=by
 rcases s with⟨rfl,rfl⟩|⟨b,o,s,c,rfl,d,f⟩<;>simp [mI,a]
theorem az.idx(s:az h k enc v xs)(d: ∀x,(enc x).length=k){i:Nat}(a:i<xs.length): ∃b o s' c,v=.slice (some ⟨b,o,s'⟩) xs.length c/\h.load b (o+i*k) k=some (enc xs[i]):=by
 rcases s with⟨rfl,rfl⟩|⟨b,o,s,c,rfl,f,e⟩
 . simp at a
 . refine⟨b,o,s,c,rfl,?_⟩
   have:i*k+k<=xs.length*k:=by rw [<-Xo];exact Xx _ a
   rw [nY e this,As d xs a]
theorem az.at{E:Env}{t e:TypeId}{kd:IntKind}(s:az h k enc v xs)(d: ∀x,(enc x).length=k)(f:E.und t=some (.slice e))(g:E.sz e=some k){i:Nat}(a:i<xs.length):
 ∃b o,dW E t v (.int kd i)=some (.pointer (some ⟨b,o,none⟩))/\h.load b o k=some (enc xs[i]):=by
 obtain⟨b,o,l,c,rfl,j⟩:=s.idx d a
 refine⟨b,o+i*k,?_,j⟩
 rw [ia_slice f g,hZ a]
 rfl
theorem az.src(s:az h k enc v xs):aP h k v=some (xs.length,xs.flatMap enc):=by
 rcases s with⟨rfl,rfl⟩|⟨b,o,s,c,rfl,e,a⟩
 . rfl
 . cases c with
   | zero=>
     have:xs.length=0:=by omega
     have d:xs=[]:=List.length_eq_zero_iff.1 this
     subst d
     simp only [aP,XI]at a⊢
     rw [a]
   | succ c=>
     simp only [aP]
     rw [a]
theorem eX.sl{vs:List Value}(g:eX h (v,k,vs))(d:vs=xs.flatMap enc)(e: ∀x,(enc x).length=k)(i:0<k):az h k enc v xs:=by
 rcases g with⟨c,a⟩|⟨b,n,c,a,f⟩
 . simp only []at c a
   refine .inl ⟨c,?_⟩
   rw [a]at d
   have:=bw e xs
   rw [<-d]at this
   cases xs with
   |nil=>rfl
   | cons x xs=>
     simp only [XI,List.length_cons,Xo]at this
     omega
 . simp only []at c a f
   have j:n=xs.length:=by
    rw [d,bw e]at a
    exact XA i a
   subst j
   refine .inr ⟨b,0,some k,xs.length,c,Xg _,?_⟩
   rw [f.load (by omega),a,XL,XG,d]
theorem eX.len{E:Env}{t e:TypeId}{vs:List Value}(g:eX h (v,k,vs))(i:0<k)(d:E.und t=some (.slice e)){n:Nat}(f:n*k=vs.length):mI E t v=some (.int .i64 n):=by
 rcases g with⟨a,c⟩|⟨b,m,a,c,j⟩
 . simp only []at a c
   subst a c
   have:n=0:=by
    cases n with
    |zero=>rfl
    |succ n=>simp only [XI,Xo]at f;omega
   subst this
   simp [mI,d]
 . simp only []at a c
   subst a
   have:m=n:=XA i (c.trans f.symm)
   subst this
   simp [mI,d]
end
def encI(kd:IntKind)(x:Int):List Value:=[.int kd x]
theorem eR(kd:IntKind)(x:Int):(encI kd x).length=1:=rfl
def agg1:Option (List Value)->Option Value
 |some l=>some (.agg ⟨l⟩)
 |none=>none
theorem agg1_some{l:List Value}:agg1 (some l)=some (.agg ⟨l⟩):=rfl
theorem loadV_agg{E:Env}{h:Hp}{t:TypeId}{b o n:Nat}{s:Option Nat}(a:E.agg t=some true)(c:E.sz t=some n):ee E h t (.pointer (some ⟨b,o,s⟩))=agg1 (h.load b o n):=by
 simp only [ee,a,c]
 cases h.load b o n<;>rfl

def isIface(E:Env)(t:TypeId):Bool:=match E.und t with
 |some (.interface _)=>true
 |_=>false
def ow(E:Env)(t:TypeId):Bool:=match E.und t with
 |some (.pointer _)=>true
 |_=>false
def jD(E:Env)(t:TypeId):Bool:=match E.und t with
 |some (.struct _)=>true
 |some (.int _)=>true
 |some (.pointer _)=>true
 |_=>false
section
variable{E:Env}{t:TypeId}{x y:Operand}
theorem oK(b:isIface E t=true): ∃a,E.und t=some (.interface a):=by
 unfold isIface at b;split at b<;>first|exact⟨_, ‹_›⟩|cases b
theorem rq(b:ow E t=true): ∃a,E.und t=some (.pointer a):=by
 unfold ow at b;split at b<;>first|exact⟨_, ‹_›⟩|cases b
theorem n_iface(b:isIface E t=true){u:TypeId}{v:Value}:bE E .neq t x y (.iface u v) .nilIface=some (.bool true):=by
 obtain⟨a,c⟩:=oK b
 simp [bE,eS,dI,c]
theorem n_nil(b:isIface E t=true){v:Value}:bE E .neq t x (.const v) .nilIface .nilIface=some (.bool false):=by
 obtain⟨a,c⟩:=oK b
 cases x<;>simp [bE,eS,dI,c]
theorem e_iface(b:isIface E t=true){u:TypeId}{v:Value}:bE E .eql t x y (.iface u v) .nilIface=some (.bool false):=by
 obtain⟨a,c⟩:=oK b
 simp [bE,eS,dI,c]
theorem e_nil(b:isIface E t=true){v:Value}:bE E .eql t x (.const v) .nilIface .nilIface=some (.bool true):=by
 obtain⟨a,c⟩:=oK b
 cases x<;>simp [bE,eS,dI,c]
theorem n_ptr(b:ow E t=true){a:Addr}:bE E .neq t x y (.pointer (some a)) (.pointer none)=some (.bool true):=by
 obtain⟨e,c⟩:=rq b
 simp [bE,eS,dI,c]
theorem e_ptr(b:ow E t=true){a:Addr}:bE E .eql t x y (.pointer (some a)) (.pointer none)=some (.bool false):=by
 obtain⟨e,c⟩:=rq b
 simp [bE,eS,dI,c]
theorem n_pnil(a:ow E t=true):bE E .neq t x y (.pointer none) (.pointer none)=some (.bool false):=by
 obtain⟨e,b⟩:=rq a
 simp [bE,eS,dI,b]
theorem e_pnil(a:ow E t=true):bE E .eql t x y (.pointer none) (.pointer none)=some (.bool true):=by
 obtain⟨e,b⟩:=rq a
 simp [bE,eS,dI,b]
theorem rQ(b:jD E t=true): ∃d,E.und t=some d/\ ∀a,d≠ .interface a:=by
 unfold jD at b
 split at b<;>first|exact⟨_, ‹_›,by intro a e;cases e⟩|cases b
theorem assert_is(a:jD E t=true){v:Value}:nw E (.iface t v) t true=some (.tuple #[v,.bool true]):=by
 obtain⟨d,b,c⟩:=rQ a
 unfold nw
 rw [b]
 cases d<;>first|exact absurd rfl (c _)|simp [ru]
theorem mk_iface(a:jD E t=true){v:Value}:(match E.und t with|none=>none|some (.interface _)=>none|some _=>some (Value.iface t v))=some (.iface t v):=by
 obtain⟨d,b,c⟩:=rQ a
 rw [b]
 cases d<;>first|exact absurd rfl (c _)|rfl
end

theorem o_recover{E:Env}{ρ:Operand->Value}{h:Hp}{as:Array Operand}{ts:Array TypeId}:aop E ρ h (.call ⟨.builtin .recover,as,ts⟩)=some (.recov,h):=rfl
theorem o_deferR{E:Env}{ρ:Operand->Value}{h:Hp}{f:Operand}{as:Array Operand}{ts:Array TypeId}:aop E ρ h (.defer ⟨.value f,as,ts⟩)=match ρ f with
 | .func (.func g) a b=>some (.defer {target:=.fn (.func g) b,args:=⟨a.toList++as.toList.map ρ⟩},h)
 |_=>none:=rfl
def panR(h:Hp):Value->Option (cS×Hp)
 | .iface t v=>some (.panic (.iface t v),h)
 |_=>none
theorem o_panicR{E:Env}{ρ:Operand->Value}{h:Hp}{x:Operand}:aop E ρ h (.panic x)=panR h (ρ x):=by
 simp only [aop,panR];cases ρ x<;>rfl
theorem zO{h:Hp}{t:TypeId}{v:Value}:panR h (.iface t v)=some (.panic (.iface t v),h):=rfl
section
variable{E:Env}{cx:Cx}{o:Oper}{K:Ex->Loc->Hp->Prop}{h:Hp}{n:Nat}{ρ:Nat->Value}{d:List Deferred}
theorem tA{v:Value}:eA E cx o (LL n ρ d (some (v,false))) K (some (.recov,h))↔cx.round=none/\K .normal ((LL n ρ d (some (v,true))).put o.dst v) h:=Xc
theorem tv:eA E cx o (LL n ρ d none) K (some (.recov,h))↔cx.round=none/\K .normal ((LL n ρ d none).put o.dst .nilIface) h:=Xc
theorem step_defer{a:Option (Value×Bool)}{x:Deferred}:eA E cx o (LL n ρ d a) K (some (.defer x,h))↔cx.round=none/\K .normal ((LL n ρ (x::d) a).put o.dst (.tuple #[])) h:=Xc
theorem dV{l:Loc}{f:FuncId}{args:List Value}{P:Out->Option (Value×Bool)->Hp->Prop}(e:du E f args none h P)(g: ∀x c h',P x c h'->match x with
 | .ret v=>K .normal (l.put o.dst v) h'
 | .pan v=>K (.pan v) l h'):eA E cx o l K (some (.call f args,h)):=by
 obtain⟨x,c,h',a,b⟩:=e
 exact⟨x,c,h',a,g x c h' b⟩
theorem tR{l:Loc}{b:Nat}{args:List Value}{P:Out->Hp->Prop}(c:jI E b args h P)(e: ∀x h',P x h'->match x with
 | .ret v=>K .normal (l.put o.dst v) h'
 | .pan v=>K (.pan v) l h'):eA E cx o l K (some (.yield b args,h)):=by
 obtain⟨x,h',a,b⟩:=c
 exact⟨x,h',a,e x h' b⟩
end
theorem xS{b:Nat}{args:List Value}:target (.func (.yield b) #[] #[]) args=some (.yield b args):=rfl
def UnQ(E:Env)(c:List Deferred)(m:Option Value)(h:Hp)(Q:Option Value->Hp->Prop):Prop:= ∃a b,bG (lim E) c m h=some (a,b)/\Q a b
section
variable{E:Env}{rs:List ResultVar}{Q:Out->Option (Value×Bool)->Hp->Prop}{n:Nat}{ρ:Nat->Value}{d:List Deferred}{rc:Option (Value×Bool)}{h:Hp}
theorem gW(a:UnQ E d none h fun m h'=>m=none/\ ∃vs,aQ E (tab n ρ) h' rs=some vs/\Q (.ret (ac vs)) rc h'):m9 E rs Q .ret (LL n ρ d rc) h:=by
 obtain⟨m,h',b,rfl,c⟩:=a
 exact⟨h',b,c⟩
theorem dT(a:UnQ E d none h fun m h'=>m=none/\ ∃vs,aQ E (tab n ρ) h' rs=some vs/\Q (.ret (ac vs)) rc h'):m9 E rs Q .normal (LL n ρ d rc) h:=gW a
theorem cZ{v:Value}(a:UnQ E d (some v) h fun m h'=>match m with
 |some v=>Q (.pan v) rc h'
 |none=> ∃vs,aQ E (tab n ρ) h' rs=some vs/\Q (.ret (ac vs)) rc h'):m9 E rs Q (.pan v) (LL n ρ d rc) h:=by
 obtain⟨m,h',b,c⟩:=a
 exact⟨m,h',b,c⟩
theorem cq{m:Option Value}{P:Option Value->Hp->Prop}(a:P m h):UnQ E [] m h P:=⟨m,h,rfl,a⟩
theorem un_dfr{b:Nat}{a:List Deferred}{m:Option Value}{P:Option Value->Hp->Prop}(c:h.get b=some .dfr)(e:UnQ E a m (h.put b .dead) P):UnQ E (pR b::a) m h P:=by
 obtain⟨f,g,i,j⟩:=e
 refine⟨f,g,?_,j⟩
 simp only [bG,pR,c]
 exact i
theorem un_fn{f:FuncId}{cap args:Array Value}{a:List Deferred}{P:Option Value->Hp->Prop}(b:du E f (args.toList++cap.toList) none h fun o rc h'=>(∃v,o=.ret v)/\rc=none/\UnQ E a none h' P):UnQ E ({target:=.fn (.func f) cap,args}::a) none h P:=by
 obtain⟨o,c,k,e,⟨v,rfl⟩,rfl,g,h',i,j⟩:=b
 refine⟨g,h',?_,j⟩
 simp only [bG,e]
 exact i
theorem vI{f:FuncId}{cap args:Array Value}{a:List Deferred}{v:Value}{P:Option Value->Hp->Prop}(e:du E f (args.toList++cap.toList) (some (v,false)) h fun o rc h'=>(∃u,o=.ret u)/\ ∃v' b,rc=some (v',b)/\UnQ E a (if b=true then none else some v') h' P):
 UnQ E ({target:=.fn (.func f) cap,args}::a) (some v) h P:=by
 obtain⟨o,g,l,i,⟨u,rfl⟩,v',b,rfl,j,h',c,k⟩:=e
 refine⟨j,h',?_,k⟩
 simp only [bG,i]
 cases b with
 |true=>exact c
 |false=>exact c
theorem jw{vs:List Value}(a:aQ E (tab n ρ) h rs=some vs)(hq:Q (.ret (ac vs)) rc h):m9 E rs Q .ret (LL n ρ [] rc) h:=gW (cq ⟨rfl,vs,a,hq⟩)
end
end Go.Ab

namespace Go.Ab
section
variable{M:Nat->Prop}{h0 h:Hp}{L:List (Nat×Ob)}{G:List GL}{E:Env}
theorem cB{t e:TypeId}{c k n:Nat}{d cs:List Value}{a:List (Nat×Value)}(f:E.und t=some (.slice e))(g:er E e c k d)(j:n*k<=16777216)
 (hf:ie (fun i=>some (i*k,k)) (bq d n) a=some cs):ol h (fun h=>cH (i9 E h t n a)) (fun b=>.slice (some ⟨b,0,none⟩) n n) (.row cs 1):=by
 obtain⟨⟨i,l,rfl,rfl⟩,m,o⟩:=g
 have p:E.sz e=some i.size:=by unfold Env.sz;rw [l]
 refine⟨.cells (Tr.ofList cs) cs.length e 1,fun x=>?_,fun q=>nI q _ _ _⟩
 simp only [i9,f,p,zM j,m,o,Xh,hf,cond_true]
 rfl
theorem St.clone(S:St M h0 h L G){t u e:TypeId}{g k m n md:Nat}{D new vs:List Value}{b:Nat}{x:Value}(N:E.und t=some (.slice e))(O:er E e g k D)(P:0<g)
 (v:dw E u=some false) (o:aP h k x=some (m,new)) (F:m*k=new.length) (H:n*k=vs.length) (I:0<k) (w:(vs.length+new.length)*(g+1)<=70368744177664) {ts:List TypeId}
 (Q:Row h b vs md):
 ∃ h' v',cM E h (t::u::ts) (.slice (some ⟨b,0,none⟩) n n) x=some (h',v')/\
   ((m=0/\h'=h/\v'=.slice (some ⟨b,0,none⟩) n n)\/ ∃J,v'=.slice (some ⟨J,0,some k⟩) (n+m) (n+m)/\St M h0 h' ((J,.row (vs++new) 1)::L) G):=by
 obtain⟨⟨i,R,rfl,rfl⟩,T,y⟩:=O
 have z:cM E h (t::u::ts) (.slice (some ⟨b,0,none⟩) n n) x=eB E h e i (some ⟨b,0,none⟩) n n m new:=by
  simp only [cM,v,iY,N,R,o]
 rw [z]
 by_cases K:m=0
 . subst K
   have:new=[]:=by
    cases new with
    |nil=>rfl
    |cons a l=>simp at F
   subst this
   refine⟨h,_,?_,.inl ⟨rfl,rfl,rfl⟩⟩
   unfold eB
   rw [zM (by omega:n+0<=n)]
   rfl
 . have p:Xb (n+m) n=false:=by
    cases v:Xb (n+m) n with
    |false=>rfl
    |true=>exact absurd (Xe v) (by omega)
   have q:n+m<=vs.length+new.length:=by
    rw [<-H,<-F]
    have K:=Xi n I
    have U:=Xi m I
    omega
   have c:(Xb ((n+m)*(i.bytes+1)) 70368744177664&&Xz 0 i.bytes)=true:=by
    rw [zM (XF (Xx _ q) w)]
    simp only [Bool.true_and]
    rw [XD];exact P
   have A:Xj D.length i.size=true:=by rw [y];exact Xh _
   have d:eB E h e i (some ⟨b,0,none⟩) n n m new=lV h e i.size (some ⟨b,0,none⟩) n m new:=by
    unfold eB
    rw [p]
    simp only [cond_false]
    rw [c,T]
    simp only [cond_true,A]
   rw [d]
   obtain⟨s,el,r,f,B⟩:=Q
   have C:iU s vs.length 0 (n*i.size) new=some (s.pushAll vs.length new,vs.length+new.length):=by
    unfold iU
    rw [H,Xh vs.length]
    rfl
   refine⟨h.new (.cells (s.pushAll vs.length new) (vs.length+new.length) e 1),.slice (some ⟨h.n,0,some i.size⟩) (n+m) (n+m),?_,.inr ⟨h.n,rfl,?_⟩⟩
   . unfold lV
     simp only [r,C]
   . refine S.new ⟨s.pushAll vs.length new,e,?_,?_,fun j=>?_⟩
     . rw [h.get_new _ S.ok,if_pos rfl,Xa]
     . rw [Xa];exact Tr.sized_pushAll _ f
     . rw [Tr.get_pushAll _ _ _ f,XM]
       split
       . exact B j
       . rfl
theorem St.cloneSl{α:Type}{enc:α->List Value}{xs ys:List α}(S:St M h0 h L G){t o e:TypeId}{d k md:Nat}{B:List Value}{b:Nat}{x:Value}(q:E.und t=some (.slice e))(j:er E e d k B)(r:0<d)
 (s:dw E o=some false) (u:az h k enc x ys) (a: ∀x,(enc x).length=k) (v:0<k) (f:((xs.length+ys.length)*k)*(d+1)<=70368744177664) {ts:List TypeId}
 (l:Row h b (xs.flatMap enc) md):
 ∃h' v',cM E h (t::o::ts) (.slice (some ⟨b,0,none⟩) xs.length xs.length) x=some (h',v')/\St M h0 h' L G/\Gr h h'/\az h' k enc v' (xs++ys)/\(∀c,ar v' c->c=b\/h.n<=c):=by
 obtain⟨h',v',w,C⟩:=S.clone q j r s u.src (bw a ys).symm (bw a xs).symm v (by rw [bw a,bw a,<-XJ];exact f) (ts:=ts) l
 refine⟨h',v',w,?_⟩
 rcases C with⟨y,rfl,rfl⟩|⟨m,rfl,g⟩
 . have D:ys=[]:=List.length_eq_zero_iff.1 y
   subst D
   refine⟨S,Gr.refl S.ok,.inr ⟨b,0,none,xs.length,by simp,by simp,?_⟩,fun c n=>.inl (Eq.symm n)⟩
   rw [List.append_nil,l.load (by rw [bw a];omega),XL,<-bw a xs,XG]
 . have F:St M h0 h' L G:=⟨g.fr,fun p H=>g.own p (Xv _ H),g.gown,(List.nodup_cons.1 g.apart).2⟩
   have i:Row h' m (xs.flatMap enc++ys.flatMap enc) 1:=g.row m0
   have T:=(St.init (M:=NoM) S.ok).clone q j r s u.src (bw a ys).symm (bw a xs).symm v (by rw [bw a,bw a,<-XJ];exact f) (ts:=ts) l
   obtain⟨I,J,z,K⟩:=T
   rw [w]at z
   cases z
   rcases K with⟨y,_,j⟩|⟨O,N,A⟩
   . exact absurd j (by intro e;cases e)
   . cases N
     refine⟨F,A.gr,.inr ⟨m,0,some k,xs.length+ys.length,by rw [Xa],by rw [Xa];exact Xg _,?_⟩,fun c n=>?_⟩
     . rw [i.load (by rw [Xa,Xa,bw a,bw a,XJ];omega),XL,<-List.flatMap_append,<-bw a (xs++ys),XG]
     . right
       have:m=c:=n
       subst this
       rcases(A.own _ m0).1 with h|h
       . exact h
       . exact h.elim
end
end Go.Ab

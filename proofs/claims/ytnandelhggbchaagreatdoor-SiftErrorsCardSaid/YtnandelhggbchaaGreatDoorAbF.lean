/- A deterministic evaluator of the model's code, and that the model follows it (part 6). -/
import Derived.Test.YtnandelhggbchaaGreatDoorAbE
import Derived.WalkKit
import Derived.ProofKit
import Derived.OpenShut
import Derived.Carry
open Nat renaming ble_eq_true_of_le->zM,ble->Xb,le_of_ble_eq_true->Xe,le_refl->Xg,beq_refl->Xh,le_mul_of_pos_right->Xi,beq->Xj,lt_or_ge->Xl,succ_mul->Xo,mul_le_mul_right->Xx,blt->Xz,eq_of_mul_eq_mul_right->XA,blt_eq->XD,le_trans->XF,add_mul->XJ,eq_of_beq_eq_true->XK
open List renaming mem_of_getElem?->zO,length_append->Xa,getElem?_map->Xd,replicate->Xk,mem_append_right->Xm,filterMap_cons_some->Xp,ext_getElem?->Xq,length_replicate->Xs,filterMap_append->Xt,getElem?_eq_none->Xu,mem_cons_of_mem->Xv,mem_append_left->Xw,filterMap_cons->Xy,getElem?_set->XB,flatMap_cons->XC,getElem?_append_left->XE,take_length->XG,getElem?_replicate->XH,length_nil->XI,drop_zero->XL,getElem?_append->XM,mem_map_of_mem->XN
open Iff renaming rfl->Xc
open Array renaming getElem?_eq_getElem->Xf
open Bool renaming and_eq_true->Xn
open Option renaming map_eq_some_iff->Xr
set_option maxHeartbeats 400000
set_option linter.defProp false
set_option linter.unusedVariables false
set_option linter.unusedSimpArgs false
namespace Go.Ab
noncomputable section
abbrev Opt:=Option (Ex×Loc×Hp)

def getK{α:Type}(t:Tr α):Nat->Option α:=Tr.rec (motive:=fun _=>Nat->Option α) (fun _=>none)
 (fun x _ _ a b i=>Nat.rec (some x) (fun n _=>Bool.rec (b (n/2)) (a (n/2)) (Xj (n%2) 0)) i) t
def setK{α:Type}(t:Tr α):Nat->α->Tr α:=Tr.rec (motive:=fun _=>Nat->α->Tr α) (fun _ _=>.nil)
 (fun y l r a b i x=>Nat.rec (.node x l r) (fun n _=>Bool.rec (.node y l (b (n/2) x)) (.node y (a (n/2) x) r) (Xj (n%2) 0)) i) t
def fq(l:Loc)(d:Option Tmp)(v:Value):Loc:=Option.rec l (fun t=>Loc.mk (setK l.regs t v) l.dfs l.rc) d
def evK(l:Loc)(x:Operand):Value:=Operand.rec (motive:=fun _=>Loc->Value) (fun t l=>Option.rec (.tuple #[]) (fun v=>v) (getK l.regs t)) (fun v _=>Bool.rec poison v (cJ v))
 (fun g _=>Bool.rec poison (.pointer (some ⟨g,0,none⟩)) (Xz g 16)) (fun f _=>.func (.func f) #[] #[]) x l
def exK(e:Ex):(Loc->Hp->Opt)->(Ex->Loc->Hp->Opt)->Loc->Hp->Opt:=Ex.rec (motive:=fun _=>(Loc->Hp->Opt)->(Ex->Loc->Hp->Opt)->Loc->Hp->Opt)
 (fun b _ l h=>b l h) (fun id _ a l h=>a (.exit id) l h) (fun _ a l h=>a .ret l h) (fun v _ a l h=>a (.pan v) l h) e
def dr(x:Opt)(a:Loc->Hp->Opt)(b:Ex->Loc->Hp->Opt):Opt:=Option.rec none (fun q=>Prod.rec (fun e c=>Prod.rec (fun l h=>exK e a b l h) c) q) x
def asInt:Value->Option (IntKind×Int)
 | .int k n=>some (k,n)
 |_=>none
abbrev BM:=IntKind->Int->IntKind->Int->Option Value->Option Value
def arK(f:IntKind->Int->Int->Option Value):BM:=fun k m a n _=>Bool.rec none (f k m n) (iU k a)
def binI(op:BinOp):BM:=BinOp.rec (motive:=fun _=>BM)
 (add:=arK fun k x y=>some (.int k (an k (x+y)))) (sub:=arK fun k x y=>some (.int k (an k (x-y)))) (mul:=arK fun k x y=>some (.int k (an k (x*y))))
 (quo:=fun _ _ _ _ s=>s) (rem:=fun _ _ _ _ s=>s) (and:=fun _ _ _ _ s=>s) (or:=fun _ _ _ _ s=>s) (xor:=fun _ _ _ _ s=>s) (andNot:=fun _ _ _ _ s=>s) (shl:=fun _ _ _ _ s=>s) (shr:=fun _ _ _ _ s=>s)
 (eql:=arK fun _ x y=>some (.bool (gV x y))) (neq:=arK fun _ x y=>some (.bool (!gV x y))) (lss:=arK fun _ x y=>some (.bool (lE x y))) (leq:=arK fun _ x y=>some (.bool (!lE y x)))
 (gtr:=arK fun _ x y=>some (.bool (lE y x))) (geq:=arK fun _ x y=>some (.bool (!lE x y))) op
def binK(E:Env)(op:BinOp)(t:TypeId)(x y:Operand)(a b:Value):Option Value:=
 Option.rec (a9 E op t x y a b) (fun p=>Option.rec (a9 E op t x y a b) (fun q=>binI op p.1 p.2 q.1 q.2 (a9 E op t x y a b)) (asInt b)) (asInt a)
abbrev OpM:=Env->Rec->Cx->Option Tmp->Loc->Hp->(Loc->Hp->Opt)->(Ex->Loc->Hp->Opt)->Opt
def ju(r:Option Value)(d:Option Tmp)(l:Loc)(h:Hp)(a:Loc->Hp->Opt):Opt:=Option.rec none (fun v=>a (fq l d v) h) r
def retHK(r:Option (Hp×Value))(d:Option Tmp)(l:Loc)(a:Loc->Hp->Opt):Opt:=Option.rec none (fun p=>Prod.rec (fun h v=>a (fq l d v) h) p) r
def su(r:Option Hp)(d:Option Tmp)(l:Loc)(a:Loc->Hp->Opt):Opt:=Option.rec none (fun h=>a (fq l d (.tuple #[])) h) r
def cR(op:Op):OpM:=fun E R a d l h b c=>dr (dH E R a ⟨d,op,0,"",#[],none⟩ l h) b c
def outK(o:Out):Option Tmp->Loc->Hp->(Loc->Hp->Opt)->(Ex->Loc->Hp->Opt)->Opt:=Out.rec (motive:=fun _=>Option Tmp->Loc->Hp->(Loc->Hp->Opt)->(Ex->Loc->Hp->Opt)->Opt)
 (fun v d l h a _=>a (fq l d v) h) (fun v _ l h _ b=>b (.pan v) l h) o
def resK(r:Option (Out×Option (Value×Bool)×Hp))(d:Option Tmp)(l:Loc)(a:Loc->Hp->Opt)(b:Ex->Loc->Hp->Opt):Opt:=Option.rec none (fun q=>Prod.rec (fun o c=>Prod.rec (fun _ h=>outK o d l h a b) c) q) r
def asFn:Value->Option (FuncId×Array Value×Array Value)
 | .func (.func g) a b=>some (g,a,b)
 |_=>none
def callK(c:Call):OpM:=fun E R e d l h a b=>Callee.rec (motive:=fun _=>Opt)
 (fun f=>Option.rec (cR (.call c) E R e d l h a b) (fun p=>resK (R.call p.1 (p.2.1.toList++c.args.toList.map (evK l)++p.2.2.toList) none h) d l a b) (asFn (evK l f)))
 (fun _ _=>cR (.call c) E R e d l h a b) (fun _=>cR (.call c) E R e d l h a b) c.callee
def opK(op:Op):OpM:=Op.rec (motive:=fun _=>OpM)
 (move:=fun x _ _ _ d l h j _=>j (fq l d (evK l x)) h)
 (assign:=fun x _ _ _ d l h j _=>j (fq l d (evK l x)) h)
 (pick:=fun c a b=>cR (.pick c a b))
 (alloc:=fun e=>cR (.alloc e))
 (box:=fun e v=>cR (.box e v))
 (build:=fun t p=>cR (.build t p))
 (buildSlice:=fun t n p=>cR (.buildSlice t n p))
 (insert:=fun t m k v=>cR (.insert t m k v))
 (load:=fun t a E _ _ d l h j _=>ju (eu E h t (evK l a)) d l h j)
 (store:=fun t a v E _ _ d l h j _=>su (ie E h t (evK l a) (evK l v)) d l j)
 (ready:=fun g=>cR (.ready g))
 (waits:=fun g=>cR (.waits g))
 (nilCheck:=fun x=>cR (.nilCheck x))
 (binOp:=fun op t x y u E _ _ d l h j _=>ju (binK E op t x y (evK l x) (evK l y)) d l h j)
 (unOp:=fun op t x E _ _ d l h j _=>ju (unP op (evK l x)) d l h j)
 (convert:=fun s t x=>cR (.convert s t x))
 (sliceToArrayPointer:=fun t x=>cR (.sliceToArrayPointer t x))
 (makeInterface:=fun t x=>cR (.makeInterface t x))
 (makeFunc:=fun f a b=>cR (.makeFunc f a b))
 (makeMap:=fun t r=>cR (.makeMap t r))
 (makeChan:=fun t s=>cR (.makeChan t s))
 (makeSlice:=fun t a c=>cR (.makeSlice t a c))
 (slice:=fun t x a b c=>cR (.slice t x a b c))
 (fieldAddr:=fun s x i E _ _ d l h j _=>ju (au E s (evK l x) i) d l h j)
 (field:=fun t x i E _ _ d l h j _=>ju (aN E t (evK l x) i) d l h j)
 (indexAddr:=fun t x i E _ _ d l h j _=>ju (ee E t (evK l x) (evK l i)) d l h j)
 (index:=fun t x i E _ _ d l h j _=>ju (m9 E t (evK l x) (evK l i)) d l h j)
 (lookup:=fun t m k o E _ _ d l h j _=>ju (cZ E h t (evK l m) (evK l k) o) d l h j)
 (mapUpdate:=fun t m k v E _ _ d l h j _=>su (du E h t (evK l m) (evK l k) (evK l v)) d l j)
 (mapEntry:=fun t m k E _ _ d l h j _=>retHK (jb E h t (evK l m) (evK l k)) d l j)
 (entryStore:=fun t m s v=>cR (.entryStore t m s v))
 (range:=fun t x=>cR (.range t x))
 (next:=fun i s=>cR (.next i s))
 (entry:=fun i=>cR (.entry i))
 (typeAssert:=fun x s t o=>cR (.typeAssert x s t o))
 (extract:=fun t i=>cR (.extract t i))
 (call:=fun c=>callK c)
 (go:=fun c=>cR (.go c))
 (defer:=fun c=>cR (.defer c))
 (panic:=fun x=>cR (.panic x))
 (send:=fun c x=>cR (.send c x))
 (recv:=fun t c o=>cR (.recv t c o))
 (select:=fun q b=>cR (.select q b)) op
def pQ(ops:List Oper)(l:Loc)(o:Oper):Option Bool:=Option.rec (some true) (fun _=>bQ ops l.regs o) o.guard
def opsK(E:Env)(R:Rec)(cx:Cx)(ops:List Oper)(c:Loc->Hp->Opt)(d:Ex->Loc->Hp->Opt)(os:List Oper):Loc->Hp->Opt:=List.rec (motive:=fun _=>Loc->Hp->Opt) c
 (fun o _ a l h=>Option.rec none (fun b=>Bool.rec (a (fq l o.dst (.tuple #[])) h) (opK o.op E R cx o.dst l h a d) b) (pQ ops l o)) os
def pR(op:Op):Bool:=Op.rec (motive:=fun _=>Bool)
 (move:=fun _=>true) (assign:=fun _=>true) (pick:=fun _ _ _=>false) (alloc:=fun _=>false) (box:=fun _ _=>false) (build:=fun _ _=>false) (buildSlice:=fun _ _ _=>false)
 (insert:=fun _ _ _ _=>false) (load:=fun _ _=>true) (store:=fun _ _ _=>true) (ready:=fun _=>false) (waits:=fun _=>false) (nilCheck:=fun _=>false) (binOp:=fun _ _ _ _ _=>true)
 (unOp:=fun _ _ _=>true) (convert:=fun _ _ _=>false) (sliceToArrayPointer:=fun _ _=>false) (makeInterface:=fun _ _=>false) (makeFunc:=fun _ _ _=>false) (makeMap:=fun _ _=>false)
 (makeChan:=fun _ _=>false) (makeSlice:=fun _ _ _=>false) (slice:=fun _ _ _ _ _=>false) (fieldAddr:=fun _ _ _=>true) (field:=fun _ _ _=>true) (indexAddr:=fun _ _ _=>true) (index:=fun _ _ _=>true)
 (lookup:=fun _ _ _ _=>true) (mapUpdate:=fun _ _ _ _=>true) (mapEntry:=fun _ _ _=>true) (entryStore:=fun _ _ _ _=>false) (range:=fun _ _=>false) (next:=fun _ _=>false) (entry:=fun _=>false)
 (typeAssert:=fun _ _ _ _=>false) (extract:=fun _ _=>false) (call:=fun _=>false) (go:=fun _=>false) (defer:=fun _=>false) (panic:=fun _=>false) (send:=fun _ _=>false) (recv:=fun _ _ _=>false)
 (select:=fun _ _=>false) op
def qJ(E:Env)(q i:Nat)(op:Op):Bool:=Bool.rec (Bool.rec false (Xb 3 (cls E op)) (Nat.testBit q i)) false (Xj q 0)
def outDK(o:Out):(Value->Hp->Opt)->Hp->Opt:=Out.rec (motive:=fun _=>(Value->Hp->Opt)->Hp->Opt) (fun v k h=>k v h) (fun _ _ _=>none) o
def resDK(r:Option (Out×Option (Value×Bool)×Hp))(k:Value->Hp->Opt):Opt:=Option.rec none (fun q=>Prod.rec (fun o a=>Prod.rec (fun _ h=>outDK o k h) a) q) r
def jZ(E:Env)(R:Rec)(a:Bool)(o:Oper)(l:Loc)(h:Hp)(k:Value->Hp->Opt):Opt:=Option.rec none (fun p=>k p.1 p.2) (cE E R l.ev a o h)
def uR(h:Hp)(k:Value->Hp->Opt)(v:Value)(a:Hp):Opt:=Bool.rec none (k v {a with lo:=h.lo}) (Xb h.n a.lo)
def callDK(E:Env)(R:Rec)(a:Bool)(o:Oper)(c:Call)(l:Loc)(h:Hp)(k:Value->Hp->Opt):Opt:=Callee.rec (motive:=fun _=>Opt)
 (fun f=>Option.rec (jZ E R a o l h k) (fun p=>Bool.rec (resDK (R.call p.1 (p.2.1.toList++c.args.toList.map (evK l)++p.2.2.toList) none h) k)
   (resDK (R.call p.1 (p.2.1.toList++c.args.toList.map (evK l)++p.2.2.toList) none {h with lo:=h.n}) (uR h k)) a) (asFn (evK l f)))
 (fun _ _=>jZ E R a o l h k) (fun _=>jZ E R a o l h k) c.callee
def asCall(op:Op):Option Call:=match op with
 | .call c=>some c
 |_=>none
def uF(E:Env)(R:Rec)(a:Bool)(o:Oper)(l:Loc)(h:Hp)(k:Value->Hp->Opt):Opt:=Option.rec (jZ E R a o l h k) (fun c=>callDK E R a o c l h k) (asCall o.op)
def uy(l:Loc)(op:Op):Option Tch:=match touch (l.evD (tmpsOf op.operands.toList)) op with
 |none=>none
 |some b=>some (.blk b)
abbrev DM:=Nat->Loc->Hp->List (Nat×Tch)->Opt
def vj (E:Env) (R:Rec) (cx:Cx) (q:Nat) (o:Oper) (b:DM) (i:Nat) (l:Loc) (h:Hp) (c:List (Nat×Tch)):Opt:=
 Bool.rec (uF E R (qJ E q i o.op) o l h fun v a=>b (i+1) (fq l o.dst v) a (fN i c (cy (l.evD (tmpsOf o.op.operands.toList)) (qJ E q i o.op) o.op h a)))
  (Bool.rec (opK o.op E R cx o.dst l h (fun d a=>b (i+1) d a (fN i c (uy l o.op))) (fun _ _ _=>none))
    (jZ E R true o l h fun v a=>b (i+1) (fq l o.dst v) a (fN i c (uy l o.op))) (qJ E q i o.op)) (pR o.op)
def nT(E:Env)(R:Rec)(cx:Cx)(ops:List Oper)(q:Nat)(a:DM)(os:List Oper):DM:=List.rec (motive:=fun _=>DM) a
 (fun o _ c i l h d=>Option.rec none (fun b=>Bool.rec (c (i+1) (fq l o.dst (.tuple #[])) h d) (vj E R cx q o c i l h d) b) (pQ ops l o)) os
def drawKo(E:Env)(R:Rec)(cx:Cx)(ops:List Oper)(l:Loc)(h:Hp)(a:Loc->Hp->Opt):Opt:=
 Option.rec none (fun p=>nT E R cx ops p.1 (fun _ l h b=>Bool.rec none (a l h) (cm b p.2)) ops 0 l h []) (jH E ops)
def drawK(E:Env)(R:Rec)(cx:Cx)(ops:List Oper)(l:Loc)(h:Hp)(a:Loc->Hp->Opt):Opt:=drawKo E R cx (bF ops) l h a

abbrev CodeM:=Cx->Code->Loc->Hp->(Loc->Hp->Opt)->(Ex->Loc->Hp->Opt)->Opt
def asBool:Value->Option Bool
 | .bool b=>some b
 |_=>none
def blkK(e:Ex):Nat->(Loc->Hp->Opt)->(Ex->Loc->Hp->Opt)->Loc->Hp->Opt:=Ex.rec (motive:=fun _=>Nat->(Loc->Hp->Opt)->(Ex->Loc->Hp->Opt)->Loc->Hp->Opt)
 (fun _ b _ l h=>b l h) (fun i id b a l h=>Bool.rec (a (.exit i) l h) (b l h) (Xj i id)) (fun _ _ a l h=>a .ret l h) (fun v _ _ a l h=>a (.pan v) l h) e
def my(E:Env)(R:Rec)(M:CodeM)(cx:Cx)(c:Code):Loc->Hp->(Loc->Hp->Opt)->(Ex->Loc->Hp->Opt)->Opt:=Code.rec (motive:=fun _=>Loc->Hp->(Loc->Hp->Opt)->(Ex->Loc->Hp->Opt)->Opt)
 (skip:=fun l h a _=>a l h)
 (region:=fun _ g k l h a d=>Bool.rec (opsK E R cx g.toList a d g.toList l h) (Bool.rec (drawK E R cx g.toList l h a) (dr (cutD E R cx g.toList l h) a d) (E.cut cx.fn)) k)
 (seq:=fun _ _ i j l h a d=>i l h (fun l h=>j l h a d) d)
 (cond:=fun c _ _ i j l h a d=>Option.rec none (fun t=>Bool.rec (j l h a d) (i l h a d) t) (asBool (evK l c)))
 (block:=fun id _ m l h a d=>m l h a (fun e l h=>blkK e id a d l h))
 (loop:=fun b m l h a d=>m l h (fun l h=>M cx (.loop b) l h a d) d)
 (rangeFunc:=fun f p o n _ _ l h a d=>dr (ic R cx (evK l f) p o n l h) a d)
 (exit:=fun id l h _ d=>d (.exit id) l h)
 (scope:=fun _ m l h a d=>m l h a d)
 (label:=fun _ l h a _=>a l h)
 (goto:=fun _ _ _ _ _=>none)
 (ret:=fun l h _ d=>d .ret l h)
 (refuse:=fun _ _ _ _ _=>none) c
abbrev ni:=Option (Out×Option (Value×Bool)×Hp)
def tO(E:Env)(R:Rec)(b:Func)(l:Loc)(c:Hp):ni:=match bR R l.dfs none c with
 | some (none,a)=>match aU E l.regs a b.results.toList with
   |none=>none
   |some d=>some (.ret (ab d),l.rc,a)
 |_=>none
def doneK(E:Env)(R:Rec)(a:Func)(l:Loc)(h:Hp):ni:=List.rec (motive:=fun _=>ni)
 (Option.rec none (fun b=>some (.ret (ab b),l.rc,h)) (aU E l.regs h a.results.toList)) (fun _ _ _=>tO E R a l h) l.dfs
def slowPan(E:Env)(R:Rec)(b:Func)(v:Value)(l:Loc)(c:Hp):ni:=match bR R l.dfs (some v) c with
 |none=>none
 |some (some v,a)=>some (.pan v,l.rc,a)
 | some (none,a)=>match aU E l.regs a b.results.toList with
   |none=>none
   |some d=>some (.ret (ab d),l.rc,a)
def exLeave(e:Ex):Env->Rec->Func->Loc->Hp->ni:=Ex.rec (motive:=fun _=>Env->Rec->Func->Loc->Hp->ni) doneK (fun _ _ _ _ _ _=>none) doneK (fun v E R a l h=>slowPan E R a v l h) e
def leaveK(E:Env)(R:Rec)(a:Func)(r:Opt):ni:=Option.rec none (fun q=>Prod.rec (fun e b=>Prod.rec (fun l h=>exLeave e E R a l h) b) q) r
def um(E:Env)(R:Rec)(f:FuncId)(args:List Value)(b:Option (Value×Bool))(h:Hp)(a:Func)(body:Code):ni:=
 Bool.rec none (leaveK E R a (R.code ⟨f,a.ntmps,none⟩ body ⟨(Tr.blank (.tuple #[]) a.ntmps a.ntmps).setAll 0 args,[],b⟩ h)) (Xb args.length a.ntmps)
def callBK(E:Env)(R:Rec)(f:FuncId)(args:List Value)(c:Option (Value×Bool))(h:Hp):ni:=
 Option.rec none (fun b=>Option.rec none (fun a=>um E R f args c h b a) b.body) (E.fn f)
def uZ(E:Env)(R:Rec)(f:FuncId)(args:List Value)(a:Option (Value×Bool))(h:Hp):ni:=
 Option.rec (callBK E R f args a h) (fun v=>Option.rec (some (.ret v,none,h)) (fun _=>none) a) (E.orc f args)
structure RK where
 call:FuncId->List Value->Option (Value×Bool)->Hp->ni
 code:CodeM
def RK.rec'(K:RK):Rec:=⟨K.call,fun a c l h=>K.code a c l h (fun l h=>some (.normal,l,h)) (fun e l h=>some (e,l,h))⟩
def botK:RK:=⟨fun _ _ _ _=>none,fun _ _ _ _ _ _=>none⟩
def nextRK(E:Env)(K:RK):RK:=⟨fun f a b h=>uZ E K.rec' f a b h,fun d c l h e g=>my E K.rec' K.code d c l h e g⟩
def runK(E:Env)(n:Nat):RK:=Nat.rec botK (fun _ K=>nextRK E K) n
def envK(a:Tr Func)(b:Tr TypeInfo)(c:List Nat):Env:={fn:=fun f=>getK a f,ty:=fun t=>getK b t,eqok:=fun t=>lK t c}
end
end Go.Ab

namespace Go.Ab
noncomputable section
theorem getK_eq{α:Type}(t:Tr α)(i:Nat):getK t i=t.get i:=rfl
theorem setK_eq{α:Type}(t:Tr α)(i:Nat)(x:α):setK t i x=t.set i x:=rfl

theorem lI(l:Loc)(d:Option Tmp)(v:Value):fq l d v=l.put d v:=by
 cases d with
 |none=>rfl
 |some t=>show Loc.mk (setK l.regs t v) l.dfs l.rc=_;rw [setK_eq];rfl
theorem fh(l:Loc):evK l=l.ev:=by
 funext x
 cases x with
 | tmp t=>
   show Option.rec (motive:=fun _=>Value) _ _ (getK l.regs t)=_
   rw [getK_eq]
   simp only [Loc.ev]
   cases l.regs.get t<;>rfl
 |const v=>simp only [Loc.ev];show Bool.rec (motive:=fun _=>Value) poison v (cJ v)=_;cases cJ v<;>rfl
 |global g=>simp only [Loc.ev];show Bool.rec (motive:=fun _=>Value) poison _ (Xz g 16)=_;cases Xz g 16<;>rfl
 |func f=>rfl

theorem bind2_id(x:Opt):dr x (fun l h=>some (.normal,l,h)) (fun e l h=>some (e,l,h))=x:=by
 cases x with
 |none=>rfl
 |some q=>obtain⟨e,l,h⟩:=q;cases e<;>rfl
theorem qL(x:Opt)(c:Loc->Hp->Opt)(a1:Ex->Loc->Hp->Opt)(d:Loc->Hp->Opt)(a:Ex->Loc->Hp->Opt)(b: ∀e l h,e≠ .normal->a1 e l h=a e l h):
 dr x (fun l h=>dr (c l h) d a) a1=dr (match x with
  |some (.normal,l,h)=>c l h
  |r=>r) d a:=by
 cases x with
 |none=>rfl
 | some q=>
   obtain⟨e,l,h⟩:=q
   cases e with
   |normal=>rfl
   |exit i=>exact b _ _ _ (by simp)
   |ret=>exact b _ _ _ (by simp)
   |pan v=>exact b _ _ _ (by simp)

theorem binK_eq(E:Env)(op:BinOp)(t:TypeId)(x y:Operand)(a b:Value):binK E op t x y a b=a9 E op t x y a b:=by
 cases a<;>(try rfl)
 cases b<;>(try rfl)
 rename_i k m c n
 cases op<;>(try rfl)
 all_goals (show Bool.rec (motive:=fun _=>Option Value) none _ (iU k c)=(bif iU k c then _ else none);cases iU k c<;>rfl)

theorem retK_eq(r:Option Value)(o:Oper)(l:Loc)(h:Hp)(E:Env)(R:Rec)(a:Loc->Hp->Opt)(b:Ex->Loc->Hp->Opt):ju r o.dst l h a=dr (mD o l (cI E R (cw h r))) a b:=by
 cases r with
 |none=>rfl
 |some v=>show a (fq l o.dst v) h=a (l.put o.dst v) h;rw [lI]
theorem retHK_eq(r:Option (Hp×Value))(o:Oper)(l:Loc)(E:Env)(R:Rec)(a:Loc->Hp->Opt)(b:Ex->Loc->Hp->Opt):retHK r o.dst l a=dr (mD o l (cI E R (cM r))) a b:=by
 cases r with
 |none=>rfl
 |some p=>obtain⟨h,v⟩:=p;show a (fq l o.dst v) h=a (l.put o.dst v) h;rw [lI]
theorem retUK_eq(r:Option Hp)(o:Oper)(l:Loc)(E:Env)(R:Rec)(a:Loc->Hp->Opt)(b:Ex->Loc->Hp->Opt):su r o.dst l a=dr (mD o l (cI E R (ef r))) a b:=by
 cases r with
 |none=>rfl
 |some h=>show a (fq l o.dst (.tuple #[])) h=a (l.put o.dst (.tuple #[])) h;rw [lI]
theorem resK_eq(R:Rec)(g:FuncId)(args:List Value)(o:Oper)(l:Loc)(h:Hp)(E:Env)(a:Loc->Hp->Opt)(b:Ex->Loc->Hp->Opt):
 resK (R.call g args none h) o.dst l a b=dr (mD o l (cI E R (some (.call g args,h)))) a b:=by
 simp only [cI]
 cases R.call g args none h with
 |none=>rfl
 | some q=>
   obtain⟨x,d,c⟩:=q
   cases x with
   |ret v=>show a (fq l o.dst v) c=a (l.put o.dst v) c;rw [lI]
   |pan v=>rfl
theorem kV{E:Env}{R:Rec}{cx:Cx}{o:Oper}{l:Loc}{h:Hp}{x:Option (c6×Hp)}(b:aop E l.ev h o.op=x)(c: ∀a,x≠some (.recov,a))(e: ∀d a,x≠some (.defer d,a)):dH E R cx o l h=mD o l (cI E R x):=by
 unfold dH
 rw [b]
 split
 . exact absurd rfl (c _)
 . exact absurd rfl (e _ _)
 . rfl
theorem tw{h:Hp}{r:Option Value}:(∀a,cw h r≠some (.recov,a))/\ ∀d a,cw h r≠some (.defer d,a):=by cases r<;>exact⟨by intros;simp [cw],by intros;simp [cw]⟩
theorem tE{r:Option (Hp×Value)}:(∀a,cM r≠some (.recov,a))/\ ∀d a,cM r≠some (.defer d,a):=by cases r<;>exact⟨by intros;simp [cM],by intros;simp [cM]⟩
theorem tF{r:Option Hp}:(∀a,ef r≠some (.recov,a))/\ ∀d a,ef r≠some (.defer d,a):=by cases r<;>exact⟨by intros;simp [ef],by intros;simp [ef]⟩
theorem opK_eq(E:Env)(R:Rec)(cx:Cx)(o:Oper)(l:Loc)(h:Hp)(q:Loc->Hp->Opt)(s:Ex->Loc->Hp->Opt):opK o.op E R cx o.dst l h q s=dr (dH E R cx o l h) q s:=by
 have w: ∀r,aop E l.ev h o.op=cw h r->ju r o.dst l h q=dr (dH E R cx o l h) q s:=fun r A=>by rw [kV A tw.1 tw.2];exact retK_eq r o l h E R q s
 have B: ∀r,aop E l.ev h o.op=cM r->retHK r o.dst l q=dr (dH E R cx o l h) q s:=fun r A=>by rw [kV A tE.1 tE.2];exact retHK_eq r o l E R q s
 have C: ∀r,aop E l.ev h o.op=ef r->su r o.dst l q=dr (dH E R cx o l h) q s:=fun r A=>by rw [kV A tF.1 tF.2];exact retUK_eq r o l E R q s
 obtain⟨j,op,D,pos,z,guard⟩:=o
 simp only []at w B C⊢
 cases op
 case move x=>
  have:=w (some (l.ev x)) rfl
  rw [<-this]
  show q (fq l j (evK l x)) h=q (fq l j (l.ev x)) h
  rw [fh]
 case assign x=>
  have:=w (some (l.ev x)) rfl
  rw [<-this]
  show q (fq l j (evK l x)) h=q (fq l j (l.ev x)) h
  rw [fh]
 case load t a=>rw [<-w _ rfl];show ju (eu E h t (evK l a)) j l h q=_;rw [fh]
 case store t a v=>rw [<-C _ rfl];show su (ie E h t (evK l a) (evK l v)) j l q=_;rw [fh]
 case binOp b t x y u=>rw [<-w (a9 E b t x y (l.ev x) (l.ev y)) rfl];show ju (binK E b t x y (evK l x) (evK l y)) j l h q=_;rw [fh,binK_eq]
 case unOp b t x=>rw [<-w (unP b (l.ev x)) rfl];show ju (unP b (evK l x)) j l h q=_;rw [fh]
 case fieldAddr t x i=>rw [<-w (au E t (l.ev x) i) rfl];show ju (au E t (evK l x) i) j l h q=_;rw [fh]
 case field t x i=>rw [<-w (aN E t (l.ev x) i) rfl];show ju (aN E t (evK l x) i) j l h q=_;rw [fh]
 case indexAddr t x i=>rw [<-w (ee E t (l.ev x) (l.ev i)) rfl];show ju (ee E t (evK l x) (evK l i)) j l h q=_;rw [fh]
 case index t x i=>rw [<-w (m9 E t (l.ev x) (l.ev i)) rfl];show ju (m9 E t (evK l x) (evK l i)) j l h q=_;rw [fh]
 case lookup t m k b=>rw [<-w _ rfl];show ju (cZ E h t (evK l m) (evK l k) b) j l h q=_;rw [fh]
 case mapUpdate t m k v=>rw [<-C _ rfl];show su (du E h t (evK l m) (evK l k) (evK l v)) j l q=_;rw [fh]
 case mapEntry t m k=>rw [<-B _ rfl];show retHK (jb E h t (evK l m) (evK l k)) j l q=_;rw [fh]
 case call c=>
  show callK c E R cx j l h q s=_
  unfold callK
  cases F:c.callee with
  |invoke r n=>rfl
  |builtin b=>rfl
  | value f=>
    show Option.rec (motive:=fun _=>Opt) (cR (.call c) E R cx j l h q s) _ (asFn (evK l f))=_
    rw [fh]
    cases hf:asFn (l.ev f)with
    |none=>rfl
    | some p=>
      obtain⟨g,a,b⟩:=p
      have B:l.ev f=.func (.func g) a b:=by
       unfold asFn at hf
       split at hf
       . rename_i G;cases hf;exact G
       . cases hf
      have A:aop E l.ev h (.call c)=some (.call g (a.toList++c.args.toList.map l.ev++b.toList),h):=by simp only [aop,F,B,target]
      rw [kV (o:=⟨j,.call c,D,pos,z,guard⟩) A (by intro H e;cases e) (by intro d H e;cases e)]
      exact resK_eq R g _ ⟨j,.call c,D,pos,z,guard⟩ l h E q s
 all_goals rfl

theorem wg(ops:List Oper)(l:Loc)(o:Oper):pQ ops l o=bQ ops l.regs o:=by
 unfold pQ
 cases a:o.guard with
 |none=>unfold bQ;rw [a]
 |some q=>rfl
theorem opsK_eq(E:Env)(R:Rec)(cx:Cx)(ops:List Oper)(c:Loc->Hp->Opt)(a:Ex->Loc->Hp->Opt): ∀(os:List Oper) (l:Loc) (h:Hp),opsK E R cx ops c a os l h=dr (ib E R cx ops os l h) c a
 | [],l,h=>rfl
 | o ::os,l,h=>by
   have d:=opsK_eq E R cx ops c a os
   show Option.rec (motive:=fun _=>Opt) none (fun b=>Bool.rec (opsK E R cx ops c a os (fq l o.dst (.tuple #[])) h) (opK o.op E R cx o.dst l h (opsK E R cx ops c a os) a) b) (pQ ops l o)=_
   rw [wg]
   simp only [ib]
   cases bQ ops l.regs o with
   |none=>rfl
   | some b=>
     cases b with
     |false=>show opsK E R cx ops c a os (fq l o.dst (.tuple #[])) h=_;rw [d,lI]
     | true=>
       show opK o.op E R cx o.dst l h (opsK E R cx ops c a os) a=_
       rw [opK_eq,show opsK E R cx ops c a os=fun l h=>dr (ib E R cx ops os l h) c a from funext fun l=>funext fun h=>d l h]
       rw [qL _ _ _ _ _ (fun _ _ _ _=>rfl)]
       simp only []
       cases dH E R cx o l h with
       |none=>rfl
       |some q=>obtain⟨e,f,g⟩:=q;cases e<;>rfl

end
end Go.Ab

namespace Go.Ab
noncomputable section

theorem w7(E:Env)(R:Rec)(l:Loc)(a:Bool)(o:Oper)(h:Hp):cE E R (l.evD (tmpsOf o.op.operands.toList)) a o h=cE E R l.ev a o h:=by
 unfold cE
 rw [rS (rZ l o.op),rS (rZ l o.op)]
theorem fast_step{E:Env}{R:Rec}{cx:Cx}{o:Oper}{l:Loc}{h:Hp}(hf:pR o.op=true){K:Value->Hp->Opt}:
 dr (dH E R cx o l h) (fun l' a=>none) (fun _ _ _=>none)=none/\
 ∀ c:Loc->Hp->Opt,dr (dH E R cx o l h) c (fun _ _ _=>none)=(match cE E R l.ev false o h with
   |none=>none
   |some (v,a)=>c (l.put o.dst v) a):=by
 have e: ∀x,aop E l.ev h o.op=x->((∃f r,x=cw f r)\/(∃r,x=cM r)\/ ∃r,x=ef r)-> ∀c:Loc->Hp->Opt,dr (dH E R cx o l h) c (fun _ _ _=>none)=(match cE E R l.ev false o h with
  |none=>none
  |some (v,a)=>c (l.put o.dst v) a):=by
  intro x i j c
  have k:(∀a,x≠some (.recov,a))/\ ∀d a,x≠some (.defer d,a):=by
   rcases j with⟨f,r,rfl⟩|⟨r,rfl⟩|⟨r,rfl⟩
   . exact tw
   . exact tE
   . exact tF
  rw [kV i k.1 k.2]
  simp only [cE,cond_false,i]
  rcases j with⟨f,r,rfl⟩|⟨r,rfl⟩|⟨r,rfl⟩<;>cases r<;>rfl
 have b:(∃f r,aop E l.ev h o.op=cw f r)\/(∃r,aop E l.ev h o.op=cM r)\/ ∃r,aop E l.ev h o.op=ef r:=by
  obtain⟨m,op,n,pos,g,guard⟩:=o
  simp only []at hf⊢
  cases op<;>(try (cases hf;done))
  all_goals first
   |exact .inl ⟨h,some (l.ev _),rfl⟩
   |exact .inl ⟨h,_,rfl⟩
   |exact .inr (.inl ⟨_,rfl⟩)
   |exact .inr (.inr ⟨_,rfl⟩)
 refine⟨?_,e _ rfl b⟩
 rw [e _ rfl b]
 cases cE E R l.ev false o h<;>rfl
theorem tV(E:Env)(q i:Nat)(op:Op):qJ E q i op=dP E q i op:=by
 unfold qJ dP
 cases a:Xj q 0 with
 | true=>
   have:q=0:=XK a
   subst this
   simp
 |false=>cases Nat.testBit q i<;>rfl
theorem elseDK_eq (E:Env) (R:Rec) (d:Bool) (o:Oper) (l:Loc) (h:Hp) (k:Value->Hp->Opt):uF E R d o l h k=jZ E R d o l h k:=by
 unfold uF
 cases e:asCall o.op with
 |none=>rfl
 | some c=>
   show callDK E R d o c l h k=_
   have t:o.op=.call c:=by
    unfold asCall at e
    split at e
    . rename_i i;cases e;exact i
    . cases e
   unfold callDK
   cases j:c.callee with
   |invoke r n=>rfl
   |builtin b=>rfl
   | value f =>
     show Option.rec (motive:=fun _=>Opt) (jZ E R d o l h k) _ (asFn (evK l f))=_
     rw [fh]
     cases hf:asFn (l.ev f)with
     |none=>rfl
     | some p=>
       obtain⟨g,a,b⟩:=p
       have u:l.ev f=.func (.func g) a b:=by
        unfold asFn at hf
        split at hf
        . rename_i i;cases hf;exact i
        . cases hf
       have s: ∀h,aop E l.ev h o.op=some (.call g (a.toList++c.args.toList.map l.ev++b.toList),h):=by intro h;rw [t];simp only [aop,j,u,target]
       unfold jZ cE
       cases d with
       | false=>
         simp only [cond_false,s,cI]
         show resDK (R.call g (a.toList++c.args.toList.map l.ev++b.toList) none h) k=_
         cases R.call g (a.toList++c.args.toList.map l.ev++b.toList) none h with
         |none=>rfl
         |some q=>obtain⟨x,w,m⟩:=q;cases x<;>rfl
       | true=>
         simp only [cond_true,s,cI]
         show resDK (R.call g (a.toList++c.args.toList.map l.ev++b.toList) none {h with lo:=h.n}) (uR h k)=_
         cases R.call g (a.toList++c.args.toList.map l.ev++b.toList) none {h with lo:=h.n}with
         |none=>rfl
         | some q=>
           obtain⟨x,w,m⟩:=q
           cases x with
           |pan v=>rfl
           | ret v=>
             show uR h k v m=_
             simp only [uR]
             cases Xb h.n m.lo<;>rfl
theorem Ag{op:Op}(h:pR op=true):dq op=false:=by
 cases op<;>first|rfl|exact absurd h (by simp [pR])
theorem zn (E:Env) (R:Rec) (cx:Cx) (ops:List Oper) (q:Nat) (K:Loc->Hp->List (Nat×Tch)->Opt): ∀(os:List Oper) (i:Nat) (l:Loc) (h:Hp) (a:List (Nat×Tch)),
 nT E R cx ops q (fun _ l h a=>K l h a) os i l h a=(match aY E R ops q os i l h a with
  |none=>none
  |some (l',c,e)=>K l' c e)
 | [],i,l,h,a=>rfl
 | o :: os,i,l,h,a=>by
   have j:=zn E R cx ops q K os
   show Option.rec (motive:=fun _=>Opt) none (fun b=>Bool.rec (nT E R cx ops q (fun _ l h a=>K l h a) os (i+1) (fq l o.dst (.tuple #[])) h a) (vj E R cx q o (nT E R cx ops q (fun _ l h a=>K l h a) os) i l h a) b) (pQ ops l o)=_
   rw [wg]
   simp only [aY]
   cases bQ ops l.regs o with
   |none=>rfl
   | some b=>
     cases b with
     |false=>show nT E R cx ops q (fun _ l h a=>K l h a) os (i+1) (fq l o.dst (.tuple #[])) h a=_;rw [j,lI]
     | true=>
       show vj E R cx q o (nT E R cx ops q (fun _ l h a=>K l h a) os) i l h a=_
       simp only []
       have d: ∀g,dP E q i o.op=g->jZ E R g o l h (fun v c=>nT E R cx ops q (fun _ l h a=>K l h a) os (i+1) (fq l o.dst v) c (fN i a (cy (l.evD (tmpsOf o.op.operands.toList)) g o.op h c)))=
        (match(match cE E R (l.evD (tmpsOf o.op.operands.toList)) (dP E q i o.op) o h with
          |none=>none
          |some (v,c)=>aY E R ops q os (i+1) (l.put o.dst v) c (fN i a (cy (l.evD (tmpsOf o.op.operands.toList)) (dP E q i o.op) o.op h c)))with
          |none=>none
          |some (l',c,e)=>K l' c e):=by
        intro g f
        rw [f,w7]
        unfold jZ
        cases cE E R l.ev g o h with
        |none=>rfl
        |some p=>obtain⟨v,c⟩:=p;show nT E R cx ops q _ os (i+1) (fq l o.dst v) c _=_;rw [j,lI]
       unfold vj
       cases hf:pR o.op with
       | false=>
         show uF E R (qJ E q i o.op) o l h _=_
         rw [elseDK_eq,tV]
         exact d _ rfl
       | true=>
         have m: ∀b (h c:Hp),cy (l.evD (tmpsOf o.op.operands.toList)) b o.op h c=uy l o.op:=by
          intro b h c
          have k:eg o.op=false:=by cases n:o.op<;>first|rfl|(rw [n]at hf;simp [pR]at hf)
          unfold cy uy jc
          rw [Ag hf,k];rfl
         simp only [m]at d⊢
         cases f:qJ E q i o.op with
         | true=>
           rw [tV]at f
           exact d true f
         | false=>
           rw [tV]at f
           show opK o.op E R cx o.dst l h _ _=_
           rw [opK_eq,(fast_step (R:=R) hf (K:=fun _ _=>none)).2,w7,f]
           cases cE E R l.ev false o h with
           |none=>rfl
           |some p=>obtain⟨v,c⟩:=p;simp only [];rw [j]
theorem codeK_eq(E:Env)(R:Rec)(M:CodeM)(D: ∀cx c l h d g,M cx c l h d g=dr (R.code cx c l h) d g)(cx:Cx): ∀(c:Code) (l:Loc) (h:Hp) (d:Loc->Hp->Opt) (g:Ex->Loc->Hp->Opt),
 my E R M cx c l h d g=dr (aC E R cx c l h) d g:=by
 intro c
 induction c with
 |skip=>intro l h d g;rfl
 |label n=>intro l h d g;rfl
 | region id j s=>
   intro l h d g
   cases s with
   |false=>exact opsK_eq E R cx j.toList d g j.toList l h
   | true=>
     show(Bool.rec (motive:=fun _=>Opt) (drawK E R cx j.toList l h d) (dr (cutD E R cx j.toList l h) d g) (E.cut cx.fn):Opt)=_
     simp only [aC,cond_true]
     cases E.cut cx.fn with
     |true=>rfl
     |false=>
     show drawK E R cx j.toList l h d=_
     simp only [cond_false]
     unfold drawK drawKo
     generalize bF j.toList=r
     cases jH E r with
     |none=>rfl
     | some p=>
       obtain⟨q,u⟩:=p
       show nT E R cx r q (fun _ l h B=>Bool.rec none (d l h) (cm B u)) r 0 l h []=_
       rw [zn E R cx r q (fun l h B=>Bool.rec none (d l h) (cm B u))]
       simp only []
       cases aY E R r q r 0 l h []with
       |none=>rfl
       | some x=>
         obtain⟨a,b,c⟩:=x
         simp only []
         cases cm c u<;>rfl
 | seq a b k o=>
   intro l h d g
   show my E R M cx a l h (fun l h=>my E R M cx b l h d g) g=_
   rw [k,show(fun l h=>my E R M cx b l h d g)=fun l h=>dr (aC E R cx b l h) d g from funext fun l=>funext fun h=>o l h d g]
   rw [qL _ _ _ _ _ (fun _ _ _ _=>rfl)]
   simp only [aC]
   cases aC E R cx a l h with
   |none=>rfl
   |some q=>obtain⟨e,z,A⟩:=q;cases e<;>rfl
 | cond c a b k o=>
   intro l h d g
   show Option.rec (motive:=fun _=>Opt) none (fun t=>Bool.rec (my E R M cx b l h d g) (my E R M cx a l h d g) t) (asBool (evK l c))=_
   rw [fh,k,o]
   simp only [aC]
   cases l.ev c<;>(try rfl)
   rename_i t
   cases t<;>rfl
 | block id b w=>
   intro l h d g
   show my E R M cx b l h d (fun e l h=>blkK e id d g l h)=_
   rw [w]
   simp only [aC]
   cases aC E R cx b l h with
   |none=>rfl
   | some q=>
     obtain⟨e,z,A⟩:=q
     cases e with
     |normal=>rfl
     |ret=>rfl
     |pan v=>rfl
     | exit i=>
       show Bool.rec (motive:=fun _=>Opt) (g (.exit i) z A) (d z A) (Xj i id)=_
       simp only []
       cases Xj i id<;>rfl
 | loop b w=>
   intro l h d g
   show my E R M cx b l h (fun l h=>M cx (.loop b) l h d g) g=_
   rw [w,show(fun l h=>M cx (.loop b) l h d g)=fun l h=>dr (R.code cx (.loop b) l h) d g from funext fun l=>funext fun h=>D cx (.loop b) l h d g]
   rw [qL _ _ _ _ _ (fun _ _ _ _=>rfl)]
   simp only [aC]
   cases aC E R cx b l h with
   |none=>rfl
   |some q=>obtain⟨e,z,A⟩:=q;cases e<;>rfl
 | rangeFunc f u C y _ _=>
   intro l h d g
   show dr (ic R cx (evK l f) u C y l h) d g=_
   rw [fh];rfl
 |exit id=>intro l h d g;rfl
 |scope b w=>intro l h d g;exact w l h d g
 |goto n=>intro l h d g;rfl
 |ret=>intro l h d g;rfl
 |refuse m=>intro l h d g;rfl

theorem xQ(E:Env)(R:Rec)(a:Func)(l:Loc)(h:Hp):doneK E R a l h=tO E R a l h:=by
 unfold doneK tO
 cases b:l.dfs with
 |cons d c=>rfl
 | nil=>
   simp only [bR]
   cases aU E l.regs h a.results.toList<;>rfl
theorem callBK_eq(E:Env)(R:Rec)(f:FuncId)(args:List Value)(c:Option (Value×Bool))(h:Hp):callBK E R f args c h=jG E R f args c h:=by
 unfold callBK jG
 cases E.fn f with
 |none=>rfl
 | some b=>
   show Option.rec (motive:=fun _=>ni) none (fun a=>um E R f args c h b a) b.body=_
   simp only []
   cases b.body with
   |none=>rfl
   | some a=>
     show um E R f args c h b a=_
     unfold um
     simp only []
     cases Xb args.length b.ntmps with
     |false=>rfl
     | true=>
       show leaveK E R b _=_
       simp only [cond_true]
       cases R.code ⟨f,b.ntmps,none⟩ a ⟨(Tr.blank (.tuple #[]) b.ntmps b.ntmps).setAll 0 args,[],c⟩ h with
       |none=>rfl
       | some q=>
         obtain⟨e,l,d⟩:=q
         cases e with
         |exit i=>rfl
         |pan v=>rfl
         |normal=>exact xQ E R b l d
         |ret=>exact xQ E R b l d

theorem callSK_eq(E:Env)(R:Rec)(f:FuncId)(args:List Value)(a:Option (Value×Bool))(h:Hp):uZ E R f args a h=ik E R f args a h:=by
 unfold uZ ik
 cases E.orc f args with
 |none=>exact callBK_eq E R f args a h
 |some v=>cases a<;>rfl

theorem yB(E:Env): ∀n,(runK E n).rec'=run E n/\ ∀cx c l h b d,(runK E n).code cx c l h b d=dr ((run E n).code cx c l h) b d
 |0=>⟨rfl,fun _ _ _ _ _ _=>rfl⟩
 | n+1=>by
   obtain⟨i,k⟩:=yB E n
   have j: ∀cx c l h b d,(runK E (n+1)).code cx c l h b d=dr ((run E (n+1)).code cx c l h) b d:=by
    intro cx c l h b d
    show my E (runK E n).rec' (runK E n).code cx c l h b d=dr (aC E (run E n) cx c l h) b d
    rw [i]
    exact codeK_eq E (run E n) (runK E n).code k cx c l h b d
   refine⟨?_,j⟩
   show Rec.mk (fun f a g h=>uZ E (runK E n).rec' f a g h) (fun cx c l h=>(runK E (n+1)).code cx c l h (fun l h=>some (.normal,l,h)) (fun e l h=>some (e,l,h)))=next E (run E n)
   rw [i]
   unfold next
   congr 1
   . funext f a g h;exact callSK_eq E (run E n) f a g h
   . funext cx c l h;rw [j,bind2_id];rfl
theorem runK_call(E:Env)(n:Nat)(f:FuncId)(args:List Value)(a:Option (Value×Bool))(h:Hp):(runK E n).call f args a h=(run E n).call f args a h:=by
 rw [<-(yB E n).1];rfl

theorem envK_eq(a:Tr Func)(b:Tr TypeInfo)(c:List Nat):envK a b c=envOf a b c:=rfl

end
end Go.Ab

namespace Go.Ab
section
variable{E:Env}{ρ:Operand->Value}{h:Hp}
theorem o_move{x:Operand}:aop E ρ h (.move x)=some (.val (ρ x),h):=rfl
theorem o_assign{x:Operand}:aop E ρ h (.assign x)=some (.val (ρ x),h):=rfl
theorem o_load{t:TypeId}{a:Operand}:aop E ρ h (.load t a)=cw h (eu E h t (ρ a)):=rfl
theorem o_store{t:TypeId}{a x:Operand}:aop E ρ h (.store t a x)=ef (ie E h t (ρ a) (ρ x)):=rfl
theorem o_binOp{op:BinOp}{t u:TypeId}{x y:Operand}:aop E ρ h (.binOp op t x y u)=cw h (a9 E op t x y (ρ x) (ρ y)):=rfl
theorem o_unOp{op:UnOp}{t:TypeId}{x:Operand}:aop E ρ h (.unOp op t x)=cw h (unP op (ρ x)):=rfl
theorem AZ{f:FuncId}{a b:Array Operand}:aop E ρ h (.makeFunc (.func f) a b)=some (.val (.func (.func f) (a.map ρ) (b.map ρ)),h):=rfl
theorem o_slice{t:TypeId}{x:Operand}{l u m:Option Operand}:aop E ρ h (.slice t x l u m)=cw h (eW E t (ρ x) (l.map ρ) (u.map ρ) (m.map ρ)):=rfl
theorem zI{s:TypeId}{x:Operand}{i:Nat}:aop E ρ h (.fieldAddr s x i)=cw h (au E s (ρ x) i):=rfl
theorem o_field{s:TypeId}{x:Operand}{i:Nat}:aop E ρ h (.field s x i)=cw h (aN E s (ρ x) i):=rfl
theorem zP{t:TypeId}{x i:Operand}:aop E ρ h (.indexAddr t x i)=cw h (ee E t (ρ x) (ρ i)):=rfl
theorem o_index{t:TypeId}{x i:Operand}:aop E ρ h (.index t x i)=cw h (m9 E t (ρ x) (ρ i)):=rfl
theorem o_extract{t:Operand}{i:Nat}:aop E ρ h (.extract t i)=cw h (match ρ t with| .tuple vs=>vs.toList[i]? |_=>none):=rfl
theorem o_build{t:TypeId}{ps:Array (Nat×Operand)}:aop E ρ h (.build t ps)=cw h (kY E t (ps.toList.map fun p=>(p.1,ρ p.2))):=rfl
theorem yP{t:TypeId}{n:Nat}{ps:Array (Nat×Operand)}:aop E ρ h (.buildSlice t n ps)=cM (jr E h t n (ps.toList.map fun p=>(p.1,ρ p.2))):=rfl
theorem zX{t:TypeId}{l c:Operand}:aop E ρ h (.makeSlice t l c)=cM (iW E h t (ρ l) (ρ c)):=rfl
theorem zh{x:Operand}{s t:TypeId}{a:Bool}:aop E ρ h (.typeAssert x s t a)=cw h (oy E (ρ x) t a):=rfl
theorem o_convert{s t:TypeId}{x:Operand}:aop E ρ h (.convert s t x)=cM (iN E h s t (ρ x)):=rfl
theorem o_lookup{t:TypeId}{m k:Operand}{a:Bool}:aop E ρ h (.lookup t m k a)=cw h (cZ E h t (ρ m) (ρ k) a):=rfl
theorem zR{t:TypeId}{m k v:Operand}:aop E ρ h (.mapUpdate t m k v)=ef (du E h t (ρ m) (ρ k) (ρ v)):=rfl
theorem AQ{t:TypeId}{m k:Operand}:aop E ρ h (.mapEntry t m k)=cM (jb E h t (ρ m) (ρ k)):=rfl
theorem zC{t:TypeId}{m s v:Operand}:aop E ρ h (.entryStore t m s v)=ef (kC h (ρ m) (ρ s) (ρ v)):=rfl
theorem o_callv{f:Operand}{as:Array Operand}{ts:Array TypeId}:aop E ρ h (.call ⟨.value f,as,ts⟩)=match target (ρ f) (as.toList.map ρ)with|none=>none|some x=>some (x,h):=rfl
theorem o_max{x y:Operand}{ts:Array TypeId}:aop E ρ h (.call ⟨.builtin .max,#[x,y],ts⟩)=cw h (fD true (ρ x) [ρ y]):=rfl
theorem o_min{x y:Operand}{ts:Array TypeId}:aop E ρ h (.call ⟨.builtin .min,#[x,y],ts⟩)=cw h (fD false (ρ x) [ρ y]):=rfl
theorem o_append{s x:Operand}{ts:Array TypeId}:aop E ρ h (.call ⟨.builtin .append,#[s,x],ts⟩)=cM (cU E h ts.toList (ρ s) (ρ x)):=rfl
theorem o_copy{s x:Operand}{ts:Array TypeId}:aop E ρ h (.call ⟨.builtin .copy,#[s,x],ts⟩)=cM (copyV E h ts.toList (ρ s) (ρ x)):=rfl
end
theorem Bp{h:Hp}{v:Value}:cw h (some v)=some (.val v,h):=rfl
theorem Au{h:Hp}{v:Value}:cM (some (h,v))=some (.val v,h):=rfl
theorem At{h:Hp}:ef (some h)=some (.skip,h):=rfl
theorem eh(k:IntKind):iU k k=true:=by rw [fj];simp
theorem b_add{E:Env}{t:TypeId}{x y:Operand}{k:IntKind}{m n:Int}:a9 E .add t x y (.int k m) (.int k n)=some (.int k (an k (m+n))):=by simp [a9,eh,fg]
theorem b_sub{E:Env}{t:TypeId}{x y:Operand}{k:IntKind}{m n:Int}:a9 E .sub t x y (.int k m) (.int k n)=some (.int k (an k (m-n))):=by simp [a9,eh,fg]
theorem b_mul{E:Env}{t:TypeId}{x y:Operand}{k:IntKind}{m n:Int}:a9 E .mul t x y (.int k m) (.int k n)=some (.int k (an k (m*n))):=by simp [a9,eh,fg]
theorem lS(m n:Int):gV m n=decide (m=n):=by rw [gk];by_cases h:m=n<;>simp [h]
theorem b_eql{E:Env}{t:TypeId}{x y:Operand}{k:IntKind}{m n:Int}:a9 E .eql t x y (.int k m) (.int k n)=some (.bool (decide (m=n))):=by simp [a9,eh,fg,lS]
theorem b_neq{E:Env}{t:TypeId}{x y:Operand}{k:IntKind}{m n:Int}:a9 E .neq t x y (.int k m) (.int k n)=some (.bool (!decide (m=n))):=by simp [a9,eh,fg,lS]
theorem b_lss{E:Env}{t:TypeId}{x y:Operand}{k:IntKind}{m n:Int}:a9 E .lss t x y (.int k m) (.int k n)=some (.bool (decide (m<n))):=by simp [a9,eh,fg,ia]
theorem b_leq{E:Env}{t:TypeId}{x y:Operand}{k:IntKind}{m n:Int}:a9 E .leq t x y (.int k m) (.int k n)=some (.bool (decide (m<=n))):=by
 simp only [a9,eh,fg,ia,cond_true]
 by_cases a:m<=n
 . rw [decide_eq_true a,decide_eq_false (by omega)];rfl
 . rw [decide_eq_false a,decide_eq_true (by omega)];rfl
theorem b_gtr{E:Env}{t:TypeId}{x y:Operand}{k:IntKind}{m n:Int}:a9 E .gtr t x y (.int k m) (.int k n)=some (.bool (decide (n<m))):=by simp [a9,eh,fg,ia]
theorem b_geq{E:Env}{t:TypeId}{x y:Operand}{k:IntKind}{m n:Int}:a9 E .geq t x y (.int k m) (.int k n)=some (.bool (decide (n<=m))):=by
 simp only [a9,eh,fg,ia,cond_true]
 by_cases a:n<=m
 . rw [decide_eq_true a,decide_eq_false (by omega)];rfl
 . rw [decide_eq_false a,decide_eq_true (by omega)];rfl
theorem lj{E:Env}{t:TypeId}{x y:Operand}{k:IntKind}{m n:Int}(h:n≠0):a9 E .quo t x y (.int k m) (.int k n)=some (.int k (an k (m.tdiv n))):=by
 simp [a9,eh,fg,lS,h]
theorem lc{E:Env}{t:TypeId}{x y:Operand}{k:IntKind}{m n:Int}(h:n≠0):a9 E .rem t x y (.int k m) (.int k n)=some (.int k (m.tmod n)):=by
 simp [a9,eh,fg,lS,h]
theorem mm_max{k k':IntKind}{a b:Int}:fD true (.int k a) [.int k' b]=some (.int k (max a b)):=by
 simp only [fD,ia,cond_true]
 by_cases h:a<b
 . rw [decide_eq_true h];simp only [cond_true];rw [Int.max_eq_right (by omega)]
 . rw [decide_eq_false h];simp only [cond_false];rw [Int.max_eq_left (by omega)]
theorem mm_min{k k':IntKind}{a b:Int}:fD false (.int k a) [.int k' b]=some (.int k (min a b)):=by
 simp only [fD,ia,cond_false]
 by_cases h:b<a
 . rw [decide_eq_true h];simp only [cond_true];rw [Int.min_eq_right (by omega)]
 . rw [decide_eq_false h];simp only [cond_false];rw [Int.min_eq_left (by omega)]
theorem wrap64{n:Int}(a: -9223372036854775808<=n)(b:n<9223372036854775808):an .i64 n=n:=by
 unfold an
 cases n with
 | ofNat m=>
   have:Xz m (hf .i64)=true:=by rw [XD];simp only [hf];have c:(m:Int)<9223372036854775808:=b;omega
   simp only [this,cond_true]
 | negSucc m=>
   have:Xz m (hf .i64)=true:=by rw [XD];simp only [hf];have: -9223372036854775808<=Int.negSucc m:=a;omega
   simp only [sgn,this,cond_true]
theorem sZ{α:Type}{a:α}{P:α->Prop}:(∃b,some a=some b/\P b)↔P a:=⟨fun⟨b,c,d⟩=>by cases c;exact d,fun h=>⟨a,rfl,h⟩⟩
theorem Ae{a:Bool}{P:Bool->Prop}:(∃t,Value.bool a=Value.bool t/\P t)↔P a:=⟨fun⟨b,c,d⟩=>by cases c;exact d,fun h=>⟨a,rfl,h⟩⟩
end Go.Ab
namespace Go.Ab
theorem aP{v:Value}{l:List Value}:bV (v::l) 0=v:=rfl
theorem bW{v:Value}{l:List Value}{i:Nat}:bV (v::l) (i+1)=bV l i:=rfl
end Go.Ab
namespace Go.Ab
section
variable{l:Loc}
theorem c_int{k:IntKind}{n:Int}:l.ev (.const (.int k n))=.int k n:=rfl
theorem c_bool{b:Bool}:l.ev (.const (.bool b))=.bool b:=rfl
theorem c_string{s:ByteArray}:l.ev (.const (.string s))=.string s:=rfl
theorem c_nilp:l.ev (.const (.pointer none))=.pointer none:=rfl
theorem c_nils:l.ev (.const (.slice none 0 0))=.slice none 0 0:=rfl
theorem c_nilm:l.ev (.const (.map none))=.map none:=rfl
theorem c_nilf:l.ev (.const .nilFunc)=.nilFunc:=rfl
theorem c_nili:l.ev (.const .nilIface)=.nilIface:=rfl
end
end Go.Ab
namespace Go.Ab
def one1:Option (List Value)->Option Value
 |some [v]=>some v
 |_=>none
theorem one1_some{v:Value}:one1 (some [v])=some v:=rfl
theorem AY{E:Env}{h:Hp}{t:TypeId}{b o:Nat}{s:Option Nat}(a:E.agg t=some false):eu E h t (.pointer (some ⟨b,o,s⟩))=one1 (h.load b o 1):=by
 simp only [eu,a]
 unfold one1
 rfl
end Go.Ab
namespace Go.Ab
def gv(a:Bool):Option Value->Option Bool
 |some (.bool b)=>some (bif b then a else !a)
 |some (.tuple _)=>some false
 |_=>none
noncomputable def gj(a:Bool)(b:Tr Value):Option Oper->Option Bool
 |none=>some false
 | some o=>match o.dst with
   |none=>some false
   |some d=>gv a (b.get d)
theorem A4{a:List Oper}{c:Tr Value}{d:Option Tmp}{op:Op}{t:TypeId}{p:String}{e:Array Edge}{j:Nat}{b:Bool}:bQ a c ⟨d,op,t,p,e,some (j,b)⟩=gj b c (a[j]?):=by
 simp only [bQ,gj]
 cases a[j]? with
 |none=>rfl
 | some o=>
   simp only []
   cases o.dst with
   |none=>rfl
   | some d=>
     simp only [gv]
     cases c.get d with
     |none=>rfl
     |some v=>cases v<;>rfl
theorem gj_some{a:Bool}{b:Tr Value}{d:Tmp}{op:Op}{t:TypeId}{p:String}{c:Array Edge}{g:Option (Nat×Bool)}:gj a b (some ⟨some d,op,t,p,c,g⟩)=gv a (b.get d):=rfl
theorem gv_true{b:Bool}:gv true (some (.bool b))=some b:=by cases b<;>rfl
theorem gv_false{b:Bool}:gv false (some (.bool b))=some (!b):=by cases b<;>rfl
theorem gv_tuple{a:Bool}{x:Array Value}:gv a (some (.tuple x))=some false:=rfl
theorem u_not{b:Bool}:unP .not (.bool b)=some (.bool (!b)):=rfl
theorem target_fn{g:FuncId}{a b:Array Value}{args:List Value}:target (.func (.func g) a b) args=some (.call g (a.toList++args++b.toList)):=rfl
def aK(E:Env)(f:FuncId)(args:List Value)(h:Hp)(v:Value):Prop:=Ret E f args h fun a b=>a=v/\Gr h b
end Go.Ab
namespace Go.Ab
theorem cd{E:Env}{cx:Cx}{Q:eF}{k:List Fr}{l:Loc}{h:Hp}{b:Code}:Run E (lim E) cx Q (.code (.loop b)::k) .normal l h↔Run E (lim E) cx Q (.code b:: .code (.loop b)::k) .normal l h:=by
 rw [<-run_seq]
 simp only [Run]
 have:aC E (lim E) cx (.loop b) l h=aC E (lim E) cx (.seq b (.loop b)) l h:=by
  simp only [aC]
  cases aC E (lim E) cx b l h with
  |none=>rfl
  | some q=>
    obtain⟨e,a,c⟩:=q
    cases e with
    |normal=>show(lim E).code cx (.loop b) a c=_;rw [v7];rfl
    |exit i=>rfl
    |ret=>rfl
    |pan v=>rfl
 rw [this]
def lenK(r:Option (c6×Hp))(h:Hp):Option Value->Option (c6×Hp)
 |some v=>some (.val v,h)
 |none=>r
theorem o_lenK{E:Env}{ρ:Operand->Value}{h:Hp}{x:Operand}{t:TypeId}:aop E ρ h (.call ⟨.builtin .len,#[x],#[t]⟩)=lenK (match ρ x with
 | .map (some r)=>match h.get r with
   |some (.map a _)=>match E.und t with
    |some (.map _ _)=>some (.val (.int .i64 (.ofNat a.length)),h)
    |_=>none
   |_=>none
 |_=>none) h (nu E t (ρ x)):=by
 simp only [aop,pop]
 cases nu E t (ρ x)with
 |some v=>rfl
 | none=>
   simp only [lenK]
   cases ρ x<;>rfl
theorem natOf_nn{i:Int}(h:0<=i):gJ i=some i.toNat:=by
 cases i with
 |ofNat n=>rfl
 |negSucc n=>exact absurd h (by simp)
theorem idxP_in{k:IntKind}{i:Int}{n:Nat}(h0:0<=i)(a:i<n):iG (.int k i) n=some i.toNat:=by
 simp only [iG,natOf_nn h0]
 have:Xz i.toNat n=true:=by rw [XD];omega
 rw [this];rfl
theorem oE{k:IntKind}{i n:Nat}(a:i<n):iG (.int k (i:Int)) n=some i:=by
 rw [idxP_in (Int.natCast_nonneg i) (by omega)];simp
theorem ia_slice{E:Env}{t e:TypeId}{k:Nat}{a:Addr}{n c:Nat}{v:Value}(b:E.und t=some (.slice e))(d:E.sz e=some k):ee E t (.slice (some a) n c) v=(iG v n).map fun i=>.pointer (some (eH a (i*k))):=by
 simp only [ee,b,d]
 cases iG v n<;>rfl
end Go.Ab
namespace Go.Ab
theorem am{E:Env}{cx:Cx}{o:Oper}{l:Loc}{K:Ex->Loc->Hp->Prop}{h:Hp}{f:FuncId}{args:List Value}{v:Value}(b:aK E f args h v)(c: ∀a,Gr h a->K .normal (l.put o.dst v) a):eR E cx o l K (some (.call f args,h)):=
 step_ret b fun d a ⟨e,g⟩=>by rw [e];exact c a g
theorem uQ{E:Env}{K:Value->Hp->Prop}{f:FuncId}{args:List Value}{h:Hp}{v:Value}(b:aK E f args h v)(c: ∀a,Gr h a->K v a):jy E K (some (.call f args,h)):=
 wQ b fun d a ⟨e,g⟩=>by rw [e];exact c a g
theorem aK.of{E:Env}{f:FuncId}{args:List Value}{h:Hp}{v:Value}(a:Ret E f args h fun v' b=>v'=v/\Gr h b):aK E f args h v:=a
end Go.Ab
namespace Go.Ab
section
variable(E:Env)(cx:Cx)(Q:eF)
def GStep(a:List Oper)(o:Oper)(os:List Oper)(k:List Fr)(l:Loc)(h:Hp):Option Bool->Prop
 |some true=>eR E cx o l (fun e b c=>Run E (lim E) cx Q (.ops a os::k) e b c) (aop E l.ev h o.op)
 |some false=>Run E (lim E) cx Q (.ops a os::k) .normal (l.put o.dst (.tuple #[])) h
 |none=>False
def CStep(a b:Code)(k:List Fr)(l:Loc)(h:Hp):Value->Prop
 | .bool true=>Run E (lim E) cx Q (.code a::k) .normal l h
 | .bool false=>Run E (lim E) cx Q (.code b::k) .normal l h
 |_=>False
def u9(a:List Oper)(q:Nat)(ps:List (Nat×Nat))(o:Oper)(os:List Oper)(i:Nat)(c:List (Nat×Tch))(k:List Fr)(l:Loc)(h:Hp):Option Bool->Bool->Prop
 |some true,false=>jy E (fun v b=>Run E (lim E) cx Q (.opsD a q ps os (i+1) (fN i c (cy l.ev false o.op h b))::k) .normal (l.put o.dst v) b) (aop E l.ev h o.op)
 |some true,true=>jy E (fun v b=>Xb h.n b.lo=true/\Run E (lim E) cx Q (.opsD a q ps os (i+1) (fN i c (cy l.ev true o.op h h))::k) .normal (l.put o.dst v) {b with lo:=h.lo}) (aop E l.ev {h with lo:=h.n} o.op)
 |some false,_=>Run E (lim E) cx Q (.opsD a q ps os (i+1) c::k) .normal (l.put o.dst (.tuple #[])) h
 |none,_=>False
end
section
variable{E:Env}{cx:Cx}{Q:eF}{k:List Fr}{l:Loc}{h:Hp}
theorem r_ops{a os:List Oper}{o:Oper}:Run E (lim E) cx Q (.ops a (o::os)::k) .normal l h↔GStep E cx Q a o os k l h (bQ a l.regs o):=by
 rw [xG]
 cases bQ a l.regs o with
 |none=>exact⟨fun⟨_,e,_⟩=>(by cases e),fun h=>h.elim⟩
 | some b=>
   rw [sZ]
   cases b with
   |true=>rw [if_pos rfl];exact then_step
   |false=>rw [if_neg (by simp)];exact Xc
theorem g_true{a os:List Oper}{o:Oper}:GStep E cx Q a o os k l h (some true)↔eR E cx o l (fun e l' b=>Run E (lim E) cx Q (.ops a os::k) e l' b) (aop E l.ev h o.op):=Xc
theorem g_false{a os:List Oper}{o:Oper}:GStep E cx Q a o os k l h (some false)↔Run E (lim E) cx Q (.ops a os::k) .normal (l.put o.dst (.tuple #[])) h:=Xc
theorem r_cond{c:Operand}{a b:Code}:Run E (lim E) cx Q (.code (.cond c a b)::k) .normal l h↔CStep E cx Q a b k l h (l.ev c):=by
 rw [run_cond]
 cases l.ev c<;>(try (exact⟨fun⟨_,e,_⟩=>(by cases e),fun h=>h.elim⟩))
 rename_i t
 rw [Ae]
 cases t with
 |true=>rw [if_pos rfl];exact Xc
 |false=>rw [if_neg (by simp)];exact Xc
theorem c_true{a b:Code}:CStep E cx Q a b k l h (.bool true)↔Run E (lim E) cx Q (.code a::k) .normal l h:=Xc
theorem c_false{a b:Code}:CStep E cx Q a b k l h (.bool false)↔Run E (lim E) cx Q (.code b::k) .normal l h:=Xc
theorem r_opsD{a os:List Oper}{o:Oper}{q i:Nat}{ps:List (Nat×Nat)}{c:List (Nat×Tch)}:Run E (lim E) cx Q (.opsD a q ps (o::os) i c::k) .normal l h↔u9 E cx Q a q ps o os i c k l h (bQ a l.regs o) (dP E q i o.op):=by
 rw [run_opsD]
 cases bQ a l.regs o with
 |none=>exact⟨fun⟨_,e,_⟩=>(by cases e),fun h=>h.elim⟩
 | some b=>
   rw [sZ]
   cases b with
   | true=>
     rw [if_pos rfl]
     cases dP E q i o.op with
     |true=>rw [if_pos rfl];exact Xc
     |false=>rw [if_neg (by simp)];exact Xc
   |false=>rw [if_neg (by simp)];exact Xc
theorem d_skip{a os:List Oper}{o:Oper}{q i:Nat}{ps:List (Nat×Nat)}{c:List (Nat×Tch)}{b:Bool}:u9 E cx Q a q ps o os i c k l h (some false) b↔Run E (lim E) cx Q (.opsD a q ps os (i+1) c::k) .normal (l.put o.dst (.tuple #[])) h:=Xc
theorem qg{i:Nat}{a:List (Nat×Tch)}:fN i a none=a:=rfl
theorem bw{i:Nat}{b:Tch}{a:List (Nat×Tch)}:fN i a (some b)=(i,b)::a:=rfl
theorem bG{a:List (Nat×Tch)}:cm a []=true:=rfl
theorem guard_no{a:List Oper}{b:Tr Value}{d:Option Tmp}{op:Op}{t:TypeId}{p:String}{c:Array Edge}:bQ a b ⟨d,op,t,p,c,none⟩=some true:=rfl
end
end Go.Ab
namespace Go.Ab
theorem b_eqlB{E:Env}{t:TypeId}{x y:Operand}{a b:Bool}(c:E.und t=some .bool):a9 E .eql t x y (.bool a) (.bool b)=some (.bool (bif a then b else !b)):=by
 simp [a9,eY,dI,c]
theorem b_neqB{E:Env}{t:TypeId}{x y:Operand}{a b:Bool}(c:E.und t=some .bool):a9 E .neq t x y (.bool a) (.bool b)=some (.bool (!(bif a then b else !b))):=by
 simp [a9,eY,dI,c]
theorem same_bool{d:Bool}:(bif d then d else !d)=true:=by cases d<;>rfl
end Go.Ab
namespace Go.Ab
noncomputable def boxR(h:Hp)(t:TypeId):Value->Option (c6×Hp)
 | .chan _=>none
 |v=>some (.val (ptrTo h.n),h.new (.cells (Tr.ofList (ah v)) (ah v).length t 1))
theorem o_boxR{E:Env}{ρ:Operand->Value}{h:Hp}{t:TypeId}{x:Operand}:aop E ρ h (.box t x)=boxR h t (ρ x):=by
 simp only [aop];cases ρ x<;>rfl
noncomputable def allocR(h:Hp)(t:TypeId):Option (List Value)->Option (c6×Hp)
 |none=>none
 |some z=>some (.val (ptrTo h.n),h.new (.cells (Tr.ofList z) z.length t 1))
theorem o_allocR{E:Env}{ρ:Operand->Value}{h:Hp}{t:TypeId}:aop E ρ h (.alloc t)=allocR h t (E.zero t):=by
 simp only [aop];cases E.zero t<;>rfl
section
variable{E:Env}{cx:Cx}{o:Oper}{l:Loc}{K:Ex->Loc->Hp->Prop}{h:Hp}
theorem aB{ops:List Oper}(h:((ops.any qT||rz ops)&&ops.all (iv ops.length))=false):bF ops=ops:=by unfold bF;rw [h];rfl
theorem aw{Q:eF}{k:List Fr}{id:Nat}{ops:Array Oper}{q:Nat}{ps:List (Nat×Nat)}{os:List Oper}(b:bF ops.toList=os)(c:jH E os=some (q,ps))(d:Run E (lim E) cx Q (.opsD os q ps os 0 []::k) .normal l h)(a:E.cut cx.fn=false:=by rfl):Run E (lim E) cx Q (.code (.region id ops true)::k) .normal l h:=(run_draw a b c).2 d
end
theorem quiet_ok{h a:Hp}(g:Gr {h with lo:=h.n} a):Xb h.n a.lo=true:=g.hlo
theorem gr_lo{h a:Hp}(g:Gr {h with lo:=h.n} a):Gr h {a with lo:=h.lo}:=
 ⟨g.ok0,g.ok,g.n,g.get,fun _ _ h=>h⟩
end Go.Ab
namespace Go.Ab
theorem hush_s{E:Env}{q i:Nat}{op:Op}:dP E q i op=(decide (q/2 ^i%2=1)&&decide (3<=cls E op)):=by
 unfold dP
 rw [Nat.testBit_eq_decide_div_mod_eq,dN]
end Go.Ab
namespace Go.Ab
theorem zT{E:Env}{K:Value->Hp->Prop}{f:FuncId}{args:List Value}{h:Hp}{v:Value}(b:aK E f args {h with lo:=h.n} v)(c: ∀a,Gr h a->K v a):
 jy E (fun v a=>Xb h.n a.lo=true/\K v {a with lo:=h.lo}) (some (.call f args,{h with lo:=h.n})):=
 uQ b fun a g=>⟨quiet_ok g,c _ (gr_lo g)⟩
end Go.Ab
namespace Go.Ab
section
variable(E:Env)(cx:Cx)(Q:eF)(a:List Oper)(q:Nat)(ps:List (Nat×Nat))(o:Oper)(os:List Oper)(i:Nat)(k:List Fr)(l:Loc)
def DN(c:Hp->List (Nat×Tch))(x:Option (c6×Hp)):Prop:=jy E (fun v b=>Run E (lim E) cx Q (.opsD a q ps os (i+1) (c b)::k) .normal (l.put o.dst v) b) x
def DQ(h:Hp)(c:List (Nat×Tch))(x:Option (c6×Hp)):Prop:=jy E (fun v b=>Xb h.n b.lo=true/\Run E (lim E) cx Q (.opsD a q ps os (i+1) c::k) .normal (l.put o.dst v) {b with lo:=h.lo}) x
end
section
variable{E:Env}{cx:Cx}{Q:eF}{a:List Oper}{q:Nat}{ps:List (Nat×Nat)}{o:Oper}{os:List Oper}{i:Nat}{k:List Fr}{l:Loc}{h:Hp}{tr:List (Nat×Tch)}{tf:Hp->List (Nat×Tch)}
theorem dn_loud:u9 E cx Q a q ps o os i tr k l h (some true) false↔DN E cx Q a q ps o os i k l (fun b=>fN i tr (cy l.ev false o.op h b)) (aop E l.ev h o.op):=Xc
theorem dn_quiet:u9 E cx Q a q ps o os i tr k l h (some true) true↔DQ E cx Q a q ps o os i k l h (fN i tr (cy l.ev true o.op h h)) (aop E l.ev {h with lo:=h.n} o.op):=Xc
theorem dn_val{v:Value}{b:Hp}:DN E cx Q a q ps o os i k l tf (some (.val v,b))↔Run E (lim E) cx Q (.opsD a q ps os (i+1) (tf b)::k) .normal (l.put o.dst v) b:=Xc
theorem dn_skip{b:Hp}:DN E cx Q a q ps o os i k l tf (some (.skip,b))↔Run E (lim E) cx Q (.opsD a q ps os (i+1) (tf b)::k) .normal (l.put o.dst (.tuple #[])) b:=Xc
theorem da{f:FuncId}{args:List Value}{P:Value->Hp->Prop}(c:Ret E f args h P)(d: ∀v b,P v b->Run E (lim E) cx Q (.opsD a q ps os (i+1) (tf b)::k) .normal (l.put o.dst v) b):DN E cx Q a q ps o os i k l tf (some (.call f args,h)):=wQ c d
theorem bZ{f:FuncId}{args:List Value}{v:Value}(c:aK E f args h v)(d: ∀b,Gr h b->Run E (lim E) cx Q (.opsD a q ps os (i+1) (tf b)::k) .normal (l.put o.dst v) b):DN E cx Q a q ps o os i k l tf (some (.call f args,h)):=uQ c d
theorem vr{f:FuncId}{args:List Value}{v:Value}(c:aK E f args {h with lo:=h.n} v)(d: ∀b,Gr h b->Run E (lim E) cx Q (.opsD a q ps os (i+1) tr::k) .normal (l.put o.dst v) b):DQ E cx Q a q ps o os i k l h tr (some (.call f args,{h with lo:=h.n})):=zT c d
end
end Go.Ab
namespace Go.Ab
theorem ae{b:Nat}:ptrTo b=.pointer (some ⟨b,0,none⟩):=rfl
end Go.Ab

namespace Go.Ab
open Go.ChangeShapes Go.WideShapes Go.RowKit

theorem len2{α:Type}{l:List α}(h:l.length=2): ∃a b,l=[a,b]:=by
 match l,h with
 | [a,b],_=>exact⟨a,b,rfl⟩
section
variable{H:Type}{enc:TypeId×Value->H}{P:Program}
theorem qP(f:laidOutB P=true){W g:World}(i:Below W.heap.size W g): ∀{ts:List TypeId} {vs:List Value} {c:List (DataW H)} {ps:List MemPlace},(ts.all fun t=>P.readableRec t&&decide (t<P.types.size))=true->
 DataW.TrodAll enc P W 0 (fun _=>true) true ts vs c ps->(∀x∈ps,x.block<W.heap.size)->DataW.TrodAll enc P g 0 (fun b=>decide (b<W.heap.size)) true ts vs c ps
 | [],vs,c,ps,_,h,_=>by
   obtain⟨rfl,rfl,rfl⟩:=trodAll_nil h
   exact rfl
 | t::ts,vs,c,ps,a,h,hlt=>by
   obtain⟨v,j,d,k,p,q,rfl,rfl,rfl,l,m⟩:=trodAll_cons h
   simp only [List.all_cons,Xn,decide_eq_true_eq]at a
   exact⟨p,q,Below.trod f a.1.1 a.1.2 l i (fun x e=>hlt x (by simp [e])),qP f i a.2 m (fun x e=>hlt x (by simp [e])),rfl⟩
theorem xq{f:Func}{s:ChangeSpec}{a b:Bool}{W u:World}{args:Array Value}{g:List (DataW H)}{c:List MemPlace}{bt:TypeId}
 (y:laidOutB P=true) (k:(f.params.toList.all fun t=>P.readableRec t&&decide (t<P.types.size))=true) (v:s.vars=[])
 (l:DataW.Whole enc P f.params.toList s.vars a W args.toList g [] c) (d:s.fn H (g++[])={results:=[.lit (.bool true)],args:=g}) (j:Below W.heap.size W u)
 (m:P.underlying bt=some .bool) (n:f.resultTypes=#[bt]):
 s.post enc P f a true b false W args (.bool true) u:=by
 have hlt:=l.lt
 have o:=l
 obtain⟨p,q,z,w,rfl,C,D⟩:=l
 rw [v]at w
 obtain⟨_,rfl⟩:=trodVars_none w
 refine⟨g,[],_,[],p,[],o,?_,?_,?_,⟨j.os,j.output,fun i A=>?_⟩,fun h=>by cases h⟩
 . rw [d,n]
   exact trodAll_cons_mk (shut_bool m _) trodAll_mk0
 . rw [d]
   exact qP y j k z (fun x B=>hlt x (by simpa using B))
 . rw [d,v];rfl
 . rw [j.block i A]
   split
   . rename_i r e;rw [r]at e;cases e;exact⟨rfl,rfl,rfl,fun _ _=>rfl⟩
   . rename_i r e;rw [r]at e;cases e;exact .inr ⟨rfl,rfl⟩
   . rfl

end
end Go.Ab

namespace Go.Ab
open Go.ChangeShapes Go.WideShapes Go.RowKit
noncomputable section

def gQ(n:Nat):Value->Value
 | .bool b=>.bool b
 | .int k i=>.int k i
 | .string s=>.string s
 | .pointer none=>.pointer none
 | .pointer (some a)=>if a.spot=none/\a.block<n then .pointer (some ⟨a.block+16,a.off,none⟩)else poison
 | .slice none 0 0=>.slice none 0 0
 | .slice (some a) c d=>if c<=d then(if a.spot=none/\a.block<n then .slice (some ⟨a.block+16,a.off,none⟩) c d else .slice (some ⟨0,0,none⟩) c d)else poison
 |_=>poison
def absA(n:Nat):Value->Value
 | .agg a=>.agg ⟨a.toList.map (gQ n)⟩
 |v=>gQ n v
def absO(n:Nat):Obj->Blk
 | .cells a _ _=>.cells (Tr.ofList (a.toList.map (gQ n))) (a.toList.map (gQ n)).length 0 0
 |_=>.dead
def hpW(W:World):Hp:={n:=16+W.heap.size,t:=Tr.ofList (Xk 16 .dead++W.heap.toList.map (absO W.heap.size)),lo:=16+W.heap.size}
def muW(W:World):Mu:=fun b=>if b<16 then .dead else match W.heap[b-16]? with
 |some (.cells a _ _)=>.blk (b-16) 0 a.size
 |some _=>.dead
 |none=>.none

theorem hpW_ok(W:World):(hpW W).t.Sized (hpW W).n:=by
 have h:=Tr.sized_ofList (Xk 16 Blk.dead++W.heap.toList.map (absO W.heap.size))
 have a:(Xk 16 Blk.dead++W.heap.toList.map (absO W.heap.size)).length=16+W.heap.size:=by rw [Xa,Xs,List.length_map,Array.length_toList]
 rw [a]at h
 exact h
theorem hpW_dead(W:World){b:Nat}(h:b<16):(hpW W).get b=some .dead:=by
 show(Tr.ofList _).get b=_
 rw [Tr.get_ofList,XE (by simpa using h),XH,if_pos h]
theorem re(W:World)(c:Nat):(hpW W).get (c+16)=(W.heap[c]?).map (absO W.heap.size):=by
 show(Tr.ofList _).get (c+16)=_
 rw [Tr.get_ofList,List.getElem?_append_right (by simp)]
 simp
theorem mO(W:World)(c:Nat):muW W (c+16)=match W.heap[c]? with
 |some (.cells cs _ _)=>.blk c 0 cs.size
 |some _=>.dead
 |none=>.none:=by
 unfold muW
 rw [if_neg (by omega),show c+16-16=c by omega]
theorem arel_W{W:World}{a:Addr}(h:a.spot=none/\a.block<W.heap.size):dX (muW W) ⟨a.block+16,a.off,none⟩ a:=by
 obtain⟨b,o,s⟩:=a
 obtain⟨c,d⟩:=h
 simp only []at c d
 subst c
 unfold dX
 rw [mO]
 rw [Xf d]
 cases W.heap[b]<;>simp
theorem vrel_V(W:World)(v:Value):ao (muW W) (gQ W.heap.size v) v:=by
 cases v<;>(try exact .poison _)
 . exact .bool _
 . exact .int _ _
 . exact .string _
 . rename_i a
   cases a with
   |none=>exact .nilp
   | some a=>
     simp only [gQ]
     split
     . exact .ptr (arel_W ‹_›)
     . exact .poison _
 . rename_i a d e
   cases a with
   | none=>
     cases d with
     | zero=>cases e with
       |zero=>exact .nils
       |succ n=>exact .poison _
     |succ n=>exact .poison _
   | some a=>
     simp only [gQ]
     split
     . rename_i c
       split
       . rename_i h
         refine .slice c ?_
         have:=arel_W h
         obtain⟨b,o,s⟩:=a
         obtain⟨f,g⟩:=h
         simp only []at f g
         subst f
         unfold dB
         rw [mO]
         rw [Xf g]
         cases W.heap[b]<;>simp
       . refine .slice c ?_
         unfold dB
         have:muW W 0=.dead:=by simp [muW]
         rw [this]
         exact Xg _
     . exact .poison _
theorem vrel_A(W:World)(v:Value):ao (muW W) (absA W.heap.size v) v:=by
 cases v
 case agg d=>
  refine .agg (by simp) fun i x e a b=>?_
  simp only [Xd,Xr]at a
  obtain⟨y,c,rfl⟩:=a
  rw [c]at b
  cases b
  exact vrel_V W _
 all_goals (unfold absA;exact vrel_V W _)
theorem hrelW(W:World):aH (muW W) (hpW W) W:=by
 refine⟨hpW_ok W,fun b c d e a=>?_,fun b a=>?_,fun b t c d e j p u f=>?_,fun b a=>?_⟩
 . have x:16<=b:=by
    rcases Xl b 16 with h|h
    . unfold muW at a;rw [if_pos h]at a;cases a
    . exact h
   obtain⟨k,rfl⟩: ∃k,b=k+16:=⟨b-16,by omega⟩
   rw [mO]at a
   split at a
   next q el r s=>
    cases a
    refine⟨absO W.heap.size (.cells q el r),_,by rw [re,s];rfl,s,q,el,r,rfl,rfl,by simp,Tr.sized_ofList _,fun i v l=>?_,fun h=>absurd rfl h⟩
    rw [Tr.get_ofList]at l
    simp only [Xd,Xr]at l
    obtain⟨y,w,rfl⟩:=l
    exact⟨y,by simpa using w,vrel_V W y⟩
   next=>cases a
   next=>cases a
 . rcases Xl b 16 with h|h
   . exact hpW_dead W h
   . obtain⟨k,rfl⟩: ∃k,b=k+16:=⟨b-16,by omega⟩
     rw [mO]at a
     split at a
     next=>cases a
     next o m n=>
      rw [re,n]
      cases o<;>first|rfl|exact absurd rfl (m _ _ _)
     next=>cases a
 . have g: ∀b c d e,muW W b=.blk c d e->b=c+16:=by
    intro b c d e a
    rcases Xl b 16 with h|h
    . unfold muW at a;rw [if_pos h]at a;cases a
    . obtain⟨k,rfl⟩: ∃k,b=k+16:=⟨b-16,by omega⟩
      rw [mO]at a
      split at a<;>cases a
      rfl
   rw [g b c _ _ u,g t c _ _ f]
 . show b<16+W.heap.size
   rcases Xl b 16 with h|h
   . omega
   . obtain⟨k,rfl⟩: ∃k,b=k+16:=⟨b-16,by omega⟩
     rw [mO]at a
     have:k<W.heap.size:=by
      rcases Xl k W.heap.size with f|f
      . exact f
      . rw [Array.getElem?_eq_none f]at a;exact absurd rfl a
     omega
theorem globW(W:World):kI (muW W):=by
 intro g a
 unfold dX
 have:muW W g=.dead:=by unfold muW;rw [if_pos a]
 simp only [this]
theorem belowW{W w':World}{f:Mu}{n:Hp}(e:Ext (muW W) (hpW W) W f n w'):Below W.heap.size W w':=by
 refine⟨e.os,e.tape,e.output,e.wsize,fun c g=>?_⟩
 cases j:W.heap[c]with
 | cells i el o=>
   have l:W.heap[c]? =some (.cells i el o):=by rw [Xf g,j]
   have p:muW W (c+16)=.blk c 0 i.size:=by rw [mO,l]
   exact(e.ro (c+16) c 0 i.size _ _ 0 p (by rw [re,l];rfl)).1
 | _ =>
   refine e.frame c g fun b m q a=>?_
   rcases Xl b 16 with h|h
   . unfold muW at a;rw [if_pos h]at a;cases a
   . obtain⟨k,rfl⟩: ∃k,b=k+16:=⟨b-16,by omega⟩
     rw [mO]at a
     split at a
     next r s t d=>
      cases a
      rw [Xf g,j]at d
      cases d
     next=>cases a
     next=>cases a
theorem calls_W{E:Env}{P:Program}(h:EOk E P){f:FuncId}{args:Array Value}{W:World}(j:aK E f (args.toList.map (absA W.heap.size)) (hpW W) (.bool true)):
 Calls P f args W fun e w'=>e=.returned (.bool true)/\Below W.heap.size W w':=by
 obtain⟨v,C,k,rfl,g⟩:=j
 intro l
 obtain⟨_,a⟩:=lim_ok h _ _ _ _ _ _ _ k
 have m:VL (muW W) (args.toList.map (absA W.heap.size)) args.toList:=by
  refine⟨by simp,fun i x D a c=>?_⟩
  simp only [Xd,Xr]at a
  obtain⟨y,n,rfl⟩:=a
  rw [n]at c
  cases c
  exact vrel_A W _
 obtain⟨o,w',d,p,F,q,G,r,s,t,u⟩:=a (muW W) W args none l .normal (hrelW W) (globW W) m trivial (.inl rfl)
 have:=r.normal
 subst this
 obtain⟨H,b,w⟩:=t
 cases w
 obtain⟨z,A,B⟩:=b.res
 exact⟨.returned (.bool true),w',p,⟨rfl,belowW q⟩,s,u,b.mode,b.defers,b.kind,z,A,B⟩
theorem load_W{W:World}{a:Addr}{i:Nat}{v:Value}(c:a.spot=none)(h:W.cell? (a.add i)=some v):(hpW W).load (a.block+16) (a.off+i) 1=some [gQ W.heap.size v]:=by
 obtain⟨b,o,s⟩:=a
 simp only []at c
 subst c
 have d:(Addr.mk b o none).add i=⟨b,o+i,none⟩:=by
  unfold Addr.add
  split
  . rename_i h;subst h;rfl
  . rfl
 rw [d]at h
 unfold World.cell? at h
 simp only []at h
 split at h
 next e el k f=>
  have g:Row (hpW W) (b+16) (e.toList.map (gQ W.heap.size)) 0:=⟨_,_,by rw [re,f];rfl,Tr.sized_ofList _,fun j=>Tr.get_ofList _ j⟩
  refine g.load1 ?_
  rw [Xd]
  simp at h
  simp [h]
 all_goals (first|cases h|skip)
end
end Go.Ab

namespace Go.Ab
def argEq:Value->Value->Bool
 | .int k a,.int c b=>iU k c&&gV a b
 | .bool a,.bool b=>bif a then b else !b
 | .string s,.string u=>gf (aD s) (aD u)
 |_,_=>false
def oK:List Value->List Value->Bool
 | [],[]=>true
 |a::l,b::m=>argEq a b&&oK l m
 |_,_=>false
def orcOf:List (Nat×List Value×Value)->Nat->List Value->Option Value
 | [],_,_=>none
 |(f,as,v)::l,g,a=>bif Xj f g&&oK as a then some v else orcOf l g a
theorem xO{a b:Value}(h:argEq a b=true):a=b:=by
 unfold argEq at h
 split at h
 . rename_i k m c n
   simp only [Xn]at h
   have d:k=c:=by simpa [fj]using h.1
   have e:m=n:=by simpa [gk]using h.2
   rw [d,e]
 . rename_i a b
   cases a<;>cases b<;>first|rfl|cases h
 . rename_i s u
   have this:s.data.toList=u.data.toList:=by
    have:=h
    rw [iR]at this
    simpa [aD]using this
   cases s with|mk a=>cases u with|mk b=>rw [show a=b from Array.ext' this]
 . cases h
theorem xe: ∀{a b:List Value},oK a b=true->a=b
 | [],[],_=>rfl
 | [],_::_,h=>by simp [oK]at h
 |_::_,[],h=>by simp [oK]at h
 | a::x,b::y,h=>by
   simp only [oK,Xn]at h
   rw [xe h.2,xO h.1]
theorem wA{P:Nat->List Value->Value->Prop}: ∀{l:List (Nat×List Value×Value)},(∀e∈l,P e.1 e.2.1 e.2.2)-> ∀{g:Nat} {args:List Value} {v:Value},orcOf l g args=some v->P g args v
 | [],_,g,args,v,h=>by cases h
 | (f,as,x)::l,b,g,args,v,h=>by
   simp only [orcOf]at h
   cases a:Xj f g&&oK as args with
   | true=>
     rw [a]at h
     cases h
     simp only [Xn]at a
     have c:=XK a.1
     have d:=xe a.2
     subst c
     subst d
     exact b _ (List.mem_cons_self)
   | false=>
     rw [a]at h
     exact wA (fun e i=>b e (Xv _ i)) h
def isVal(v:Value)(r:Option (Out×Option (Value×Bool)×Hp)):Bool:=match r with
 |some (.ret u,none,_)=>argEq u v
 |_=>false
theorem isVal_ret{v:Value}{r:Option (Out×Option (Value×Bool)×Hp)}(h:isVal v r=true): ∃a,r=some (.ret v,none,a):=by
 unfold isVal at h
 split at h
 . rw [xO h];exact⟨_,rfl⟩
 . cases h
def kj(E:Env)(P:Program)(e:Nat×List Value×Value):Prop:=(∃a,E.fn e.1=some a/\a.body.isSome=true)/\OrcAt P e.1 e.2.1 e.2.2
theorem tU{E:Env}{P:Program}(c:EOk E P){n:Nat}{f:Nat}{args:List Value}{v:Value}(b:(args.all cJ&&cJ v)=true)(a:isVal v ((runK E n).call f args none hp0)=true):kj E P (f,args,v):=by
 simp only [Xn]at b
 obtain⟨d,a⟩:=isVal_ret a
 rw [runK_call]at a
 exact As c b.1 b.2 a
theorem kj.with{E:Env}{P:Program}{o:Nat->List Value->Option Value}{e:Nat×List Value×Value}(k:kj E P e):kj (p9 E o) P e:=k
theorem kj.without{E:Env}{P:Program}{o:Nat->List Value->Option Value}{e:Nat×List Value×Value}(k:kj (p9 E o) P e):kj E P e:=k
theorem eok_table{E:Env}{P:Program}(b:EOk E P){l:List (Nat×List Value×Value)}(c: ∀e∈l,kj E P e):EOk (p9 E (orcOf l)) P:=
 eok_with b fun _ _ _ h=>wA (P:=fun g a v=>kj E P (g,a,v)) c h
end Go.Ab

namespace Go.Ab

inductive Ob where
 |row (l:List Value) (md:Nat)
 |map (es:List (Value×Value×Nat)) (c:Nat)
 |loop (x:ez)
 |dfr
def Has(h:Hp)(b:Nat):Ob->Prop
 | .row l a=>Row h b l a
 | .map d c=>h.get b=some (.map d c)
 | .loop x=>h.get b=some (.loop x)
 | .dfr=>h.get b=some .dfr
theorem Row.of_get{h f:Hp}{b:Nat}{l:List Value}{md:Nat}(e:f.get b=h.get b)(k:Row h b l md):Row f b l md:=by
 obtain⟨t,el,a,c,d⟩:=k;exact⟨t,el,by rw [e];exact a,c,d⟩
theorem Has.of_get{h a:Hp}{b:Nat}{o:Ob}(e:a.get b=h.get b)(k:Has h b o):Has a b o:=by
 cases o with
 |row l d=>exact Row.of_get e k
 |map f c=>exact e.trans k
 |loop x=>exact e.trans k
 |dfr=>exact e.trans k
theorem Has.lt{h:Hp}(a:h.t.Sized h.n){b:Nat}{o:Ob}(k:Has h b o):b<h.n:=by
 cases o with
 |row l d=>exact Row.lt a k
 |map e c=>exact fQ a k
 |loop x=>exact fQ a k
 |dfr=>exact fQ a k
theorem Has.some{h:Hp}{b:Nat}{o:Ob}(k:Has h b o):(h.get b).isSome=true:=by
 cases o with
 |row l d=>obtain⟨t,el,a,_⟩:=k;rw [a];rfl
 |map e c=>rw [show h.get b=_ from k];rfl
 |loop x=>rw [show h.get b=_ from k];rfl
 |dfr=>rw [show h.get b=_ from k];rfl

structure Mo(M:Nat->Prop)(h h':Hp):Prop where
 ok0:h.t.Sized h.n
 ok:h'.t.Sized h'.n
 n:h.n<=h'.n
 get: ∀b,b<h.n-> ¬M b->h'.get b=h.get b
 lo: ∀x,x<=h.n->x<=h.lo->(∀b,M b->x<=b)->x<=h'.lo
abbrev NoM:Nat->Prop:=fun _=>False
theorem Gr.fr{M:Nat->Prop}{h a:Hp}(g:Gr h a):Mo M h a:=⟨g.ok0,g.ok,g.n,fun b c _=>g.get b c,fun x d e _=>g.lo x d e⟩
theorem Mo.gr{h a:Hp}(g:Mo NoM h a):Gr h a:=⟨g.ok0,g.ok,g.n,fun b c=>g.get b c (fun x=>x),fun x d e=>g.lo x d e (fun _ h=>h.elim)⟩
theorem Mo.refl{M:Nat->Prop}{h:Hp}(a:h.t.Sized h.n):Mo M h h:=(Gr.refl a).fr
theorem Mo.trans{M M':Nat->Prop}{a b c:Hp}(x:Mo M a b)(y:Mo M' b c)(e: ∀i,M' i->M i\/a.n<=i):Mo M a c:=
 ⟨x.ok0,y.ok,XF x.n y.n,fun i f g=>(y.get i (Nat.lt_of_lt_of_le f x.n) (fun d=>(e i d).elim g (fun h=>by omega))).trans (x.get i f g),
  fun i k m l=>y.lo i (XF k x.n) (x.lo i k m l) fun j n=>(e j n).elim (l j) (fun h=>by omega)⟩
theorem Mo.mono{M M':Nat->Prop}{a b:Hp}(x:Mo M a b)(c: ∀i,M i->M' i):Mo M' a b:=
 ⟨x.ok0,x.ok,x.n,fun i d e=>x.get i d (fun h=>e (c i h)),fun i f g k=>x.lo i f g fun j l=>k j (c j l)⟩
theorem Mo.new{M:Nat->Prop}{a h:Hp}(g:Mo M a h)(x:Blk):Mo M a (h.new x):=g.trans (M':=NoM) (Gr.new g.ok x).fr (fun _ h=>h.elim)
theorem Mo.put{M:Nat->Prop}{a h:Hp}(g:Mo M a h){b:Nat}(c:a.n<=b\/M b)(x:Blk):Mo M a (h.put b x):=by
 refine g.trans (M':=fun i=>i=b) ⟨g.ok,put_ok g.ok b x,Xg _,fun i j d=>cg (fun e=>d e.symm),fun i k l f=>?_⟩ (fun i h=>by subst h;exact c.symm)
 show i<=dL b h.lo
 have:=f b rfl
 unfold dL
 cases Xb b h.lo<;>simp<;>omega
theorem Mo.has{M:Nat->Prop}{a h:Hp}(g:Mo M a h){b:Nat}{o:Ob}(k:Has a b o)(c: ¬M b):Has h b o:=Has.of_get (g.get b (k.lt g.ok0) c) k

abbrev GL:=Value×Nat×List Value
def dU:GL->Option Nat
 |(.slice (some a) _ _,_,_)=>some a.block
 |_=>none
def eZ(h:Hp)(p:GL):Prop:=(p.1=.slice none 0 0/\p.2.2=[])\/ ∃b n,p.1=.slice (some ⟨b,0,some p.2.1⟩) n n/\n*p.2.1=p.2.2.length/\Row h b p.2.2 1
def keys(L:List (Nat×Ob))(G:List GL):List Nat:=L.map Prod.fst++G.filterMap dU

structure St(M:Nat->Prop)(h0 h:Hp)(L:List (Nat×Ob))(G:List GL):Prop where
 fr:Mo M h0 h
 own: ∀p∈L,(h0.n<=p.1\/M p.1)/\Has h p.1 p.2
 gown: ∀p∈G,eZ h p/\ ∀b,dU p=some b->h0.n<=b\/M b
 apart:(keys L G).Nodup

section
variable{M:Nat->Prop}{h0 h:Hp}{L:List (Nat×Ob)}{G:List GL}
theorem eZ.of_get{c:Hp}{p:GL}(k:eZ h p)(e: ∀b,dU p=some b->c.get b=h.get b):eZ c p:=by
 rcases k with k|⟨b,n,a,d,f⟩
 . exact .inl k
 . refine .inr ⟨b,n,a,d,Row.of_get (e b ?_) f⟩
   obtain⟨v,k,g⟩:=p
   simp only []at a
   subst a
   rfl
theorem eZ.lt(d:h.t.Sized h.n){p:GL}(k:eZ h p){b:Nat}(c:dU p=some b):b<h.n:=by
 rcases k with k|⟨j,n,a,e,f⟩
 . obtain⟨v,g,i⟩:=p
   obtain⟨a,e⟩:=k
   simp only []at a
   subst a
   cases c
 . obtain⟨v,g,i⟩:=p
   simp only []at a
   subst a
   cases c
   exact Row.lt d f
theorem i7{p:Nat×Ob}(a:p∈L):p.1∈keys L G:=Xw _ (XN a)
theorem fI{p:GL}{b:Nat}(a:p∈G)(c:dU p=some b):b∈keys L G:=Xm _ (List.mem_filterMap.2 ⟨p,a,c⟩)
theorem St.key_lt(S:St M h0 h L G){b:Nat}(a:b∈keys L G):b<h.n:=by
 unfold keys at a
 rcases List.mem_append.1 a with a|a
 . obtain⟨p,c,rfl⟩:=List.mem_map.1 a
   exact(S.own p c).2.lt S.fr.ok
 . obtain⟨p,c,d⟩:=List.mem_filterMap.1 a
   exact(S.gown p c).1.lt S.fr.ok d
theorem St.init(a:h.t.Sized h.n):St M h h [] []:=⟨Mo.refl a,fun _ h=>(by cases h),fun _ h=>(by cases h),.nil⟩
theorem St.ok(S:St M h0 h L G):h.t.Sized h.n:=S.fr.ok
theorem St.gr(S:St NoM h0 h L G):Gr h0 h:=S.fr.gr
theorem St.push(S:St M h0 h L G){b:Nat}{o:Ob}(c:h0.n<=b\/M b)(d:Has h b o)(e:b∉keys L G):St M h0 h ((b,o)::L) G:=
 ⟨S.fr,fun p a=>by
  rcases List.mem_cons.1 a with rfl|a
  . exact⟨c,d⟩
  . exact S.own p a,S.gown,List.nodup_cons.2 ⟨e,S.apart⟩⟩
theorem St.step(S:St M h0 h L G){M':Nat->Prop}{c:Hp}(f:Mo M' h c)(g: ∀b,M' b->M b\/h0.n<=b)(d: ∀b∈keys L G,¬M' b):St M h0 c L G:=
 ⟨S.fr.trans f g,fun p a=>⟨(S.own p a).1,f.has (S.own p a).2 (d _ (i7 a))⟩,
  fun p a=>⟨(S.gown p a).1.of_get fun b e=>f.get b ((S.gown p a).1.lt S.ok e) (d b (fI a e)),(S.gown p a).2⟩,S.apart⟩
theorem St.call(S:St M h0 h L G){a:Hp}(g:Gr h a):St M h0 a L G:=S.step (M':=NoM) g.fr (fun _ h=>h.elim) (fun _ _ h=>h)
theorem St.new(S:St M h0 h L G){x:Blk}{o:Ob}(a:Has (h.new x) h.n o):St M h0 (h.new x) ((h.n,o)::L) G:=
 (S.call (Gr.new S.ok x)).push (.inl S.fr.n) a (fun b=>by have:=S.key_lt b;omega)
theorem St.newG(S:St M h0 h L G){x:Blk}{k n:Nat}{vs:List Value}(d:n*k=vs.length)(f:Row (h.new x) h.n vs 1):St M h0 (h.new x) L ((.slice (some ⟨h.n,0,some k⟩) n n,k,vs)::G):=by
 have a:=S.call (Gr.new S.ok x)
 refine⟨a.fr,a.own,fun p c=>?_,?_⟩
 . rcases List.mem_cons.1 c with rfl|c
   . exact⟨.inr ⟨_,n,rfl,d,f⟩,fun b g=>by cases g;exact .inl S.fr.n⟩
   . exact a.gown p c
 . unfold keys
   have e:List.filterMap dU ((Value.slice (some ⟨h.n,0,some k⟩) n n,k,vs)::G)=h.n::List.filterMap dU G:=rfl
   rw [e]
   refine(List.perm_middle.nodup_iff).2 (List.nodup_cons.2 ⟨fun i=>?_,S.apart⟩)
   have:=S.key_lt i
   omega
theorem St.nilG(S:St M h0 h L G){k:Nat}:St M h0 h L ((.slice none 0 0,k,[])::G):=
 ⟨S.fr,S.own,fun p a=>by
  rcases List.mem_cons.1 a with rfl|a
  . exact⟨.inl ⟨rfl,rfl⟩,fun b c=>by cases c⟩
  . exact S.gown p a,S.apart⟩
theorem kK{α:Type}{l:List α}{i:Nat}{x y:α}(h:y∈l.set i x):y=x\/ ∃j,j≠i/\l[j]? =some y:=by
 rw [List.mem_iff_getElem?]at h
 obtain⟨j,a⟩:=h
 rw [XB]at a
 split at a
 . split at a
   . cases a;exact .inl rfl
   . cases a
 . exact .inr ⟨j,by omega,a⟩
theorem pA{α:Type}{l:List α}(h:l.Nodup){i j:Nat}{x:α}(f:l[i]? =some x)(g:l[j]? =some x):i=j:=by
 have k:=(List.getElem?_eq_some_iff.1 f)
 have m:=(List.getElem?_eq_some_iff.1 g)
 obtain⟨a,d⟩:=k
 obtain⟨b,e⟩:=m
 rcases Nat.lt_trichotomy i j with c|c|c
 . exact absurd (d.trans e.symm) (List.pairwise_iff_getElem.1 h i j a b c)
 . exact c
 . exact absurd (e.trans d.symm) (List.pairwise_iff_getElem.1 h j i b a c)
theorem ot{L:List (Nat×Ob)}{G:List GL}{i:Nat}{p:Nat×Ob}(a:L[i]? =some p):(keys L G)[i]? =some p.1:=by
 unfold keys
 have:=(List.getElem?_eq_some_iff.1 a).1
 rw [XE (by simpa using this),Xd,a];rfl
theorem St.put(S:St M h0 h L G){i b:Nat}{o o':Ob}(f:L[i]? =some (b,o)){x:Blk}(l:Has (h.put b x) b o'):St M h0 (h.put b x) (L.set i (b,o')) G:=by
 have k:=S.own _ (zO f)
 have g:(keys L G)[i]? =some b:=ot f
 refine⟨S.fr.put k.1 x,fun p a=>?_,fun p a=>⟨(S.gown p a).1.of_get fun c m=>?_,(S.gown p a).2⟩,?_⟩
 . rcases kK a with rfl|⟨j,n,a⟩
   . exact⟨k.1,l⟩
   . have d:=S.own p (zO a)
     refine⟨d.1,d.2.of_get (cg fun e=>n ?_)⟩
     have q:(keys L G)[j]? =some b:=by rw [ot a];rw [e]
     exact pA S.apart q g
 . refine cg fun e=>?_
   subst e
   have d:=S.apart
   unfold keys at d
   rw [List.nodup_append]at d
   exact d.2.2 b (List.mem_map.2 ⟨_,zO f,rfl⟩) b (List.mem_filterMap.2 ⟨p,a,m⟩) rfl
 . have:keys (L.set i (b,o')) G=keys L G:=by
    unfold keys
    congr 1
    rw [List.map_set]
    refine Xq fun j=>?_
    rw [XB]
    split
    . rename_i e;subst e
      have:=(List.getElem?_eq_some_iff.1 f).1
      rw [if_pos (by simpa using this),Xd,f];rfl
    . rfl
   rw [this];exact S.apart
theorem St.row(S:St M h0 h L G){b:Nat}{l:List Value}{md:Nat}(a:(b,Ob.row l md)∈L):Row h b l md:=(S.own _ a).2
theorem St.ld(S:St M h0 h L G){b o:Nat}{l:List Value}{md:Nat}{v:Value}(a:(b,Ob.row l md)∈L)(c:l[o]? =some v):h.load b o 1=some [v]:=(S.row a).load1 c
theorem St.lds(S:St M h0 h L G){b o n:Nat}{l:List Value}{md:Nat}(a:(b,Ob.row l md)∈L)(c:o+n<=l.length):h.load b o n=some ((l.drop o).take n):=(S.row a).load c
theorem m0{α:Type}{a:α}{l:List α}:a∈a::l:=List.mem_cons_self
theorem m1{α:Type}{a b:α}{l:List α}:a∈b::a::l:=.tail _ m0
theorem m2{α:Type}{a b c:α}{l:List α}:a∈b::c::a::l:=.tail _ m1
theorem m3{α:Type}{a b c d:α}{l:List α}:a∈b::c::d::a::l:=.tail _ m2
theorem m4{α:Type}{a b c d e:α}{l:List α}:a∈b::c::d::e::a::l:=.tail _ m3
theorem m5{α:Type}{a b c d e f:α}{l:List α}:a∈b::c::d::e::f::a::l:=.tail _ m4
theorem m6{α:Type}{a b c d e f g:α}{l:List α}:a∈b::c::d::e::f::g::a::l:=.tail _ m5
theorem m7{α:Type}{a b c d e f g i:α}{l:List α}:a∈b::c::d::e::f::g::i::a::l:=.tail _ m6
theorem St.old(S:St M h0 h L G){b o n:Nat}{l:List Value}(e:h0.load b o n=some l)(a: ¬M b):h.load b o n=some l:=by
 have:=S.fr.get b (bJ S.fr.ok0 e) a
 unfold Hp.load at e⊢
 rw [this];exact e
end
end Go.Ab

namespace Go.Ab

def oY(h:Hp)(X:Hp->Option (c6×Hp))(F:Nat->Value)(o:Ob):Prop:=
 ∃a,(∀x,X {h with lo:=x}=some (.val (F h.n),({h with lo:=x}:Hp).new a))/\(h.t.Sized h.n->Has (h.new a) h.n o)
section
variable{M:Nat->Prop}{h0 h:Hp}{L:List (Nat×Ob)}{G:List GL}
section
variable{E:Env}{cx:Cx}{o:Oper}{l:Loc}{K:Ex->Loc->Hp->Prop}{X:Hp->Option (c6×Hp)}{F:Nat->Value}{ob:Ob}
theorem ag(N:oY h X F ob)(S:St M h0 h L G)(c: ∀a b,St M h0 a ((b,ob)::L) G->h0.n<=b->K .normal (l.put o.dst (F b)) a):eR E cx o l K (X h):=by
 obtain⟨d,f,g⟩:=N
 have e:X h=_:=f h.lo
 rw [e]
 exact c _ _ (S.new (g S.ok)) S.fr.n
theorem dK{cx:Cx}{Q:eF}{a:List Oper}{q:Nat}{ps:List (Nat×Nat)}{os:List Oper}{i:Nat}{k:List Fr}{c:List (Nat×Tch)}(N:oY h X F ob)(S:St M h0 h L G)
 (e: ∀d b,St M h0 d ((b,ob)::L) G->h0.n<=b->b=h.n->Run E (lim E) cx Q (.opsD a q ps os (i+1) c::k) .normal (l.put o.dst (F b)) d):DQ E cx Q a q ps o os i k l h c (X {h with lo:=h.n}):=by
 obtain⟨f,g,j⟩:=N
 rw [g]
 exact⟨zM (Xg _),e _ _ (S.new (j S.ok)) S.fr.n rfl⟩
end
theorem bg{v:Value}{t:TypeId}(a: ∀x,v≠ .chan x):oY h (fun h=>boxR h t v) ptrTo (.row (ah v) 1):=by
 refine⟨.cells (Tr.ofList (ah v)) (ah v).length t 1,fun x=>?_,fun b=>ou b _ _ _⟩
 cases v<;>first|rfl|exact absurd rfl (a _)
theorem ax{z:List Value}{t:TypeId}:oY h (fun h=>allocR h t (some z)) ptrTo (.row z 1):=
 ⟨.cells (Tr.ofList z) z.length t 1,fun _=>rfl,fun a=>ou a _ _ _⟩
noncomputable def mapR(h:Hp):Option (c6×Hp):=some (.val (.map (some h.n)),h.new (.map [] 0))
theorem AR{E:Env}{ρ:Operand->Value}{h:Hp}{t:TypeId}:aop E ρ h (.makeMap t none)=mapR h:=rfl
theorem pT:oY h mapR (fun b=>.map (some b)) (.map [] 0):=⟨.map [] 0,fun _=>rfl,fun a=>by show(h.new _).get h.n=_;rw [h.get_new _ a,if_pos rfl]⟩
theorem tQ(a:List Value): ∀n,(aT a n).length=n*a.length
 |0=>by simp [aT]
 |n+1=>by simp only [aT,Xa,tQ a n];rw [Xo];omega
theorem row_blank{h:Hp}(a:h.t.Sized h.n)(z:Value)(n:Nat)(e:TypeId):Row (h.new (.cells (Tr.blank z n n) n e 1)) h.n (Xk n z) 1:=by
 refine⟨Tr.blank z n n,e,?_,?_,fun i=>?_⟩
 . rw [h.get_new _ a,if_pos rfl,Xs]
 . rw [Xs];exact Tr.sized_blank _ _ _ (Xg _)
 . rw [Tr.get_blank _ _ _ (Xg _),XH]
def d9(E:Env)(e:TypeId)(a k:Nat)(b:List Value):Prop:=(∃i,E.ty e=some i/\i.bytes=a/\i.size=k)/\E.zero e=some b/\b.length=k
theorem jF{E:Env}{t e:TypeId}{f k:Nat}{d:List Value}{kd kd':IntKind}{n:Int}(q:E.und t=some (.slice e))(y:d9 E e f k d)(h0:0<=n)(A:n.toNat*(f+1)<=70368744177664):
 oY h (fun h=>cM (iW E h t (.int kd n) (.int kd' n))) (fun b=>.slice (some ⟨b,0,none⟩) n.toNat n.toNat) (.row (aT d n.toNat) 1):=by
 obtain⟨⟨i,r,rfl,rfl⟩,s,p⟩:=y
 obtain⟨m,rfl⟩:=Int.eq_ofNat_of_zero_le h0
 have hle:Xb (m*(i.bytes+1)) 70368744177664=true:=zM A
 have u:Xj d.length i.size=true:=by rw [p];exact Xh _
 have g:natV (.int kd (m:Int))=some m:=rfl
 have j:natV (.int kd' (m:Int))=some m:=rfl
 have v:(Xb m m&&Xb (m*(i.bytes+1)) 70368744177664)=true:=by rw [hle,zM (Xg _)];rfl
 by_cases w: ∃z,d=[z]
 . obtain⟨z,rfl⟩:=w
   refine⟨.cells (Tr.blank z m m) m e 1,fun x=>?_,fun o=>?_⟩
   . simp only [iW,q,r,s,g,j,v,u,cond_true,cM]
     rfl
   . have:aT [z] (m:Int).toNat=Xk m z:=by
      have: ∀n,aT [z] n=Xk n z:=by intro n;induction n with
       |zero=>rfl
       |succ n B=>simp [aT,B,List.replicate_succ]
      exact this m
     rw [this]
     exact row_blank o z m e
 . refine⟨.cells (Tr.ofList (aT d m)) (m*i.size) e 1,fun x=>?_,fun o=>?_⟩
   . simp only [iW,q,r,s,g,j,v,u,cond_true]
     cases d with
     |nil=>rfl
     | cons a l=>
       cases l with
       |nil=>exact absurd ⟨a,rfl⟩ w
       |cons b l=>rfl
   . have:=ou o (aT d m) e 1
     rw [tQ,p]at this
     show Row _ _ (aT d m) 1
     obtain⟨t,el,a,b,c⟩:=this
     exact⟨Tr.ofList (aT d m),e,by rw [h.get_new _ o,if_pos rfl,tQ,p],Tr.sized_ofList _,Tr.get_ofList _⟩

theorem St.store(S:St M h0 h L G){E:Env}{t:TypeId}{i b off n md:Nat}{s:Option Nat}{l:List Value}{v:Value}(d:L[i]? =some (b,.row l md))(e:E.sz t=some n)(m: ∀x,v≠ .chan x)(f:(ah v).length=n)
 (hf:(ah v).all jB=true) (g:off+n<=l.length) (a:md≠0): ∃c,ie E h t (.pointer (some ⟨b,off,s⟩)) v=some c/\St M h0 c (L.set i (b,.row (lay l off (ah v)) md)) G/\Mo (· =b) h c:=by
 subst f
 obtain⟨x,j,k⟩:=(S.row (zO d)).store S.ok a (vs:=ah v) g hf
 refine⟨h.put b x,?_,S.put d k,(Mo.refl (M:=(· =b)) S.ok).put (.inr rfl) x⟩
 have:ie E h t (.pointer (some ⟨b,off,s⟩)) v=bif Xj (ah v).length (ah v).length then h.store b off (ah v)else none:=by
  simp only [ie,e]
 rw [this,Xh]
 exact j
section
variable{E:Env}{cx:Cx}{o:Oper}{l:Loc}{K:Ex->Loc->Hp->Prop}
theorem ay{x:Option Hp}{P:Hp->Prop}(b: ∃a,x=some a/\P a)(c: ∀a,P a->K .normal (l.put o.dst (.tuple #[])) a):eR E cx o l K (ef x):=by
 obtain⟨a,rfl,d⟩:=b
 exact c a d
theorem dA{x:Option (Hp×Value)}{P:Hp->Value->Prop}(b: ∃a v,x=some (a,v)/\P a v)(c: ∀a v,P a v->K .normal (l.put o.dst v) a):eR E cx o l K (cM x):=by
 obtain⟨a,v,rfl,d⟩:=b
 exact c a v d
theorem dw{cx:Cx}{Q:eF}{a:List Oper}{q:Nat}{ps:List (Nat×Nat)}{os:List Oper}{i:Nat}{k:List Fr}{c:Hp->List (Nat×Tch)}{x:Option Hp}{P:Hp->Prop}(d: ∃b,x=some b/\P b)
 (e: ∀b,P b->Run E (lim E) cx Q (.opsD a q ps os (i+1) (c b)::k) .normal (l.put o.dst (.tuple #[])) b):DN E cx Q a q ps o os i k l c (ef x):=by
 obtain⟨b,rfl,f⟩:=d
 exact e b f
theorem dn_v{cx:Cx}{Q:eF}{a:List Oper}{q:Nat}{ps:List (Nat×Nat)}{os:List Oper}{i:Nat}{k:List Fr}{c:Hp->List (Nat×Tch)}{x:Option (Hp×Value)}{P:Hp->Value->Prop}(d: ∃b v,x=some (b,v)/\P b v)
 (e: ∀b v,P b v->Run E (lim E) cx Q (.opsD a q ps os (i+1) (c b)::k) .normal (l.put o.dst v) b):DN E cx Q a q ps o os i k l c (cM x):=by
 obtain⟨b,v,rfl,f⟩:=d
 exact e b v f
end

theorem oW{L:List (Nat×Ob)}{G:List GL}{j:Nat}{p d:GL}(e:(keys L G).Nodup)(g:G[j]? =some p){b:Nat}(i:dU d=some b)(c:b∉keys L G):(keys L (G.set j d)).Nodup:=by
 obtain⟨hlt,k⟩:=List.getElem?_eq_some_iff.1 g
 have f:G=G.take j++p::G.drop (j+1):=by rw [<-k,List.getElem_cons_drop hlt,List.take_append_drop]
 have l:G.set j d=G.take j++d::G.drop (j+1):=List.set_eq_take_append_cons_drop.trans (if_pos hlt)
 unfold keys at*
 rw [l,Xt,Xp i,<-List.append_assoc]
 refine List.perm_middle.nodup_iff.2 (List.nodup_cons.2 ⟨fun a=>c ?_,?_⟩)
 . rw [f,Xt]
   rcases List.mem_append.1 a with a|a
   . rcases List.mem_append.1 a with a|a
     . exact Xw _ a
     . exact Xm _ (Xw _ a)
   . refine Xm _ (Xm _ ?_)
     rw [Xy]
     split
     . exact a
     . exact Xv _ a
 . rw [f,Xt,<-List.append_assoc]at e
   refine e.sublist (List.Sublist.append (List.Sublist.refl _) ?_)
   rw [Xy]
   split
   . exact List.Sublist.refl _
   . exact List.sublist_cons_self _ _
theorem St.grow (S :St M h0 h L G) {E:Env} {t tx e:TypeId} {J k j m:Nat} {zs vs new:List Value} {v x:Value} (B:G[j]? =some (v,k,vs)) (hu:E.und t=some (.slice e)) (he:d9 E e J k zs) (P:0<J)
 (hx:dz E tx=some false) (C:aJ h k x=some (m,new)) (Z:m*k=new.length) (O:0<k) (hf:new.all jB=true) (ad:(vs.length+new.length)*(J+1)<=70368744177664) {ts:List TypeId}:
 ∃Q v',cU E h (t::tx::ts) v x=some (Q,v')/\St M h0 Q L (G.set j (v',k,vs++new)):=by
 obtain⟨⟨i,hi,rfl,rfl⟩,hz,hl⟩:=he
 have hlt:=(List.getElem?_eq_some_iff.1 B).1
 obtain⟨hg,R⟩:=S.gown _ (zO B)
 have D : ∀ a d,v=.slice a d d->d*i.size=vs.length->(a=none/\d=0\/ ∃b,a=some ⟨b,0,some i.size⟩/\Row h b vs 1)->
  ∃Q v',eG E h e i a d d m new=some (Q,v')/\St M h0 Q L (G.set j (v',i.size,vs++new)):=by
  intro a d hv o y
  by_cases r:m=0
  . subst r
    have:new=[]:=by
     cases new with
     |nil=>rfl
     |cons a l=>simp at Z
    subst this
    refine⟨h,v,?_,?_⟩
    . unfold eG
      rw [zM (by omega:d+0<=d)]
      simp only [cond_true]
      rw [hv]
      cases a<;>rfl
    . rw [List.append_nil]
      have:G.set j (v,i.size,vs)=G:=by
       refine Xq fun n=>?_
       rw [XB]
       split
       . rename_i e;subst e;first|rw [if_pos hlt,B]|exact B.symm
       . rfl
      rw [this];exact S
  . have T : Xb (d+m) d=false:=by
     cases hx:Xb (d+m) d with
     |false=>rfl
     |true=>exact absurd (Xe hx) (by omega)
    have U:d+m<=vs.length+new.length:=by
     rw [<-o,<-Z]
     have r:=Xi d O
     have h2:=Xi m O
     omega
    have z:(Xb ((d+m)*(i.bytes+1)) 70368744177664&&Xz 0 i.bytes)=true:=by
     rw [zM (XF (Xx _ U) ad)]
     simp only [Bool.true_and]
     rw [XD];exact P
    have af:Xj zs.length i.size=true:=by rw [hl];exact Xh _
    have A:eG E h e i a d d m new=mF h e i.size a d m new:=by
     unfold eG
     rw [T]
     simp only [cond_false]
     rw [z,hz]
     simp only [cond_true,af]
    rw [A]
    rcases y with⟨rfl,rfl⟩|⟨b,rfl,V⟩
    . have ai:vs=[]:=by
       cases vs with
       |nil=>rfl
       |cons a l=>simp at o
      subst ai
      refine⟨h.new (.cells (Tr.ofList new) new.length e 1),.slice (some ⟨h.n,0,some i.size⟩) m m,rfl,?_⟩
      have S':=S.call (Gr.new S.ok (.cells (Tr.ofList new) new.length e 1))
      have K:h.n∉keys L G:=fun O=>by have:=S.key_lt O;omega
      refine⟨S'.fr,S'.own,fun p f=>?_,oW S.apart B (b:=h.n) rfl K⟩
      rcases kK f with rfl|⟨j',_,f⟩
      . exact⟨.inr ⟨h.n,m,rfl,Z,ou S.ok new e 1⟩,fun b P=>by cases P;exact .inl S.fr.n⟩
      . exact S'.gown p (zO f)
    . obtain ⟨W,el,F,H,ak⟩:=V
      have al:ja W vs.length 0 (d*i.size) new=some (W.pushAll vs.length new,vs.length+new.length):=by
       unfold ja
       rw [o,Xh vs.length]
       rfl
      refine⟨(h.put b .dead).new (.cells (W.pushAll vs.length new) (vs.length+new.length) e 1),.slice (some ⟨h.n,0,some i.size⟩) (d+m) (d+m),?_,?_⟩
      . unfold mF
        simp only [F,al,hf,Xh]
        rfl
      . have u:dU (v,i.size,vs)=some b:=by rw [hv];rfl
        have a5:=fQ S.ok F
        have N:=(S.fr.put (R b u) .dead)
        have aL: ∀c∈L.map Prod.fst,c≠b:=fun c s e=>by
         have r:=S.apart
         unfold keys at r
         rw [List.nodup_append]at r
         exact r.2.2 c s b (List.mem_filterMap.2 ⟨_,zO B,u⟩) e
        have w: ∀c,c<h.n->c≠b->((h.put b .dead).new (.cells (W.pushAll vs.length new) (vs.length+new.length) e 1)).get c=h.get c:=fun c s a0=>by
         rw [Hp.get_new _ _ N.ok,if_neg (by show c≠h.n;omega)]
         exact cg (Ne.symm a0)
        have K:h.n∉keys L G:=fun O=>by have:=S.key_lt O;omega
        refine⟨N.new _,fun p f=>?_,fun p f=>?_,oW S.apart B (b:=h.n) rfl K⟩
        . have r:=S.own p f
          exact⟨r.1,r.2.of_get (w _ (r.2.lt S.ok) (aL _ (XN f)))⟩
        . rcases kK f with rfl|⟨j',a1,f⟩
          . refine⟨.inr ⟨h.n,d+m,rfl,?_,?_⟩,fun b P=>by cases P;exact .inl S.fr.n⟩
            . show(d+m)*i.size=(vs++new).length
              rw [XJ,o,Z,Xa]
            . refine⟨W.pushAll vs.length new,e,?_,?_,fun n=>?_⟩
              . rw [Hp.get_new _ _ N.ok]
                rw [if_pos (show h.n=(h.put b .dead).n from rfl),Xa]
              . rw [Xa];exact Tr.sized_pushAll _ H
              . rw [Tr.get_pushAll _ _ _ H,XM]
                split
                . exact ak n
                . rfl
          . have r:=S.gown p (zO f)
            refine⟨r.1.of_get fun c s=>w c (r.1.lt S.ok s) fun e=>a1 ?_,r.2⟩
            subst e
            -- two lists with a6 a2
            have h2:=S.apart
            unfold keys at h2
            have h3:=(List.nodup_append.1 h2).2.1
            have a3: ∀(G:List GL) (a c:Nat) (p q:GL),(G.filterMap dU).Nodup->G[a]? =some p->G[c]? =some q-> ∀x,dU p=some x->dU q=some x->a=c:=by
             intro G
             induction G with
             |nil=>intro a c p q _ y;simp at y
             | cons g G ih=>
               intro a c p q I y s x f hq
               have a4:(G.filterMap dU).Nodup:=by
                rw [Xy]at I
                split at I
                . exact I
                . exact(List.nodup_cons.1 I).2
               cases a with
               | zero=>
                 cases c with
                 |zero=>rfl
                 | succ c=>
                   simp at y s
                   subst y
                   rw [Xp f]at I
                   exact absurd (List.mem_filterMap.2 ⟨q,zO s,hq⟩) (List.nodup_cons.1 I).1
               | succ a=>
                 cases c with
                 | zero=>
                   simp at y s
                   subst s
                   rw [Xp hq]at I
                   exact absurd (List.mem_filterMap.2 ⟨p,zO y,f⟩) (List.nodup_cons.1 I).1
                 | succ c=>
                   simp at y s
                   rw [ih a c p q a4 y s x f hq]
            exact a3 G j' j p _ h3 f B c s u
 unfold cU
 simp only [hx]
 unfold jm
 simp only [hu,hi]
 rcases hg with⟨X,Y⟩|⟨b,n,X,Y,k3⟩
 . simp only []at X Y
   subst X Y
   simp only [C]
   exact D none 0 rfl (by simp) (.inl ⟨rfl,rfl⟩)
 . simp only []at X Y k3
   subst X
   simp only [C]
   exact D _ n rfl Y (.inr ⟨b,rfl,k3⟩)
end
end Go.Ab

namespace Go.Ab

theorem aQ{E:Env}{cx:Cx}{Q:eF}{k:List Fr}{n:Nat}{d:List Deferred}{e:Option (Value×Bool)}{b:Code}{α:Type}(I:α->(Nat->Value)->Hp->Prop)(m:α->Nat)
 (p: ∀a,(∀f c g,m f<m a->I f c g->Run E (lim E) cx Q (.code (.loop b)::k) .normal (LL n c d e) g)-> ∀ρ h,I a ρ h->Run E (lim E) cx Q (.code b:: .code (.loop b)::k) .normal (LL n ρ d e) h):
 ∀a ρ h,I a ρ h->Run E (lim E) cx Q (.code (.loop b)::k) .normal (LL n ρ d e) h:=by
 have i: ∀j a,m a<j-> ∀ρ h,I a ρ h->Run E (lim E) cx Q (.code (.loop b)::k) .normal (LL n ρ d e) h:=by
  intro j
  induction j with
  |zero=>intro a q;omega
  | succ j r=>
    intro a q ρ h l
    rw [cd]
    exact p a (fun f c g hlt o=>r f (by omega) c g o) ρ h l
 intro a ρ h l
 exact i (m a+1) a (by omega) ρ h l

def pj(b:Nat):Deferred:={target:=.collected b,args:=#[]}
section
variable(E:Env)(cx:Cx)(Q:eF)(k:List Fr)
def RangeGo(l:Loc)(h:Hp):Option Code->Prop
 |none=>Run E (lim E) cx Q k .normal l h
 |some (.exit id)=>Run E (lim E) cx Q k (.exit id) l h
 |some .ret=>Run E (lim E) cx Q k .ret l h
 |_=>False
def RangeQ(l:Loc)(b:Nat):Out->Option (Value×Bool)->Hp->Prop
 | .pan v,_,a=>Run E (lim E) cx Q k (.pan v) l a
 | .ret _,_,a=> ∃x,a.get b=some (.loop x)/\x.st≠1/\RangeGo E cx Q k l (a.put b .dead) x.pending
end
section
variable{E:Env}{cx:Cx}{Q:eF}{k:List Fr}{n:Nat}{ρ:Nat->Value}{d:List Deferred}{rc:Option (Value×Bool)}{M:Nat->Prop}{h0 h:Hp}{L:List (Nat×Ob)}{G:List GL}
theorem Ay {f:Operand} {params:Array Tmp} {assign body:Code} {g:FuncId} {a b:Array Value} {j:Hp} {p:Nat} {dfs:List Deferred} (hf:(LL n ρ d rc).ev f=.func (.func g) a b) (F:cx.nr=n)
 (H :(match cx.round with
   |none=>some (h.new .dfr,h.n,({target:=.collected h.n,args:=#[]}:Deferred)::d)
   | some r=>match h.get r with
     |some (.loop x)=>some (h,x.defers,d)
     |_=>none)=some (j,p,dfs))
 (I:fk E g (a.toList++[.func (.yield j.n) #[] #[]]++b.toList) none (j.new (.loop {fn:=cx.fn,regs:=tab n ρ,nr:=n,params,assign,body,st:=0,pending:=none,defers:=p})) (RangeQ E cx Q k (LL n ρ dfs rc) j.n)):
 Run E (lim E) cx Q (.code (.rangeFunc f params assign body)::k) .normal (LL n ρ d rc) h:=by
 obtain⟨o,J,l,K,A⟩:=I
 simp only [Run]
 have e:aC E (lim E) cx (.rangeFunc f params assign body) (LL n ρ d rc) h=ic (lim E) cx ((LL n ρ d rc).ev f) params assign body (LL n ρ d rc) h:=rfl
 rw [e,hf]
 have N:ic (lim E) cx (.func (.func g) a b) params assign body (LL n ρ d rc) h=(match(some (j,p,dfs):Option (Hp×Nat×List Deferred))with
  |none=>none
  | some (j,p,dfs)=>
    match(lim E).call g (a.toList++[.func (.yield j.n) #[] #[]]++b.toList) none
     (j.new (.loop {fn:=cx.fn,regs:=tab n ρ,nr:=cx.nr,params,assign,body,st:=0,pending:=none,defers:=p}))with
    |none=>none
    |some (.pan v,_,l)=>some (.pan v,LL n ρ dfs rc,l)
    | some (.ret _,_,l)=>match l.get j.n with
      | some (.loop x)=>match x.st with
        |1=>none
        | _=>match x.pending with
          |none=>some (.normal,LL n ρ dfs rc,l.put j.n .dead)
          |some (.exit id)=>some (.exit id,LL n ρ dfs rc,l.put j.n .dead)
          |some .ret=>some (.ret,LL n ρ dfs rc,l.put j.n .dead)
          |_=>none
      |_=>none):=by rw [<-H];rfl
 rw [N]
 simp only [F,K]
 cases o with
 |pan v=>exact⟨_,_,_,rfl,A⟩
 | ret v=>
   obtain⟨x,O,t,u⟩:=A
   simp only [O]
   obtain⟨P,y,R,q,s,z,S,i,w⟩:=x
   simp only []at t u
   have m: ∃B C D,(match i with
    |none=>some (Ex.normal,LL n ρ dfs rc,l.put j.n .dead)
    |some (.exit id)=>some (.exit id,LL n ρ dfs rc,l.put j.n .dead)
    |some .ret=>some (.ret,LL n ρ dfs rc,l.put j.n .dead)
    |_=>none)=some (B,C,D)/\Run E (lim E) cx Q k B C D:=by
    cases i with
    |none=>exact⟨_,_,_,rfl,u⟩
    |some c=>cases c<;>first|exact u.elim|exact⟨_,_,_,rfl,u⟩
   match S,t with
   |0,_=>exact m
   |1,t=>exact absurd rfl t
   |_+2,_=>exact m
theorem fT(S:St M h0 h L G){f:Operand}{params:Array Tmp}{assign body:Code}{g:FuncId}{a b:Array Value}(hf:(LL n ρ d rc).ev f=.func (.func g) a b)(l:cx.nr=n)(m:cx.round=none)
 (p: ∀i c e,St M h0 i ((e,.loop {fn:=cx.fn,regs:=tab n ρ,nr:=n,params,assign,body,st:=0,pending:=none,defers:=c})::(c,.dfr)::L) G->h.n<=c->h.n<=e->Gr h i->
   fk E g (a.toList++[.func (.yield e) #[] #[]]++b.toList) none i (RangeQ E cx Q k (LL n ρ (pj c::d) rc) e)):
 Run E (lim E) cx Q (.code (.rangeFunc f params assign body)::k) .normal (LL n ρ d rc) h:=by
 have j:St M h0 (h.new .dfr) ((h.n,.dfr)::L) G:=S.new (by show(h.new _).get h.n=_;rw [h.get_new _ S.ok,if_pos rfl])
 have q:=j.new (x:=.loop {fn:=cx.fn,regs:=tab n ρ,nr:=n,params,assign,body,st:=0,pending:=none,defers:=h.n}) (o:=.loop {fn:=cx.fn,regs:=tab n ρ,nr:=n,params,assign,body,st:=0,pending:=none,defers:=h.n})
  (by show(Hp.new _ _).get _=_;rw [Hp.get_new _ _ j.ok,if_pos rfl])
 exact Ay hf l (by rw [m];rfl) (p _ _ _ q (Xg _) (Nat.le_succ _) ((Gr.new S.ok _).trans (Gr.new j.ok _)))
end

section
variable(E:Env)(cx:Cx)(lb:Nat)(Q:Out->Hp->Prop)
def qA:eF
 | .normal,_,a=> ∃x,a.get lb=some (.loop x)/\Q (.ret (.bool true)) (a.put lb (.loop {x with st:=0,pending:=none}))
 | .exit id,_,a=> ∃x,a.get lb=some (.loop x)/\Q (.ret (.bool false)) (a.put lb (.loop {x with st:=2,pending:=some (.exit id)}))
 | .ret,_,a=> ∃x,a.get lb=some (.loop x)/\Q (.ret (.bool false)) (a.put lb (.loop {x with st:=2,pending:=some .ret}))
 | .pan v,b,a=>b.dfs=[]/\Q (.pan v) a
def wX(body:Code):eF
 | .normal,l,a=> ∃x,a.get lb=some (.loop x)/\x.st=0/\x.fn=cx.fn/\x.nr=cx.nr/\x.body=body/\Run E (lim E) cx (qA lb Q) [.code body] .normal l (a.put lb (.loop {x with st:=1}))
 |_,_,_=>False
end
def setPs(ρ:Nat->Value):List Tmp->List Value->Option (Nat->Value)
 | [],[]=>some ρ
 |t::a,v::b=>setPs (aa ρ t v) a b
 |_,_=>none
theorem qQ{n:Nat}: ∀(ts:List Tmp) (vs:List Value) (ρ a:Nat->Value),setPs ρ ts vs=some a->mQ (tab n ρ) ts vs=some (tab n a)
 | [],[],ρ,a,h=>by cases h;rfl
 | t::ts,v::vs,ρ,a,h=>by
   simp only [mQ,tab_set]
   exact qQ ts vs _ _ h
 | [],_::_,_,_,h=>by cases h
 |_::_,[],_,_,h=>by cases h
theorem sT{E:Env}{cx:Cx}{Q:eF}{c:Code}{l:Loc}{h:Hp}(b:Run E (lim E) cx Q [.code c] .normal l h): ∃e l' a,(lim E).code cx c l h=some (e,l',a)/\Q e l' a:=by
 obtain⟨e,l',a,d,f⟩:=b
 exact⟨e,l',a,by rw [v7];exact d,f⟩
theorem fS{E:Env}{f n:Nat}{args:List Value}{h:Hp}{Q:Out->Hp->Prop}{fn:FuncId}{ρ a:Nat->Value}{params:Array Tmp}{assign body:Code}{o:Nat}
 (g:h.get f=some (.loop {fn,regs:=tab n ρ,nr:=n,params,assign,body,st:=0,pending:=none,defers:=o})) (k:(E.fn fn).isSome=true) (p:setPs ρ params.toList args=some a)
 (q:Run E (lim E) ⟨fn,n,some f⟩ (wX E ⟨fn,n,some f⟩ f Q body) [.code assign] .normal (LL n a [] none) h):j7 E f args h Q:=by
 obtain⟨e,l,z,r,j⟩:=sT q
 unfold j7 iJ
 rw [g]
 simp only [k,cond_true,qQ _ _ _ _ p]
 rw [show Loc.mk (tab n a) [] none=LL n a [] none from rfl,r]
 cases e with
 |exit i=>exact j.elim
 |ret=>exact j.elim
 |pan v=>exact j.elim
 | normal=>
   obtain⟨x,s,t,A,B,C,u⟩:=j
   obtain⟨w,D,F,m,b⟩:=sT u
   simp only [s,t,m]
   cases w with
   |normal=>obtain⟨y,c,d⟩:=b;simp only [c];exact⟨_,_,rfl,d⟩
   |exit i=>obtain⟨y,c,d⟩:=b;simp only [c];exact⟨_,_,rfl,d⟩
   |ret=>obtain⟨y,c,d⟩:=b;simp only [c];exact⟨_,_,rfl,d⟩
   |pan v=>obtain⟨c,d⟩:=b;simp only [c];exact⟨_,_,rfl,d⟩
section
variable{E:Env}{cx:Cx}{lb:Nat}{Q:Out->Hp->Prop}{M:Nat->Prop}{h0 h:Hp}{L:List (Nat×Ob)}{G:List GL}{body:Code}{l:Loc}
theorem St.loopPut(S:St M h0 h L G){i:Nat}{X Y:ez}(a:L[i]? =some (lb,.loop X)):h.get lb=some (.loop X)/\St M h0 (h.put lb (.loop Y)) (L.set i (lb,.loop Y)) G:=by
 have b:h.get lb=some (.loop X):=(S.own _ (zO a)).2
 refine⟨b,S.put a ?_⟩
 show(h.put lb _).get lb=_
 rw [Hp.get_put,if_pos ⟨rfl,by rw [b];rfl⟩]
theorem eX(S:St M h0 h L G){i:Nat}{X:ez}(b:L[i]? =some (lb,.loop X))(c:X.st=0)(d:X.fn=cx.fn)(h3:X.nr=cx.nr)(h4:X.body=body)
 (e: ∀a,St M h0 a (L.set i (lb,.loop {X with st:=1})) G->Run E (lim E) cx (qA lb Q) [.code body] .normal l a):wX E cx lb Q body .normal l h:=by
 obtain⟨f,g⟩:=S.loopPut (Y:={X with st:=1}) b
 exact⟨X,f,c,d,h3,h4,e _ g⟩
theorem dE(S:St M h0 h L G){i:Nat}{X:ez}(b:L[i]? =some (lb,.loop X))(c: ∀a,St M h0 a (L.set i (lb,.loop {X with st:=0,pending:=none})) G->Q (.ret (.bool true)) a):qA lb Q .normal l h:=by
 obtain⟨d,e⟩:=S.loopPut (Y:={X with st:=0,pending:=none}) b
 exact⟨X,d,c _ e⟩
theorem round_ret(S:St M h0 h L G){i:Nat}{X:ez}(b:L[i]? =some (lb,.loop X))(c: ∀a,St M h0 a (L.set i (lb,.loop {X with st:=2,pending:=some .ret})) G->Q (.ret (.bool false)) a):qA lb Q .ret l h:=by
 obtain⟨d,e⟩:=S.loopPut (Y:={X with st:=2,pending:=some .ret}) b
 exact⟨X,d,c _ e⟩
end

def Iter(E:Env)(g:FuncId)(d post:List Value)(h0:Hp)(D:Nat->Prop)(xs:List (List Value)):Prop:=
 ∀ (e:Nat) (J:Nat->Hp->List Nat->Prop) (Z:Out->Hp->Prop) (h:Hp) (F:List Nat),
   h.t.Sized h.n->h0.n<=h.n->(∀b,b<h0.n->D b->h.get b=h0.get b)->
   (∀i h F,J i h F->h.t.Sized h.n/\ ∀b∈F,b<h.n)->(∀i h F a,J i h F->Gr h a->J i a F)->(∀h a,Z (.ret (.bool false)) h->Gr h a->Z (.ret (.bool false)) a)->(∀b∈F,¬(b<h0.n/\D b))->
   (∀i x h F,xs[i]? =some x->J i h F->j7 E e x h fun o a=>(o=.ret (.bool true)/\ ∃c,J (i+1) a c/\Mo (· ∈F) h a/\ ∀b∈c,b∈F\/h.n<=b)\/(o=.ret (.bool false)/\Z o a/\a.t.Sized a.n)\/((∃v,o=.pan v)/\Z o a))->
   J 0 h F->fk E g (d++[.func (.yield e) #[] #[]]++post) none h fun o f a=>f=none/\((∃u c,o=.ret u/\J xs.length a c)\/(∃u,o=.ret u/\Z (.ret (.bool false)) a)\/(∃v,o=.pan v/\Z o a))
end Go.Ab

namespace Go.Ab

theorem load_len{h:Hp}{b o n:Nat}{l:List Value}(e:h.load b o n=some l):l.length=n:=by
 unfold Hp.load at e
 split at e
 next t c el d f=>
  cases a:Xb (o+n) c with
  |false=>rw [a]at e;cases e
  |true=>rw [a]at e;exact(Tr.slice_spec e).1
 next=>cases e
theorem qk{h:Hp}{b o n:Nat}{l:List Value}(e:h.load b o n=some l){i m:Nat}(p:i+m<=n):h.load b (o+i) m=some ((l.drop i).take m):=by
 unfold Hp.load at e⊢
 split at e
 next t c el q r=>
  cases a:Xb (o+n) c with
  |false=>rw [a]at e;cases e
  | true=>
    rw [a]at e
    have hle:=Xe a
    rw [zM (by omega:o+i+m<=c)]
    simp only [cond_true]at e⊢
    obtain⟨s,d⟩:=Tr.slice_spec e
    obtain⟨u,f⟩:=Tr.slice_mk (t:=t) (i:=o+i) (n:=m) (fun k g=>by
     have:=d (i+k) (by omega)
     rw [show o+i+k=o+(i+k) by omega,this]
     rw [List.getElem?_eq_getElem (by omega)];rfl)
    rw [f]
    obtain⟨v,j⟩:=Tr.slice_spec f
    congr 1
    refine Xq fun k=>?_
    rw [List.getElem?_take]
    split
    . rename_i g
      rw [<-j k g,List.getElem?_drop,<-d (i+k) (by omega)]
      congr 1
      omega
    . exact Xu (by omega)
 next=>cases e
theorem load_join{h:Hp}{b o n:Nat}{f:Nat->Value}(h0: ∃l,h.load b o 0=some l)(e: ∀i,i<n->h.load b (o+i) 1=some [f i]):h.load b o n=some ((List.range n).map f):=by
 unfold Hp.load at h0 e⊢
 cases c:h.get b with
 |none=>rw [c]at h0;obtain⟨l,h0⟩:=h0;cases h0
 |some m=>
 cases m with
 |dead=>rw [c]at h0;obtain⟨l,h0⟩:=h0;cases h0
 |map=>rw [c]at h0;obtain⟨l,h0⟩:=h0;cases h0
 |loop=>rw [c]at h0;obtain⟨l,h0⟩:=h0;cases h0
 |dfr=>rw [c]at h0;obtain⟨l,h0⟩:=h0;cases h0
 | cells t j el s=>
   rw [c]at h0
   simp only [c]at e
   simp only []at h0
   have hle:o+n<=j:=by
    cases n with
    | zero=>
      obtain⟨l,h0⟩:=h0
      cases g:Xb (o+0) j with
      |false=>rw [g]at h0;cases h0
      |true=>exact Xe g
    | succ n=>
      have:=e n (by omega)
      cases g:Xb (o+n+1) j with
      |false=>rw [g]at this;cases this
      |true=>have:=Xe g;omega
   have a: ∀i,i<n->t.get (o+i)=some (f i):=by
    intro i q
    have:=e i q
    rw [zM (by omega:o+i+1<=j)]at this
    have:=(Tr.slice_spec this).2 0 (by omega)
    simpa using this
   simp only []
   rw [zM hle]
   simp only [cond_true]
   obtain⟨l,p⟩:=Tr.slice_mk (t:=t) (i:=o) (n:=n) (fun k d=>by rw [a k d];rfl)
   rw [p]
   obtain⟨u,r⟩:=Tr.slice_spec p
   congr 1
   refine Xq fun k=>?_
   rw [Xd]
   rcases Xl k n with d|d
   . rw [<-r k d,a k d,List.getElem?_range d];rfl
   . rw [Xu (by omega),Xu (by simpa using d)];rfl

section
variable{α:Type}
theorem bC{k:Nat}{enc:α->List Value}(a: ∀x,(enc x).length=k)(xs:List α):(xs.flatMap enc).length=xs.length*k:=by
 induction xs with
 |nil=>simp
 |cons x xs b=>rw [XC,Xa,a,b,List.length_cons,Xo];omega
theorem A0{k:Nat}{enc:α->List Value}(a: ∀x,(enc x).length=k)(xs:List α){i:Nat}(b:i<xs.length):((xs.flatMap enc).drop (i*k)).take k=enc xs[i]:=by
 induction xs generalizing i with
 |nil=>simp at b
 | cons x xs c=>
   cases i with
   |zero=>simp [XC,<-a x]
   | succ i=>
     rw [XC,Xo,Nat.add_comm,<-List.drop_drop]
     rw [show List.drop k (enc x++List.flatMap enc xs)=List.flatMap enc xs by rw [<-a x];exact List.drop_left]
     simpa using c (i:=i) (by simpa using b)
def av(h:Hp)(k:Nat)(enc:α->List Value)(v:Value)(xs:List α):Prop:=
 (v=.slice none 0 0/\xs=[])\/ ∃b o s c,v=.slice (some ⟨b,o,s⟩) xs.length c/\xs.length<=c/\h.load b o (xs.length*k)=some (xs.flatMap enc)
variable{h:Hp}{k:Nat}{enc:α->List Value}{v:Value}{xs:List α}
theorem av.gr{a:Hp}(g:Gr h a)(s:av h k enc v xs):av a k enc v xs:=by
 rcases s with s|⟨b,o,s,c,d,e,f⟩
 . exact .inl s
 . exact .inr ⟨b,o,s,c,d,e,g.load f⟩
def ar:Value->Nat->Prop
 | .slice (some a) _ _,b=>a.block=b
 | .pointer (some a),b=>a.block=b
 |_,_=>False
theorem av.mo{M:Nat->Prop}{d:Hp}(g:Mo M h d)(s:av h k enc v xs)(f: ∀b,ar v b-> ¬M b):av d k enc v xs:=by
 rcases s with s|⟨b,o,s,c,e,i,a⟩
 . exact .inl s
 . refine .inr ⟨b,o,s,c,e,i,?_⟩
   have:=g.get b (bJ g.ok0 a) (f b (by rw [e];rfl))
   unfold Hp.load at a⊢
   rw [this];exact a
theorem av.lt(d:h.t.Sized h.n)(s:av h k enc v xs){b:Nat}(a:ar v b):b<h.n:=by
 rcases s with⟨rfl,_⟩|⟨e,o,s,c,rfl,g,f⟩
 . exact a.elim
 . have:e=b:=a
   subst this
   exact bJ d f
theorem av.len{E:Env}{t e:TypeId}(s:av h k enc v xs)(a:E.und t=some (.slice e)):nu E t v=some (.int .i64 xs.length):=by
 rcases s with⟨rfl,rfl⟩|⟨b,o,s,c,rfl,d,f⟩<;>simp [nu,a]
theorem av.idx(s:av h k enc v xs)(d: ∀x,(enc x).length=k){i:Nat}(a:i<xs.length): ∃b o s' c,v=.slice (some ⟨b,o,s'⟩) xs.length c/\h.load b (o+i*k) k=some (enc xs[i]):=by
 rcases s with⟨rfl,rfl⟩|⟨b,o,s,c,rfl,f,e⟩
 . simp at a
 . refine⟨b,o,s,c,rfl,?_⟩
   have:i*k+k<=xs.length*k:=by rw [<-Xo];exact Xx _ a
   rw [qk e this,A0 d xs a]
theorem av.at{E:Env}{t e:TypeId}{kd:IntKind}(s:av h k enc v xs)(d: ∀x,(enc x).length=k)(f:E.und t=some (.slice e))(g:E.sz e=some k){i:Nat}(a:i<xs.length):
 ∃b o,ee E t v (.int kd i)=some (.pointer (some ⟨b,o,none⟩))/\h.load b o k=some (enc xs[i]):=by
 obtain⟨b,o,l,c,rfl,j⟩:=s.idx d a
 refine⟨b,o+i*k,?_,j⟩
 rw [ia_slice f g,oE a]
 rfl
theorem av.src(s:av h k enc v xs):aJ h k v=some (xs.length,xs.flatMap enc):=by
 rcases s with⟨rfl,rfl⟩|⟨b,o,s,c,rfl,e,a⟩
 . rfl
 . cases c with
   | zero=>
     have:xs.length=0:=by omega
     have d:xs=[]:=List.length_eq_zero_iff.1 this
     subst d
     simp only [aJ,XI]at a⊢
     rw [a]
   | succ c=>
     simp only [aJ]
     rw [a]
theorem eZ.sl{vs:List Value}(g:eZ h (v,k,vs))(d:vs=xs.flatMap enc)(e: ∀x,(enc x).length=k)(i:0<k):av h k enc v xs:=by
 rcases g with⟨c,a⟩|⟨b,n,c,a,f⟩
 . simp only []at c a
   refine .inl ⟨c,?_⟩
   rw [a]at d
   have:=bC e xs
   rw [<-d]at this
   cases xs with
   |nil=>rfl
   | cons x xs=>
     simp only [XI,List.length_cons,Xo]at this
     omega
 . simp only []at c a f
   have j:n=xs.length:=by
    rw [d,bC e]at a
    exact XA i a
   subst j
   refine .inr ⟨b,0,some k,xs.length,c,Xg _,?_⟩
   rw [f.load (by omega),a,XL,XG,d]
theorem eZ.len{E:Env}{t e:TypeId}{vs:List Value}(g:eZ h (v,k,vs))(i:0<k)(d:E.und t=some (.slice e)){n:Nat}(f:n*k=vs.length):nu E t v=some (.int .i64 n):=by
 rcases g with⟨a,c⟩|⟨b,m,a,c,j⟩
 . simp only []at a c
   subst a c
   have:n=0:=by
    cases n with
    |zero=>rfl
    |succ n=>simp only [XI,Xo]at f;omega
   subst this
   simp [nu,d]
 . simp only []at a c
   subst a
   have:m=n:=XA i (c.trans f.symm)
   subst this
   simp [nu,d]
end
def encI(kd:IntKind)(x:Int):List Value:=[.int kd x]
def encB(x:Bool):List Value:=[.bool x]
theorem bK(kd:IntKind)(x:Int):(encI kd x).length=1:=rfl
theorem xI(x:Bool):(encB x).length=1:=rfl

def agg1:Option (List Value)->Option Value
 |some l=>some (.agg ⟨l⟩)
 |none=>none
theorem agg1_some{l:List Value}:agg1 (some l)=some (.agg ⟨l⟩):=rfl
theorem loadV_agg{E:Env}{h:Hp}{t:TypeId}{b o n:Nat}{s:Option Nat}(a:E.agg t=some true)(c:E.sz t=some n):eu E h t (.pointer (some ⟨b,o,s⟩))=agg1 (h.load b o n):=by
 simp only [eu,a,c]
 cases h.load b o n<;>rfl

def isIface(E:Env)(t:TypeId):Bool:=match E.und t with
 |some (.interface _)=>true
 |_=>false
def nJ(E:Env)(t:TypeId):Bool:=match E.und t with
 |some (.pointer _)=>true
 |_=>false
def jS(E:Env)(t:TypeId):Bool:=match E.und t with
 |some (.struct _)=>true
 |some (.int _)=>true
 |some (.pointer _)=>true
 |_=>false
section
variable{E:Env}{t:TypeId}{x y:Operand}
theorem oZ(b:isIface E t=true): ∃a,E.und t=some (.interface a):=by
 unfold isIface at b;split at b<;>first|exact⟨_, ‹_›⟩|cases b
theorem se(b:nJ E t=true): ∃a,E.und t=some (.pointer a):=by
 unfold nJ at b;split at b<;>first|exact⟨_, ‹_›⟩|cases b
theorem n_iface(b:isIface E t=true){u:TypeId}{v:Value}:a9 E .neq t x y (.iface u v) .nilIface=some (.bool true):=by
 obtain⟨a,c⟩:=oZ b
 simp [a9,eY,dI,c]
theorem n_nil(b:isIface E t=true){v:Value}:a9 E .neq t x (.const v) .nilIface .nilIface=some (.bool false):=by
 obtain⟨a,c⟩:=oZ b
 cases x<;>simp [a9,eY,dI,c]
theorem e_iface(b:isIface E t=true){u:TypeId}{v:Value}:a9 E .eql t x y (.iface u v) .nilIface=some (.bool false):=by
 obtain⟨a,c⟩:=oZ b
 simp [a9,eY,dI,c]
theorem e_nil(b:isIface E t=true){v:Value}:a9 E .eql t x (.const v) .nilIface .nilIface=some (.bool true):=by
 obtain⟨a,c⟩:=oZ b
 cases x<;>simp [a9,eY,dI,c]
theorem n_ptr(b:nJ E t=true){a:Addr}:a9 E .neq t x y (.pointer (some a)) (.pointer none)=some (.bool true):=by
 obtain⟨e,c⟩:=se b
 simp [a9,eY,dI,c]
theorem e_ptr(b:nJ E t=true){a:Addr}:a9 E .eql t x y (.pointer (some a)) (.pointer none)=some (.bool false):=by
 obtain⟨e,c⟩:=se b
 simp [a9,eY,dI,c]
theorem n_pnil(a:nJ E t=true):a9 E .neq t x y (.pointer none) (.pointer none)=some (.bool false):=by
 obtain⟨e,b⟩:=se a
 simp [a9,eY,dI,b]
theorem e_pnil(a:nJ E t=true):a9 E .eql t x y (.pointer none) (.pointer none)=some (.bool true):=by
 obtain⟨e,b⟩:=se a
 simp [a9,eY,dI,b]
theorem sV(b:jS E t=true): ∃d,E.und t=some d/\ ∀a,d≠ .interface a:=by
 unfold jS at b
 split at b<;>first|exact⟨_, ‹_›,by intro a e;cases e⟩|cases b
theorem assert_is(a:jS E t=true){v:Value}:oy E (.iface t v) t true=some (.tuple #[v,.bool true]):=by
 obtain⟨d,b,c⟩:=sV a
 unfold oy
 rw [b]
 cases d<;>first|exact absurd rfl (c _)|simp [rN]
theorem mk_iface(a:jS E t=true){v:Value}:(match E.und t with|none=>none|some (.interface _)=>none|some _=>some (Value.iface t v))=some (.iface t v):=by
 obtain⟨d,b,c⟩:=sV a
 rw [b]
 cases d<;>first|exact absurd rfl (c _)|rfl
end

theorem o_recover{E:Env}{ρ:Operand->Value}{h:Hp}{as:Array Operand}{ts:Array TypeId}:aop E ρ h (.call ⟨.builtin .recover,as,ts⟩)=some (.recov,h):=rfl
theorem o_deferR{E:Env}{ρ:Operand->Value}{h:Hp}{f:Operand}{as:Array Operand}{ts:Array TypeId}:aop E ρ h (.defer ⟨.value f,as,ts⟩)=match ρ f with
 | .func (.func g) a b=>some (.defer {target:=.fn (.func g) b,args:=⟨a.toList++as.toList.map ρ⟩},h)
 |_=>none:=rfl
def panR(h:Hp):Value->Option (c6×Hp)
 | .iface t v=>some (.panic (.iface t v),h)
 |_=>none
theorem o_panicR{E:Env}{ρ:Operand->Value}{h:Hp}{x:Operand}:aop E ρ h (.panic x)=panR h (ρ x):=by
 simp only [aop,panR];cases ρ x<;>rfl
theorem Bg{h:Hp}{t:TypeId}{v:Value}:panR h (.iface t v)=some (.panic (.iface t v),h):=rfl
section
variable{E:Env}{cx:Cx}{o:Oper}{K:Ex->Loc->Hp->Prop}{h:Hp}{n:Nat}{ρ:Nat->Value}{d:List Deferred}
theorem uM{v:Value}:eR E cx o (LL n ρ d (some (v,false))) K (some (.recov,h))↔cx.round=none/\K .normal ((LL n ρ d (some (v,true))).put o.dst v) h:=Xc
theorem vf:eR E cx o (LL n ρ d none) K (some (.recov,h))↔cx.round=none/\K .normal ((LL n ρ d none).put o.dst .nilIface) h:=Xc
theorem step_defer{a:Option (Value×Bool)}{x:Deferred}:eR E cx o (LL n ρ d a) K (some (.defer x,h))↔cx.round=none/\K .normal ((LL n ρ (x::d) a).put o.dst (.tuple #[])) h:=Xc
theorem uL{l:Loc}{b:Nat}{args:List Value}{P:Out->Hp->Prop}(e:j7 E b args h P)(f: ∀x c,P x c->match x with
 | .ret v=>K .normal (l.put o.dst v) c
 | .pan v=>K (.pan v) l c):eR E cx o l K (some (.yield b args,h)):=by
 obtain⟨x,c,a,b⟩:=e
 exact⟨x,c,a,f x c b⟩
end
theorem yn{b:Nat}{args:List Value}:target (.func (.yield b) #[] #[]) args=some (.yield b args):=rfl
def UnQ(E:Env)(c:List Deferred)(m:Option Value)(h:Hp)(Q:Option Value->Hp->Prop):Prop:= ∃a b,bR (lim E) c m h=some (a,b)/\Q a b
section
variable{E:Env}{rs:List ResultVar}{Q:Out->Option (Value×Bool)->Hp->Prop}{n:Nat}{ρ:Nat->Value}{d:List Deferred}{rc:Option (Value×Bool)}{h:Hp}
theorem dC(b:UnQ E d none h fun m a=>m=none/\ ∃vs,aU E (tab n ρ) a rs=some vs/\Q (.ret (ab vs)) rc a):nE E rs Q .ret (LL n ρ d rc) h:=by
 obtain⟨m,a,c,rfl,e⟩:=b
 exact⟨a,c,e⟩
theorem bT(b:UnQ E d none h fun m a=>m=none/\ ∃vs,aU E (tab n ρ) a rs=some vs/\Q (.ret (ab vs)) rc a):nE E rs Q .normal (LL n ρ d rc) h:=dC b
theorem jI{v:Value}(b:UnQ E d (some v) h fun m a=>match m with
 |some v=>Q (.pan v) rc a
 |none=> ∃vs,aU E (tab n ρ) a rs=some vs/\Q (.ret (ab vs)) rc a):nE E rs Q (.pan v) (LL n ρ d rc) h:=by
 obtain⟨m,a,c,e⟩:=b
 exact⟨m,a,c,e⟩
theorem cG{m:Option Value}{P:Option Value->Hp->Prop}(a:P m h):UnQ E [] m h P:=⟨m,h,rfl,a⟩
theorem un_dfr{b:Nat}{a:List Deferred}{m:Option Value}{P:Option Value->Hp->Prop}(c:h.get b=some .dfr)(e:UnQ E a m (h.put b .dead) P):UnQ E (pj b::a) m h P:=by
 obtain⟨f,g,i,j⟩:=e
 refine⟨f,g,?_,j⟩
 simp only [bR,pj,c]
 exact i
theorem un_fn{f:FuncId}{cap args:Array Value}{b:List Deferred}{P:Option Value->Hp->Prop}(c:fk E f (args.toList++cap.toList) none h fun o rc a=>(∃v,o=.ret v)/\rc=none/\UnQ E b none a P):UnQ E ({target:=.fn (.func f) cap,args}::b) none h P:=by
 obtain⟨o,e,l,g,⟨v,rfl⟩,rfl,i,a,j,k⟩:=c
 refine⟨i,a,?_,k⟩
 simp only [bR,g]
 exact j
theorem fm{vs:List Value}(a:aU E (tab n ρ) h rs=some vs)(hq:Q (.ret (ab vs)) rc h):nE E rs Q .ret (LL n ρ [] rc) h:=dC (cG ⟨rfl,vs,a,hq⟩)
end
end Go.Ab

namespace Go.Ab
section
variable{M:Nat->Prop}{h0 h:Hp}{L:List (Nat×Ob)}{G:List GL}{E:Env}
theorem bI{t e:TypeId}{c k n:Nat}{d cs:List Value}{a:List (Nat×Value)}(f:E.und t=some (.slice e))(g:d9 E e c k d)(j:n*k<=16777216)
 (hf:iq (fun i=>some (i*k,k)) (aT d n) a=some cs):oY h (fun h=>cM (jr E h t n a)) (fun b=>.slice (some ⟨b,0,none⟩) n n) (.row cs 1):=by
 obtain⟨⟨i,l,rfl,rfl⟩,m,o⟩:=g
 have p:E.sz e=some i.size:=by unfold Env.sz;rw [l]
 refine⟨.cells (Tr.ofList cs) cs.length e 1,fun x=>?_,fun q=>ou q _ _ _⟩
 simp only [jr,f,p,zM j,m,o,Xh,hf,cond_true]
 rfl
theorem St.clone(S:St M h0 h L G){t u e:TypeId}{g k m n md:Nat}{F new vs:List Value}{b:Nat}{x:Value}(O:E.und t=some (.slice e))(P:d9 E e g k F)(Q:0<g)
 (v:dz E u=some false) (o:aJ h k x=some (m,new)) (H:m*k=new.length) (I:n*k=vs.length) (J:0<k) (w:(vs.length+new.length)*(g+1)<=70368744177664) {ts:List TypeId}
 (R:Row h b vs md):
 ∃ y v',cU E h (t::u::ts) (.slice (some ⟨b,0,none⟩) n n) x=some (y,v')/\
   ((m=0/\y=h/\v'=.slice (some ⟨b,0,none⟩) n n)\/ ∃K,v'=.slice (some ⟨K,0,some k⟩) (n+m) (n+m)/\St M h0 y ((K,.row (vs++new) 1)::L) G):=by
 obtain⟨⟨i,T,rfl,rfl⟩,U,z⟩:=P
 have A:cU E h (t::u::ts) (.slice (some ⟨b,0,none⟩) n n) x=eG E h e i (some ⟨b,0,none⟩) n n m new:=by
  simp only [cU,v,jm,O,T,o]
 rw [A]
 by_cases N:m=0
 . subst N
   have:new=[]:=by
    cases new with
    |nil=>rfl
    |cons a l=>simp at H
   subst this
   refine⟨h,_,?_,.inl ⟨rfl,rfl,rfl⟩⟩
   unfold eG
   rw [zM (by omega:n+0<=n)]
   rfl
 . have p:Xb (n+m) n=false:=by
    cases v:Xb (n+m) n with
    |false=>rfl
    |true=>exact absurd (Xe v) (by omega)
   have q:n+m<=vs.length+new.length:=by
    rw [<-I,<-H]
    have N:=Xi n J
    have V:=Xi m J
    omega
   have c:(Xb ((n+m)*(i.bytes+1)) 70368744177664&&Xz 0 i.bytes)=true:=by
    rw [zM (XF (Xx _ q) w)]
    simp only [Bool.true_and]
    rw [XD];exact Q
   have B:Xj F.length i.size=true:=by rw [z];exact Xh _
   have d:eG E h e i (some ⟨b,0,none⟩) n n m new=mF h e i.size (some ⟨b,0,none⟩) n m new:=by
    unfold eG
    rw [p]
    simp only [cond_false]
    rw [c,U]
    simp only [cond_true,B]
   rw [d]
   obtain⟨s,el,r,f,C⟩:=R
   have D:ja s vs.length 0 (n*i.size) new=some (s.pushAll vs.length new,vs.length+new.length):=by
    unfold ja
    rw [I,Xh vs.length]
    rfl
   refine⟨h.new (.cells (s.pushAll vs.length new) (vs.length+new.length) e 1),.slice (some ⟨h.n,0,some i.size⟩) (n+m) (n+m),?_,.inr ⟨h.n,rfl,?_⟩⟩
   . unfold mF
     simp only [r,D]
   . refine S.new ⟨s.pushAll vs.length new,e,?_,?_,fun j=>?_⟩
     . rw [h.get_new _ S.ok,if_pos rfl,Xa]
     . rw [Xa];exact Tr.sized_pushAll _ f
     . rw [Tr.get_pushAll _ _ _ f,XM]
       split
       . exact C j
       . rfl
theorem St.cloneSl{α:Type}{enc:α->List Value}{xs ys:List α}(S:St M h0 h L G){t q e:TypeId}{f k md:Nat}{C:List Value}{b:Nat}{x:Value}(r:E.und t=some (.slice e))(l:d9 E e f k C)(s:0<f)
 (u:dz E q=some false) (v:av h k enc x ys) (a: ∀x,(enc x).length=k) (w:0<k) (g:((xs.length+ys.length)*k)*(f+1)<=70368744177664) {ts:List TypeId}
 (m:Row h b (xs.flatMap enc) md):
 ∃d v',cU E h (t::q::ts) (.slice (some ⟨b,0,none⟩) xs.length xs.length) x=some (d,v')/\St M h0 d L G/\Gr h d/\av d k enc v' (xs++ys)/\(∀c,ar v' c->c=b\/h.n<=c):=by
 obtain⟨d,v',y,D⟩:=S.clone r l s u v.src (bC a ys).symm (bC a xs).symm w (by rw [bC a,bC a,<-XJ];exact g) (ts:=ts) m
 refine⟨d,v',y,?_⟩
 rcases D with⟨z,rfl,rfl⟩|⟨n,rfl,i⟩
 . have F:ys=[]:=List.length_eq_zero_iff.1 z
   subst F
   refine⟨S,Gr.refl S.ok,.inr ⟨b,0,none,xs.length,by simp,by simp,?_⟩,fun c o=>.inl (Eq.symm o)⟩
   rw [List.append_nil,m.load (by rw [bC a];omega),XL,<-bC a xs,XG]
 . have H:St M h0 d L G:=⟨i.fr,fun p I=>i.own p (Xv _ I),i.gown,(List.nodup_cons.1 i.apart).2⟩
   have j:Row d n (xs.flatMap enc++ys.flatMap enc) 1:=i.row m0
   have T:=(St.init (M:=NoM) S.ok).clone r l s u v.src (bC a ys).symm (bC a xs).symm w (by rw [bC a,bC a,<-XJ];exact g) (ts:=ts) m
   obtain⟨J,K,A,N⟩:=T
   rw [y]at A
   cases A
   rcases N with⟨z,_,l⟩|⟨P,O,B⟩
   . exact absurd l (by intro e;cases e)
   . cases O
     refine⟨H,B.gr,.inr ⟨n,0,some k,xs.length+ys.length,by rw [Xa],by rw [Xa];exact Xg _,?_⟩,fun c o=>?_⟩
     . rw [j.load (by rw [Xa,Xa,bC a,bC a,XJ];omega),XL,<-List.flatMap_append,<-bC a (xs++ys),XG]
     . right
       have:n=c:=o
       subst this
       rcases(B.own _ m0).1 with h|h
       . exact h
       . exact h.elim
end
end Go.Ab

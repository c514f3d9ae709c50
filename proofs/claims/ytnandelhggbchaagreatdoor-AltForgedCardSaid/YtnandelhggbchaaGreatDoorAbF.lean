/- A deterministic evaluator of the model's code, and that the model follows it (part 6). -/
import Derived.Test.YtnandelhggbchaaGreatDoorAbE
import Derived.WalkKit
import Derived.ProofKit
import Derived.OpenShut
import Derived.Carry
open Nat renaming ble_eq_true_of_le->zj,ble->zn,le_of_ble_eq_true->zq,le_refl->zu,beq_refl->zw,le_mul_of_pos_right->zx,beq->zy,lt_or_ge->zC,succ_mul->zG,mul_le_mul_right->zP,blt->zR,eq_of_mul_eq_mul_right->zT,blt_eq->zW,le_trans->zY,add_mul->z9,eq_of_beq_eq_true->Xa
open List renaming mem_of_getElem?->zk,length_append->zl,getElem?_map->zp,replicate->zz,mem_append_right->zD,filterMap_cons_some->zH,ext_getElem?->zI,length_replicate->zK,filterMap_append->zL,getElem?_eq_none->zM,mem_cons_of_mem->zN,mem_append_left->zO,filterMap_cons->zQ,getElem?_set->zU,flatMap_cons->zV,getElem?_append_left->zX,take_length->zZ,getElem?_replicate->z7,length_nil->z8,drop_zero->Xb,getElem?_append->Xc,mem_map_of_mem->Xd
open Iff renaming rfl->zo
open Array renaming getElem?_eq_getElem->zt
open Bool renaming and_eq_true->zF
open Option renaming map_eq_some_iff->zJ
set_option maxHeartbeats 400000
set_option linter.defProp false
set_option linter.unusedVariables false
set_option linter.unusedSimpArgs false
namespace Go.Ab
noncomputable section
abbrev Opt:=Option (Ex×Loc×Hp)

def getK{α:Type}(t:Tr α):Nat->Option α:=Tr.rec (motive:=fun _=>Nat->Option α) (fun _=>none)
 (fun x _ _ a b i=>Nat.rec (some x) (fun n _=>Bool.rec (b (n/2)) (a (n/2)) (zy (n%2) 0)) i) t
def setK{α:Type}(t:Tr α):Nat->α->Tr α:=Tr.rec (motive:=fun _=>Nat->α->Tr α) (fun _ _=>.nil)
 (fun y l r a b i x=>Nat.rec (.node x l r) (fun n _=>Bool.rec (.node y l (b (n/2) x)) (.node y (a (n/2) x) r) (zy (n%2) 0)) i) t
def eB(l:Loc)(d:Option Tmp)(v:Value):Loc:=Option.rec l (fun t=>Loc.mk (setK l.regs t v) l.dfs l.rc) d
def evK(l:Loc)(x:Operand):Value:=Operand.rec (motive:=fun _=>Loc->Value) (fun t l=>Option.rec (.tuple #[]) (fun v=>v) (getK l.regs t)) (fun v _=>Bool.rec poison v (cg v))
 (fun g _=>Bool.rec poison (.pointer (some ⟨g,0,none⟩)) (zR g 16)) (fun f _=>.func (.func f) #[] #[]) x l
def exK(e:Ex):(Loc->Hp->Opt)->(Ex->Loc->Hp->Opt)->Loc->Hp->Opt:=Ex.rec (motive:=fun _=>(Loc->Hp->Opt)->(Ex->Loc->Hp->Opt)->Loc->Hp->Opt)
 (fun b _ l h=>b l h) (fun id _ a l h=>a (.exit id) l h) (fun _ a l h=>a .ret l h) (fun v _ a l h=>a (.pan v) l h) e
def cS(x:Opt)(a:Loc->Hp->Opt)(b:Ex->Loc->Hp->Opt):Opt:=Option.rec none (fun q=>Prod.rec (fun e c=>Prod.rec (fun l h=>exK e a b l h) c) q) x
def asInt:Value->Option (IntKind×Int)
 | .int k n=>some (k,n)
 |_=>none
abbrev BM:=IntKind->Int->IntKind->Int->Option Value->Option Value
def arK(f:IntKind->Int->Int->Option Value):BM:=fun k m a n _=>Bool.rec none (f k m n) (iU k a)
def binI(op:BinOp):BM:=BinOp.rec (motive:=fun _=>BM)
 (add:=arK fun k x y=>some (.int k (au k (x+y)))) (sub:=arK fun k x y=>some (.int k (au k (x-y)))) (mul:=arK fun k x y=>some (.int k (au k (x*y))))
 (quo:=fun _ _ _ _ s=>s) (rem:=fun _ _ _ _ s=>s) (and:=fun _ _ _ _ s=>s) (or:=fun _ _ _ _ s=>s) (xor:=fun _ _ _ _ s=>s) (andNot:=fun _ _ _ _ s=>s) (shl:=fun _ _ _ _ s=>s) (shr:=fun _ _ _ _ s=>s)
 (eql:=arK fun _ x y=>some (.bool (fw x y))) (neq:=arK fun _ x y=>some (.bool (!fw x y))) (lss:=arK fun _ x y=>some (.bool (jJ x y))) (leq:=arK fun _ x y=>some (.bool (!jJ y x)))
 (gtr:=arK fun _ x y=>some (.bool (jJ y x))) (geq:=arK fun _ x y=>some (.bool (!jJ x y))) op
def binK(E:Env)(op:BinOp)(t:TypeId)(x y:Operand)(a b:Value):Option Value:=
 Option.rec (bj E op t x y a b) (fun p=>Option.rec (bj E op t x y a b) (fun q=>binI op p.1 p.2 q.1 q.2 (bj E op t x y a b)) (asInt b)) (asInt a)
abbrev OpM:=Env->Rec->Cx->Option Tmp->Loc->Hp->(Loc->Hp->Opt)->(Ex->Loc->Hp->Opt)->Opt
def ij(r:Option Value)(d:Option Tmp)(l:Loc)(h:Hp)(a:Loc->Hp->Opt):Opt:=Option.rec none (fun v=>a (eB l d v) h) r
def retHK(r:Option (Hp×Value))(d:Option Tmp)(l:Loc)(a:Loc->Hp->Opt):Opt:=Option.rec none (fun p=>Prod.rec (fun h v=>a (eB l d v) h) p) r
def qo(r:Option Hp)(d:Option Tmp)(l:Loc)(a:Loc->Hp->Opt):Opt:=Option.rec none (fun h=>a (eB l d (.tuple #[])) h) r
def cD(op:Op):OpM:=fun E R a d l h b c=>cS (c9 E R a ⟨d,op,0,"",#[],none⟩ l h) b c
def outK(o:Out):Option Tmp->Loc->Hp->(Loc->Hp->Opt)->(Ex->Loc->Hp->Opt)->Opt:=Out.rec (motive:=fun _=>Option Tmp->Loc->Hp->(Loc->Hp->Opt)->(Ex->Loc->Hp->Opt)->Opt)
 (fun v d l h a _=>a (eB l d v) h) (fun v _ l h _ b=>b (.pan v) l h) o
def resK(r:Option (Out×Option (Value×Bool)×Hp))(d:Option Tmp)(l:Loc)(a:Loc->Hp->Opt)(b:Ex->Loc->Hp->Opt):Opt:=Option.rec none (fun q=>Prod.rec (fun o c=>Prod.rec (fun _ h=>outK o d l h a b) c) q) r
def asFn:Value->Option (FuncId×Array Value×Array Value)
 | .func (.func g) a b=>some (g,a,b)
 |_=>none
def callK(c:Call):OpM:=fun E R e d l h a b=>Callee.rec (motive:=fun _=>Opt)
 (fun f=>Option.rec (cD (.call c) E R e d l h a b) (fun p=>resK (R.call p.1 (p.2.1.toList++c.args.toList.map (evK l)++p.2.2.toList) none h) d l a b) (asFn (evK l f)))
 (fun _ _=>cD (.call c) E R e d l h a b) (fun _=>cD (.call c) E R e d l h a b) c.callee
def opK(op:Op):OpM:=Op.rec (motive:=fun _=>OpM)
 (move:=fun x _ _ _ d l h j _=>j (eB l d (evK l x)) h)
 (assign:=fun x _ _ _ d l h j _=>j (eB l d (evK l x)) h)
 (pick:=fun c a b=>cD (.pick c a b))
 (alloc:=fun e=>cD (.alloc e))
 (box:=fun e v=>cD (.box e v))
 (build:=fun t p=>cD (.build t p))
 (buildSlice:=fun t n p=>cD (.buildSlice t n p))
 (insert:=fun t m k v=>cD (.insert t m k v))
 (load:=fun t a E _ _ d l h j _=>ij (dJ E h t (evK l a)) d l h j)
 (store:=fun t a v E _ _ d l h j _=>qo (fH E h t (evK l a) (evK l v)) d l j)
 (ready:=fun g=>cD (.ready g))
 (waits:=fun g=>cD (.waits g))
 (nilCheck:=fun x=>cD (.nilCheck x))
 (binOp:=fun op t x y u E _ _ d l h j _=>ij (binK E op t x y (evK l x) (evK l y)) d l h j)
 (unOp:=fun op t x E _ _ d l h j _=>ij (unP op (evK l x)) d l h j)
 (convert:=fun s t x=>cD (.convert s t x))
 (sliceToArrayPointer:=fun t x=>cD (.sliceToArrayPointer t x))
 (makeInterface:=fun t x=>cD (.makeInterface t x))
 (makeFunc:=fun f a b=>cD (.makeFunc f a b))
 (makeMap:=fun t r=>cD (.makeMap t r))
 (makeChan:=fun t s=>cD (.makeChan t s))
 (makeSlice:=fun t a c=>cD (.makeSlice t a c))
 (slice:=fun t x a b c=>cD (.slice t x a b c))
 (fieldAddr:=fun s x i E _ _ d l h j _=>ij (aw E s (evK l x) i) d l h j)
 (field:=fun t x i E _ _ d l h j _=>ij (aP E t (evK l x) i) d l h j)
 (indexAddr:=fun t x i E _ _ d l h j _=>ij (dB E t (evK l x) (evK l i)) d l h j)
 (index:=fun t x i E _ _ d l h j _=>ij (mK E t (evK l x) (evK l i)) d l h j)
 (lookup:=fun t m k o E _ _ d l h j _=>ij (bU E h t (evK l m) (evK l k) o) d l h j)
 (mapUpdate:=fun t m k v E _ _ d l h j _=>qo (c7 E h t (evK l m) (evK l k) (evK l v)) d l j)
 (mapEntry:=fun t m k E _ _ d l h j _=>retHK (fQ E h t (evK l m) (evK l k)) d l j)
 (entryStore:=fun t m s v=>cD (.entryStore t m s v))
 (range:=fun t x=>cD (.range t x))
 (next:=fun i s=>cD (.next i s))
 (entry:=fun i=>cD (.entry i))
 (typeAssert:=fun x s t o=>cD (.typeAssert x s t o))
 (extract:=fun t i=>cD (.extract t i))
 (call:=fun c=>callK c)
 (go:=fun c=>cD (.go c))
 (defer:=fun c=>cD (.defer c))
 (panic:=fun x=>cD (.panic x))
 (send:=fun c x=>cD (.send c x))
 (recv:=fun t c o=>cD (.recv t c o))
 (select:=fun q b=>cD (.select q b)) op
def nT(ops:List Oper)(l:Loc)(o:Oper):Option Bool:=Option.rec (some true) (fun _=>bC ops l.regs o) o.guard
def opsK(E:Env)(R:Rec)(cx:Cx)(ops:List Oper)(c:Loc->Hp->Opt)(d:Ex->Loc->Hp->Opt)(os:List Oper):Loc->Hp->Opt:=List.rec (motive:=fun _=>Loc->Hp->Opt) c
 (fun o _ a l h=>Option.rec none (fun b=>Bool.rec (a (eB l o.dst (.tuple #[])) h) (opK o.op E R cx o.dst l h a d) b) (nT ops l o)) os
def n9(op:Op):Bool:=Op.rec (motive:=fun _=>Bool)
 (move:=fun _=>true) (assign:=fun _=>true) (pick:=fun _ _ _=>false) (alloc:=fun _=>false) (box:=fun _ _=>false) (build:=fun _ _=>false) (buildSlice:=fun _ _ _=>false)
 (insert:=fun _ _ _ _=>false) (load:=fun _ _=>true) (store:=fun _ _ _=>true) (ready:=fun _=>false) (waits:=fun _=>false) (nilCheck:=fun _=>false) (binOp:=fun _ _ _ _ _=>true)
 (unOp:=fun _ _ _=>true) (convert:=fun _ _ _=>false) (sliceToArrayPointer:=fun _ _=>false) (makeInterface:=fun _ _=>false) (makeFunc:=fun _ _ _=>false) (makeMap:=fun _ _=>false)
 (makeChan:=fun _ _=>false) (makeSlice:=fun _ _ _=>false) (slice:=fun _ _ _ _ _=>false) (fieldAddr:=fun _ _ _=>true) (field:=fun _ _ _=>true) (indexAddr:=fun _ _ _=>true) (index:=fun _ _ _=>true)
 (lookup:=fun _ _ _ _=>true) (mapUpdate:=fun _ _ _ _=>true) (mapEntry:=fun _ _ _=>true) (entryStore:=fun _ _ _ _=>false) (range:=fun _ _=>false) (next:=fun _ _=>false) (entry:=fun _=>false)
 (typeAssert:=fun _ _ _ _=>false) (extract:=fun _ _=>false) (call:=fun _=>false) (go:=fun _=>false) (defer:=fun _=>false) (panic:=fun _=>false) (send:=fun _ _=>false) (recv:=fun _ _ _=>false)
 (select:=fun _ _=>false) op
def oV(E:Env)(q i:Nat)(op:Op):Bool:=Bool.rec (Bool.rec false (zn 3 (cls E op)) (Nat.testBit q i)) false (zy q 0)
def outDK(o:Out):(Value->Hp->Opt)->Hp->Opt:=Out.rec (motive:=fun _=>(Value->Hp->Opt)->Hp->Opt) (fun v k h=>k v h) (fun _ _ _=>none) o
def resDK(r:Option (Out×Option (Value×Bool)×Hp))(k:Value->Hp->Opt):Opt:=Option.rec none (fun q=>Prod.rec (fun o a=>Prod.rec (fun _ h=>outDK o k h) a) q) r
def i9(E:Env)(R:Rec)(a:Bool)(o:Oper)(l:Loc)(h:Hp)(k:Value->Hp->Opt):Opt:=Option.rec none (fun p=>k p.1 p.2) (bQ E R l.ev a o h)
def sC(h:Hp)(k:Value->Hp->Opt)(v:Value)(a:Hp):Opt:=Bool.rec none (k v {a with lo:=h.lo}) (zn h.n a.lo)
def callDK(E:Env)(R:Rec)(a:Bool)(o:Oper)(c:Call)(l:Loc)(h:Hp)(k:Value->Hp->Opt):Opt:=Callee.rec (motive:=fun _=>Opt)
 (fun f=>Option.rec (i9 E R a o l h k) (fun p=>Bool.rec (resDK (R.call p.1 (p.2.1.toList++c.args.toList.map (evK l)++p.2.2.toList) none h) k)
   (resDK (R.call p.1 (p.2.1.toList++c.args.toList.map (evK l)++p.2.2.toList) none {h with lo:=h.n}) (sC h k)) a) (asFn (evK l f)))
 (fun _ _=>i9 E R a o l h k) (fun _=>i9 E R a o l h k) c.callee
def asCall(op:Op):Option Call:=match op with
 | .call c=>some c
 |_=>none
def sf(E:Env)(R:Rec)(a:Bool)(o:Oper)(l:Loc)(h:Hp)(k:Value->Hp->Opt):Opt:=Option.rec (i9 E R a o l h k) (fun c=>callDK E R a o c l h k) (asCall o.op)
def ti(l:Loc)(op:Op):Option Tch:=match touch (l.evD (tmpsOf op.operands.toList)) op with
 |none=>none
 |some b=>some (.blk b)
abbrev DM:=Nat->Loc->Hp->List (Nat×Tch)->Opt
def tg (E:Env) (R:Rec) (cx:Cx) (q:Nat) (o:Oper) (b:DM) (i:Nat) (l:Loc) (h:Hp) (c:List (Nat×Tch)):Opt:=
 Bool.rec (sf E R (oV E q i o.op) o l h fun v a=>b (i+1) (eB l o.dst v) a (eJ i c (bM (l.evD (tmpsOf o.op.operands.toList)) (oV E q i o.op) o.op h a)))
  (Bool.rec (opK o.op E R cx o.dst l h (fun d a=>b (i+1) d a (eJ i c (ti l o.op))) (fun _ _ _=>none))
    (i9 E R true o l h fun v a=>b (i+1) (eB l o.dst v) a (eJ i c (ti l o.op))) (oV E q i o.op)) (n9 o.op)
def mh(E:Env)(R:Rec)(cx:Cx)(ops:List Oper)(q:Nat)(a:DM)(os:List Oper):DM:=List.rec (motive:=fun _=>DM) a
 (fun o _ c i l h d=>Option.rec none (fun b=>Bool.rec (c (i+1) (eB l o.dst (.tuple #[])) h d) (tg E R cx q o c i l h d) b) (nT ops l o)) os
def drawKo(E:Env)(R:Rec)(cx:Cx)(ops:List Oper)(l:Loc)(h:Hp)(a:Loc->Hp->Opt):Opt:=
 Option.rec none (fun p=>mh E R cx ops p.1 (fun _ l h b=>Bool.rec none (a l h) (bL b p.2)) ops 0 l h []) (iI E ops)
def drawK(E:Env)(R:Rec)(cx:Cx)(ops:List Oper)(l:Loc)(h:Hp)(a:Loc->Hp->Opt):Opt:=drawKo E R cx (aZ ops) l h a

abbrev CodeM:=Cx->Code->Loc->Hp->(Loc->Hp->Opt)->(Ex->Loc->Hp->Opt)->Opt
def asBool:Value->Option Bool
 | .bool b=>some b
 |_=>none
def blkK(e:Ex):Nat->(Loc->Hp->Opt)->(Ex->Loc->Hp->Opt)->Loc->Hp->Opt:=Ex.rec (motive:=fun _=>Nat->(Loc->Hp->Opt)->(Ex->Loc->Hp->Opt)->Loc->Hp->Opt)
 (fun _ b _ l h=>b l h) (fun i id b a l h=>Bool.rec (a (.exit i) l h) (b l h) (zy i id)) (fun _ _ a l h=>a .ret l h) (fun v _ _ a l h=>a (.pan v) l h) e
def kP(E:Env)(R:Rec)(M:CodeM)(cx:Cx)(c:Code):Loc->Hp->(Loc->Hp->Opt)->(Ex->Loc->Hp->Opt)->Opt:=Code.rec (motive:=fun _=>Loc->Hp->(Loc->Hp->Opt)->(Ex->Loc->Hp->Opt)->Opt)
 (skip:=fun l h a _=>a l h)
 (region:=fun _ g k l h a d=>Bool.rec (opsK E R cx g.toList a d g.toList l h) (Bool.rec (drawK E R cx g.toList l h a) (cS (cutD E R cx g.toList l h) a d) (E.cut cx.fn)) k)
 (seq:=fun _ _ i j l h a d=>i l h (fun l h=>j l h a d) d)
 (cond:=fun c _ _ i j l h a d=>Option.rec none (fun t=>Bool.rec (j l h a d) (i l h a d) t) (asBool (evK l c)))
 (block:=fun id _ m l h a d=>m l h a (fun e l h=>blkK e id a d l h))
 (loop:=fun b m l h a d=>m l h (fun l h=>M cx (.loop b) l h a d) d)
 (rangeFunc:=fun f p o n _ _ l h a d=>cS (fJ R cx (evK l f) p o n l h) a d)
 (exit:=fun id l h _ d=>d (.exit id) l h)
 (scope:=fun _ m l h a d=>m l h a d)
 (label:=fun _ l h a _=>a l h)
 (goto:=fun _ _ _ _ _=>none)
 (ret:=fun l h _ d=>d .ret l h)
 (refuse:=fun _ _ _ _ _=>none) c
abbrev lI:=Option (Out×Option (Value×Bool)×Hp)
def rO(E:Env)(R:Rec)(b:Func)(l:Loc)(c:Hp):lI:=match bA R l.dfs none c with
 | some (none,a)=>match aO E l.regs a b.results.toList with
   |none=>none
   |some d=>some (.ret (ae d),l.rc,a)
 |_=>none
def doneK(E:Env)(R:Rec)(a:Func)(l:Loc)(h:Hp):lI:=List.rec (motive:=fun _=>lI)
 (Option.rec none (fun b=>some (.ret (ae b),l.rc,h)) (aO E l.regs h a.results.toList)) (fun _ _ _=>rO E R a l h) l.dfs
def slowPan(E:Env)(R:Rec)(b:Func)(v:Value)(l:Loc)(c:Hp):lI:=match bA R l.dfs (some v) c with
 |none=>none
 |some (some v,a)=>some (.pan v,l.rc,a)
 | some (none,a)=>match aO E l.regs a b.results.toList with
   |none=>none
   |some d=>some (.ret (ae d),l.rc,a)
def exLeave(e:Ex):Env->Rec->Func->Loc->Hp->lI:=Ex.rec (motive:=fun _=>Env->Rec->Func->Loc->Hp->lI) doneK (fun _ _ _ _ _ _=>none) doneK (fun v E R a l h=>slowPan E R a v l h) e
def leaveK(E:Env)(R:Rec)(a:Func)(r:Opt):lI:=Option.rec none (fun q=>Prod.rec (fun e b=>Prod.rec (fun l h=>exLeave e E R a l h) b) q) r
def s9(E:Env)(R:Rec)(f:FuncId)(args:List Value)(b:Option (Value×Bool))(h:Hp)(a:Func)(body:Code):lI:=
 Bool.rec none (leaveK E R a (R.code ⟨f,a.ntmps,none⟩ body ⟨(Tr.blank (.tuple #[]) a.ntmps a.ntmps).setAll 0 args,[],b⟩ h)) (zn args.length a.ntmps)
def callBK(E:Env)(R:Rec)(f:FuncId)(args:List Value)(c:Option (Value×Bool))(h:Hp):lI:=
 Option.rec none (fun b=>Option.rec none (fun a=>s9 E R f args c h b a) b.body) (E.fn f)
def th(E:Env)(R:Rec)(f:FuncId)(args:List Value)(a:Option (Value×Bool))(h:Hp):lI:=
 Option.rec (callBK E R f args a h) (fun v=>Option.rec (some (.ret v,none,h)) (fun _=>none) a) (E.orc f args)
structure RK where
 call:FuncId->List Value->Option (Value×Bool)->Hp->lI
 code:CodeM
def RK.rec'(K:RK):Rec:=⟨K.call,fun a c l h=>K.code a c l h (fun l h=>some (.normal,l,h)) (fun e l h=>some (e,l,h))⟩
def botK:RK:=⟨fun _ _ _ _=>none,fun _ _ _ _ _ _=>none⟩
def nextRK(E:Env)(K:RK):RK:=⟨fun f a b h=>th E K.rec' f a b h,fun d c l h e g=>kP E K.rec' K.code d c l h e g⟩
def runK(E:Env)(n:Nat):RK:=Nat.rec botK (fun _ K=>nextRK E K) n
def envK(a:Tr Func)(b:Tr TypeInfo)(c:List Nat):Env:={fn:=fun f=>getK a f,ty:=fun t=>getK b t,eqok:=fun t=>jY t c}
end
end Go.Ab

namespace Go.Ab
noncomputable section
theorem getK_eq{α:Type}(t:Tr α)(i:Nat):getK t i=t.get i:=rfl
theorem setK_eq{α:Type}(t:Tr α)(i:Nat)(x:α):setK t i x=t.set i x:=rfl

theorem kg(l:Loc)(d:Option Tmp)(v:Value):eB l d v=l.put d v:=by
 cases d with
 |none=>rfl
 |some t=>show Loc.mk (setK l.regs t v) l.dfs l.rc=_;rw [setK_eq];rfl
theorem eo(l:Loc):evK l=l.ev:=by
 funext x
 cases x with
 | tmp t=>
   show Option.rec (motive:=fun _=>Value) _ _ (getK l.regs t)=_
   rw [getK_eq]
   simp only [Loc.ev]
   cases l.regs.get t<;>rfl
 |const v=>simp only [Loc.ev];show Bool.rec (motive:=fun _=>Value) poison v (cg v)=_;cases cg v<;>rfl
 |global g=>simp only [Loc.ev];show Bool.rec (motive:=fun _=>Value) poison _ (zR g 16)=_;cases zR g 16<;>rfl
 |func f=>rfl

theorem bind2_id(x:Opt):cS x (fun l h=>some (.normal,l,h)) (fun e l h=>some (e,l,h))=x:=by
 cases x with
 |none=>rfl
 |some q=>obtain⟨e,l,h⟩:=q;cases e<;>rfl
theorem oN(x:Opt)(c:Loc->Hp->Opt)(d:Ex->Loc->Hp->Opt)(f:Loc->Hp->Opt)(a:Ex->Loc->Hp->Opt)(b: ∀e l h,e≠ .normal->d e l h=a e l h):
 cS x (fun l h=>cS (c l h) f a) d=cS (match x with
  |some (.normal,l,h)=>c l h
  |r=>r) f a:=by
 cases x with
 |none=>rfl
 | some q=>
   obtain⟨e,l,h⟩:=q
   cases e with
   |normal=>rfl
   |exit i=>exact b _ _ _ (by simp)
   |ret=>exact b _ _ _ (by simp)
   |pan v=>exact b _ _ _ (by simp)

theorem binK_eq(E:Env)(op:BinOp)(t:TypeId)(x y:Operand)(a b:Value):binK E op t x y a b=bj E op t x y a b:=by
 cases a<;>(try rfl)
 cases b<;>(try rfl)
 rename_i k m c n
 cases op<;>(try rfl)
 all_goals (show Bool.rec (motive:=fun _=>Option Value) none _ (iU k c)=(bif iU k c then _ else none);cases iU k c<;>rfl)

theorem retK_eq(r:Option Value)(o:Oper)(l:Loc)(h:Hp)(E:Env)(R:Rec)(a:Loc->Hp->Opt)(b:Ex->Loc->Hp->Opt):ij r o.dst l h a=cS (kU o l (cd E R (bO h r))) a b:=by
 cases r with
 |none=>rfl
 |some v=>show a (eB l o.dst v) h=a (l.put o.dst v) h;rw [kg]
theorem retHK_eq(r:Option (Hp×Value))(o:Oper)(l:Loc)(E:Env)(R:Rec)(a:Loc->Hp->Opt)(b:Ex->Loc->Hp->Opt):retHK r o.dst l a=cS (kU o l (cd E R (cw r))) a b:=by
 cases r with
 |none=>rfl
 |some p=>obtain⟨h,v⟩:=p;show a (eB l o.dst v) h=a (l.put o.dst v) h;rw [kg]
theorem retUK_eq(r:Option Hp)(o:Oper)(l:Loc)(E:Env)(R:Rec)(a:Loc->Hp->Opt)(b:Ex->Loc->Hp->Opt):qo r o.dst l a=cS (kU o l (cd E R (dK r))) a b:=by
 cases r with
 |none=>rfl
 |some h=>show a (eB l o.dst (.tuple #[])) h=a (l.put o.dst (.tuple #[])) h;rw [kg]
theorem resK_eq(R:Rec)(g:FuncId)(args:List Value)(o:Oper)(l:Loc)(h:Hp)(E:Env)(a:Loc->Hp->Opt)(b:Ex->Loc->Hp->Opt):
 resK (R.call g args none h) o.dst l a b=cS (kU o l (cd E R (some (.call g args,h)))) a b:=by
 simp only [cd]
 cases R.call g args none h with
 |none=>rfl
 | some q=>
   obtain⟨x,d,c⟩:=q
   cases x with
   |ret v=>show a (eB l o.dst v) c=a (l.put o.dst v) c;rw [kg]
   |pan v=>rfl
theorem jI{E:Env}{R:Rec}{cx:Cx}{o:Oper}{l:Loc}{h:Hp}{x:Option (cH×Hp)}(b:aop E l.ev h o.op=x)(c: ∀a,x≠some (.recov,a))(e: ∀d a,x≠some (.defer d,a)):c9 E R cx o l h=kU o l (cd E R x):=by
 unfold c9
 rw [b]
 split
 . exact absurd rfl (c _)
 . exact absurd rfl (e _ _)
 . rfl
theorem re{h:Hp}{r:Option Value}:(∀a,bO h r≠some (.recov,a))/\ ∀d a,bO h r≠some (.defer d,a):=by cases r<;>exact⟨by intros;simp [bO],by intros;simp [bO]⟩
theorem rh{r:Option (Hp×Value)}:(∀a,cw r≠some (.recov,a))/\ ∀d a,cw r≠some (.defer d,a):=by cases r<;>exact⟨by intros;simp [cw],by intros;simp [cw]⟩
theorem rM{r:Option Hp}:(∀a,dK r≠some (.recov,a))/\ ∀d a,dK r≠some (.defer d,a):=by cases r<;>exact⟨by intros;simp [dK],by intros;simp [dK]⟩
theorem opK_eq(E:Env)(R:Rec)(cx:Cx)(o:Oper)(l:Loc)(h:Hp)(q:Loc->Hp->Opt)(s:Ex->Loc->Hp->Opt):opK o.op E R cx o.dst l h q s=cS (c9 E R cx o l h) q s:=by
 have w: ∀r,aop E l.ev h o.op=bO h r->ij r o.dst l h q=cS (c9 E R cx o l h) q s:=fun r A=>by rw [jI A re.1 re.2];exact retK_eq r o l h E R q s
 have B: ∀r,aop E l.ev h o.op=cw r->retHK r o.dst l q=cS (c9 E R cx o l h) q s:=fun r A=>by rw [jI A rh.1 rh.2];exact retHK_eq r o l E R q s
 have C: ∀r,aop E l.ev h o.op=dK r->qo r o.dst l q=cS (c9 E R cx o l h) q s:=fun r A=>by rw [jI A rM.1 rM.2];exact retUK_eq r o l E R q s
 obtain⟨j,op,D,pos,z,guard⟩:=o
 simp only []at w B C⊢
 cases op
 case move x=>
  have:=w (some (l.ev x)) rfl
  rw [<-this]
  show q (eB l j (evK l x)) h=q (eB l j (l.ev x)) h
  rw [eo]
 case assign x=>
  have:=w (some (l.ev x)) rfl
  rw [<-this]
  show q (eB l j (evK l x)) h=q (eB l j (l.ev x)) h
  rw [eo]
 case load t a=>rw [<-w _ rfl];show ij (dJ E h t (evK l a)) j l h q=_;rw [eo]
 case store t a v=>rw [<-C _ rfl];show qo (fH E h t (evK l a) (evK l v)) j l q=_;rw [eo]
 case binOp b t x y u=>rw [<-w (bj E b t x y (l.ev x) (l.ev y)) rfl];show ij (binK E b t x y (evK l x) (evK l y)) j l h q=_;rw [eo,binK_eq]
 case unOp b t x=>rw [<-w (unP b (l.ev x)) rfl];show ij (unP b (evK l x)) j l h q=_;rw [eo]
 case fieldAddr t x i=>rw [<-w (aw E t (l.ev x) i) rfl];show ij (aw E t (evK l x) i) j l h q=_;rw [eo]
 case field t x i=>rw [<-w (aP E t (l.ev x) i) rfl];show ij (aP E t (evK l x) i) j l h q=_;rw [eo]
 case indexAddr t x i=>rw [<-w (dB E t (l.ev x) (l.ev i)) rfl];show ij (dB E t (evK l x) (evK l i)) j l h q=_;rw [eo]
 case index t x i=>rw [<-w (mK E t (l.ev x) (l.ev i)) rfl];show ij (mK E t (evK l x) (evK l i)) j l h q=_;rw [eo]
 case lookup t m k b=>rw [<-w _ rfl];show ij (bU E h t (evK l m) (evK l k) b) j l h q=_;rw [eo]
 case mapUpdate t m k v=>rw [<-C _ rfl];show qo (c7 E h t (evK l m) (evK l k) (evK l v)) j l q=_;rw [eo]
 case mapEntry t m k=>rw [<-B _ rfl];show retHK (fQ E h t (evK l m) (evK l k)) j l q=_;rw [eo]
 case call c=>
  show callK c E R cx j l h q s=_
  unfold callK
  cases F:c.callee with
  |invoke r n=>rfl
  |builtin b=>rfl
  | value f=>
    show Option.rec (motive:=fun _=>Opt) (cD (.call c) E R cx j l h q s) _ (asFn (evK l f))=_
    rw [eo]
    cases hf:asFn (l.ev f)with
    |none=>rfl
    | some p=>
      obtain⟨g,a,b⟩:=p
      have B:l.ev f=.func (.func g) a b:=by
       unfold asFn at hf
       split at hf
       . rename_i G;cases hf;exact G
       . cases hf
      have A:aop E l.ev h (.call c)=some (.call g (a.toList++c.args.toList.map l.ev++b.toList),h):=by simp only [aop,F,B,target]
      rw [jI (o:=⟨j,.call c,D,pos,z,guard⟩) A (by intro H e;cases e) (by intro d H e;cases e)]
      exact resK_eq R g _ ⟨j,.call c,D,pos,z,guard⟩ l h E q s
 all_goals rfl

theorem uq(ops:List Oper)(l:Loc)(o:Oper):nT ops l o=bC ops l.regs o:=by
 unfold nT
 cases a:o.guard with
 |none=>unfold bC;rw [a]
 |some q=>rfl
theorem opsK_eq(E:Env)(R:Rec)(cx:Cx)(ops:List Oper)(c:Loc->Hp->Opt)(a:Ex->Loc->Hp->Opt): ∀(os:List Oper) (l:Loc) (h:Hp),opsK E R cx ops c a os l h=cS (fK E R cx ops os l h) c a
 | [],l,h=>rfl
 | o ::os,l,h=>by
   have d:=opsK_eq E R cx ops c a os
   show Option.rec (motive:=fun _=>Opt) none (fun b=>Bool.rec (opsK E R cx ops c a os (eB l o.dst (.tuple #[])) h) (opK o.op E R cx o.dst l h (opsK E R cx ops c a os) a) b) (nT ops l o)=_
   rw [uq]
   simp only [fK]
   cases bC ops l.regs o with
   |none=>rfl
   | some b=>
     cases b with
     |false=>show opsK E R cx ops c a os (eB l o.dst (.tuple #[])) h=_;rw [d,kg]
     | true=>
       show opK o.op E R cx o.dst l h (opsK E R cx ops c a os) a=_
       rw [opK_eq,show opsK E R cx ops c a os=fun l h=>cS (fK E R cx ops os l h) c a from funext fun l=>funext fun h=>d l h]
       rw [oN _ _ _ _ _ (fun _ _ _ _=>rfl)]
       simp only []
       cases c9 E R cx o l h with
       |none=>rfl
       |some q=>obtain⟨e,f,g⟩:=q;cases e<;>rfl

end
end Go.Ab

namespace Go.Ab
noncomputable section

theorem tZ(E:Env)(R:Rec)(l:Loc)(a:Bool)(o:Oper)(h:Hp):bQ E R (l.evD (tmpsOf o.op.operands.toList)) a o h=bQ E R l.ev a o h:=by
 unfold bQ
 rw [qE (qs l o.op),qE (qs l o.op)]
theorem fast_step{E:Env}{R:Rec}{cx:Cx}{o:Oper}{l:Loc}{h:Hp}(hf:n9 o.op=true){K:Value->Hp->Opt}:
 cS (c9 E R cx o l h) (fun l' a=>none) (fun _ _ _=>none)=none/\
 ∀ c:Loc->Hp->Opt,cS (c9 E R cx o l h) c (fun _ _ _=>none)=(match bQ E R l.ev false o h with
   |none=>none
   |some (v,a)=>c (l.put o.dst v) a):=by
 have e: ∀x,aop E l.ev h o.op=x->((∃f r,x=bO f r)\/(∃r,x=cw r)\/ ∃r,x=dK r)-> ∀c:Loc->Hp->Opt,cS (c9 E R cx o l h) c (fun _ _ _=>none)=(match bQ E R l.ev false o h with
  |none=>none
  |some (v,a)=>c (l.put o.dst v) a):=by
  intro x i j c
  have k:(∀a,x≠some (.recov,a))/\ ∀d a,x≠some (.defer d,a):=by
   rcases j with⟨f,r,rfl⟩|⟨r,rfl⟩|⟨r,rfl⟩
   . exact re
   . exact rh
   . exact rM
  rw [jI i k.1 k.2]
  simp only [bQ,cond_false,i]
  rcases j with⟨f,r,rfl⟩|⟨r,rfl⟩|⟨r,rfl⟩<;>cases r<;>rfl
 have b:(∃f r,aop E l.ev h o.op=bO f r)\/(∃r,aop E l.ev h o.op=cw r)\/ ∃r,aop E l.ev h o.op=dK r:=by
  obtain⟨m,op,n,pos,g,guard⟩:=o
  simp only []at hf⊢
  cases op<;>(try (cases hf;done))
  all_goals first
   |exact .inl ⟨h,some (l.ev _),rfl⟩
   |exact .inl ⟨h,_,rfl⟩
   |exact .inr (.inl ⟨_,rfl⟩)
   |exact .inr (.inr ⟨_,rfl⟩)
 refine⟨?_,e _ rfl b⟩
 rw [e _ rfl b]
 cases bQ E R l.ev false o h<;>rfl
theorem rx(E:Env)(q i:Nat)(op:Op):oV E q i op=dk E q i op:=by
 unfold oV dk
 cases a:zy q 0 with
 | true=>
   have:q=0:=Xa a
   subst this
   simp
 |false=>cases Nat.testBit q i<;>rfl
theorem elseDK_eq (E:Env) (R:Rec) (d:Bool) (o:Oper) (l:Loc) (h:Hp) (k:Value->Hp->Opt):sf E R d o l h k=i9 E R d o l h k:=by
 unfold sf
 cases e:asCall o.op with
 |none=>rfl
 | some c=>
   show callDK E R d o c l h k=_
   have t:o.op=.call c:=by
    unfold asCall at e
    split at e
    . rename_i i;cases e;exact i
    . cases e
   unfold callDK
   cases j:c.callee with
   |invoke r n=>rfl
   |builtin b=>rfl
   | value f =>
     show Option.rec (motive:=fun _=>Opt) (i9 E R d o l h k) _ (asFn (evK l f))=_
     rw [eo]
     cases hf:asFn (l.ev f)with
     |none=>rfl
     | some p=>
       obtain⟨g,a,b⟩:=p
       have u:l.ev f=.func (.func g) a b:=by
        unfold asFn at hf
        split at hf
        . rename_i i;cases hf;exact i
        . cases hf
       have s: ∀h,aop E l.ev h o.op=some (.call g (a.toList++c.args.toList.map l.ev++b.toList),h):=by intro h;rw [t];simp only [aop,j,u,target]
       unfold i9 bQ
       cases d with
       | false=>
         simp only [cond_false,s,cd]
         show resDK (R.call g (a.toList++c.args.toList.map l.ev++b.toList) none h) k=_
         cases R.call g (a.toList++c.args.toList.map l.ev++b.toList) none h with
         |none=>rfl
         |some q=>obtain⟨x,w,m⟩:=q;cases x<;>rfl
       | true=>
         simp only [cond_true,s,cd]
         show resDK (R.call g (a.toList++c.args.toList.map l.ev++b.toList) none {h with lo:=h.n}) (sC h k)=_
         cases R.call g (a.toList++c.args.toList.map l.ev++b.toList) none {h with lo:=h.n}with
         |none=>rfl
         | some q=>
           obtain⟨x,w,m⟩:=q
           cases x with
           |pan v=>rfl
           | ret v=>
             show sC h k v m=_
             simp only [sC]
             cases zn h.n m.lo<;>rfl
theorem xw{op:Op}(h:n9 op=true):cQ op=false:=by
 cases op<;>first|rfl|exact absurd h (by simp [n9])
theorem v8 (E:Env) (R:Rec) (cx:Cx) (ops:List Oper) (q:Nat) (K:Loc->Hp->List (Nat×Tch)->Opt): ∀(os:List Oper) (i:Nat) (l:Loc) (h:Hp) (a:List (Nat×Tch)),
 mh E R cx ops q (fun _ l h a=>K l h a) os i l h a=(match aS E R ops q os i l h a with
  |none=>none
  |some (l',c,e)=>K l' c e)
 | [],i,l,h,a=>rfl
 | o :: os,i,l,h,a=>by
   have j:=v8 E R cx ops q K os
   show Option.rec (motive:=fun _=>Opt) none (fun b=>Bool.rec (mh E R cx ops q (fun _ l h a=>K l h a) os (i+1) (eB l o.dst (.tuple #[])) h a) (tg E R cx q o (mh E R cx ops q (fun _ l h a=>K l h a) os) i l h a) b) (nT ops l o)=_
   rw [uq]
   simp only [aS]
   cases bC ops l.regs o with
   |none=>rfl
   | some b=>
     cases b with
     |false=>show mh E R cx ops q (fun _ l h a=>K l h a) os (i+1) (eB l o.dst (.tuple #[])) h a=_;rw [j,kg]
     | true=>
       show tg E R cx q o (mh E R cx ops q (fun _ l h a=>K l h a) os) i l h a=_
       simp only []
       have d: ∀g,dk E q i o.op=g->i9 E R g o l h (fun v c=>mh E R cx ops q (fun _ l h a=>K l h a) os (i+1) (eB l o.dst v) c (eJ i a (bM (l.evD (tmpsOf o.op.operands.toList)) g o.op h c)))=
        (match(match bQ E R (l.evD (tmpsOf o.op.operands.toList)) (dk E q i o.op) o h with
          |none=>none
          |some (v,c)=>aS E R ops q os (i+1) (l.put o.dst v) c (eJ i a (bM (l.evD (tmpsOf o.op.operands.toList)) (dk E q i o.op) o.op h c)))with
          |none=>none
          |some (l',c,e)=>K l' c e):=by
        intro g f
        rw [f,tZ]
        unfold i9
        cases bQ E R l.ev g o h with
        |none=>rfl
        |some p=>obtain⟨v,c⟩:=p;show mh E R cx ops q _ os (i+1) (eB l o.dst v) c _=_;rw [j,kg]
       unfold tg
       cases hf:n9 o.op with
       | false=>
         show sf E R (oV E q i o.op) o l h _=_
         rw [elseDK_eq,rx]
         exact d _ rfl
       | true=>
         have m: ∀b (h c:Hp),bM (l.evD (tmpsOf o.op.operands.toList)) b o.op h c=ti l o.op:=by
          intro b h c
          have k:dI o.op=false:=by cases n:o.op<;>first|rfl|(rw [n]at hf;simp [n9]at hf)
          unfold bM ti g8
          rw [xw hf,k];rfl
         simp only [m]at d⊢
         cases f:oV E q i o.op with
         | true=>
           rw [rx]at f
           exact d true f
         | false=>
           rw [rx]at f
           show opK o.op E R cx o.dst l h _ _=_
           rw [opK_eq,(fast_step (R:=R) hf (K:=fun _ _=>none)).2,tZ,f]
           cases bQ E R l.ev false o h with
           |none=>rfl
           |some p=>obtain⟨v,c⟩:=p;simp only [];rw [j]
theorem codeK_eq(E:Env)(R:Rec)(M:CodeM)(D: ∀cx c l h d g,M cx c l h d g=cS (R.code cx c l h) d g)(cx:Cx): ∀(c:Code) (l:Loc) (h:Hp) (d:Loc->Hp->Opt) (g:Ex->Loc->Hp->Opt),
 kP E R M cx c l h d g=cS (ay E R cx c l h) d g:=by
 intro c
 induction c with
 |skip=>intro l h d g;rfl
 |label n=>intro l h d g;rfl
 | region id j s=>
   intro l h d g
   cases s with
   |false=>exact opsK_eq E R cx j.toList d g j.toList l h
   | true=>
     show(Bool.rec (motive:=fun _=>Opt) (drawK E R cx j.toList l h d) (cS (cutD E R cx j.toList l h) d g) (E.cut cx.fn):Opt)=_
     simp only [ay,cond_true]
     cases E.cut cx.fn with
     |true=>rfl
     |false=>
     show drawK E R cx j.toList l h d=_
     simp only [cond_false]
     unfold drawK drawKo
     generalize aZ j.toList=r
     cases iI E r with
     |none=>rfl
     | some p=>
       obtain⟨q,u⟩:=p
       show mh E R cx r q (fun _ l h B=>Bool.rec none (d l h) (bL B u)) r 0 l h []=_
       rw [v8 E R cx r q (fun l h B=>Bool.rec none (d l h) (bL B u))]
       simp only []
       cases aS E R r q r 0 l h []with
       |none=>rfl
       | some x=>
         obtain⟨a,b,c⟩:=x
         simp only []
         cases bL c u<;>rfl
 | seq a b k o=>
   intro l h d g
   show kP E R M cx a l h (fun l h=>kP E R M cx b l h d g) g=_
   rw [k,show(fun l h=>kP E R M cx b l h d g)=fun l h=>cS (ay E R cx b l h) d g from funext fun l=>funext fun h=>o l h d g]
   rw [oN _ _ _ _ _ (fun _ _ _ _=>rfl)]
   simp only [ay]
   cases ay E R cx a l h with
   |none=>rfl
   |some q=>obtain⟨e,z,A⟩:=q;cases e<;>rfl
 | cond c a b k o=>
   intro l h d g
   show Option.rec (motive:=fun _=>Opt) none (fun t=>Bool.rec (kP E R M cx b l h d g) (kP E R M cx a l h d g) t) (asBool (evK l c))=_
   rw [eo,k,o]
   simp only [ay]
   cases l.ev c<;>(try rfl)
   rename_i t
   cases t<;>rfl
 | block id b w=>
   intro l h d g
   show kP E R M cx b l h d (fun e l h=>blkK e id d g l h)=_
   rw [w]
   simp only [ay]
   cases ay E R cx b l h with
   |none=>rfl
   | some q=>
     obtain⟨e,z,A⟩:=q
     cases e with
     |normal=>rfl
     |ret=>rfl
     |pan v=>rfl
     | exit i=>
       show Bool.rec (motive:=fun _=>Opt) (g (.exit i) z A) (d z A) (zy i id)=_
       simp only []
       cases zy i id<;>rfl
 | loop b w=>
   intro l h d g
   show kP E R M cx b l h (fun l h=>M cx (.loop b) l h d g) g=_
   rw [w,show(fun l h=>M cx (.loop b) l h d g)=fun l h=>cS (R.code cx (.loop b) l h) d g from funext fun l=>funext fun h=>D cx (.loop b) l h d g]
   rw [oN _ _ _ _ _ (fun _ _ _ _=>rfl)]
   simp only [ay]
   cases ay E R cx b l h with
   |none=>rfl
   |some q=>obtain⟨e,z,A⟩:=q;cases e<;>rfl
 | rangeFunc f u C y _ _=>
   intro l h d g
   show cS (fJ R cx (evK l f) u C y l h) d g=_
   rw [eo];rfl
 |exit id=>intro l h d g;rfl
 |scope b w=>intro l h d g;exact w l h d g
 |goto n=>intro l h d g;rfl
 |ret=>intro l h d g;rfl
 |refuse m=>intro l h d g;rfl

theorem wG(E:Env)(R:Rec)(a:Func)(l:Loc)(h:Hp):doneK E R a l h=rO E R a l h:=by
 unfold doneK rO
 cases b:l.dfs with
 |cons d c=>rfl
 | nil=>
   simp only [bA]
   cases aO E l.regs h a.results.toList<;>rfl
theorem callBK_eq(E:Env)(R:Rec)(f:FuncId)(args:List Value)(c:Option (Value×Bool))(h:Hp):callBK E R f args c h=iG E R f args c h:=by
 unfold callBK iG
 cases E.fn f with
 |none=>rfl
 | some b=>
   show Option.rec (motive:=fun _=>lI) none (fun a=>s9 E R f args c h b a) b.body=_
   simp only []
   cases b.body with
   |none=>rfl
   | some a=>
     show s9 E R f args c h b a=_
     unfold s9
     simp only []
     cases zn args.length b.ntmps with
     |false=>rfl
     | true=>
       show leaveK E R b _=_
       simp only [cond_true]
       cases R.code ⟨f,b.ntmps,none⟩ a ⟨(Tr.blank (.tuple #[]) b.ntmps b.ntmps).setAll 0 args,[],c⟩ h with
       |none=>rfl
       | some q=>
         obtain⟨e,l,d⟩:=q
         cases e with
         |exit i=>rfl
         |pan v=>rfl
         |normal=>exact wG E R b l d
         |ret=>exact wG E R b l d

theorem callSK_eq(E:Env)(R:Rec)(f:FuncId)(args:List Value)(a:Option (Value×Bool))(h:Hp):th E R f args a h=fV E R f args a h:=by
 unfold th fV
 cases E.orc f args with
 |none=>exact callBK_eq E R f args a h
 |some v=>cases a<;>rfl

theorem uY(E:Env): ∀n,(runK E n).rec'=run E n/\ ∀cx c l h b d,(runK E n).code cx c l h b d=cS ((run E n).code cx c l h) b d
 |0=>⟨rfl,fun _ _ _ _ _ _=>rfl⟩
 | n+1=>by
   obtain⟨i,k⟩:=uY E n
   have j: ∀cx c l h b d,(runK E (n+1)).code cx c l h b d=cS ((run E (n+1)).code cx c l h) b d:=by
    intro cx c l h b d
    show kP E (runK E n).rec' (runK E n).code cx c l h b d=cS (ay E (run E n) cx c l h) b d
    rw [i]
    exact codeK_eq E (run E n) (runK E n).code k cx c l h b d
   refine⟨?_,j⟩
   show Rec.mk (fun f a g h=>th E (runK E n).rec' f a g h) (fun cx c l h=>(runK E (n+1)).code cx c l h (fun l h=>some (.normal,l,h)) (fun e l h=>some (e,l,h)))=next E (run E n)
   rw [i]
   unfold next
   congr 1
   . funext f a g h;exact callSK_eq E (run E n) f a g h
   . funext cx c l h;rw [j,bind2_id];rfl
theorem runK_call(E:Env)(n:Nat)(f:FuncId)(args:List Value)(a:Option (Value×Bool))(h:Hp):(runK E n).call f args a h=(run E n).call f args a h:=by
 rw [<-(uY E n).1];rfl

theorem envK_eq(a:Tr Func)(b:Tr TypeInfo)(c:List Nat):envK a b c=envOf a b c:=rfl

end
end Go.Ab

namespace Go.Ab
section
variable{E:Env}{ρ:Operand->Value}{h:Hp}
theorem o_move{x:Operand}:aop E ρ h (.move x)=some (.val (ρ x),h):=rfl
theorem o_assign{x:Operand}:aop E ρ h (.assign x)=some (.val (ρ x),h):=rfl
theorem o_load{t:TypeId}{a:Operand}:aop E ρ h (.load t a)=bO h (dJ E h t (ρ a)):=rfl
theorem o_store{t:TypeId}{a x:Operand}:aop E ρ h (.store t a x)=dK (fH E h t (ρ a) (ρ x)):=rfl
theorem o_binOp{op:BinOp}{t u:TypeId}{x y:Operand}:aop E ρ h (.binOp op t x y u)=bO h (bj E op t x y (ρ x) (ρ y)):=rfl
theorem o_unOp{op:UnOp}{t:TypeId}{x:Operand}:aop E ρ h (.unOp op t x)=bO h (unP op (ρ x)):=rfl
theorem yS{f:FuncId}{a b:Array Operand}:aop E ρ h (.makeFunc (.func f) a b)=some (.val (.func (.func f) (a.map ρ) (b.map ρ)),h):=rfl
theorem o_slice{t:TypeId}{x:Operand}{l u m:Option Operand}:aop E ρ h (.slice t x l u m)=bO h (d8 E t (ρ x) (l.map ρ) (u.map ρ) (m.map ρ)):=rfl
theorem xt{s:TypeId}{x:Operand}{i:Nat}:aop E ρ h (.fieldAddr s x i)=bO h (aw E s (ρ x) i):=rfl
theorem o_field{s:TypeId}{x:Operand}{i:Nat}:aop E ρ h (.field s x i)=bO h (aP E s (ρ x) i):=rfl
theorem xI{t:TypeId}{x i:Operand}:aop E ρ h (.indexAddr t x i)=bO h (dB E t (ρ x) (ρ i)):=rfl
theorem o_index{t:TypeId}{x i:Operand}:aop E ρ h (.index t x i)=bO h (mK E t (ρ x) (ρ i)):=rfl
theorem o_extract{t:Operand}{i:Nat}:aop E ρ h (.extract t i)=bO h (match ρ t with| .tuple vs=>vs.toList[i]? |_=>none):=rfl
theorem o_build{t:TypeId}{ps:Array (Nat×Operand)}:aop E ρ h (.build t ps)=bO h (jT E t (ps.toList.map fun p=>(p.1,ρ p.2))):=rfl
theorem uQ{t:TypeId}{n:Nat}{ps:Array (Nat×Operand)}:aop E ρ h (.buildSlice t n ps)=cw (ib E h t n (ps.toList.map fun p=>(p.1,ρ p.2))):=rfl
theorem xx{t:TypeId}{l c:Operand}:aop E ρ h (.makeSlice t l c)=cw (gZ E h t (ρ l) (ρ c)):=rfl
theorem we{x:Operand}{s t:TypeId}{a:Bool}:aop E ρ h (.typeAssert x s t a)=bO h (mw E (ρ x) t a):=rfl
theorem o_convert{s t:TypeId}{x:Operand}:aop E ρ h (.convert s t x)=cw (jK E h s t (ρ x)):=rfl
theorem o_lookup{t:TypeId}{m k:Operand}{a:Bool}:aop E ρ h (.lookup t m k a)=bO h (bU E h t (ρ m) (ρ k) a):=rfl
theorem xS{t:TypeId}{m k v:Operand}:aop E ρ h (.mapUpdate t m k v)=dK (c7 E h t (ρ m) (ρ k) (ρ v)):=rfl
theorem yB{t:TypeId}{m k:Operand}:aop E ρ h (.mapEntry t m k)=cw (fQ E h t (ρ m) (ρ k)):=rfl
theorem vh{t:TypeId}{m s v:Operand}:aop E ρ h (.entryStore t m s v)=dK (jf h (ρ m) (ρ s) (ρ v)):=rfl
theorem o_callv{f:Operand}{as:Array Operand}{ts:Array TypeId}:aop E ρ h (.call ⟨.value f,as,ts⟩)=match target (ρ f) (as.toList.map ρ)with|none=>none|some x=>some (x,h):=rfl
theorem o_max{x y:Operand}{ts:Array TypeId}:aop E ρ h (.call ⟨.builtin .max,#[x,y],ts⟩)=bO h (eD true (ρ x) [ρ y]):=rfl
theorem o_min{x y:Operand}{ts:Array TypeId}:aop E ρ h (.call ⟨.builtin .min,#[x,y],ts⟩)=bO h (eD false (ρ x) [ρ y]):=rfl
theorem o_append{s x:Operand}{ts:Array TypeId}:aop E ρ h (.call ⟨.builtin .append,#[s,x],ts⟩)=cw (cV E h ts.toList (ρ s) (ρ x)):=rfl
theorem o_copy{s x:Operand}{ts:Array TypeId}:aop E ρ h (.call ⟨.builtin .copy,#[s,x],ts⟩)=cw (copyV E h ts.toList (ρ s) (ρ x)):=rfl
end
theorem yJ{h:Hp}{v:Value}:bO h (some v)=some (.val v,h):=rfl
theorem yF{h:Hp}{v:Value}:cw (some (h,v))=some (.val v,h):=rfl
theorem yU{h:Hp}:dK (some h)=some (.skip,h):=rfl
theorem dY(k:IntKind):iU k k=true:=by rw [ey];simp
theorem b_add{E:Env}{t:TypeId}{x y:Operand}{k:IntKind}{m n:Int}:bj E .add t x y (.int k m) (.int k n)=some (.int k (au k (m+n))):=by simp [bj,dY,fh]
theorem b_sub{E:Env}{t:TypeId}{x y:Operand}{k:IntKind}{m n:Int}:bj E .sub t x y (.int k m) (.int k n)=some (.int k (au k (m-n))):=by simp [bj,dY,fh]
theorem b_mul{E:Env}{t:TypeId}{x y:Operand}{k:IntKind}{m n:Int}:bj E .mul t x y (.int k m) (.int k n)=some (.int k (au k (m*n))):=by simp [bj,dY,fh]
theorem mQ(m n:Int):fw m n=decide (m=n):=by rw [fb];by_cases h:m=n<;>simp [h]
theorem b_eql{E:Env}{t:TypeId}{x y:Operand}{k:IntKind}{m n:Int}:bj E .eql t x y (.int k m) (.int k n)=some (.bool (decide (m=n))):=by simp [bj,dY,fh,mQ]
theorem b_neq{E:Env}{t:TypeId}{x y:Operand}{k:IntKind}{m n:Int}:bj E .neq t x y (.int k m) (.int k n)=some (.bool (!decide (m=n))):=by simp [bj,dY,fh,mQ]
theorem b_lss{E:Env}{t:TypeId}{x y:Operand}{k:IntKind}{m n:Int}:bj E .lss t x y (.int k m) (.int k n)=some (.bool (decide (m<n))):=by simp [bj,dY,fh,fE]
theorem b_leq{E:Env}{t:TypeId}{x y:Operand}{k:IntKind}{m n:Int}:bj E .leq t x y (.int k m) (.int k n)=some (.bool (decide (m<=n))):=by
 simp only [bj,dY,fh,fE,cond_true]
 by_cases a:m<=n
 . rw [decide_eq_true a,decide_eq_false (by omega)];rfl
 . rw [decide_eq_false a,decide_eq_true (by omega)];rfl
theorem b_gtr{E:Env}{t:TypeId}{x y:Operand}{k:IntKind}{m n:Int}:bj E .gtr t x y (.int k m) (.int k n)=some (.bool (decide (n<m))):=by simp [bj,dY,fh,fE]
theorem b_geq{E:Env}{t:TypeId}{x y:Operand}{k:IntKind}{m n:Int}:bj E .geq t x y (.int k m) (.int k n)=some (.bool (decide (n<=m))):=by
 simp only [bj,dY,fh,fE,cond_true]
 by_cases a:n<=m
 . rw [decide_eq_true a,decide_eq_false (by omega)];rfl
 . rw [decide_eq_false a,decide_eq_true (by omega)];rfl
theorem qv{E:Env}{t:TypeId}{x y:Operand}{k:IntKind}{m n:Int}(h:n≠0):bj E .quo t x y (.int k m) (.int k n)=some (.int k (au k (m.tdiv n))):=by
 simp [bj,dY,fh,mQ,h]
theorem ou{E:Env}{t:TypeId}{x y:Operand}{k:IntKind}{m n:Int}(h:n≠0):bj E .rem t x y (.int k m) (.int k n)=some (.int k (m.tmod n)):=by
 simp [bj,dY,fh,mQ,h]
theorem mm_max{k k':IntKind}{a b:Int}:eD true (.int k a) [.int k' b]=some (.int k (max a b)):=by
 simp only [eD,fE,cond_true]
 by_cases h:a<b
 . rw [decide_eq_true h];simp only [cond_true];rw [Int.max_eq_right (by omega)]
 . rw [decide_eq_false h];simp only [cond_false];rw [Int.max_eq_left (by omega)]
theorem mm_min{k k':IntKind}{a b:Int}:eD false (.int k a) [.int k' b]=some (.int k (min a b)):=by
 simp only [eD,fE,cond_false]
 by_cases h:b<a
 . rw [decide_eq_true h];simp only [cond_true];rw [Int.min_eq_right (by omega)]
 . rw [decide_eq_false h];simp only [cond_false];rw [Int.min_eq_left (by omega)]
theorem wrap64{n:Int}(a: -9223372036854775808<=n)(b:n<9223372036854775808):au .i64 n=n:=by
 unfold au
 cases n with
 | ofNat m=>
   have:zR m (hf .i64)=true:=by rw [zW];simp only [hf];have c:(m:Int)<9223372036854775808:=b;omega
   simp only [this,cond_true]
 | negSucc m=>
   have:zR m (hf .i64)=true:=by rw [zW];simp only [hf];have: -9223372036854775808<=Int.negSucc m:=a;omega
   simp only [sgn,this,cond_true]
theorem qT{α:Type}{a:α}{P:α->Prop}:(∃b,some a=some b/\P b)↔P a:=⟨fun⟨b,c,d⟩=>by cases c;exact d,fun h=>⟨a,rfl,h⟩⟩
theorem xu{a:Bool}{P:Bool->Prop}:(∃t,Value.bool a=Value.bool t/\P t)↔P a:=⟨fun⟨b,c,d⟩=>by cases c;exact d,fun h=>⟨a,rfl,h⟩⟩
end Go.Ab
namespace Go.Ab
theorem bu{v:Value}{l:List Value}:cC (v::l) 0=v:=rfl
theorem dF{v:Value}{l:List Value}{i:Nat}:cC (v::l) (i+1)=cC l i:=rfl
end Go.Ab
namespace Go.Ab
section
variable{l:Loc}
theorem c_int{k:IntKind}{n:Int}:l.ev (.const (.int k n))=.int k n:=rfl
theorem c_bool{b:Bool}:l.ev (.const (.bool b))=.bool b:=rfl
theorem c_string{s:ByteArray}:l.ev (.const (.string s))=.string s:=rfl
theorem c_nilp:l.ev (.const (.pointer none))=.pointer none:=rfl
theorem c_nils:l.ev (.const (.slice none 0 0))=.slice none 0 0:=rfl
theorem c_nilm:l.ev (.const (.map none))=.map none:=rfl
theorem c_nilf:l.ev (.const .nilFunc)=.nilFunc:=rfl
theorem c_nili:l.ev (.const .nilIface)=.nilIface:=rfl
end
end Go.Ab
namespace Go.Ab
def one1:Option (List Value)->Option Value
 |some [v]=>some v
 |_=>none
theorem one1_some{v:Value}:one1 (some [v])=some v:=rfl
theorem yI{E:Env}{h:Hp}{t:TypeId}{b o:Nat}{s:Option Nat}(a:E.agg t=some false):dJ E h t (.pointer (some ⟨b,o,s⟩))=one1 (h.load b o 1):=by
 simp only [dJ,a]
 unfold one1
 rfl
end Go.Ab
namespace Go.Ab
def gv(a:Bool):Option Value->Option Bool
 |some (.bool b)=>some (bif b then a else !a)
 |some (.tuple _)=>some false
 |_=>none
noncomputable def gj(a:Bool)(b:Tr Value):Option Oper->Option Bool
 |none=>some false
 | some o=>match o.dst with
   |none=>some false
   |some d=>gv a (b.get d)
theorem ym{a:List Oper}{c:Tr Value}{d:Option Tmp}{op:Op}{t:TypeId}{p:String}{e:Array Edge}{j:Nat}{b:Bool}:bC a c ⟨d,op,t,p,e,some (j,b)⟩=gj b c (a[j]?):=by
 simp only [bC,gj]
 cases a[j]? with
 |none=>rfl
 | some o=>
   simp only []
   cases o.dst with
   |none=>rfl
   | some d=>
     simp only [gv]
     cases c.get d with
     |none=>rfl
     |some v=>cases v<;>rfl
theorem gj_some{a:Bool}{b:Tr Value}{d:Tmp}{op:Op}{t:TypeId}{p:String}{c:Array Edge}{g:Option (Nat×Bool)}:gj a b (some ⟨some d,op,t,p,c,g⟩)=gv a (b.get d):=rfl
theorem gv_true{b:Bool}:gv true (some (.bool b))=some b:=by cases b<;>rfl
theorem gv_false{b:Bool}:gv false (some (.bool b))=some (!b):=by cases b<;>rfl
theorem gv_tuple{a:Bool}{x:Array Value}:gv a (some (.tuple x))=some false:=rfl
theorem u_not{b:Bool}:unP .not (.bool b)=some (.bool (!b)):=rfl
theorem target_fn{g:FuncId}{a b:Array Value}{args:List Value}:target (.func (.func g) a b) args=some (.call g (a.toList++args++b.toList)):=rfl
def aW(E:Env)(f:FuncId)(args:List Value)(h:Hp)(v:Value):Prop:=Ret E f args h fun a b=>a=v/\Gr h b
end Go.Ab
namespace Go.Ab
theorem ce{E:Env}{cx:Cx}{Q:dP}{k:List Fr}{l:Loc}{h:Hp}{b:Code}:Run E (lim E) cx Q (.code (.loop b)::k) .normal l h↔Run E (lim E) cx Q (.code b:: .code (.loop b)::k) .normal l h:=by
 rw [<-run_seq]
 simp only [Run]
 have:ay E (lim E) cx (.loop b) l h=ay E (lim E) cx (.seq b (.loop b)) l h:=by
  simp only [ay]
  cases ay E (lim E) cx b l h with
  |none=>rfl
  | some q=>
    obtain⟨e,a,c⟩:=q
    cases e with
    |normal=>show(lim E).code cx (.loop b) a c=_;rw [tF];rfl
    |exit i=>rfl
    |ret=>rfl
    |pan v=>rfl
 rw [this]
def lenK(r:Option (cH×Hp))(h:Hp):Option Value->Option (cH×Hp)
 |some v=>some (.val v,h)
 |none=>r
theorem o_lenK{E:Env}{ρ:Operand->Value}{h:Hp}{x:Operand}{t:TypeId}:aop E ρ h (.call ⟨.builtin .len,#[x],#[t]⟩)=lenK (match ρ x with
 | .map (some r)=>match h.get r with
   |some (.map a _)=>match E.und t with
    |some (.map _ _)=>some (.val (.int .i64 (.ofNat a.length)),h)
    |_=>none
   |_=>none
 |_=>none) h (lH E t (ρ x)):=by
 simp only [aop,pop]
 cases lH E t (ρ x)with
 |some v=>rfl
 | none=>
   simp only [lenK]
   cases ρ x<;>rfl
theorem natOf_nn{i:Int}(h:0<=i):fo i=some i.toNat:=by
 cases i with
 |ofNat n=>rfl
 |negSucc n=>exact absurd h (by simp)
theorem idxP_in{k:IntKind}{i:Int}{n:Nat}(h0:0<=i)(a:i<n):gF (.int k i) n=some i.toNat:=by
 simp only [gF,natOf_nn h0]
 have:zR i.toNat n=true:=by rw [zW];omega
 rw [this];rfl
theorem jk{k:IntKind}{i n:Nat}(a:i<n):gF (.int k (i:Int)) n=some i:=by
 rw [idxP_in (Int.natCast_nonneg i) (by omega)];simp
theorem ia_slice{E:Env}{t e:TypeId}{k:Nat}{a:Addr}{n c:Nat}{v:Value}(b:E.und t=some (.slice e))(d:E.sz e=some k):dB E t (.slice (some a) n c) v=(gF v n).map fun i=>.pointer (some (dW a (i*k))):=by
 simp only [dB,b,d]
 cases gF v n<;>rfl
end Go.Ab
namespace Go.Ab
theorem ar{E:Env}{cx:Cx}{o:Oper}{l:Loc}{K:Ex->Loc->Hp->Prop}{h:Hp}{f:FuncId}{args:List Value}{v:Value}(b:aW E f args h v)(c: ∀a,Gr h a->K .normal (l.put o.dst v) a):ed E cx o l K (some (.call f args,h)):=
 step_ret b fun d a ⟨e,g⟩=>by rw [e];exact c a g
theorem ss{E:Env}{K:Value->Hp->Prop}{f:FuncId}{args:List Value}{h:Hp}{v:Value}(b:aW E f args h v)(c: ∀a,Gr h a->K v a):iz E K (some (.call f args,h)):=
 tR b fun d a ⟨e,g⟩=>by rw [e];exact c a g
theorem aW.of{E:Env}{f:FuncId}{args:List Value}{h:Hp}{v:Value}(a:Ret E f args h fun v' b=>v'=v/\Gr h b):aW E f args h v:=a
end Go.Ab
namespace Go.Ab
section
variable(E:Env)(cx:Cx)(Q:dP)
def GStep(a:List Oper)(o:Oper)(os:List Oper)(k:List Fr)(l:Loc)(h:Hp):Option Bool->Prop
 |some true=>ed E cx o l (fun e b c=>Run E (lim E) cx Q (.ops a os::k) e b c) (aop E l.ev h o.op)
 |some false=>Run E (lim E) cx Q (.ops a os::k) .normal (l.put o.dst (.tuple #[])) h
 |none=>False
def CStep(a b:Code)(k:List Fr)(l:Loc)(h:Hp):Value->Prop
 | .bool true=>Run E (lim E) cx Q (.code a::k) .normal l h
 | .bool false=>Run E (lim E) cx Q (.code b::k) .normal l h
 |_=>False
def sV(a:List Oper)(q:Nat)(ps:List (Nat×Nat))(o:Oper)(os:List Oper)(i:Nat)(c:List (Nat×Tch))(k:List Fr)(l:Loc)(h:Hp):Option Bool->Bool->Prop
 |some true,false=>iz E (fun v b=>Run E (lim E) cx Q (.opsD a q ps os (i+1) (eJ i c (bM l.ev false o.op h b))::k) .normal (l.put o.dst v) b) (aop E l.ev h o.op)
 |some true,true=>iz E (fun v b=>zn h.n b.lo=true/\Run E (lim E) cx Q (.opsD a q ps os (i+1) (eJ i c (bM l.ev true o.op h h))::k) .normal (l.put o.dst v) {b with lo:=h.lo}) (aop E l.ev {h with lo:=h.n} o.op)
 |some false,_=>Run E (lim E) cx Q (.opsD a q ps os (i+1) c::k) .normal (l.put o.dst (.tuple #[])) h
 |none,_=>False
end
section
variable{E:Env}{cx:Cx}{Q:dP}{k:List Fr}{l:Loc}{h:Hp}
theorem r_ops{a os:List Oper}{o:Oper}:Run E (lim E) cx Q (.ops a (o::os)::k) .normal l h↔GStep E cx Q a o os k l h (bC a l.regs o):=by
 rw [vG]
 cases bC a l.regs o with
 |none=>exact⟨fun⟨_,e,_⟩=>(by cases e),fun h=>h.elim⟩
 | some b=>
   rw [qT]
   cases b with
   |true=>rw [if_pos rfl];exact then_step
   |false=>rw [if_neg (by simp)];exact zo
theorem g_true{a os:List Oper}{o:Oper}:GStep E cx Q a o os k l h (some true)↔ed E cx o l (fun e l' b=>Run E (lim E) cx Q (.ops a os::k) e l' b) (aop E l.ev h o.op):=zo
theorem g_false{a os:List Oper}{o:Oper}:GStep E cx Q a o os k l h (some false)↔Run E (lim E) cx Q (.ops a os::k) .normal (l.put o.dst (.tuple #[])) h:=zo
theorem r_cond{c:Operand}{a b:Code}:Run E (lim E) cx Q (.code (.cond c a b)::k) .normal l h↔CStep E cx Q a b k l h (l.ev c):=by
 rw [run_cond]
 cases l.ev c<;>(try (exact⟨fun⟨_,e,_⟩=>(by cases e),fun h=>h.elim⟩))
 rename_i t
 rw [xu]
 cases t with
 |true=>rw [if_pos rfl];exact zo
 |false=>rw [if_neg (by simp)];exact zo
theorem c_true{a b:Code}:CStep E cx Q a b k l h (.bool true)↔Run E (lim E) cx Q (.code a::k) .normal l h:=zo
theorem c_false{a b:Code}:CStep E cx Q a b k l h (.bool false)↔Run E (lim E) cx Q (.code b::k) .normal l h:=zo
theorem r_opsD{a os:List Oper}{o:Oper}{q i:Nat}{ps:List (Nat×Nat)}{c:List (Nat×Tch)}:Run E (lim E) cx Q (.opsD a q ps (o::os) i c::k) .normal l h↔sV E cx Q a q ps o os i c k l h (bC a l.regs o) (dk E q i o.op):=by
 rw [run_opsD]
 cases bC a l.regs o with
 |none=>exact⟨fun⟨_,e,_⟩=>(by cases e),fun h=>h.elim⟩
 | some b=>
   rw [qT]
   cases b with
   | true=>
     rw [if_pos rfl]
     cases dk E q i o.op with
     |true=>rw [if_pos rfl];exact zo
     |false=>rw [if_neg (by simp)];exact zo
   |false=>rw [if_neg (by simp)];exact zo
theorem d_skip{a os:List Oper}{o:Oper}{q i:Nat}{ps:List (Nat×Nat)}{c:List (Nat×Tch)}{b:Bool}:sV E cx Q a q ps o os i c k l h (some false) b↔Run E (lim E) cx Q (.opsD a q ps os (i+1) c::k) .normal (l.put o.dst (.tuple #[])) h:=zo
theorem jx{i:Nat}{a:List (Nat×Tch)}:eJ i a none=a:=rfl
theorem bG{i:Nat}{b:Tch}{a:List (Nat×Tch)}:eJ i a (some b)=(i,b)::a:=rfl
theorem bN{a:List (Nat×Tch)}:bL a []=true:=rfl
theorem guard_no{a:List Oper}{b:Tr Value}{d:Option Tmp}{op:Op}{t:TypeId}{p:String}{c:Array Edge}:bC a b ⟨d,op,t,p,c,none⟩=some true:=rfl
end
end Go.Ab
namespace Go.Ab
theorem b_eqlB{E:Env}{t:TypeId}{x y:Operand}{a b:Bool}(c:E.und t=some .bool):bj E .eql t x y (.bool a) (.bool b)=some (.bool (bif a then b else !b)):=by
 simp [bj,ee,df,c]
theorem b_neqB{E:Env}{t:TypeId}{x y:Operand}{a b:Bool}(c:E.und t=some .bool):bj E .neq t x y (.bool a) (.bool b)=some (.bool (!(bif a then b else !b))):=by
 simp [bj,ee,df,c]
theorem same_bool{d:Bool}:(bif d then d else !d)=true:=by cases d<;>rfl
end Go.Ab
namespace Go.Ab
noncomputable def boxR(h:Hp)(t:TypeId):Value->Option (cH×Hp)
 | .chan _=>none
 |v=>some (.val (ptrTo h.n),h.new (.cells (Tr.ofList (ah v)) (ah v).length t 1))
theorem o_boxR{E:Env}{ρ:Operand->Value}{h:Hp}{t:TypeId}{x:Operand}:aop E ρ h (.box t x)=boxR h t (ρ x):=by
 simp only [aop];cases ρ x<;>rfl
noncomputable def allocR(h:Hp)(t:TypeId):Option (List Value)->Option (cH×Hp)
 |none=>none
 |some z=>some (.val (ptrTo h.n),h.new (.cells (Tr.ofList z) z.length t 1))
theorem o_allocR{E:Env}{ρ:Operand->Value}{h:Hp}{t:TypeId}:aop E ρ h (.alloc t)=allocR h t (E.zero t):=by
 simp only [aop];cases E.zero t<;>rfl
section
variable{E:Env}{cx:Cx}{o:Oper}{l:Loc}{K:Ex->Loc->Hp->Prop}{h:Hp}
theorem aK{ops:List Oper}(h:((ops.any pT||pV ops)&&ops.all (gE ops.length))=false):aZ ops=ops:=by unfold aZ;rw [h];rfl
theorem aE{Q:dP}{k:List Fr}{id:Nat}{ops:Array Oper}{q:Nat}{ps:List (Nat×Nat)}{os:List Oper}(b:aZ ops.toList=os)(c:iI E os=some (q,ps))(d:Run E (lim E) cx Q (.opsD os q ps os 0 []::k) .normal l h)(a:E.cut cx.fn=false:=by rfl):Run E (lim E) cx Q (.code (.region id ops true)::k) .normal l h:=(run_draw a b c).2 d
theorem fork_step{Q:dP}{k:List Fr}{id:Nat}{ops:Array Oper}{q:Nat}{ps:List (Nat×Nat)}{os:List Oper}{t:Tmp}(b:aZ ops.toList=os)(c:m6 E os (jH os)=some t)(d:qA E os=some (q,ps))
 (e:Run E (lim E) cx Q (.opsD os q ps os 0 []:: .kill t::k) .normal l h) (a:E.cut cx.fn=true:=by rfl):Run E (lim E) cx Q (.code (.region id ops true)::k) .normal l h:=run_fork a b c d e
end
theorem quiet_ok{h a:Hp}(g:Gr {h with lo:=h.n} a):zn h.n a.lo=true:=g.hlo
theorem gr_lo{h a:Hp}(g:Gr {h with lo:=h.n} a):Gr h {a with lo:=h.lo}:=
 ⟨g.ok0,g.ok,g.n,g.get,fun _ _ h=>h⟩
end Go.Ab
namespace Go.Ab
theorem hush_s{E:Env}{q i:Nat}{op:Op}:dk E q i op=(decide (q/2 ^i%2=1)&&decide (3<=cls E op)):=by
 unfold dk
 rw [Nat.testBit_eq_decide_div_mod_eq,dj]
end Go.Ab
namespace Go.Ab
theorem xQ{E:Env}{K:Value->Hp->Prop}{f:FuncId}{args:List Value}{h:Hp}{v:Value}(b:aW E f args {h with lo:=h.n} v)(c: ∀a,Gr h a->K v a):
 iz E (fun v a=>zn h.n a.lo=true/\K v {a with lo:=h.lo}) (some (.call f args,{h with lo:=h.n})):=
 ss b fun a g=>⟨quiet_ok g,c _ (gr_lo g)⟩
end Go.Ab
namespace Go.Ab
section
variable(E:Env)(cx:Cx)(Q:dP)(a:List Oper)(q:Nat)(ps:List (Nat×Nat))(o:Oper)(os:List Oper)(i:Nat)(k:List Fr)(l:Loc)
def DN(c:Hp->List (Nat×Tch))(x:Option (cH×Hp)):Prop:=iz E (fun v b=>Run E (lim E) cx Q (.opsD a q ps os (i+1) (c b)::k) .normal (l.put o.dst v) b) x
def DQ(h:Hp)(c:List (Nat×Tch))(x:Option (cH×Hp)):Prop:=iz E (fun v b=>zn h.n b.lo=true/\Run E (lim E) cx Q (.opsD a q ps os (i+1) c::k) .normal (l.put o.dst v) {b with lo:=h.lo}) x
end
section
variable{E:Env}{cx:Cx}{Q:dP}{a:List Oper}{q:Nat}{ps:List (Nat×Nat)}{o:Oper}{os:List Oper}{i:Nat}{k:List Fr}{l:Loc}{h:Hp}{tr:List (Nat×Tch)}{tf:Hp->List (Nat×Tch)}
theorem dn_loud:sV E cx Q a q ps o os i tr k l h (some true) false↔DN E cx Q a q ps o os i k l (fun b=>eJ i tr (bM l.ev false o.op h b)) (aop E l.ev h o.op):=zo
theorem dn_quiet:sV E cx Q a q ps o os i tr k l h (some true) true↔DQ E cx Q a q ps o os i k l h (eJ i tr (bM l.ev true o.op h h)) (aop E l.ev {h with lo:=h.n} o.op):=zo
theorem dn_val{v:Value}{b:Hp}:DN E cx Q a q ps o os i k l tf (some (.val v,b))↔Run E (lim E) cx Q (.opsD a q ps os (i+1) (tf b)::k) .normal (l.put o.dst v) b:=zo
theorem dn_skip{b:Hp}:DN E cx Q a q ps o os i k l tf (some (.skip,b))↔Run E (lim E) cx Q (.opsD a q ps os (i+1) (tf b)::k) .normal (l.put o.dst (.tuple #[])) b:=zo
theorem cM{f:FuncId}{args:List Value}{P:Value->Hp->Prop}(c:Ret E f args h P)(d: ∀v b,P v b->Run E (lim E) cx Q (.opsD a q ps os (i+1) (tf b)::k) .normal (l.put o.dst v) b):DN E cx Q a q ps o os i k l tf (some (.call f args,h)):=tR c d
theorem dg{f:FuncId}{args:List Value}{v:Value}(c:aW E f args h v)(d: ∀b,Gr h b->Run E (lim E) cx Q (.opsD a q ps os (i+1) (tf b)::k) .normal (l.put o.dst v) b):DN E cx Q a q ps o os i k l tf (some (.call f args,h)):=ss c d
theorem nK{f:FuncId}{args:List Value}{v:Value}(c:aW E f args {h with lo:=h.n} v)(d: ∀b,Gr h b->Run E (lim E) cx Q (.opsD a q ps os (i+1) tr::k) .normal (l.put o.dst v) b):DQ E cx Q a q ps o os i k l h tr (some (.call f args,{h with lo:=h.n})):=xQ c d
end
end Go.Ab
namespace Go.Ab
theorem ao{b:Nat}:ptrTo b=.pointer (some ⟨b,0,none⟩):=rfl
end Go.Ab

namespace Go.Ab
open Go.ChangeShapes Go.WideShapes Go.RowKit

theorem len4{α:Type}{l:List α}(h:l.length=4): ∃a b c d,l=[a,b,c,d]:=by
 match l,h with
 | [a,b,c,d],_=>exact⟨a,b,c,d,rfl⟩
theorem len2{α:Type}{l:List α}(h:l.length=2): ∃a b,l=[a,b]:=by
 match l,h with
 | [a,b],_=>exact⟨a,b,rfl⟩
section
variable{H:Type}{enc:TypeId×Value->H}{P:Program}
theorem pg(f:laidOutB P=true){W g:World}(i:Below W.heap.size W g): ∀{ts:List TypeId} {vs:List Value} {c:List (DataW H)} {ps:List MemPlace},(ts.all fun t=>P.readableRec t&&decide (t<P.types.size))=true->
 DataW.TrodAll enc P W 0 (fun _=>true) true ts vs c ps->(∀x∈ps,x.block<W.heap.size)->DataW.TrodAll enc P g 0 (fun b=>decide (b<W.heap.size)) true ts vs c ps
 | [],vs,c,ps,_,h,_=>by
   obtain⟨rfl,rfl,rfl⟩:=trodAll_nil h
   exact rfl
 | t::ts,vs,c,ps,a,h,hlt=>by
   obtain⟨v,j,d,k,p,q,rfl,rfl,rfl,l,m⟩:=trodAll_cons h
   simp only [List.all_cons,zF,decide_eq_true_eq]at a
   exact⟨p,q,Below.trod f a.1.1 a.1.2 l i (fun x e=>hlt x (by simp [e])),pg f i a.2 m (fun x e=>hlt x (by simp [e])),rfl⟩
theorem uL{f:Func}{s:ChangeSpec}{a b:Bool}{W u:World}{args:Array Value}{g:List (DataW H)}{c:List MemPlace}{bt:TypeId}
 (y:laidOutB P=true) (k:(f.params.toList.all fun t=>P.readableRec t&&decide (t<P.types.size))=true) (v:s.vars=[])
 (l:DataW.Whole enc P f.params.toList s.vars a W args.toList g [] c) (d:s.fn H (g++[])={results:=[.lit (.bool true)],args:=g}) (j:Below W.heap.size W u)
 (m:P.underlying bt=some .bool) (n:f.resultTypes=#[bt]):
 s.post enc P f a true b false W args (.bool true) u:=by
 have hlt:=l.lt
 have o:=l
 obtain⟨p,q,z,w,rfl,C,D⟩:=l
 rw [v]at w
 obtain⟨_,rfl⟩:=trodVars_none w
 refine⟨g,[],_,[],p,[],o,?_,?_,?_,⟨j.os,j.output,fun i A=>?_⟩,fun h=>by cases h⟩
 . rw [d,n]
   exact trodAll_cons_mk (shut_bool m _) trodAll_mk0
 . rw [d]
   exact pg y j k z (fun x B=>hlt x (by simpa using B))
 . rw [d,v];rfl
 . rw [j.block i A]
   split
   . rename_i r e;rw [r]at e;cases e;exact⟨rfl,rfl,rfl,fun _ _=>rfl⟩
   . rename_i r e;rw [r]at e;cases e;exact .inr ⟨rfl,rfl⟩
   . rfl

end
end Go.Ab

namespace Go.Ab
open Go.ChangeShapes Go.WideShapes Go.RowKit
noncomputable section

def gm(n:Nat):Value->Value
 | .bool b=>.bool b
 | .int k i=>.int k i
 | .string s=>.string s
 | .pointer none=>.pointer none
 | .pointer (some a)=>if a.spot=none/\a.block<n then .pointer (some ⟨a.block+16,a.off,none⟩)else poison
 | .slice none 0 0=>.slice none 0 0
 | .slice (some a) c d=>if c<=d then(if a.spot=none/\a.block<n then .slice (some ⟨a.block+16,a.off,none⟩) c d else .slice (some ⟨0,0,none⟩) c d)else poison
 |_=>poison
def absA(n:Nat):Value->Value
 | .agg a=>.agg ⟨a.toList.map (gm n)⟩
 |v=>gm n v
def absO(n:Nat):Obj->Blk
 | .cells a _ _=>.cells (Tr.ofList (a.toList.map (gm n))) (a.toList.map (gm n)).length 0 0
 |_=>.dead
def hpW(W:World):Hp:={n:=16+W.heap.size,t:=Tr.ofList (zz 16 .dead++W.heap.toList.map (absO W.heap.size)),lo:=16+W.heap.size}
def muW(W:World):Mu:=fun b=>if b<16 then .dead else match W.heap[b-16]? with
 |some (.cells a _ _)=>.blk (b-16) 0 a.size
 |some _=>.dead
 |none=>.none

theorem hpW_ok(W:World):(hpW W).t.Sized (hpW W).n:=by
 have h:=Tr.sized_ofList (zz 16 Blk.dead++W.heap.toList.map (absO W.heap.size))
 have a:(zz 16 Blk.dead++W.heap.toList.map (absO W.heap.size)).length=16+W.heap.size:=by rw [zl,zK,List.length_map,Array.length_toList]
 rw [a]at h
 exact h
theorem hpW_dead(W:World){b:Nat}(h:b<16):(hpW W).get b=some .dead:=by
 show(Tr.ofList _).get b=_
 rw [Tr.get_ofList,zX (by simpa using h),z7,if_pos h]
theorem pK(W:World)(c:Nat):(hpW W).get (c+16)=(W.heap[c]?).map (absO W.heap.size):=by
 show(Tr.ofList _).get (c+16)=_
 rw [Tr.get_ofList,List.getElem?_append_right (by simp)]
 simp
theorem lh(W:World)(c:Nat):muW W (c+16)=match W.heap[c]? with
 |some (.cells cs _ _)=>.blk c 0 cs.size
 |some _=>.dead
 |none=>.none:=by
 unfold muW
 rw [if_neg (by omega),show c+16-16=c by omega]
theorem arel_W{W:World}{a:Addr}(h:a.spot=none/\a.block<W.heap.size):dA (muW W) ⟨a.block+16,a.off,none⟩ a:=by
 obtain⟨b,o,s⟩:=a
 obtain⟨c,d⟩:=h
 simp only []at c d
 subst c
 unfold dA
 rw [lh]
 rw [zt d]
 cases W.heap[b]<;>simp
theorem vrel_V(W:World)(v:Value):aq (muW W) (gm W.heap.size v) v:=by
 cases v<;>(try exact .poison _)
 . exact .bool _
 . exact .int _ _
 . exact .string _
 . rename_i a
   cases a with
   |none=>exact .nilp
   | some a=>
     simp only [gm]
     split
     . exact .ptr (arel_W ‹_›)
     . exact .poison _
 . rename_i a d e
   cases a with
   | none=>
     cases d with
     | zero=>cases e with
       |zero=>exact .nils
       |succ n=>exact .poison _
     |succ n=>exact .poison _
   | some a=>
     simp only [gm]
     split
     . rename_i c
       split
       . rename_i h
         refine .slice c ?_
         have:=arel_W h
         obtain⟨b,o,s⟩:=a
         obtain⟨f,g⟩:=h
         simp only []at f g
         subst f
         unfold da
         rw [lh]
         rw [zt g]
         cases W.heap[b]<;>simp
       . refine .slice c ?_
         unfold da
         have:muW W 0=.dead:=by simp [muW]
         rw [this]
         exact zu _
     . exact .poison _
theorem vrel_A(W:World)(v:Value):aq (muW W) (absA W.heap.size v) v:=by
 cases v
 case agg d=>
  refine .agg (by simp) fun i x e a b=>?_
  simp only [zp,zJ]at a
  obtain⟨y,c,rfl⟩:=a
  rw [c]at b
  cases b
  exact vrel_V W _
 all_goals (unfold absA;exact vrel_V W _)
theorem hrelW(W:World):aD (muW W) (hpW W) W:=by
 refine⟨hpW_ok W,fun b c d e a=>?_,fun b a=>?_,fun b t c d e j p u f=>?_,fun b a=>?_⟩
 . have x:16<=b:=by
    rcases zC b 16 with h|h
    . unfold muW at a;rw [if_pos h]at a;cases a
    . exact h
   obtain⟨k,rfl⟩: ∃k,b=k+16:=⟨b-16,by omega⟩
   rw [lh]at a
   split at a
   next q el r s=>
    cases a
    refine⟨absO W.heap.size (.cells q el r),_,by rw [pK,s];rfl,s,q,el,r,rfl,rfl,by simp,Tr.sized_ofList _,fun i v l=>?_,fun h=>absurd rfl h⟩
    rw [Tr.get_ofList]at l
    simp only [zp,zJ]at l
    obtain⟨y,w,rfl⟩:=l
    exact⟨y,by simpa using w,vrel_V W y⟩
   next=>cases a
   next=>cases a
 . rcases zC b 16 with h|h
   . exact hpW_dead W h
   . obtain⟨k,rfl⟩: ∃k,b=k+16:=⟨b-16,by omega⟩
     rw [lh]at a
     split at a
     next=>cases a
     next o m n=>
      rw [pK,n]
      cases o<;>first|rfl|exact absurd rfl (m _ _ _)
     next=>cases a
 . have g: ∀b c d e,muW W b=.blk c d e->b=c+16:=by
    intro b c d e a
    rcases zC b 16 with h|h
    . unfold muW at a;rw [if_pos h]at a;cases a
    . obtain⟨k,rfl⟩: ∃k,b=k+16:=⟨b-16,by omega⟩
      rw [lh]at a
      split at a<;>cases a
      rfl
   rw [g b c _ _ u,g t c _ _ f]
 . show b<16+W.heap.size
   rcases zC b 16 with h|h
   . omega
   . obtain⟨k,rfl⟩: ∃k,b=k+16:=⟨b-16,by omega⟩
     rw [lh]at a
     have:k<W.heap.size:=by
      rcases zC k W.heap.size with f|f
      . exact f
      . rw [Array.getElem?_eq_none f]at a;exact absurd rfl a
     omega
theorem globW(W:World):jq (muW W):=by
 intro g a
 unfold dA
 have:muW W g=.dead:=by unfold muW;rw [if_pos a]
 simp only [this]
theorem belowW{W w':World}{f:Mu}{n:Hp}(e:Ext (muW W) (hpW W) W f n w'):Below W.heap.size W w':=by
 refine⟨e.os,e.tape,e.output,e.wsize,fun c g=>?_⟩
 cases j:W.heap[c]with
 | cells i el o=>
   have l:W.heap[c]? =some (.cells i el o):=by rw [zt g,j]
   have p:muW W (c+16)=.blk c 0 i.size:=by rw [lh,l]
   exact(e.ro (c+16) c 0 i.size _ _ 0 p (by rw [pK,l];rfl)).1
 | _ =>
   refine e.frame c g fun b m q a=>?_
   rcases zC b 16 with h|h
   . unfold muW at a;rw [if_pos h]at a;cases a
   . obtain⟨k,rfl⟩: ∃k,b=k+16:=⟨b-16,by omega⟩
     rw [lh]at a
     split at a
     next r s t d=>
      cases a
      rw [zt g,j]at d
      cases d
     next=>cases a
     next=>cases a
theorem calls_W{E:Env}{P:Program}(h:EOk E P){f:FuncId}{args:Array Value}{W:World}(j:aW E f (args.toList.map (absA W.heap.size)) (hpW W) (.bool true)):
 Calls P f args W fun e w'=>e=.returned (.bool true)/\Below W.heap.size W w':=by
 obtain⟨v,C,k,rfl,g⟩:=j
 intro l
 obtain⟨_,a⟩:=lim_ok h _ _ _ _ _ _ _ k
 have m:VL (muW W) (args.toList.map (absA W.heap.size)) args.toList:=by
  refine⟨by simp,fun i x D a c=>?_⟩
  simp only [zp,zJ]at a
  obtain⟨y,n,rfl⟩:=a
  rw [n]at c
  cases c
  exact vrel_A W _
 obtain⟨o,w',d,p,F,q,G,r,s,t,u⟩:=a (muW W) W args none l .normal (hrelW W) (globW W) m trivial (.inl rfl)
 have:=r.normal
 subst this
 obtain⟨H,b,w⟩:=t
 cases w
 obtain⟨z,A,B⟩:=b.res
 exact⟨.returned (.bool true),w',p,⟨rfl,belowW q⟩,s,u,b.mode,b.defers,b.kind,z,A,B⟩
theorem load_W{W:World}{a:Addr}{i:Nat}{v:Value}(c:a.spot=none)(h:W.cell? (a.add i)=some v):(hpW W).load (a.block+16) (a.off+i) 1=some [gm W.heap.size v]:=by
 obtain⟨b,o,s⟩:=a
 simp only []at c
 subst c
 have d:(Addr.mk b o none).add i=⟨b,o+i,none⟩:=by
  unfold Addr.add
  split
  . rename_i h;subst h;rfl
  . rfl
 rw [d]at h
 unfold World.cell? at h
 simp only []at h
 split at h
 next e el k f=>
  have g:Row (hpW W) (b+16) (e.toList.map (gm W.heap.size)) 0:=⟨_,_,by rw [pK,f];rfl,Tr.sized_ofList _,fun j=>Tr.get_ofList _ j⟩
  refine g.load1 ?_
  rw [zp]
  simp at h
  simp [h]
 all_goals (first|cases h|skip)
end
end Go.Ab

namespace Go.Ab
def argEq:Value->Value->Bool
 | .int k a,.int c b=>iU k c&&fw a b
 | .bool a,.bool b=>bif a then b else !b
 | .string s,.string u=>eY (az s) (az u)
 |_,_=>false
def mL:List Value->List Value->Bool
 | [],[]=>true
 |a::l,b::m=>argEq a b&&mL l m
 |_,_=>false
def orcOf:List (Nat×List Value×Value)->Nat->List Value->Option Value
 | [],_,_=>none
 |(f,as,v)::l,g,a=>bif zy f g&&mL as a then some v else orcOf l g a
theorem vb{a b:Value}(h:argEq a b=true):a=b:=by
 unfold argEq at h
 split at h
 . rename_i k m c n
   simp only [zF]at h
   have d:k=c:=by simpa [ey]using h.1
   have e:m=n:=by simpa [fb]using h.2
   rw [d,e]
 . rename_i a b
   cases a<;>cases b<;>first|rfl|cases h
 . rename_i s u
   have this:s.data.toList=u.data.toList:=by
    have:=h
    rw [gU]at this
    simpa [az]using this
   cases s with|mk a=>cases u with|mk b=>rw [show a=b from Array.ext' this]
 . cases h
theorem tX: ∀{a b:List Value},mL a b=true->a=b
 | [],[],_=>rfl
 | [],_::_,h=>by simp [mL]at h
 |_::_,[],h=>by simp [mL]at h
 | a::x,b::y,h=>by
   simp only [mL,zF]at h
   rw [tX h.2,vb h.1]
theorem tV{P:Nat->List Value->Value->Prop}: ∀{l:List (Nat×List Value×Value)},(∀e∈l,P e.1 e.2.1 e.2.2)-> ∀{g:Nat} {args:List Value} {v:Value},orcOf l g args=some v->P g args v
 | [],_,g,args,v,h=>by cases h
 | (f,as,x)::l,b,g,args,v,h=>by
   simp only [orcOf]at h
   cases a:zy f g&&mL as args with
   | true=>
     rw [a]at h
     cases h
     simp only [zF]at a
     have c:=Xa a.1
     have d:=tX a.2
     subst c
     subst d
     exact b _ (List.mem_cons_self)
   | false=>
     rw [a]at h
     exact tV (fun e i=>b e (zN _ i)) h
def isVal(v:Value)(r:Option (Out×Option (Value×Bool)×Hp)):Bool:=match r with
 |some (.ret u,none,_)=>argEq u v
 |_=>false
theorem isVal_ret{v:Value}{r:Option (Out×Option (Value×Bool)×Hp)}(h:isVal v r=true): ∃a,r=some (.ret v,none,a):=by
 unfold isVal at h
 split at h
 . rw [vb h];exact⟨_,rfl⟩
 . cases h
def ja(E:Env)(P:Program)(e:Nat×List Value×Value):Prop:=(∃a,E.fn e.1=some a/\a.body.isSome=true)/\OrcAt P e.1 e.2.1 e.2.2
theorem rk{E:Env}{P:Program}(c:EOk E P){n:Nat}{f:Nat}{args:List Value}{v:Value}(b:(args.all cg&&cg v)=true)(a:isVal v ((runK E n).call f args none hp0)=true):ja E P (f,args,v):=by
 simp only [zF]at b
 obtain⟨d,a⟩:=isVal_ret a
 rw [runK_call]at a
 exact yt c b.1 b.2 a
theorem ja.with{E:Env}{P:Program}{o:Nat->List Value->Option Value}{e:Nat×List Value×Value}(k:ja E P e):ja (oa E o) P e:=k
theorem ja.without{E:Env}{P:Program}{o:Nat->List Value->Option Value}{e:Nat×List Value×Value}(k:ja (oa E o) P e):ja E P e:=k
theorem eok_table{E:Env}{P:Program}(b:EOk E P){l:List (Nat×List Value×Value)}(c: ∀e∈l,ja E P e):EOk (oa E (orcOf l)) P:=
 eok_with b fun _ _ _ h=>tV (P:=fun g a v=>ja E P (g,a,v)) c h
end Go.Ab

namespace Go.Ab

inductive Ob where
 |row (l:List Value) (md:Nat)
 |map (es:List (Value×Value×Nat)) (c:Nat)
 |loop (x:fG)
 |dfr
def Has(h:Hp)(b:Nat):Ob->Prop
 | .row l a=>Row h b l a
 | .map d c=>h.get b=some (.map d c)
 | .loop x=>h.get b=some (.loop x)
 | .dfr=>h.get b=some .dfr
theorem Row.of_get{h f:Hp}{b:Nat}{l:List Value}{md:Nat}(e:f.get b=h.get b)(k:Row h b l md):Row f b l md:=by
 obtain⟨t,el,a,c,d⟩:=k;exact⟨t,el,by rw [e];exact a,c,d⟩
theorem Has.of_get{h a:Hp}{b:Nat}{o:Ob}(e:a.get b=h.get b)(k:Has h b o):Has a b o:=by
 cases o with
 |row l d=>exact Row.of_get e k
 |map f c=>exact e.trans k
 |loop x=>exact e.trans k
 |dfr=>exact e.trans k
theorem Has.lt{h:Hp}(a:h.t.Sized h.n){b:Nat}{o:Ob}(k:Has h b o):b<h.n:=by
 cases o with
 |row l d=>exact Row.lt a k
 |map e c=>exact eX a k
 |loop x=>exact eX a k
 |dfr=>exact eX a k
theorem Has.some{h:Hp}{b:Nat}{o:Ob}(k:Has h b o):(h.get b).isSome=true:=by
 cases o with
 |row l d=>obtain⟨t,el,a,_⟩:=k;rw [a];rfl
 |map e c=>rw [show h.get b=_ from k];rfl
 |loop x=>rw [show h.get b=_ from k];rfl
 |dfr=>rw [show h.get b=_ from k];rfl

structure Mo(M:Nat->Prop)(h h':Hp):Prop where
 ok0:h.t.Sized h.n
 ok:h'.t.Sized h'.n
 n:h.n<=h'.n
 get: ∀b,b<h.n-> ¬M b->h'.get b=h.get b
 lo: ∀x,x<=h.n->x<=h.lo->(∀b,M b->x<=b)->x<=h'.lo
abbrev NoM:Nat->Prop:=fun _=>False
theorem Gr.fr{M:Nat->Prop}{h a:Hp}(g:Gr h a):Mo M h a:=⟨g.ok0,g.ok,g.n,fun b c _=>g.get b c,fun x d e _=>g.lo x d e⟩
theorem Mo.gr{h a:Hp}(g:Mo NoM h a):Gr h a:=⟨g.ok0,g.ok,g.n,fun b c=>g.get b c (fun x=>x),fun x d e=>g.lo x d e (fun _ h=>h.elim)⟩
theorem Mo.refl{M:Nat->Prop}{h:Hp}(a:h.t.Sized h.n):Mo M h h:=(Gr.refl a).fr
theorem Mo.trans{M M':Nat->Prop}{a b c:Hp}(x:Mo M a b)(y:Mo M' b c)(e: ∀i,M' i->M i\/a.n<=i):Mo M a c:=
 ⟨x.ok0,y.ok,zY x.n y.n,fun i f g=>(y.get i (Nat.lt_of_lt_of_le f x.n) (fun d=>(e i d).elim g (fun h=>by omega))).trans (x.get i f g),
  fun i k m l=>y.lo i (zY k x.n) (x.lo i k m l) fun j n=>(e j n).elim (l j) (fun h=>by omega)⟩
theorem Mo.mono{M M':Nat->Prop}{a b:Hp}(x:Mo M a b)(c: ∀i,M i->M' i):Mo M' a b:=
 ⟨x.ok0,x.ok,x.n,fun i d e=>x.get i d (fun h=>e (c i h)),fun i f g k=>x.lo i f g fun j l=>k j (c j l)⟩
theorem Mo.new{M:Nat->Prop}{a h:Hp}(g:Mo M a h)(x:Blk):Mo M a (h.new x):=g.trans (M':=NoM) (Gr.new g.ok x).fr (fun _ h=>h.elim)
theorem Mo.put{M:Nat->Prop}{a h:Hp}(g:Mo M a h){b:Nat}(c:a.n<=b\/M b)(x:Blk):Mo M a (h.put b x):=by
 refine g.trans (M':=fun i=>i=b) ⟨g.ok,put_ok g.ok b x,zu _,fun i j d=>bK (fun e=>d e.symm),fun i k l f=>?_⟩ (fun i h=>by subst h;exact c.symm)
 show i<=dR b h.lo
 have:=f b rfl
 unfold dR
 cases zn b h.lo<;>simp<;>omega
theorem Mo.has{M:Nat->Prop}{a h:Hp}(g:Mo M a h){b:Nat}{o:Ob}(k:Has a b o)(c: ¬M b):Has h b o:=Has.of_get (g.get b (k.lt g.ok0) c) k

abbrev GL:=Value×Nat×List Value
def c8:GL->Option Nat
 |(.slice (some a) _ _,_,_)=>some a.block
 |_=>none
def dz(h:Hp)(p:GL):Prop:=(p.1=.slice none 0 0/\p.2.2=[])\/ ∃b n,p.1=.slice (some ⟨b,0,some p.2.1⟩) n n/\n*p.2.1=p.2.2.length/\Row h b p.2.2 1
def keys(L:List (Nat×Ob))(G:List GL):List Nat:=L.map Prod.fst++G.filterMap c8

structure St(M:Nat->Prop)(h0 h:Hp)(L:List (Nat×Ob))(G:List GL):Prop where
 fr:Mo M h0 h
 own: ∀p∈L,(h0.n<=p.1\/M p.1)/\Has h p.1 p.2
 gown: ∀p∈G,dz h p/\ ∀b,c8 p=some b->h0.n<=b\/M b
 apart:(keys L G).Nodup

section
variable{M:Nat->Prop}{h0 h:Hp}{L:List (Nat×Ob)}{G:List GL}
theorem dz.of_get{c:Hp}{p:GL}(k:dz h p)(e: ∀b,c8 p=some b->c.get b=h.get b):dz c p:=by
 rcases k with k|⟨b,n,a,d,f⟩
 . exact .inl k
 . refine .inr ⟨b,n,a,d,Row.of_get (e b ?_) f⟩
   obtain⟨v,k,g⟩:=p
   simp only []at a
   subst a
   rfl
theorem dz.lt(d:h.t.Sized h.n){p:GL}(k:dz h p){b:Nat}(c:c8 p=some b):b<h.n:=by
 rcases k with k|⟨j,n,a,e,f⟩
 . obtain⟨v,g,i⟩:=p
   obtain⟨a,e⟩:=k
   simp only []at a
   subst a
   cases c
 . obtain⟨v,g,i⟩:=p
   simp only []at a
   subst a
   cases c
   exact Row.lt d f
theorem gW{p:Nat×Ob}(a:p∈L):p.1∈keys L G:=zO _ (Xd a)
theorem eQ{p:GL}{b:Nat}(a:p∈G)(c:c8 p=some b):b∈keys L G:=zD _ (List.mem_filterMap.2 ⟨p,a,c⟩)
theorem St.key_lt(S:St M h0 h L G){b:Nat}(a:b∈keys L G):b<h.n:=by
 unfold keys at a
 rcases List.mem_append.1 a with a|a
 . obtain⟨p,c,rfl⟩:=List.mem_map.1 a
   exact(S.own p c).2.lt S.fr.ok
 . obtain⟨p,c,d⟩:=List.mem_filterMap.1 a
   exact(S.gown p c).1.lt S.fr.ok d
theorem St.init(a:h.t.Sized h.n):St M h h [] []:=⟨Mo.refl a,fun _ h=>(by cases h),fun _ h=>(by cases h),.nil⟩
theorem St.ok(S:St M h0 h L G):h.t.Sized h.n:=S.fr.ok
theorem St.gr(S:St NoM h0 h L G):Gr h0 h:=S.fr.gr
theorem St.push(S:St M h0 h L G){b:Nat}{o:Ob}(c:h0.n<=b\/M b)(d:Has h b o)(e:b∉keys L G):St M h0 h ((b,o)::L) G:=
 ⟨S.fr,fun p a=>by
  rcases List.mem_cons.1 a with rfl|a
  . exact⟨c,d⟩
  . exact S.own p a,S.gown,List.nodup_cons.2 ⟨e,S.apart⟩⟩
theorem St.step(S:St M h0 h L G){M':Nat->Prop}{c:Hp}(f:Mo M' h c)(g: ∀b,M' b->M b\/h0.n<=b)(d: ∀b∈keys L G,¬M' b):St M h0 c L G:=
 ⟨S.fr.trans f g,fun p a=>⟨(S.own p a).1,f.has (S.own p a).2 (d _ (gW a))⟩,
  fun p a=>⟨(S.gown p a).1.of_get fun b e=>f.get b ((S.gown p a).1.lt S.ok e) (d b (eQ a e)),(S.gown p a).2⟩,S.apart⟩
theorem St.call(S:St M h0 h L G){a:Hp}(g:Gr h a):St M h0 a L G:=S.step (M':=NoM) g.fr (fun _ h=>h.elim) (fun _ _ h=>h)
theorem St.new(S:St M h0 h L G){x:Blk}{o:Ob}(a:Has (h.new x) h.n o):St M h0 (h.new x) ((h.n,o)::L) G:=
 (S.call (Gr.new S.ok x)).push (.inl S.fr.n) a (fun b=>by have:=S.key_lt b;omega)
theorem St.nilG(S:St M h0 h L G){k:Nat}:St M h0 h L ((.slice none 0 0,k,[])::G):=
 ⟨S.fr,S.own,fun p a=>by
  rcases List.mem_cons.1 a with rfl|a
  . exact⟨.inl ⟨rfl,rfl⟩,fun b c=>by cases c⟩
  . exact S.gown p a,S.apart⟩
theorem kh{α:Type}{l:List α}{i:Nat}{x y:α}(h:y∈l.set i x):y=x\/ ∃j,j≠i/\l[j]? =some y:=by
 rw [List.mem_iff_getElem?]at h
 obtain⟨j,a⟩:=h
 rw [zU]at a
 split at a
 . split at a
   . cases a;exact .inl rfl
   . cases a
 . exact .inr ⟨j,by omega,a⟩
theorem p7{α:Type}{l:List α}(h:l.Nodup){i j:Nat}{x:α}(f:l[i]? =some x)(g:l[j]? =some x):i=j:=by
 have k:=(List.getElem?_eq_some_iff.1 f)
 have m:=(List.getElem?_eq_some_iff.1 g)
 obtain⟨a,d⟩:=k
 obtain⟨b,e⟩:=m
 rcases Nat.lt_trichotomy i j with c|c|c
 . exact absurd (d.trans e.symm) (List.pairwise_iff_getElem.1 h i j a b c)
 . exact c
 . exact absurd (e.trans d.symm) (List.pairwise_iff_getElem.1 h j i b a c)
theorem qI{L:List (Nat×Ob)}{G:List GL}{i:Nat}{p:Nat×Ob}(a:L[i]? =some p):(keys L G)[i]? =some p.1:=by
 unfold keys
 have:=(List.getElem?_eq_some_iff.1 a).1
 rw [zX (by simpa using this),zp,a];rfl
theorem St.put(S:St M h0 h L G){i b:Nat}{o o':Ob}(f:L[i]? =some (b,o)){x:Blk}(l:Has (h.put b x) b o'):St M h0 (h.put b x) (L.set i (b,o')) G:=by
 have k:=S.own _ (zk f)
 have g:(keys L G)[i]? =some b:=qI f
 refine⟨S.fr.put k.1 x,fun p a=>?_,fun p a=>⟨(S.gown p a).1.of_get fun c m=>?_,(S.gown p a).2⟩,?_⟩
 . rcases kh a with rfl|⟨j,n,a⟩
   . exact⟨k.1,l⟩
   . have d:=S.own p (zk a)
     refine⟨d.1,d.2.of_get (bK fun e=>n ?_)⟩
     have q:(keys L G)[j]? =some b:=by rw [qI a];rw [e]
     exact p7 S.apart q g
 . refine bK fun e=>?_
   subst e
   have d:=S.apart
   unfold keys at d
   rw [List.nodup_append]at d
   exact d.2.2 b (List.mem_map.2 ⟨_,zk f,rfl⟩) b (List.mem_filterMap.2 ⟨p,a,m⟩) rfl
 . have:keys (L.set i (b,o')) G=keys L G:=by
    unfold keys
    congr 1
    rw [List.map_set]
    refine zI fun j=>?_
    rw [zU]
    split
    . rename_i e;subst e
      have:=(List.getElem?_eq_some_iff.1 f).1
      rw [if_pos (by simpa using this),zp,f];rfl
    . rfl
   rw [this];exact S.apart
theorem St.row(S:St M h0 h L G){b:Nat}{l:List Value}{md:Nat}(a:(b,Ob.row l md)∈L):Row h b l md:=(S.own _ a).2
theorem St.ld(S:St M h0 h L G){b o:Nat}{l:List Value}{md:Nat}{v:Value}(a:(b,Ob.row l md)∈L)(c:l[o]? =some v):h.load b o 1=some [v]:=(S.row a).load1 c
theorem St.lds(S:St M h0 h L G){b o n:Nat}{l:List Value}{md:Nat}(a:(b,Ob.row l md)∈L)(c:o+n<=l.length):h.load b o n=some ((l.drop o).take n):=(S.row a).load c
theorem m0{α:Type}{a:α}{l:List α}:a∈a::l:=List.mem_cons_self
theorem m1{α:Type}{a b:α}{l:List α}:a∈b::a::l:=.tail _ m0
theorem m2{α:Type}{a b c:α}{l:List α}:a∈b::c::a::l:=.tail _ m1
theorem m3{α:Type}{a b c d:α}{l:List α}:a∈b::c::d::a::l:=.tail _ m2
theorem m4{α:Type}{a b c d e:α}{l:List α}:a∈b::c::d::e::a::l:=.tail _ m3
theorem St.old(S:St M h0 h L G){b o n:Nat}{l:List Value}(e:h0.load b o n=some l)(a: ¬M b):h.load b o n=some l:=by
 have:=S.fr.get b (bw S.fr.ok0 e) a
 unfold Hp.load at e⊢
 rw [this];exact e
end
end Go.Ab

namespace Go.Ab

def mR(h:Hp)(X:Hp->Option (cH×Hp))(F:Nat->Value)(o:Ob):Prop:=
 ∃a,(∀x,X {h with lo:=x}=some (.val (F h.n),({h with lo:=x}:Hp).new a))/\(h.t.Sized h.n->Has (h.new a) h.n o)
section
variable{M:Nat->Prop}{h0 h:Hp}{L:List (Nat×Ob)}{G:List GL}
section
variable{E:Env}{cx:Cx}{o:Oper}{l:Loc}{K:Ex->Loc->Hp->Prop}{X:Hp->Option (cH×Hp)}{F:Nat->Value}{ob:Ob}
theorem am(N:mR h X F ob)(S:St M h0 h L G)(c: ∀a b,St M h0 a ((b,ob)::L) G->h0.n<=b->K .normal (l.put o.dst (F b)) a):ed E cx o l K (X h):=by
 obtain⟨d,f,g⟩:=N
 have e:X h=_:=f h.lo
 rw [e]
 exact c _ _ (S.new (g S.ok)) S.fr.n
theorem dw{cx:Cx}{Q:dP}{a:List Oper}{q:Nat}{ps:List (Nat×Nat)}{os:List Oper}{i:Nat}{k:List Fr}{c:List (Nat×Tch)}(N:mR h X F ob)(S:St M h0 h L G)
 (e: ∀d b,St M h0 d ((b,ob)::L) G->h0.n<=b->b=h.n->Run E (lim E) cx Q (.opsD a q ps os (i+1) c::k) .normal (l.put o.dst (F b)) d):DQ E cx Q a q ps o os i k l h c (X {h with lo:=h.n}):=by
 obtain⟨f,g,j⟩:=N
 rw [g]
 exact⟨zj (zu _),e _ _ (S.new (j S.ok)) S.fr.n rfl⟩
end
theorem bE{v:Value}{t:TypeId}(a: ∀x,v≠ .chan x):mR h (fun h=>boxR h t v) ptrTo (.row (ah v) 1):=by
 refine⟨.cells (Tr.ofList (ah v)) (ah v).length t 1,fun x=>?_,fun b=>my b _ _ _⟩
 cases v<;>first|rfl|exact absurd rfl (a _)
theorem aF{z:List Value}{t:TypeId}:mR h (fun h=>allocR h t (some z)) ptrTo (.row z 1):=
 ⟨.cells (Tr.ofList z) z.length t 1,fun _=>rfl,fun a=>my a _ _ _⟩
noncomputable def mapR(h:Hp):Option (cH×Hp):=some (.val (.map (some h.n)),h.new (.map [] 0))
theorem yg{E:Env}{ρ:Operand->Value}{h:Hp}{t:TypeId}:aop E ρ h (.makeMap t none)=mapR h:=rfl
theorem qn:mR h mapR (fun b=>.map (some b)) (.map [] 0):=⟨.map [] 0,fun _=>rfl,fun a=>by show(h.new _).get h.n=_;rw [h.get_new _ a,if_pos rfl]⟩
theorem rD(a:List Value): ∀n,(aV a n).length=n*a.length
 |0=>by simp [aV]
 |n+1=>by simp only [aV,zl,rD a n];rw [zG];omega
theorem row_blank{h:Hp}(a:h.t.Sized h.n)(z:Value)(n:Nat)(e:TypeId):Row (h.new (.cells (Tr.blank z n n) n e 1)) h.n (zz n z) 1:=by
 refine⟨Tr.blank z n n,e,?_,?_,fun i=>?_⟩
 . rw [h.get_new _ a,if_pos rfl,zK]
 . rw [zK];exact Tr.sized_blank _ _ _ (zu _)
 . rw [Tr.get_blank _ _ _ (zu _),z7]
def dD(E:Env)(e:TypeId)(a k:Nat)(b:List Value):Prop:=(∃i,E.ty e=some i/\i.bytes=a/\i.size=k)/\E.zero e=some b/\b.length=k
theorem nZ{E:Env}{t e:TypeId}{f k:Nat}{d:List Value}{kd kd':IntKind}{n:Int}(q:E.und t=some (.slice e))(y:dD E e f k d)(h0:0<=n)(A:n.toNat*(f+1)<=70368744177664):
 mR h (fun h=>cw (gZ E h t (.int kd n) (.int kd' n))) (fun b=>.slice (some ⟨b,0,none⟩) n.toNat n.toNat) (.row (aV d n.toNat) 1):=by
 obtain⟨⟨i,r,rfl,rfl⟩,s,p⟩:=y
 obtain⟨m,rfl⟩:=Int.eq_ofNat_of_zero_le h0
 have hle:zn (m*(i.bytes+1)) 70368744177664=true:=zj A
 have u:zy d.length i.size=true:=by rw [p];exact zw _
 have g:natV (.int kd (m:Int))=some m:=rfl
 have j:natV (.int kd' (m:Int))=some m:=rfl
 have v:(zn m m&&zn (m*(i.bytes+1)) 70368744177664)=true:=by rw [hle,zj (zu _)];rfl
 by_cases w: ∃z,d=[z]
 . obtain⟨z,rfl⟩:=w
   refine⟨.cells (Tr.blank z m m) m e 1,fun x=>?_,fun o=>?_⟩
   . simp only [gZ,q,r,s,g,j,v,u,cond_true,cw]
     rfl
   . have:aV [z] (m:Int).toNat=zz m z:=by
      have: ∀n,aV [z] n=zz n z:=by intro n;induction n with
       |zero=>rfl
       |succ n B=>simp [aV,B,List.replicate_succ]
      exact this m
     rw [this]
     exact row_blank o z m e
 . refine⟨.cells (Tr.ofList (aV d m)) (m*i.size) e 1,fun x=>?_,fun o=>?_⟩
   . simp only [gZ,q,r,s,g,j,v,u,cond_true]
     cases d with
     |nil=>rfl
     | cons a l=>
       cases l with
       |nil=>exact absurd ⟨a,rfl⟩ w
       |cons b l=>rfl
   . have:=my o (aV d m) e 1
     rw [rD,p]at this
     show Row _ _ (aV d m) 1
     obtain⟨t,el,a,b,c⟩:=this
     exact⟨Tr.ofList (aV d m),e,by rw [h.get_new _ o,if_pos rfl,rD,p],Tr.sized_ofList _,Tr.get_ofList _⟩

theorem St.store(S:St M h0 h L G){E:Env}{t:TypeId}{i b off n md:Nat}{s:Option Nat}{l:List Value}{v:Value}(d:L[i]? =some (b,.row l md))(e:E.sz t=some n)(m: ∀x,v≠ .chan x)(f:(ah v).length=n)
 (hf:(ah v).all iw=true) (g:off+n<=l.length) (a:md≠0): ∃c,fH E h t (.pointer (some ⟨b,off,s⟩)) v=some c/\St M h0 c (L.set i (b,.row (lay l off (ah v)) md)) G/\Mo (· =b) h c:=by
 subst f
 obtain⟨x,j,k⟩:=(S.row (zk d)).store S.ok a (vs:=ah v) g hf
 refine⟨h.put b x,?_,S.put d k,(Mo.refl (M:=(· =b)) S.ok).put (.inr rfl) x⟩
 have:fH E h t (.pointer (some ⟨b,off,s⟩)) v=bif zy (ah v).length (ah v).length then h.store b off (ah v)else none:=by
  simp only [fH,e]
 rw [this,zw]
 exact j
section
variable{E:Env}{cx:Cx}{o:Oper}{l:Loc}{K:Ex->Loc->Hp->Prop}
theorem aH{x:Option Hp}{P:Hp->Prop}(b: ∃a,x=some a/\P a)(c: ∀a,P a->K .normal (l.put o.dst (.tuple #[])) a):ed E cx o l K (dK x):=by
 obtain⟨a,rfl,d⟩:=b
 exact c a d
theorem dQ{x:Option (Hp×Value)}{P:Hp->Value->Prop}(b: ∃a v,x=some (a,v)/\P a v)(c: ∀a v,P a v->K .normal (l.put o.dst v) a):ed E cx o l K (cw x):=by
 obtain⟨a,v,rfl,d⟩:=b
 exact c a v d
theorem cU{cx:Cx}{Q:dP}{a:List Oper}{q:Nat}{ps:List (Nat×Nat)}{os:List Oper}{i:Nat}{k:List Fr}{c:Hp->List (Nat×Tch)}{x:Option Hp}{P:Hp->Prop}(d: ∃b,x=some b/\P b)
 (e: ∀b,P b->Run E (lim E) cx Q (.opsD a q ps os (i+1) (c b)::k) .normal (l.put o.dst (.tuple #[])) b):DN E cx Q a q ps o os i k l c (dK x):=by
 obtain⟨b,rfl,f⟩:=d
 exact e b f
theorem dn_v{cx:Cx}{Q:dP}{a:List Oper}{q:Nat}{ps:List (Nat×Nat)}{os:List Oper}{i:Nat}{k:List Fr}{c:Hp->List (Nat×Tch)}{x:Option (Hp×Value)}{P:Hp->Value->Prop}(d: ∃b v,x=some (b,v)/\P b v)
 (e: ∀b v,P b v->Run E (lim E) cx Q (.opsD a q ps os (i+1) (c b)::k) .normal (l.put o.dst v) b):DN E cx Q a q ps o os i k l c (cw x):=by
 obtain⟨b,v,rfl,f⟩:=d
 exact e b v f
end

theorem ng{L:List (Nat×Ob)}{G:List GL}{j:Nat}{p d:GL}(e:(keys L G).Nodup)(g:G[j]? =some p){b:Nat}(i:c8 d=some b)(c:b∉keys L G):(keys L (G.set j d)).Nodup:=by
 obtain⟨hlt,k⟩:=List.getElem?_eq_some_iff.1 g
 have f:G=G.take j++p::G.drop (j+1):=by rw [<-k,List.getElem_cons_drop hlt,List.take_append_drop]
 have l:G.set j d=G.take j++d::G.drop (j+1):=List.set_eq_take_append_cons_drop.trans (if_pos hlt)
 unfold keys at*
 rw [l,zL,zH i,<-List.append_assoc]
 refine List.perm_middle.nodup_iff.2 (List.nodup_cons.2 ⟨fun a=>c ?_,?_⟩)
 . rw [f,zL]
   rcases List.mem_append.1 a with a|a
   . rcases List.mem_append.1 a with a|a
     . exact zO _ a
     . exact zD _ (zO _ a)
   . refine zD _ (zD _ ?_)
     rw [zQ]
     split
     . exact a
     . exact zN _ a
 . rw [f,zL,<-List.append_assoc]at e
   refine e.sublist (List.Sublist.append (List.Sublist.refl _) ?_)
   rw [zQ]
   split
   . exact List.Sublist.refl _
   . exact List.sublist_cons_self _ _
theorem St.grow (S :St M h0 h L G) {E:Env} {t tx e:TypeId} {J k j m:Nat} {zs vs new:List Value} {v x:Value} (B:G[j]? =some (v,k,vs)) (hu:E.und t=some (.slice e)) (he:dD E e J k zs) (P:0<J)
 (hx:dh E tx=some false) (C:aL h k x=some (m,new)) (Z:m*k=new.length) (O:0<k) (hf:new.all iw=true) (aa:(vs.length+new.length)*(J+1)<=70368744177664) {ts:List TypeId}:
 ∃Q v',cV E h (t::tx::ts) v x=some (Q,v')/\St M h0 Q L (G.set j (v',k,vs++new)):=by
 obtain⟨⟨i,hi,rfl,rfl⟩,hz,hl⟩:=he
 have hlt:=(List.getElem?_eq_some_iff.1 B).1
 obtain⟨hg,R⟩:=S.gown _ (zk B)
 have D : ∀ a d,v=.slice a d d->d*i.size=vs.length->(a=none/\d=0\/ ∃b,a=some ⟨b,0,some i.size⟩/\Row h b vs 1)->
  ∃Q v',d9 E h e i a d d m new=some (Q,v')/\St M h0 Q L (G.set j (v',i.size,vs++new)):=by
  intro a d hv o y
  by_cases r:m=0
  . subst r
    have:new=[]:=by
     cases new with
     |nil=>rfl
     |cons a l=>simp at Z
    subst this
    refine⟨h,v,?_,?_⟩
    . unfold d9
      rw [zj (by omega:d+0<=d)]
      simp only [cond_true]
      rw [hv]
      cases a<;>rfl
    . rw [List.append_nil]
      have:G.set j (v,i.size,vs)=G:=by
       refine zI fun n=>?_
       rw [zU]
       split
       . rename_i e;subst e;first|rw [if_pos hlt,B]|exact B.symm
       . rfl
      rw [this];exact S
  . have T : zn (d+m) d=false:=by
     cases hx:zn (d+m) d with
     |false=>rfl
     |true=>exact absurd (zq hx) (by omega)
    have U:d+m<=vs.length+new.length:=by
     rw [<-o,<-Z]
     have r:=zx d O
     have h2:=zx m O
     omega
    have z:(zn ((d+m)*(i.bytes+1)) 70368744177664&&zR 0 i.bytes)=true:=by
     rw [zj (zY (zP _ U) aa)]
     simp only [Bool.true_and]
     rw [zW];exact P
    have ac:zy zs.length i.size=true:=by rw [hl];exact zw _
    have A:d9 E h e i a d d m new=mg h e i.size a d m new:=by
     unfold d9
     rw [T]
     simp only [cond_false]
     rw [z,hz]
     simp only [cond_true,ac]
    rw [A]
    rcases y with⟨rfl,rfl⟩|⟨b,rfl,V⟩
    . have ad:vs=[]:=by
       cases vs with
       |nil=>rfl
       |cons a l=>simp at o
      subst ad
      refine⟨h.new (.cells (Tr.ofList new) new.length e 1),.slice (some ⟨h.n,0,some i.size⟩) m m,rfl,?_⟩
      have S':=S.call (Gr.new S.ok (.cells (Tr.ofList new) new.length e 1))
      have K:h.n∉keys L G:=fun O=>by have:=S.key_lt O;omega
      refine⟨S'.fr,S'.own,fun p f=>?_,ng S.apart B (b:=h.n) rfl K⟩
      rcases kh f with rfl|⟨j',_,f⟩
      . exact⟨.inr ⟨h.n,m,rfl,Z,my S.ok new e 1⟩,fun b P=>by cases P;exact .inl S.fr.n⟩
      . exact S'.gown p (zk f)
    . obtain ⟨W,el,F,H,af⟩:=V
      have ai:i6 W vs.length 0 (d*i.size) new=some (W.pushAll vs.length new,vs.length+new.length):=by
       unfold i6
       rw [o,zw vs.length]
       rfl
      refine⟨(h.put b .dead).new (.cells (W.pushAll vs.length new) (vs.length+new.length) e 1),.slice (some ⟨h.n,0,some i.size⟩) (d+m) (d+m),?_,?_⟩
      . unfold mg
        simp only [F,ai,hf,zw]
        rfl
      . have u:c8 (v,i.size,vs)=some b:=by rw [hv];rfl
        have a3:=eX S.ok F
        have N:=(S.fr.put (R b u) .dead)
        have ak: ∀c∈L.map Prod.fst,c≠b:=fun c s e=>by
         have r:=S.apart
         unfold keys at r
         rw [List.nodup_append]at r
         exact r.2.2 c s b (List.mem_filterMap.2 ⟨_,zk B,u⟩) e
        have w: ∀c,c<h.n->c≠b->((h.put b .dead).new (.cells (W.pushAll vs.length new) (vs.length+new.length) e 1)).get c=h.get c:=fun c s al=>by
         rw [Hp.get_new _ _ N.ok,if_neg (by show c≠h.n;omega)]
         exact bK (Ne.symm al)
        have K:h.n∉keys L G:=fun O=>by have:=S.key_lt O;omega
        refine⟨N.new _,fun p f=>?_,fun p f=>?_,ng S.apart B (b:=h.n) rfl K⟩
        . have r:=S.own p f
          exact⟨r.1,r.2.of_get (w _ (r.2.lt S.ok) (ak _ (Xd f)))⟩
        . rcases kh f with rfl|⟨j',an,f⟩
          . refine⟨.inr ⟨h.n,d+m,rfl,?_,?_⟩,fun b P=>by cases P;exact .inl S.fr.n⟩
            . show(d+m)*i.size=(vs++new).length
              rw [z9,o,Z,zl]
            . refine⟨W.pushAll vs.length new,e,?_,?_,fun n=>?_⟩
              . rw [Hp.get_new _ _ N.ok]
                rw [if_pos (show h.n=(h.put b .dead).n from rfl),zl]
              . rw [zl];exact Tr.sized_pushAll _ H
              . rw [Tr.get_pushAll _ _ _ H,Xc]
                split
                . exact af n
                . rfl
          . have r:=S.gown p (zk f)
            refine⟨r.1.of_get fun c s=>w c (r.1.lt S.ok s) fun e=>an ?_,r.2⟩
            subst e
            -- two lists with a4 a0
            have h2:=S.apart
            unfold keys at h2
            have h3:=(List.nodup_append.1 h2).2.1
            have a1: ∀(G:List GL) (a c:Nat) (p q:GL),(G.filterMap c8).Nodup->G[a]? =some p->G[c]? =some q-> ∀x,c8 p=some x->c8 q=some x->a=c:=by
             intro G
             induction G with
             |nil=>intro a c p q _ y;simp at y
             | cons g G ih=>
               intro a c p q I y s x f hq
               have a2:(G.filterMap c8).Nodup:=by
                rw [zQ]at I
                split at I
                . exact I
                . exact(List.nodup_cons.1 I).2
               cases a with
               | zero=>
                 cases c with
                 |zero=>rfl
                 | succ c=>
                   simp at y s
                   subst y
                   rw [zH f]at I
                   exact absurd (List.mem_filterMap.2 ⟨q,zk s,hq⟩) (List.nodup_cons.1 I).1
               | succ a=>
                 cases c with
                 | zero=>
                   simp at y s
                   subst s
                   rw [zH hq]at I
                   exact absurd (List.mem_filterMap.2 ⟨p,zk y,f⟩) (List.nodup_cons.1 I).1
                 | succ c=>
                   simp at y s
                   rw [ih a c p q a2 y s x f hq]
            exact a1 G j' j p _ h3 f B c s u
 unfold cV
 simp only [hx]
 unfold iR
 simp only [hu,hi]
 rcases hg with⟨X,Y⟩|⟨b,n,X,Y,k3⟩
 . simp only []at X Y
   subst X Y
   simp only [C]
   exact D none 0 rfl (by simp) (.inl ⟨rfl,rfl⟩)
 . simp only []at X Y k3
   subst X
   simp only [C]
   exact D _ n rfl Y (.inr ⟨b,rfl,k3⟩)
end
end Go.Ab

namespace Go.Ab

theorem bg{E:Env}{cx:Cx}{Q:dP}{k:List Fr}{n:Nat}{d:List Deferred}{e:Option (Value×Bool)}{b:Code}{α:Type}(I:α->(Nat->Value)->Hp->Prop)(m:α->Nat)
 (p: ∀a,(∀f c g,m f<m a->I f c g->Run E (lim E) cx Q (.code (.loop b)::k) .normal (LL n c d e) g)-> ∀ρ h,I a ρ h->Run E (lim E) cx Q (.code b:: .code (.loop b)::k) .normal (LL n ρ d e) h):
 ∀a ρ h,I a ρ h->Run E (lim E) cx Q (.code (.loop b)::k) .normal (LL n ρ d e) h:=by
 have i: ∀j a,m a<j-> ∀ρ h,I a ρ h->Run E (lim E) cx Q (.code (.loop b)::k) .normal (LL n ρ d e) h:=by
  intro j
  induction j with
  |zero=>intro a q;omega
  | succ j r=>
    intro a q ρ h l
    rw [ce]
    exact p a (fun f c g hlt o=>r f (by omega) c g o) ρ h l
 intro a ρ h l
 exact i (m a+1) a (by omega) ρ h l

def qa(b:Nat):Deferred:={target:=.collected b,args:=#[]}
section
variable(E:Env)(cx:Cx)(Q:dP)(k:List Fr)
def RangeGo(l:Loc)(h:Hp):Option Code->Prop
 |none=>Run E (lim E) cx Q k .normal l h
 |some (.exit id)=>Run E (lim E) cx Q k (.exit id) l h
 |some .ret=>Run E (lim E) cx Q k .ret l h
 |_=>False
def RangeQ(l:Loc)(b:Nat):Out->Option (Value×Bool)->Hp->Prop
 | .pan v,_,a=>Run E (lim E) cx Q k (.pan v) l a
 | .ret _,_,a=> ∃x,a.get b=some (.loop x)/\x.st≠1/\RangeGo E cx Q k l (a.put b .dead) x.pending
end
section
variable{E:Env}{cx:Cx}{Q:dP}{k:List Fr}{n:Nat}{ρ:Nat->Value}{d:List Deferred}{rc:Option (Value×Bool)}{M:Nat->Prop}{h0 h:Hp}{L:List (Nat×Ob)}{G:List GL}
theorem yK {f:Operand} {params:Array Tmp} {assign body:Code} {g:FuncId} {a b:Array Value} {j:Hp} {p:Nat} {dfs:List Deferred} (hf:(LL n ρ d rc).ev f=.func (.func g) a b) (F:cx.nr=n)
 (H :(match cx.round with
   |none=>some (h.new .dfr,h.n,({target:=.collected h.n,args:=#[]}:Deferred)::d)
   | some r=>match h.get r with
     |some (.loop x)=>some (h,x.defers,d)
     |_=>none)=some (j,p,dfs))
 (I:fu E g (a.toList++[.func (.yield j.n) #[] #[]]++b.toList) none (j.new (.loop {fn:=cx.fn,regs:=tab n ρ,nr:=n,params,assign,body,st:=0,pending:=none,defers:=p})) (RangeQ E cx Q k (LL n ρ dfs rc) j.n)):
 Run E (lim E) cx Q (.code (.rangeFunc f params assign body)::k) .normal (LL n ρ d rc) h:=by
 obtain⟨o,J,l,K,A⟩:=I
 simp only [Run]
 have e:ay E (lim E) cx (.rangeFunc f params assign body) (LL n ρ d rc) h=fJ (lim E) cx ((LL n ρ d rc).ev f) params assign body (LL n ρ d rc) h:=rfl
 rw [e,hf]
 have N:fJ (lim E) cx (.func (.func g) a b) params assign body (LL n ρ d rc) h=(match(some (j,p,dfs):Option (Hp×Nat×List Deferred))with
  |none=>none
  | some (j,p,dfs)=>
    match(lim E).call g (a.toList++[.func (.yield j.n) #[] #[]]++b.toList) none
     (j.new (.loop {fn:=cx.fn,regs:=tab n ρ,nr:=cx.nr,params,assign,body,st:=0,pending:=none,defers:=p}))with
    |none=>none
    |some (.pan v,_,l)=>some (.pan v,LL n ρ dfs rc,l)
    | some (.ret _,_,l)=>match l.get j.n with
      | some (.loop x)=>match x.st with
        |1=>none
        | _=>match x.pending with
          |none=>some (.normal,LL n ρ dfs rc,l.put j.n .dead)
          |some (.exit id)=>some (.exit id,LL n ρ dfs rc,l.put j.n .dead)
          |some .ret=>some (.ret,LL n ρ dfs rc,l.put j.n .dead)
          |_=>none
      |_=>none):=by rw [<-H];rfl
 rw [N]
 simp only [F,K]
 cases o with
 |pan v=>exact⟨_,_,_,rfl,A⟩
 | ret v=>
   obtain⟨x,O,t,u⟩:=A
   simp only [O]
   obtain⟨P,y,R,q,s,z,S,i,w⟩:=x
   simp only []at t u
   have m: ∃B C D,(match i with
    |none=>some (Ex.normal,LL n ρ dfs rc,l.put j.n .dead)
    |some (.exit id)=>some (.exit id,LL n ρ dfs rc,l.put j.n .dead)
    |some .ret=>some (.ret,LL n ρ dfs rc,l.put j.n .dead)
    |_=>none)=some (B,C,D)/\Run E (lim E) cx Q k B C D:=by
    cases i with
    |none=>exact⟨_,_,_,rfl,u⟩
    |some c=>cases c<;>first|exact u.elim|exact⟨_,_,_,rfl,u⟩
   match S,t with
   |0,_=>exact m
   |1,t=>exact absurd rfl t
   |_+2,_=>exact m
theorem kZ(S:St M h0 h L G){f:Operand}{params:Array Tmp}{assign body:Code}{g:FuncId}{a b:Array Value}(hf:(LL n ρ d rc).ev f=.func (.func g) a b)(l:cx.nr=n)(m:cx.round=none)
 (p: ∀i c e,St M h0 i ((e,.loop {fn:=cx.fn,regs:=tab n ρ,nr:=n,params,assign,body,st:=0,pending:=none,defers:=c})::(c,.dfr)::L) G->h.n<=c->h.n<=e->Gr h i->
   fu E g (a.toList++[.func (.yield e) #[] #[]]++b.toList) none i (RangeQ E cx Q k (LL n ρ (qa c::d) rc) e)):
 Run E (lim E) cx Q (.code (.rangeFunc f params assign body)::k) .normal (LL n ρ d rc) h:=by
 have j:St M h0 (h.new .dfr) ((h.n,.dfr)::L) G:=S.new (by show(h.new _).get h.n=_;rw [h.get_new _ S.ok,if_pos rfl])
 have q:=j.new (x:=.loop {fn:=cx.fn,regs:=tab n ρ,nr:=n,params,assign,body,st:=0,pending:=none,defers:=h.n}) (o:=.loop {fn:=cx.fn,regs:=tab n ρ,nr:=n,params,assign,body,st:=0,pending:=none,defers:=h.n})
  (by show(Hp.new _ _).get _=_;rw [Hp.get_new _ _ j.ok,if_pos rfl])
 exact yK hf l (by rw [m];rfl) (p _ _ _ q (zu _) (Nat.le_succ _) ((Gr.new S.ok _).trans (Gr.new j.ok _)))
end

section
variable(E:Env)(cx:Cx)(lb:Nat)(Q:Out->Hp->Prop)
def ry:dP
 | .normal,_,a=> ∃x,a.get lb=some (.loop x)/\Q (.ret (.bool true)) (a.put lb (.loop {x with st:=0,pending:=none}))
 | .exit id,_,a=> ∃x,a.get lb=some (.loop x)/\Q (.ret (.bool false)) (a.put lb (.loop {x with st:=2,pending:=some (.exit id)}))
 | .ret,_,a=> ∃x,a.get lb=some (.loop x)/\Q (.ret (.bool false)) (a.put lb (.loop {x with st:=2,pending:=some .ret}))
 | .pan v,b,a=>b.dfs=[]/\Q (.pan v) a
def tN(body:Code):dP
 | .normal,l,a=> ∃x,a.get lb=some (.loop x)/\x.st=0/\x.fn=cx.fn/\x.nr=cx.nr/\x.body=body/\Run E (lim E) cx (ry lb Q) [.code body] .normal l (a.put lb (.loop {x with st:=1}))
 |_,_,_=>False
end
def setPs(ρ:Nat->Value):List Tmp->List Value->Option (Nat->Value)
 | [],[]=>some ρ
 |t::a,v::b=>setPs (ab ρ t v) a b
 |_,_=>none
theorem pj{n:Nat}: ∀(ts:List Tmp) (vs:List Value) (ρ a:Nat->Value),setPs ρ ts vs=some a->lj (tab n ρ) ts vs=some (tab n a)
 | [],[],ρ,a,h=>by cases h;rfl
 | t::ts,v::vs,ρ,a,h=>by
   simp only [lj,tab_set]
   exact pj ts vs _ _ h
 | [],_::_,_,_,h=>by cases h
 |_::_,[],_,_,h=>by cases h
theorem qR{E:Env}{cx:Cx}{Q:dP}{c:Code}{l:Loc}{h:Hp}(b:Run E (lim E) cx Q [.code c] .normal l h): ∃e l' a,(lim E).code cx c l h=some (e,l',a)/\Q e l' a:=by
 obtain⟨e,l',a,d,f⟩:=b
 exact⟨e,l',a,by rw [tF];exact d,f⟩
theorem lz{E:Env}{f n:Nat}{args:List Value}{h:Hp}{Q:Out->Hp->Prop}{fn:FuncId}{ρ a:Nat->Value}{params:Array Tmp}{assign body:Code}{o:Nat}
 (g:h.get f=some (.loop {fn,regs:=tab n ρ,nr:=n,params,assign,body,st:=0,pending:=none,defers:=o})) (k:(E.fn fn).isSome=true) (p:setPs ρ params.toList args=some a)
 (q:Run E (lim E) ⟨fn,n,some f⟩ (tN E ⟨fn,n,some f⟩ f Q body) [.code assign] .normal (LL n a [] none) h):jO E f args h Q:=by
 obtain⟨e,l,z,r,j⟩:=qR q
 unfold jO gK
 rw [g]
 simp only [k,cond_true,pj _ _ _ _ p]
 rw [show Loc.mk (tab n a) [] none=LL n a [] none from rfl,r]
 cases e with
 |exit i=>exact j.elim
 |ret=>exact j.elim
 |pan v=>exact j.elim
 | normal=>
   obtain⟨x,s,t,A,B,C,u⟩:=j
   obtain⟨w,D,F,m,b⟩:=qR u
   simp only [s,t,m]
   cases w with
   |normal=>obtain⟨y,c,d⟩:=b;simp only [c];exact⟨_,_,rfl,d⟩
   |exit i=>obtain⟨y,c,d⟩:=b;simp only [c];exact⟨_,_,rfl,d⟩
   |ret=>obtain⟨y,c,d⟩:=b;simp only [c];exact⟨_,_,rfl,d⟩
   |pan v=>obtain⟨c,d⟩:=b;simp only [c];exact⟨_,_,rfl,d⟩
section
variable{E:Env}{cx:Cx}{lb:Nat}{Q:Out->Hp->Prop}{M:Nat->Prop}{h0 h:Hp}{L:List (Nat×Ob)}{G:List GL}{body:Code}{l:Loc}
theorem St.loopPut(S:St M h0 h L G){i:Nat}{X Y:fG}(a:L[i]? =some (lb,.loop X)):h.get lb=some (.loop X)/\St M h0 (h.put lb (.loop Y)) (L.set i (lb,.loop Y)) G:=by
 have b:h.get lb=some (.loop X):=(S.own _ (zk a)).2
 refine⟨b,S.put a ?_⟩
 show(h.put lb _).get lb=_
 rw [Hp.get_put,if_pos ⟨rfl,by rw [b];rfl⟩]
theorem jB(S:St M h0 h L G){i:Nat}{X:fG}(b:L[i]? =some (lb,.loop X))(c:X.st=0)(d:X.fn=cx.fn)(h3:X.nr=cx.nr)(h4:X.body=body)
 (e: ∀a,St M h0 a (L.set i (lb,.loop {X with st:=1})) G->Run E (lim E) cx (ry lb Q) [.code body] .normal l a):tN E cx lb Q body .normal l h:=by
 obtain⟨f,g⟩:=S.loopPut (Y:={X with st:=1}) b
 exact⟨X,f,c,d,h3,h4,e _ g⟩
theorem gH(S:St M h0 h L G){i:Nat}{X:fG}(b:L[i]? =some (lb,.loop X))(c: ∀a,St M h0 a (L.set i (lb,.loop {X with st:=0,pending:=none})) G->Q (.ret (.bool true)) a):ry lb Q .normal l h:=by
 obtain⟨d,e⟩:=S.loopPut (Y:={X with st:=0,pending:=none}) b
 exact⟨X,d,c _ e⟩
end

def Iter(E:Env)(g:FuncId)(e c:List Value)(h0:Hp)(D:Nat->Prop)(xs:List (List Value)):Prop:=
 ∀ (f:Nat) (J:Nat->Hp->List Nat->Prop) (Z:Out->Hp->Prop) (h:Hp) (F:List Nat),
   h.t.Sized h.n->h0.n<=h.n->(∀b,b<h0.n->D b->h.get b=h0.get b)->
   (∀i h F,J i h F->h.t.Sized h.n/\ ∀b∈F,b<h.n)->(∀i h F a,J i h F->Gr h a->J i a F)->(∀h a,Z (.ret (.bool false)) h->Gr h a->Z (.ret (.bool false)) a)->(∀b∈F,¬(b<h0.n/\D b))->
   (∀i x h F,xs[i]? =some x->J i h F->jO E f x h fun o a=>(o=.ret (.bool true)/\ ∃d,J (i+1) a d/\Mo (· ∈F) h a/\ ∀b∈d,b∈F\/h.n<=b)\/(o=.ret (.bool false)/\Z o a/\a.t.Sized a.n)\/((∃v,o=.pan v)/\Z o a))->
   J 0 h F->fu E g (e++[.func (.yield f) #[] #[]]++c) none h fun o j a=>j=none/\((∃u d,o=.ret u/\J xs.length a d)\/(∃u,o=.ret u/\Z (.ret (.bool false)) a)\/(∃v,o=.pan v/\Z o a))
end Go.Ab

namespace Go.Ab

theorem load_len{h:Hp}{b o n:Nat}{l:List Value}(e:h.load b o n=some l):l.length=n:=by
 unfold Hp.load at e
 split at e
 next t c el d f=>
  cases a:zn (o+n) c with
  |false=>rw [a]at e;cases e
  |true=>rw [a]at e;exact(Tr.slice_spec e).1
 next=>cases e
theorem oS{h:Hp}{b o n:Nat}{l:List Value}(e:h.load b o n=some l){i m:Nat}(p:i+m<=n):h.load b (o+i) m=some ((l.drop i).take m):=by
 unfold Hp.load at e⊢
 split at e
 next t c el q r=>
  cases a:zn (o+n) c with
  |false=>rw [a]at e;cases e
  | true=>
    rw [a]at e
    have hle:=zq a
    rw [zj (by omega:o+i+m<=c)]
    simp only [cond_true]at e⊢
    obtain⟨s,d⟩:=Tr.slice_spec e
    obtain⟨u,f⟩:=Tr.slice_mk (t:=t) (i:=o+i) (n:=m) (fun k g=>by
     have:=d (i+k) (by omega)
     rw [show o+i+k=o+(i+k) by omega,this]
     rw [List.getElem?_eq_getElem (by omega)];rfl)
    rw [f]
    obtain⟨v,j⟩:=Tr.slice_spec f
    congr 1
    refine zI fun k=>?_
    rw [List.getElem?_take]
    split
    . rename_i g
      rw [<-j k g,List.getElem?_drop,<-d (i+k) (by omega)]
      congr 1
      omega
    . exact zM (by omega)
 next=>cases e
theorem load_join{h:Hp}{b o n:Nat}{f:Nat->Value}(h0: ∃l,h.load b o 0=some l)(e: ∀i,i<n->h.load b (o+i) 1=some [f i]):h.load b o n=some ((List.range n).map f):=by
 unfold Hp.load at h0 e⊢
 cases c:h.get b with
 |none=>rw [c]at h0;obtain⟨l,h0⟩:=h0;cases h0
 |some m=>
 cases m with
 |dead=>rw [c]at h0;obtain⟨l,h0⟩:=h0;cases h0
 |map=>rw [c]at h0;obtain⟨l,h0⟩:=h0;cases h0
 |loop=>rw [c]at h0;obtain⟨l,h0⟩:=h0;cases h0
 |dfr=>rw [c]at h0;obtain⟨l,h0⟩:=h0;cases h0
 | cells t j el s=>
   rw [c]at h0
   simp only [c]at e
   simp only []at h0
   have hle:o+n<=j:=by
    cases n with
    | zero=>
      obtain⟨l,h0⟩:=h0
      cases g:zn (o+0) j with
      |false=>rw [g]at h0;cases h0
      |true=>exact zq g
    | succ n=>
      have:=e n (by omega)
      cases g:zn (o+n+1) j with
      |false=>rw [g]at this;cases this
      |true=>have:=zq g;omega
   have a: ∀i,i<n->t.get (o+i)=some (f i):=by
    intro i q
    have:=e i q
    rw [zj (by omega:o+i+1<=j)]at this
    have:=(Tr.slice_spec this).2 0 (by omega)
    simpa using this
   simp only []
   rw [zj hle]
   simp only [cond_true]
   obtain⟨l,p⟩:=Tr.slice_mk (t:=t) (i:=o) (n:=n) (fun k d=>by rw [a k d];rfl)
   rw [p]
   obtain⟨u,r⟩:=Tr.slice_spec p
   congr 1
   refine zI fun k=>?_
   rw [zp]
   rcases zC k n with d|d
   . rw [<-r k d,a k d,List.getElem?_range d];rfl
   . rw [zM (by omega),zM (by simpa using d)];rfl

section
variable{α:Type}
theorem aU{k:Nat}{enc:α->List Value}(a: ∀x,(enc x).length=k)(xs:List α):(xs.flatMap enc).length=xs.length*k:=by
 induction xs with
 |nil=>simp
 |cons x xs b=>rw [zV,zl,a,b,List.length_cons,zG];omega
theorem zh{k:Nat}{enc:α->List Value}(a: ∀x,(enc x).length=k)(xs:List α){i:Nat}(b:i<xs.length):((xs.flatMap enc).drop (i*k)).take k=enc xs[i]:=by
 induction xs generalizing i with
 |nil=>simp at b
 | cons x xs c=>
   cases i with
   |zero=>simp [zV,<-a x]
   | succ i=>
     rw [zV,zG,Nat.add_comm,<-List.drop_drop]
     rw [show List.drop k (enc x++List.flatMap enc xs)=List.flatMap enc xs by rw [<-a x];exact List.drop_left]
     simpa using c (i:=i) (by simpa using b)
def ax(h:Hp)(k:Nat)(enc:α->List Value)(v:Value)(xs:List α):Prop:=
 (v=.slice none 0 0/\xs=[])\/ ∃b o s c,v=.slice (some ⟨b,o,s⟩) xs.length c/\xs.length<=c/\h.load b o (xs.length*k)=some (xs.flatMap enc)
variable{h:Hp}{k:Nat}{enc:α->List Value}{v:Value}{xs:List α}
theorem ax.gr{a:Hp}(g:Gr h a)(s:ax h k enc v xs):ax a k enc v xs:=by
 rcases s with s|⟨b,o,s,c,d,e,f⟩
 . exact .inl s
 . exact .inr ⟨b,o,s,c,d,e,g.load f⟩
def av:Value->Nat->Prop
 | .slice (some a) _ _,b=>a.block=b
 | .pointer (some a),b=>a.block=b
 |_,_=>False
theorem ax.mo{M:Nat->Prop}{d:Hp}(g:Mo M h d)(s:ax h k enc v xs)(f: ∀b,av v b-> ¬M b):ax d k enc v xs:=by
 rcases s with s|⟨b,o,s,c,e,i,a⟩
 . exact .inl s
 . refine .inr ⟨b,o,s,c,e,i,?_⟩
   have:=g.get b (bw g.ok0 a) (f b (by rw [e];rfl))
   unfold Hp.load at a⊢
   rw [this];exact a
theorem ax.lt(d:h.t.Sized h.n)(s:ax h k enc v xs){b:Nat}(a:av v b):b<h.n:=by
 rcases s with⟨rfl,_⟩|⟨e,o,s,c,rfl,g,f⟩
 . exact a.elim
 . have:e=b:=a
   subst this
   exact bw d f
theorem ax.len{E:Env}{t e:TypeId}(s:ax h k enc v xs)(a:E.und t=some (.slice e)):lH E t v=some (.int .i64 xs.length):=by
 rcases s with⟨rfl,rfl⟩|⟨b,o,s,c,rfl,d,f⟩<;>simp [lH,a]
theorem ax.idx(s:ax h k enc v xs)(d: ∀x,(enc x).length=k){i:Nat}(a:i<xs.length): ∃b o s' c,v=.slice (some ⟨b,o,s'⟩) xs.length c/\h.load b (o+i*k) k=some (enc xs[i]):=by
 rcases s with⟨rfl,rfl⟩|⟨b,o,s,c,rfl,f,e⟩
 . simp at a
 . refine⟨b,o,s,c,rfl,?_⟩
   have:i*k+k<=xs.length*k:=by rw [<-zG];exact zP _ a
   rw [oS e this,zh d xs a]
theorem ax.at{E:Env}{t e:TypeId}{kd:IntKind}(s:ax h k enc v xs)(d: ∀x,(enc x).length=k)(f:E.und t=some (.slice e))(g:E.sz e=some k){i:Nat}(a:i<xs.length):
 ∃b o,dB E t v (.int kd i)=some (.pointer (some ⟨b,o,none⟩))/\h.load b o k=some (enc xs[i]):=by
 obtain⟨b,o,l,c,rfl,j⟩:=s.idx d a
 refine⟨b,o+i*k,?_,j⟩
 rw [ia_slice f g,jk a]
 rfl
theorem ax.src(s:ax h k enc v xs):aL h k v=some (xs.length,xs.flatMap enc):=by
 rcases s with⟨rfl,rfl⟩|⟨b,o,s,c,rfl,e,a⟩
 . rfl
 . cases c with
   | zero=>
     have:xs.length=0:=by omega
     have d:xs=[]:=List.length_eq_zero_iff.1 this
     subst d
     simp only [aL,z8]at a⊢
     rw [a]
   | succ c=>
     simp only [aL]
     rw [a]
theorem dz.sl{vs:List Value}(g:dz h (v,k,vs))(d:vs=xs.flatMap enc)(e: ∀x,(enc x).length=k)(i:0<k):ax h k enc v xs:=by
 rcases g with⟨c,a⟩|⟨b,n,c,a,f⟩
 . simp only []at c a
   refine .inl ⟨c,?_⟩
   rw [a]at d
   have:=aU e xs
   rw [<-d]at this
   cases xs with
   |nil=>rfl
   | cons x xs=>
     simp only [z8,List.length_cons,zG]at this
     omega
 . simp only []at c a f
   have j:n=xs.length:=by
    rw [d,aU e]at a
    exact zT i a
   subst j
   refine .inr ⟨b,0,some k,xs.length,c,zu _,?_⟩
   rw [f.load (by omega),a,Xb,zZ,d]
theorem dz.len{E:Env}{t e:TypeId}{vs:List Value}(g:dz h (v,k,vs))(i:0<k)(d:E.und t=some (.slice e)){n:Nat}(f:n*k=vs.length):lH E t v=some (.int .i64 n):=by
 rcases g with⟨a,c⟩|⟨b,m,a,c,j⟩
 . simp only []at a c
   subst a c
   have:n=0:=by
    cases n with
    |zero=>rfl
    |succ n=>simp only [z8,zG]at f;omega
   subst this
   simp [lH,d]
 . simp only []at a c
   subst a
   have:m=n:=zT i (c.trans f.symm)
   subst this
   simp [lH,d]
end
def encI(kd:IntKind)(x:Int):List Value:=[.int kd x]
def encB(x:Bool):List Value:=[.bool x]
theorem cO(kd:IntKind)(x:Int):(encI kd x).length=1:=rfl
theorem encB_len(x:Bool):(encB x).length=1:=rfl

def agg1:Option (List Value)->Option Value
 |some l=>some (.agg ⟨l⟩)
 |none=>none
theorem agg1_some{l:List Value}:agg1 (some l)=some (.agg ⟨l⟩):=rfl
theorem loadV_agg{E:Env}{h:Hp}{t:TypeId}{b o n:Nat}{s:Option Nat}(a:E.agg t=some true)(c:E.sz t=some n):dJ E h t (.pointer (some ⟨b,o,s⟩))=agg1 (h.load b o n):=by
 simp only [dJ,a,c]
 cases h.load b o n<;>rfl

def isIface(E:Env)(t:TypeId):Bool:=match E.und t with
 |some (.interface _)=>true
 |_=>false
def m9(E:Env)(t:TypeId):Bool:=match E.und t with
 |some (.pointer _)=>true
 |_=>false
def iM(E:Env)(t:TypeId):Bool:=match E.und t with
 |some (.struct _)=>true
 |some (.int _)=>true
 |some (.pointer _)=>true
 |_=>false
section
variable{E:Env}{t:TypeId}{x y:Operand}
theorem mS(b:isIface E t=true): ∃a,E.und t=some (.interface a):=by
 unfold isIface at b;split at b<;>first|exact⟨_, ‹_›⟩|cases b
theorem qr(b:m9 E t=true): ∃a,E.und t=some (.pointer a):=by
 unfold m9 at b;split at b<;>first|exact⟨_, ‹_›⟩|cases b
theorem n_iface(b:isIface E t=true){u:TypeId}{v:Value}:bj E .neq t x y (.iface u v) .nilIface=some (.bool true):=by
 obtain⟨a,c⟩:=mS b
 simp [bj,ee,df,c]
theorem n_nil(b:isIface E t=true){v:Value}:bj E .neq t x (.const v) .nilIface .nilIface=some (.bool false):=by
 obtain⟨a,c⟩:=mS b
 cases x<;>simp [bj,ee,df,c]
theorem e_iface(b:isIface E t=true){u:TypeId}{v:Value}:bj E .eql t x y (.iface u v) .nilIface=some (.bool false):=by
 obtain⟨a,c⟩:=mS b
 simp [bj,ee,df,c]
theorem e_nil(b:isIface E t=true){v:Value}:bj E .eql t x (.const v) .nilIface .nilIface=some (.bool true):=by
 obtain⟨a,c⟩:=mS b
 cases x<;>simp [bj,ee,df,c]
theorem n_ptr(b:m9 E t=true){a:Addr}:bj E .neq t x y (.pointer (some a)) (.pointer none)=some (.bool true):=by
 obtain⟨e,c⟩:=qr b
 simp [bj,ee,df,c]
theorem e_ptr(b:m9 E t=true){a:Addr}:bj E .eql t x y (.pointer (some a)) (.pointer none)=some (.bool false):=by
 obtain⟨e,c⟩:=qr b
 simp [bj,ee,df,c]
theorem n_pnil(a:m9 E t=true):bj E .neq t x y (.pointer none) (.pointer none)=some (.bool false):=by
 obtain⟨e,b⟩:=qr a
 simp [bj,ee,df,b]
theorem e_pnil(a:m9 E t=true):bj E .eql t x y (.pointer none) (.pointer none)=some (.bool true):=by
 obtain⟨e,b⟩:=qr a
 simp [bj,ee,df,b]
theorem qU(b:iM E t=true): ∃d,E.und t=some d/\ ∀a,d≠ .interface a:=by
 unfold iM at b
 split at b<;>first|exact⟨_, ‹_›,by intro a e;cases e⟩|cases b
theorem assert_is(a:iM E t=true){v:Value}:mw E (.iface t v) t true=some (.tuple #[v,.bool true]):=by
 obtain⟨d,b,c⟩:=qU a
 unfold mw
 rw [b]
 cases d<;>first|exact absurd rfl (c _)|simp [qc]
theorem mk_iface(a:iM E t=true){v:Value}:(match E.und t with|none=>none|some (.interface _)=>none|some _=>some (Value.iface t v))=some (.iface t v):=by
 obtain⟨d,b,c⟩:=qU a
 rw [b]
 cases d<;>first|exact absurd rfl (c _)|rfl
end

theorem o_recover{E:Env}{ρ:Operand->Value}{h:Hp}{as:Array Operand}{ts:Array TypeId}:aop E ρ h (.call ⟨.builtin .recover,as,ts⟩)=some (.recov,h):=rfl
theorem o_deferR{E:Env}{ρ:Operand->Value}{h:Hp}{f:Operand}{as:Array Operand}{ts:Array TypeId}:aop E ρ h (.defer ⟨.value f,as,ts⟩)=match ρ f with
 | .func (.func g) a b=>some (.defer {target:=.fn (.func g) b,args:=⟨a.toList++as.toList.map ρ⟩},h)
 |_=>none:=rfl
def panR(h:Hp):Value->Option (cH×Hp)
 | .iface t v=>some (.panic (.iface t v),h)
 |_=>none
theorem o_panicR{E:Env}{ρ:Operand->Value}{h:Hp}{x:Operand}:aop E ρ h (.panic x)=panR h (ρ x):=by
 simp only [aop,panR];cases ρ x<;>rfl
theorem yv{h:Hp}{t:TypeId}{v:Value}:panR h (.iface t v)=some (.panic (.iface t v),h):=rfl
section
variable{E:Env}{cx:Cx}{o:Oper}{K:Ex->Loc->Hp->Prop}{h:Hp}{n:Nat}{ρ:Nat->Value}{d:List Deferred}
theorem sI{v:Value}:ed E cx o (LL n ρ d (some (v,false))) K (some (.recov,h))↔cx.round=none/\K .normal ((LL n ρ d (some (v,true))).put o.dst v) h:=zo
theorem sH:ed E cx o (LL n ρ d none) K (some (.recov,h))↔cx.round=none/\K .normal ((LL n ρ d none).put o.dst .nilIface) h:=zo
theorem step_defer{a:Option (Value×Bool)}{x:Deferred}:ed E cx o (LL n ρ d a) K (some (.defer x,h))↔cx.round=none/\K .normal ((LL n ρ (x::d) a).put o.dst (.tuple #[])) h:=zo
theorem yu{l:Loc}{b:Nat}{args:List Value}{P:Out->Hp->Prop}(e:jO E b args h P)(f: ∀x c,P x c->match x with
 | .ret v=>K .normal (l.put o.dst v) c
 | .pan v=>K (.pan v) l c):ed E cx o l K (some (.yield b args,h)):=by
 obtain⟨x,c,a,b⟩:=e
 exact⟨x,c,a,f x c b⟩
end
theorem uP{b:Nat}{args:List Value}:target (.func (.yield b) #[] #[]) args=some (.yield b args):=rfl
def UnQ(E:Env)(c:List Deferred)(m:Option Value)(h:Hp)(Q:Option Value->Hp->Prop):Prop:= ∃a b,bA (lim E) c m h=some (a,b)/\Q a b
section
variable{E:Env}{rs:List ResultVar}{Q:Out->Option (Value×Bool)->Hp->Prop}{n:Nat}{ρ:Nat->Value}{d:List Deferred}{rc:Option (Value×Bool)}{h:Hp}
theorem gL(b:UnQ E d none h fun m a=>m=none/\ ∃vs,aO E (tab n ρ) a rs=some vs/\Q (.ret (ae vs)) rc a):mq E rs Q .ret (LL n ρ d rc) h:=by
 obtain⟨m,a,c,rfl,e⟩:=b
 exact⟨a,c,e⟩
theorem dS(b:UnQ E d none h fun m a=>m=none/\ ∃vs,aO E (tab n ρ) a rs=some vs/\Q (.ret (ae vs)) rc a):mq E rs Q .normal (LL n ρ d rc) h:=gL b
theorem iL{v:Value}(b:UnQ E d (some v) h fun m a=>match m with
 |some v=>Q (.pan v) rc a
 |none=> ∃vs,aO E (tab n ρ) a rs=some vs/\Q (.ret (ae vs)) rc a):mq E rs Q (.pan v) (LL n ρ d rc) h:=by
 obtain⟨m,a,c,e⟩:=b
 exact⟨m,a,c,e⟩
theorem dE{m:Option Value}{P:Option Value->Hp->Prop}(a:P m h):UnQ E [] m h P:=⟨m,h,rfl,a⟩
theorem un_dfr{b:Nat}{a:List Deferred}{m:Option Value}{P:Option Value->Hp->Prop}(c:h.get b=some .dfr)(e:UnQ E a m (h.put b .dead) P):UnQ E (qa b::a) m h P:=by
 obtain⟨f,g,i,j⟩:=e
 refine⟨f,g,?_,j⟩
 simp only [bA,qa,c]
 exact i
theorem un_fn{f:FuncId}{cap args:Array Value}{b:List Deferred}{P:Option Value->Hp->Prop}(c:fu E f (args.toList++cap.toList) none h fun o rc a=>(∃v,o=.ret v)/\rc=none/\UnQ E b none a P):UnQ E ({target:=.fn (.func f) cap,args}::b) none h P:=by
 obtain⟨o,e,l,g,⟨v,rfl⟩,rfl,i,a,j,k⟩:=c
 refine⟨i,a,?_,k⟩
 simp only [bA,g]
 exact j
theorem iQ{vs:List Value}(a:aO E (tab n ρ) h rs=some vs)(b:Q (.ret (ae vs)) rc h):mq E rs Q .ret (LL n ρ [] rc) h:=gL (dE ⟨rfl,vs,a,b⟩)
end
end Go.Ab

namespace Go.Ab
section
variable{M:Nat->Prop}{h0 h:Hp}{L:List (Nat×Ob)}{G:List GL}{E:Env}
theorem bW{t e:TypeId}{c k n:Nat}{d cs:List Value}{a:List (Nat×Value)}(f:E.und t=some (.slice e))(g:dD E e c k d)(j:n*k<=16777216)
 (hf:fZ (fun i=>some (i*k,k)) (aV d n) a=some cs):mR h (fun h=>cw (ib E h t n a)) (fun b=>.slice (some ⟨b,0,none⟩) n n) (.row cs 1):=by
 obtain⟨⟨i,l,rfl,rfl⟩,m,o⟩:=g
 have p:E.sz e=some i.size:=by unfold Env.sz;rw [l]
 refine⟨.cells (Tr.ofList cs) cs.length e 1,fun x=>?_,fun q=>my q _ _ _⟩
 simp only [ib,f,p,zj j,m,o,zw,hf,cond_true]
 rfl
theorem St.clone(S:St M h0 h L G){t u e:TypeId}{g k m n md:Nat}{F new vs:List Value}{b:Nat}{x:Value}(O:E.und t=some (.slice e))(P:dD E e g k F)(Q:0<g)
 (v:dh E u=some false) (o:aL h k x=some (m,new)) (H:m*k=new.length) (I:n*k=vs.length) (J:0<k) (w:(vs.length+new.length)*(g+1)<=70368744177664) {ts:List TypeId}
 (R:Row h b vs md):
 ∃ y v',cV E h (t::u::ts) (.slice (some ⟨b,0,none⟩) n n) x=some (y,v')/\
   ((m=0/\y=h/\v'=.slice (some ⟨b,0,none⟩) n n)\/ ∃K,v'=.slice (some ⟨K,0,some k⟩) (n+m) (n+m)/\St M h0 y ((K,.row (vs++new) 1)::L) G):=by
 obtain⟨⟨i,T,rfl,rfl⟩,U,z⟩:=P
 have A:cV E h (t::u::ts) (.slice (some ⟨b,0,none⟩) n n) x=d9 E h e i (some ⟨b,0,none⟩) n n m new:=by
  simp only [cV,v,iR,O,T,o]
 rw [A]
 by_cases N:m=0
 . subst N
   have:new=[]:=by
    cases new with
    |nil=>rfl
    |cons a l=>simp at H
   subst this
   refine⟨h,_,?_,.inl ⟨rfl,rfl,rfl⟩⟩
   unfold d9
   rw [zj (by omega:n+0<=n)]
   rfl
 . have p:zn (n+m) n=false:=by
    cases v:zn (n+m) n with
    |false=>rfl
    |true=>exact absurd (zq v) (by omega)
   have q:n+m<=vs.length+new.length:=by
    rw [<-I,<-H]
    have N:=zx n J
    have V:=zx m J
    omega
   have c:(zn ((n+m)*(i.bytes+1)) 70368744177664&&zR 0 i.bytes)=true:=by
    rw [zj (zY (zP _ q) w)]
    simp only [Bool.true_and]
    rw [zW];exact Q
   have B:zy F.length i.size=true:=by rw [z];exact zw _
   have d:d9 E h e i (some ⟨b,0,none⟩) n n m new=mg h e i.size (some ⟨b,0,none⟩) n m new:=by
    unfold d9
    rw [p]
    simp only [cond_false]
    rw [c,U]
    simp only [cond_true,B]
   rw [d]
   obtain⟨s,el,r,f,C⟩:=R
   have D:i6 s vs.length 0 (n*i.size) new=some (s.pushAll vs.length new,vs.length+new.length):=by
    unfold i6
    rw [I,zw vs.length]
    rfl
   refine⟨h.new (.cells (s.pushAll vs.length new) (vs.length+new.length) e 1),.slice (some ⟨h.n,0,some i.size⟩) (n+m) (n+m),?_,.inr ⟨h.n,rfl,?_⟩⟩
   . unfold mg
     simp only [r,D]
   . refine S.new ⟨s.pushAll vs.length new,e,?_,?_,fun j=>?_⟩
     . rw [h.get_new _ S.ok,if_pos rfl,zl]
     . rw [zl];exact Tr.sized_pushAll _ f
     . rw [Tr.get_pushAll _ _ _ f,Xc]
       split
       . exact C j
       . rfl
theorem St.cloneSl{α:Type}{enc:α->List Value}{xs ys:List α}(S:St M h0 h L G){t q e:TypeId}{f k md:Nat}{C:List Value}{b:Nat}{x:Value}(r:E.und t=some (.slice e))(l:dD E e f k C)(s:0<f)
 (u:dh E q=some false) (v:ax h k enc x ys) (a: ∀x,(enc x).length=k) (w:0<k) (g:((xs.length+ys.length)*k)*(f+1)<=70368744177664) {ts:List TypeId}
 (m:Row h b (xs.flatMap enc) md):
 ∃d v',cV E h (t::q::ts) (.slice (some ⟨b,0,none⟩) xs.length xs.length) x=some (d,v')/\St M h0 d L G/\Gr h d/\ax d k enc v' (xs++ys)/\(∀c,av v' c->c=b\/h.n<=c):=by
 obtain⟨d,v',y,D⟩:=S.clone r l s u v.src (aU a ys).symm (aU a xs).symm w (by rw [aU a,aU a,<-z9];exact g) (ts:=ts) m
 refine⟨d,v',y,?_⟩
 rcases D with⟨z,rfl,rfl⟩|⟨n,rfl,i⟩
 . have F:ys=[]:=List.length_eq_zero_iff.1 z
   subst F
   refine⟨S,Gr.refl S.ok,.inr ⟨b,0,none,xs.length,by simp,by simp,?_⟩,fun c o=>.inl (Eq.symm o)⟩
   rw [List.append_nil,m.load (by rw [aU a];omega),Xb,<-aU a xs,zZ]
 . have H:St M h0 d L G:=⟨i.fr,fun p I=>i.own p (zN _ I),i.gown,(List.nodup_cons.1 i.apart).2⟩
   have j:Row d n (xs.flatMap enc++ys.flatMap enc) 1:=i.row m0
   have T:=(St.init (M:=NoM) S.ok).clone r l s u v.src (aU a ys).symm (aU a xs).symm w (by rw [aU a,aU a,<-z9];exact g) (ts:=ts) m
   obtain⟨J,K,A,N⟩:=T
   rw [y]at A
   cases A
   rcases N with⟨z,_,l⟩|⟨P,O,B⟩
   . exact absurd l (by intro e;cases e)
   . cases O
     refine⟨H,B.gr,.inr ⟨n,0,some k,xs.length+ys.length,by rw [zl],by rw [zl];exact zu _,?_⟩,fun c o=>?_⟩
     . rw [j.load (by rw [zl,zl,aU a,aU a,z9];omega),Xb,<-List.flatMap_append,<-aU a (xs++ys),zZ]
     . right
       have:n=c:=o
       subst this
       rcases(B.own _ m0).1 with h|h
       . exact h
       . exact h.elim
end
end Go.Ab

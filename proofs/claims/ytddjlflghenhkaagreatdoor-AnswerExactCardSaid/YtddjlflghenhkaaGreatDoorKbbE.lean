/- A deterministic evaluator of the model's code, and that the model follows it (part 5). -/
import Derived.Test.YtddjlflghenhkaaGreatDoorKbbD
import Derived.WalkKit
import Derived.ProofKit
import Derived.OpenShut
import Derived.Carry
open Nat renaming ble_eq_true_of_le->zM,ble->Xa,le_mul_of_pos_right->Xd,beq->Xe,le_of_ble_eq_true->Xg,le_refl->Xi,lt_or_ge->Xm,beq_refl->Xn,mul_le_mul_right->Xo,blt->Xp,le_trans->Xt,eq_of_beq_eq_true->Xw,succ_mul->XB,add_mul->XC
open List renaming mem_of_getElem?->zO,length_append->Xc,replicate->Xf,ext_getElem?->Xk,getElem?_map->Xq,getElem?_append_left->Xr,getElem?_eq_some_iff->Xs,take_length->Xu,getElem?_replicate->Xv,length_replicate->Xx,drop_zero->Xy,mem_cons_of_mem->Xz,mem_map_of_mem->XA
open Iff renaming rfl->Xb
open Bool renaming and_eq_true->Xh
open Array renaming getElem?_eq_getElem->Xj
open Option renaming map_eq_some_iff->Xl
set_option maxHeartbeats 400000
set_option linter.defProp false
set_option linter.unusedVariables false
set_option linter.unusedSimpArgs false
namespace Go.Ab
variable{E:Env}
variable{cx:Cx}
variable{b c i j md n o q:Nat}
variable{args l vs:List Value}
variable{h h':Hp}
variable{op:Op}
variable{x y:Operand}
variable{e s t u:TypeId}
variable{a os:List Oper}
variable{f g:FuncId}
variable{m:Int}
variable{k:IntKind}
variable{v:Value}
variable{ρ:Operand->Value}
variable{ps:List (Nat×Nat)}
variable{W:World}
variable{P:Program}
variable{M:Nat->Prop}
noncomputable section
abbrev Opt:=Option (Ex×Loc×Hp)
def getK{a:Type}(t:Tr a):Nat->Option a:=Tr.rec (motive:=fun _=>Nat->Option a) (fun _=>none)
 (fun x _ _ b c i=>Nat.rec (some x) (fun n _=>Bool.rec (c (n/2)) (b (n/2)) (Xe (n%2) 0)) i) t
def setK{a:Type}(t:Tr a):Nat->a->Tr a:=Tr.rec (motive:=fun _=>Nat->a->Tr a) (fun _ _=>.nil)
 (fun y l r b c i x=>Nat.rec (.node x l r) (fun n _=>Bool.rec (.node y l (c (n/2) x)) (.node y (b (n/2) x) r) (Xe (n%2) 0)) i) t
def iQ(l:Loc)(d:Option Tmp)(v:Value):Loc:=Option.rec l (fun t=>Loc.mk (setK l.regs t v) l.dfs l.rc) d
def evK(l:Loc)(x:Operand):Value:=Operand.rec (motive:=fun _=>Loc->Value) (fun t l=>Option.rec (.tuple #[]) (fun v=>v) (getK l.regs t)) (fun v _=>Bool.rec poison v (dp v))
 (fun g _=>Bool.rec poison (.pointer (some ⟨g,0,none⟩)) (Xp g 16)) (fun f _=>.func (.func f) #[] #[]) x l
def exK(e:Ex):(Loc->Hp->Opt)->(Ex->Loc->Hp->Opt)->Loc->Hp->Opt:=Ex.rec (motive:=fun _=>(Loc->Hp->Opt)->(Ex->Loc->Hp->Opt)->Loc->Hp->Opt)
 (fun b _ l h=>b l h) (fun id _ a l h=>a (.exit id) l h) (fun _ a l h=>a .ret l h) (fun v _ a l h=>a (.pan v) l h) e
def eB(x:Opt)(a:Loc->Hp->Opt)(b:Ex->Loc->Hp->Opt):Opt:=Option.rec none (fun q=>Prod.rec (fun e c=>Prod.rec (fun l h=>exK e a b l h) c) q) x
def asInt:Value->Option (IntKind×Int)
 | .int k n=>some (k,n)|_=>none
abbrev BM:=IntKind->Int->IntKind->Int->Option Value->Option Value
def arK(f:IntKind->Int->Int->Option Value):BM:=fun k m a n _=>Bool.rec none (f k m n) (kW k a)
def binI(op:BinOp):BM:=BinOp.rec (motive:=fun _=>BM)
 (add:=arK fun k x y=>some (.int k (aq k (x+y)))) (sub:=arK fun k x y=>some (.int k (aq k (x-y)))) (mul:=arK fun k x y=>some (.int k (aq k (x*y))))
 (quo:=fun _ _ _ _ s=>s) (rem:=fun _ _ _ _ s=>s) (and:=fun _ _ _ _ s=>s) (or:=fun _ _ _ _ s=>s) (xor:=fun _ _ _ _ s=>s) (andNot:=fun _ _ _ _ s=>s) (shl:=fun _ _ _ _ s=>s) (shr:=fun _ _ _ _ s=>s)
 (eql:=arK fun _ x y=>some (.bool (jO x y))) (neq:=arK fun _ x y=>some (.bool (!jO x y))) (lss:=arK fun _ x y=>some (.bool (oP x y))) (leq:=arK fun _ x y=>some (.bool (!oP y x)))
 (gtr:=arK fun _ x y=>some (.bool (oP y x))) (geq:=arK fun _ x y=>some (.bool (!oP x y))) op
def binK(E:Env)(op:BinOp)(t:TypeId)(x y:Operand)(a b:Value):Option Value:=
 Option.rec (bS E op t x y a b) (fun p=>Option.rec (bS E op t x y a b) (fun q=>binI op p.1 p.2 q.1 q.2 (bS E op t x y a b)) (asInt b)) (asInt a)
abbrev OpM:=Env->Rec->Cx->Option Tmp->Loc->Hp->(Loc->Hp->Opt)->(Ex->Loc->Hp->Opt)->Opt
def lU(r:Option Value)(d:Option Tmp)(l:Loc)(h:Hp)(a:Loc->Hp->Opt):Opt:=Option.rec none (fun v=>a (iQ l d v) h) r
def retHK(r:Option (Hp×Value))(d:Option Tmp)(l:Loc)(a:Loc->Hp->Opt):Opt:=Option.rec none (fun p=>Prod.rec (fun h v=>a (iQ l d v) h) p) r
def uT(r:Option Hp)(d:Option Tmp)(l:Loc)(a:Loc->Hp->Opt):Opt:=Option.rec none (fun h=>a (iQ l d (.tuple #[])) h) r
def dE(op:Op):OpM:=fun E R a d l h b c=>eB (fu E R a ⟨d,op,0,"",#[],none⟩ l h) b c
def outK(o:Out):Option Tmp->Loc->Hp->(Loc->Hp->Opt)->(Ex->Loc->Hp->Opt)->Opt:=Out.rec (motive:=fun _=>Option Tmp->Loc->Hp->(Loc->Hp->Opt)->(Ex->Loc->Hp->Opt)->Opt)
 (fun v d l h a _=>a (iQ l d v) h) (fun v _ l h _ b=>b (.pan v) l h) o
def resK(r:Option (Out×Option (Value×Bool)×Hp))(d:Option Tmp)(l:Loc)(a:Loc->Hp->Opt)(b:Ex->Loc->Hp->Opt):Opt:=Option.rec none (fun q=>Prod.rec (fun o c=>Prod.rec (fun _ h=>outK o d l h a b) c) q) r
def asFn:Value->Option (FuncId×Array Value×Array Value)
 | .func (.func g) a b=>some (g,a,b)|_=>none
def callK(c:Call):OpM:=fun E R e d l h a b=>Callee.rec (motive:=fun _=>Opt)
 (fun f=>Option.rec (dE (.call c) E R e d l h a b) (fun p=>resK (R.call p.1 (p.2.1.toList++c.args.toList.map (evK l)++p.2.2.toList) none h) d l a b) (asFn (evK l f)))
 (fun _ _=>dE (.call c) E R e d l h a b) (fun _=>dE (.call c) E R e d l h a b) c.callee
def opK(op:Op):OpM:=Op.rec (motive:=fun _=>OpM)
 (move:=fun x _ _ _ d l h j _=>j (iQ l d (evK l x)) h)
 (assign:=fun x _ _ _ d l h j _=>j (iQ l d (evK l x)) h)
 (pick:=fun c a b=>dE (.pick c a b))
 (alloc:=fun e=>dE (.alloc e))
 (box:=fun e v=>dE (.box e v))
 (build:=fun t p=>dE (.build t p))
 (buildSlice:=fun t n p=>dE (.buildSlice t n p))
 (insert:=fun t m k v=>dE (.insert t m k v))
 (load:=fun t a E _ _ d l h j _=>lU (gw E h t (evK l a)) d l h j)
 (store:=fun t a v E _ _ d l h j _=>uT (jZ E h t (evK l a) (evK l v)) d l j)
 (ready:=fun g=>dE (.ready g))
 (waits:=fun g=>dE (.waits g))
 (nilCheck:=fun x=>dE (.nilCheck x))
 (binOp:=fun op t x y u E _ _ d l h j _=>lU (binK E op t x y (evK l x) (evK l y)) d l h j)
 (unOp:=fun op t x E _ _ d l h j _=>lU (unP op (evK l x)) d l h j)
 (convert:=fun s t x=>dE (.convert s t x))
 (sliceToArrayPointer:=fun t x=>dE (.sliceToArrayPointer t x))
 (makeInterface:=fun t x=>dE (.makeInterface t x))
 (makeFunc:=fun f a b=>dE (.makeFunc f a b))
 (makeMap:=fun t r=>dE (.makeMap t r))
 (makeChan:=fun t s=>dE (.makeChan t s))
 (makeSlice:=fun t a c=>dE (.makeSlice t a c))
 (slice:=fun t x a b c=>dE (.slice t x a b c))
 (fieldAddr:=fun s x i E _ _ d l h j _=>lU (aH E s (evK l x) i) d l h j)
 (field:=fun t x i E _ _ d l h j _=>lU (bH E t (evK l x) i) d l h j)
 (indexAddr:=fun t x i E _ _ d l h j _=>lU (gC E t (evK l x) (evK l i)) d l h j)
 (index:=fun t x i E _ _ d l h j _=>lU (jH E t (evK l x) (evK l i)) d l h j)
 (lookup:=fun t m k o E _ _ d l h j _=>lU (dN E h t (evK l m) (evK l k) o) d l h j)
 (mapUpdate:=fun t m k v E _ _ d l h j _=>uT (jy E h t (evK l m) (evK l k) (evK l v)) d l j)
 (mapEntry:=fun t m k E _ _ d l h j _=>retHK (lh E h t (evK l m) (evK l k)) d l j)
 (entryStore:=fun t m s v=>dE (.entryStore t m s v))
 (range:=fun t x=>dE (.range t x))
 (next:=fun i s=>dE (.next i s))
 (entry:=fun i=>dE (.entry i))
 (typeAssert:=fun x s t o=>dE (.typeAssert x s t o))
 (extract:=fun t i=>dE (.extract t i))
 (call:=fun c=>callK c)
 (go:=fun c=>dE (.go c))
 (defer:=fun c=>dE (.defer c))
 (panic:=fun x=>dE (.panic x))
 (send:=fun c x=>dE (.send c x))
 (recv:=fun t c o=>dE (.recv t c o))
 (select:=fun q b=>dE (.select q b)) op
def sH(ops:List Oper)(l:Loc)(o:Oper):Option Bool:=Option.rec (some true) (fun _=>cV ops l.regs o) o.guard
def opsK(E:Env)(R:Rec)(cx:Cx)(ops:List Oper)(c:Loc->Hp->Opt)(d:Ex->Loc->Hp->Opt)(os:List Oper):Loc->Hp->Opt:=List.rec (motive:=fun _=>Loc->Hp->Opt) c
 (fun o _ a l h=>Option.rec none (fun b=>Bool.rec (a (iQ l o.dst (.tuple #[])) h) (opK o.op E R cx o.dst l h a d) b) (sH ops l o)) os
def sG(op:Op):Bool:=Op.rec (motive:=fun _=>Bool)
 (move:=fun _=>true) (assign:=fun _=>true) (pick:=fun _ _ _=>false) (alloc:=fun _=>false) (box:=fun _ _=>false) (build:=fun _ _=>false) (buildSlice:=fun _ _ _=>false)
 (insert:=fun _ _ _ _=>false) (load:=fun _ _=>true) (store:=fun _ _ _=>true) (ready:=fun _=>false) (waits:=fun _=>false) (nilCheck:=fun _=>false) (binOp:=fun _ _ _ _ _=>true)
 (unOp:=fun _ _ _=>true) (convert:=fun _ _ _=>false) (sliceToArrayPointer:=fun _ _=>false) (makeInterface:=fun _ _=>false) (makeFunc:=fun _ _ _=>false) (makeMap:=fun _ _=>false)
 (makeChan:=fun _ _=>false) (makeSlice:=fun _ _ _=>false) (slice:=fun _ _ _ _ _=>false) (fieldAddr:=fun _ _ _=>true) (field:=fun _ _ _=>true) (indexAddr:=fun _ _ _=>true) (index:=fun _ _ _=>true)
 (lookup:=fun _ _ _ _=>true) (mapUpdate:=fun _ _ _ _=>true) (mapEntry:=fun _ _ _=>true) (entryStore:=fun _ _ _ _=>false) (range:=fun _ _=>false) (next:=fun _ _=>false) (entry:=fun _=>false)
 (typeAssert:=fun _ _ _ _=>false) (extract:=fun _ _=>false) (call:=fun _=>false) (go:=fun _=>false) (defer:=fun _=>false) (panic:=fun _=>false) (send:=fun _ _=>false) (recv:=fun _ _ _=>false)
 (select:=fun _ _=>false) op
def s7(E:Env)(q i:Nat)(op:Op):Bool:=Bool.rec (Bool.rec false (Xa 3 (cls E op)) (Nat.testBit q i)) false (Xe q 0)
def outDK(o:Out):(Value->Hp->Opt)->Hp->Opt:=Out.rec (motive:=fun _=>(Value->Hp->Opt)->Hp->Opt) (fun v k h=>k v h) (fun _ _ _=>none) o
def resDK(r:Option (Out×Option (Value×Bool)×Hp))(k:Value->Hp->Opt):Opt:=Option.rec none (fun q=>Prod.rec (fun o a=>Prod.rec (fun _ h=>outDK o k h) a) q) r
def mZ(E:Env)(R:Rec)(a:Bool)(o:Oper)(l:Loc)(h:Hp)(k:Value->Hp->Opt):Opt:=Option.rec none (fun p=>k p.1 p.2) (du E R l.ev a o h)
def yR(h:Hp)(k:Value->Hp->Opt)(v:Value)(h':Hp):Opt:=Bool.rec none (k v {h' with lo:=h.lo}) (Xa h.n h'.lo)
def callDK(E:Env)(R:Rec)(a:Bool)(o:Oper)(c:Call)(l:Loc)(h:Hp)(k:Value->Hp->Opt):Opt:=Callee.rec (motive:=fun _=>Opt)
 (fun f=>Option.rec (mZ E R a o l h k) (fun p=>Bool.rec (resDK (R.call p.1 (p.2.1.toList++c.args.toList.map (evK l)++p.2.2.toList) none h) k)
   (resDK (R.call p.1 (p.2.1.toList++c.args.toList.map (evK l)++p.2.2.toList) none {h with lo:=h.n}) (yR h k)) a) (asFn (evK l f)))
 (fun _ _=>mZ E R a o l h k) (fun _=>mZ E R a o l h k) c.callee
def asCall(op:Op):Option Call:=match op with
 | .call c=>some c|_=>none
def ym(E:Env)(R:Rec)(a:Bool)(o:Oper)(l:Loc)(h:Hp)(k:Value->Hp->Opt):Opt:=Option.rec (mZ E R a o l h k) (fun c=>callDK E R a o c l h k) (asCall o.op)
def yi(l:Loc)(op:Op):Option Tch:=match touch (l.evD (tmpsOf op.operands.toList)) op with
 |none=>none|some b=>some (.blk b)
abbrev DM:=Nat->Loc->Hp->List (Nat×Tch)->Opt
def xz (E:Env) (R:Rec) (cx:Cx) (q:Nat) (o:Oper) (b:DM) (i:Nat) (l:Loc) (h:Hp) (c:List (Nat×Tch)):Opt:=
 Bool.rec (ym E R (s7 E q i o.op) o l h fun v a=>b (i+1) (iQ l o.dst v) a (jm i c (df (l.evD (tmpsOf o.op.operands.toList)) (s7 E q i o.op) o.op h a)))
  (Bool.rec (opK o.op E R cx o.dst l h (fun d a=>b (i+1) d a (jm i c (yi l o.op))) (fun _ _ _=>none))
    (mZ E R true o l h fun v a=>b (i+1) (iQ l o.dst v) a (jm i c (yi l o.op))) (s7 E q i o.op)) (sG o.op)
def qJ(E:Env)(R:Rec)(cx:Cx)(ops:List Oper)(q:Nat)(a:DM)(os:List Oper):DM:=List.rec (motive:=fun _=>DM) a
 (fun o _ c i l h d=>Option.rec none (fun b=>Bool.rec (c (i+1) (iQ l o.dst (.tuple #[])) h d) (xz E R cx q o c i l h d) b) (sH ops l o)) os
def drawKo(E:Env)(R:Rec)(cx:Cx)(ops:List Oper)(l:Loc)(h:Hp)(a:Loc->Hp->Opt):Opt:=
 Option.rec none (fun p=>qJ E R cx ops p.1 (fun _ l h b=>Bool.rec none (a l h) (dQ b p.2)) ops 0 l h []) (lS E ops)
def drawK(E:Env)(R:Rec)(cx:Cx)(ops:List Oper)(l:Loc)(h:Hp)(a:Loc->Hp->Opt):Opt:=drawKo E R cx (c8 ops) l h a
abbrev CodeM:=Cx->Code->Loc->Hp->(Loc->Hp->Opt)->(Ex->Loc->Hp->Opt)->Opt
def asBool:Value->Option Bool
 | .bool b=>some b|_=>none
def blkK(e:Ex):Nat->(Loc->Hp->Opt)->(Ex->Loc->Hp->Opt)->Loc->Hp->Opt:=Ex.rec (motive:=fun _=>Nat->(Loc->Hp->Opt)->(Ex->Loc->Hp->Opt)->Loc->Hp->Opt)
 (fun _ b _ l h=>b l h) (fun i id b a l h=>Bool.rec (a (.exit i) l h) (b l h) (Xe i id)) (fun _ _ a l h=>a .ret l h) (fun v _ _ a l h=>a (.pan v) l h) e
def qa(E:Env)(R:Rec)(M:CodeM)(cx:Cx)(c:Code):Loc->Hp->(Loc->Hp->Opt)->(Ex->Loc->Hp->Opt)->Opt:=Code.rec (motive:=fun _=>Loc->Hp->(Loc->Hp->Opt)->(Ex->Loc->Hp->Opt)->Opt)
 (skip:=fun l h a _=>a l h)
 (region:=fun _ g k l h a d=>Bool.rec (opsK E R cx g.toList a d g.toList l h) (Bool.rec (drawK E R cx g.toList l h a) (eB (cutD E R cx g.toList l h) a d) (E.cut cx.fn)) k)
 (seq:=fun _ _ i j l h a d=>i l h (fun l h=>j l h a d) d)
 (cond:=fun c _ _ i j l h a d=>Option.rec none (fun t=>Bool.rec (j l h a d) (i l h a d) t) (asBool (evK l c)))
 (block:=fun id _ m l h a d=>m l h a (fun e l h=>blkK e id a d l h))
 (loop:=fun b m l h a d=>m l h (fun l h=>M cx (.loop b) l h a d) d)
 (rangeFunc:=fun f p o n _ _ l h a d=>eB (jz R cx (evK l f) p o n l h) a d)
 (exit:=fun id l h _ d=>d (.exit id) l h)
 (scope:=fun _ m l h a d=>m l h a d)
 (label:=fun _ l h a _=>a l h)
 (goto:=fun _ _ _ _ _=>none)
 (ret:=fun l h _ d=>d .ret l h)
 (refuse:=fun _ _ _ _ _=>none) c
abbrev qw:=Option (Out×Option (Value×Bool)×Hp)
def wP(E:Env)(R:Rec)(b:Func)(l:Loc)(h':Hp):qw:=match cF R l.dfs none h' with
 | some (none,a)=>match bU E l.regs a b.results.toList with
   |none=>none|some c=>some (.ret (ab c),l.rc,a)
 |_=>none
def doneK(E:Env)(R:Rec)(a:Func)(l:Loc)(h:Hp):qw:=List.rec (motive:=fun _=>qw)
 (Option.rec none (fun b=>some (.ret (ab b),l.rc,h)) (bU E l.regs h a.results.toList)) (fun _ _ _=>wP E R a l h) l.dfs
def slowPan(E:Env)(R:Rec)(b:Func)(v:Value)(l:Loc)(h':Hp):qw:=match cF R l.dfs (some v) h' with
 |none=>none|some (some v,a)=>some (.pan v,l.rc,a)| some (none,a)=>match bU E l.regs a b.results.toList with
   |none=>none|some c=>some (.ret (ab c),l.rc,a)
def exLeave(e:Ex):Env->Rec->Func->Loc->Hp->qw:=Ex.rec (motive:=fun _=>Env->Rec->Func->Loc->Hp->qw) doneK (fun _ _ _ _ _ _=>none) doneK (fun v E R a l h=>slowPan E R a v l h) e
def leaveK(E:Env)(R:Rec)(a:Func)(r:Opt):qw:=Option.rec none (fun q=>Prod.rec (fun e b=>Prod.rec (fun l h=>exLeave e E R a l h) b) q) r
def xF(E:Env)(R:Rec)(f:FuncId)(args:List Value)(b:Option (Value×Bool))(h:Hp)(a:Func)(body:Code):qw:=
 Bool.rec none (leaveK E R a (R.code ⟨f,a.ntmps,none⟩ body ⟨(Tr.blank (.tuple #[]) a.ntmps a.ntmps).setAll 0 args,[],b⟩ h)) (Xa args.length a.ntmps)
def callBK(E:Env)(R:Rec)(f:FuncId)(args:List Value)(c:Option (Value×Bool))(h:Hp):qw:=
 Option.rec none (fun b=>Option.rec none (fun a=>xF E R f args c h b a) b.body) (E.fn f)
def yz(E:Env)(R:Rec)(f:FuncId)(args:List Value)(a:Option (Value×Bool))(h:Hp):qw:=
 Option.rec (callBK E R f args a h) (fun v=>Option.rec (some (.ret v,none,h)) (fun _=>none) a) (E.orc f args)
structure RK where
 call:FuncId->List Value->Option (Value×Bool)->Hp->qw
 code:CodeM
def RK.rec'(K:RK):Rec:=⟨K.call,fun a c l h=>K.code a c l h (fun l h=>some (.normal,l,h)) (fun e l h=>some (e,l,h))⟩
def botK:RK:=⟨fun _ _ _ _=>none,fun _ _ _ _ _ _=>none⟩
def nextRK(E:Env)(K:RK):RK:=⟨fun f a b h=>yz E K.rec' f a b h,fun d c l h e g=>qa E K.rec' K.code d c l h e g⟩
def runK(E:Env)(n:Nat):RK:=Nat.rec botK (fun _ K=>nextRK E K) n
def envK(a:Tr Func)(b:Tr TypeInfo)(c:List Nat):Env:={fn:=fun f=>getK a f,ty:=fun t=>getK b t,eqok:=fun t=>memb t c}
end
noncomputable section
theorem getK_eq{a:Type}(t:Tr a)(i:Nat):getK t i=t.get i:=rfl
theorem setK_eq{a:Type}(t:Tr a)(i:Nat)(x:a):setK t i x=t.set i x:=rfl
theorem px(l:Loc)(d:Option Tmp)(v:Value):iQ l d v=l.put d v:=by
 cases d with
 |none=>rfl|some t=>show Loc.mk (setK l.regs t v) l.dfs l.rc=_;rw [setK_eq];rfl
theorem iG(l:Loc):evK l=l.ev:=by
 funext x;cases x with
 | tmp t=>
   show Option.rec (motive:=fun _=>Value) _ _ (getK l.regs t)=_;rw [getK_eq];simp only [Loc.ev];cases l.regs.get t<;>rfl
 |const v=>simp only [Loc.ev];show Bool.rec (motive:=fun _=>Value) poison v (dp v)=_;cases dp v<;>rfl
 |global g=>simp only [Loc.ev];show Bool.rec (motive:=fun _=>Value) poison _ (Xp g 16)=_;cases Xp g 16<;>rfl
 |func f=>rfl
theorem bind2_id(x:Opt):eB x (fun l h=>some (.normal,l,h)) (fun e l h=>some (e,l,h))=x:=by
 cases x with
 |none=>rfl|some q=>obtain⟨e,l,h⟩:=q;cases e<;>rfl
theorem tC(x:Opt)(c:Loc->Hp->Opt)(d:Ex->Loc->Hp->Opt)(f:Loc->Hp->Opt)(a:Ex->Loc->Hp->Opt)(b: ∀e l h,e≠ .normal->d e l h=a e l h):
 eB x (fun l h=>eB (c l h) f a) d=eB (match x with
  |some (.normal,l,h)=>c l h|r=>r) f a:=by
 cases x with
 |none=>rfl| some q=>
   obtain⟨e,l,h⟩:=q;cases e with
   |normal=>rfl|exit i=>exact b _ _ _ (by simp)|ret=>exact b _ _ _ (by simp)|pan v=>exact b _ _ _ (by simp)
theorem binK_eq(E:Env)(op:BinOp)(t:TypeId)(x y:Operand)(a b:Value):binK E op t x y a b=bS E op t x y a b:=by
 cases a<;>(try rfl);cases b<;>(try rfl);rename_i k m c n;cases op<;>(try rfl)
 all_goals (show Bool.rec (motive:=fun _=>Option Value) none _ (kW k c)=(bif kW k c then _ else none);cases kW k c<;>rfl)
theorem retK_eq(r:Option Value)(o:Oper)(l:Loc)(h:Hp)(E:Env)(R:Rec)(a:Loc->Hp->Opt)(b:Ex->Loc->Hp->Opt):lU r o.dst l h a=eB (pU o l (dH E R (cU h r))) a b:=by
 cases r with
 |none=>rfl|some v=>show a (iQ l o.dst v) h=a (l.put o.dst v) h;rw [px]
theorem retHK_eq(r:Option (Hp×Value))(o:Oper)(l:Loc)(E:Env)(R:Rec)(a:Loc->Hp->Opt)(b:Ex->Loc->Hp->Opt):retHK r o.dst l a=eB (pU o l (dH E R (dC r))) a b:=by
 cases r with
 |none=>rfl|some p=>obtain⟨h,v⟩:=p;show a (iQ l o.dst v) h=a (l.put o.dst v) h;rw [px]
theorem retUK_eq(r:Option Hp)(o:Oper)(l:Loc)(E:Env)(R:Rec)(a:Loc->Hp->Opt)(b:Ex->Loc->Hp->Opt):uT r o.dst l a=eB (pU o l (dH E R (iu r))) a b:=by
 cases r with
 |none=>rfl|some h=>show a (iQ l o.dst (.tuple #[])) h=a (l.put o.dst (.tuple #[])) h;rw [px]
theorem resK_eq(R:Rec)(g:FuncId)(args:List Value)(o:Oper)(l:Loc)(h:Hp)(E:Env)(a:Loc->Hp->Opt)(b:Ex->Loc->Hp->Opt):
 resK (R.call g args none h) o.dst l a b=eB (pU o l (dH E R (some (.call g args,h)))) a b:=by
 simp only [dH];cases R.call g args none h with
 |none=>rfl| some q=>
   obtain⟨x,d,c⟩:=q;cases x with
   |ret v=>show a (iQ l o.dst v) c=a (l.put o.dst v) c;rw [px]|pan v=>rfl
theorem oR{R:Rec}{o:Oper}{l:Loc}{x:Option (dT×Hp)}(a:aop E l.ev h o.op=x)(b: ∀h',x≠some (.recov,h'))(c: ∀d h',x≠some (.defer d,h')):fu E R cx o l h=pU o l (dH E R x):=by
 unfold fu;rw [a]
 split
 . exact absurd rfl (b _)
 . exact absurd rfl (c _ _)
 . rfl
theorem wW{r:Option Value}:(∀h',cU h r≠some (.recov,h'))/\ ∀d h',cU h r≠some (.defer d,h'):=by cases r<;>exact⟨by intros;simp [cU],by intros;simp [cU]⟩
theorem wS{r:Option (Hp×Value)}:(∀h',dC r≠some (.recov,h'))/\ ∀d h',dC r≠some (.defer d,h'):=by cases r<;>exact⟨by intros;simp [dC],by intros;simp [dC]⟩
theorem xy{r:Option Hp}:(∀h',iu r≠some (.recov,h'))/\ ∀d h',iu r≠some (.defer d,h'):=by cases r<;>exact⟨by intros;simp [iu],by intros;simp [iu]⟩
theorem opK_eq(E:Env)(R:Rec)(cx:Cx)(o:Oper)(l:Loc)(h:Hp)(q:Loc->Hp->Opt)(s:Ex->Loc->Hp->Opt):opK o.op E R cx o.dst l h q s=eB (fu E R cx o l h) q s:=by
 have w: ∀r,aop E l.ev h o.op=cU h r->lU r o.dst l h q=eB (fu E R cx o l h) q s:=fun r A=>by rw [oR A wW.1 wW.2];exact retK_eq r o l h E R q s
 have B: ∀r,aop E l.ev h o.op=dC r->retHK r o.dst l q=eB (fu E R cx o l h) q s:=fun r A=>by rw [oR A wS.1 wS.2];exact retHK_eq r o l E R q s
 have C: ∀r,aop E l.ev h o.op=iu r->uT r o.dst l q=eB (fu E R cx o l h) q s:=fun r A=>by rw [oR A xy.1 xy.2];exact retUK_eq r o l E R q s
 obtain⟨j,op,D,pos,z,guard⟩:=o;simp only []at w B C⊢;cases op
 case move x=>have:=w (some (l.ev x)) rfl;rw [<-this];show q (iQ l j (evK l x)) h=q (iQ l j (l.ev x)) h;rw [iG]
 case assign x=>have:=w (some (l.ev x)) rfl;rw [<-this];show q (iQ l j (evK l x)) h=q (iQ l j (l.ev x)) h;rw [iG]
 case load t a=>rw [<-w _ rfl];show lU (gw E h t (evK l a)) j l h q=_;rw [iG]
 case store t a v=>rw [<-C _ rfl];show uT (jZ E h t (evK l a) (evK l v)) j l q=_;rw [iG]
 case binOp b t x y u=>rw [<-w (bS E b t x y (l.ev x) (l.ev y)) rfl];show lU (binK E b t x y (evK l x) (evK l y)) j l h q=_;rw [iG,binK_eq]
 case unOp b t x=>rw [<-w (unP b (l.ev x)) rfl];show lU (unP b (evK l x)) j l h q=_;rw [iG]
 case fieldAddr t x i=>rw [<-w (aH E t (l.ev x) i) rfl];show lU (aH E t (evK l x) i) j l h q=_;rw [iG]
 case field t x i=>rw [<-w (bH E t (l.ev x) i) rfl];show lU (bH E t (evK l x) i) j l h q=_;rw [iG]
 case indexAddr t x i=>rw [<-w (gC E t (l.ev x) (l.ev i)) rfl];show lU (gC E t (evK l x) (evK l i)) j l h q=_;rw [iG]
 case index t x i=>rw [<-w (jH E t (l.ev x) (l.ev i)) rfl];show lU (jH E t (evK l x) (evK l i)) j l h q=_;rw [iG]
 case lookup t m k b=>rw [<-w _ rfl];show lU (dN E h t (evK l m) (evK l k) b) j l h q=_;rw [iG]
 case mapUpdate t m k v=>rw [<-C _ rfl];show uT (jy E h t (evK l m) (evK l k) (evK l v)) j l q=_;rw [iG]
 case mapEntry t m k=>rw [<-B _ rfl];show retHK (lh E h t (evK l m) (evK l k)) j l q=_;rw [iG]
 case call c=>
  show callK c E R cx j l h q s=_;unfold callK;cases F:c.callee with
  |invoke r n=>rfl|builtin b=>rfl| value f=>
    show Option.rec (motive:=fun _=>Opt) (dE (.call c) E R cx j l h q s) _ (asFn (evK l f))=_;rw [iG];cases hf:asFn (l.ev f)with
    |none=>rfl| some p=>
      obtain⟨g,a,b⟩:=p;have B:l.ev f=.func (.func g) a b:=by
       unfold asFn at hf
       split at hf
       . rename_i G;cases hf;exact G
       . cases hf
      have A:aop E l.ev h (.call c)=some (.call g (a.toList++c.args.toList.map l.ev++b.toList),h):=(by simp only [aop,F,B,target]);rw [oR (o:=⟨j,.call c,D,pos,z,guard⟩) A (by intro H e;cases e) (by intro d H e;cases e)];exact resK_eq R g _ ⟨j,.call c,D,pos,z,guard⟩ l h E q s
 all_goals rfl
theorem zY(ops:List Oper)(l:Loc)(o:Oper):sH ops l o=cV ops l.regs o:=by
 unfold sH;cases a:o.guard with
 |none=>unfold cV;rw [a]|some q=>rfl
theorem opsK_eq(E:Env)(R:Rec)(cx:Cx)(ops:List Oper)(c:Loc->Hp->Opt)(a:Ex->Loc->Hp->Opt): ∀(os:List Oper) (l:Loc) (h:Hp),opsK E R cx ops c a os l h=eB (jn E R cx ops os l h) c a
 | [],l,h=>rfl| o ::os,l,h=>by
   have d:=opsK_eq E R cx ops c a os;show Option.rec (motive:=fun _=>Opt) none (fun b=>Bool.rec (opsK E R cx ops c a os (iQ l o.dst (.tuple #[])) h) (opK o.op E R cx o.dst l h (opsK E R cx ops c a os) a) b) (sH ops l o)=_;rw [zY];simp only [jn];cases cV ops l.regs o with
   |none=>rfl| some b=>
     cases b with
     |false=>show opsK E R cx ops c a os (iQ l o.dst (.tuple #[])) h=_;rw [d,px]| true=>
       show opK o.op E R cx o.dst l h (opsK E R cx ops c a os) a=_;rw [opK_eq,show opsK E R cx ops c a os=fun l h=>eB (jn E R cx ops os l h) c a from funext fun l=>funext fun h=>d l h];rw [tC _ _ _ _ _ (fun _ _ _ _=>rfl)];simp only [];cases fu E R cx o l h with
       |none=>rfl|some q=>obtain⟨e,f,g⟩:=q;cases e<;>rfl
end
noncomputable section
theorem Ae(E:Env)(R:Rec)(l:Loc)(a:Bool)(o:Oper)(h:Hp):du E R (l.evD (tmpsOf o.op.operands.toList)) a o h=du E R l.ev a o h:=by unfold du;rw [uV (vq l o.op),uV (vq l o.op)]
theorem fast_step{R:Rec}{o:Oper}{l:Loc}(hf:sG o.op=true){K:Value->Hp->Opt}:
 eB (fu E R cx o l h) (fun l' h'=>none) (fun _ _ _=>none)=none/\
 ∀ b:Loc->Hp->Opt,eB (fu E R cx o l h) b (fun _ _ _=>none)=(match du E R l.ev false o h with
   |none=>none|some (v,h')=>b (l.put o.dst v) h'):=by
 have c: ∀x,aop E l.ev h o.op=x->((∃e r,x=cU e r)\/(∃r,x=dC r)\/ ∃r,x=iu r)-> ∀b:Loc->Hp->Opt,eB (fu E R cx o l h) b (fun _ _ _=>none)=(match du E R l.ev false o h with
  |none=>none|some (v,h')=>b (l.put o.dst v) h'):=by
  intro x g i b;have j:(∀h',x≠some (.recov,h'))/\ ∀d h',x≠some (.defer d,h'):=by
   rcases i with⟨e,r,rfl⟩|⟨r,rfl⟩|⟨r,rfl⟩
   . exact wW
   . exact wS
   . exact xy
  rw [oR g j.1 j.2];simp only [du,cond_false,g];rcases i with⟨e,r,rfl⟩|⟨r,rfl⟩|⟨r,rfl⟩<;>cases r<;>rfl
 have a:(∃e r,aop E l.ev h o.op=cU e r)\/(∃r,aop E l.ev h o.op=dC r)\/ ∃r,aop E l.ev h o.op=iu r:=by
  obtain⟨k,op,m,pos,f,guard⟩:=o;simp only []at hf⊢;cases op<;>(try (cases hf;done))
  all_goals first
   |exact .inl ⟨h,some (l.ev _),rfl⟩
   |exact .inl ⟨h,_,rfl⟩
   |exact .inr (.inl ⟨_,rfl⟩)
   |exact .inr (.inr ⟨_,rfl⟩)
 refine⟨?_,c _ rfl a⟩;rw [c _ rfl a];cases du E R l.ev false o h<;>rfl
theorem xh(E:Env)(q i:Nat)(op:Op):s7 E q i op=gQ E q i op:=by
 unfold s7 gQ;cases a:Xe q 0 with
 | true=>have:q=0:=Xw a;subst this;simp|false=>cases Nat.testBit q i<;>rfl
theorem elseDK_eq (E:Env) (R:Rec) (d:Bool) (o:Oper) (l:Loc) (h:Hp) (k:Value->Hp->Opt):ym E R d o l h k=mZ E R d o l h k:=by
 unfold ym;cases e:asCall o.op with
 |none=>rfl| some c=>
   show callDK E R d o c l h k=_;have t:o.op=.call c:=by
    unfold asCall at e
    split at e
    . rename_i i;cases e;exact i
    . cases e
   unfold callDK;cases j:c.callee with
   |invoke r n=>rfl|builtin b=>rfl| value f =>
     show Option.rec (motive:=fun _=>Opt) (mZ E R d o l h k) _ (asFn (evK l f))=_;rw [iG];cases hf:asFn (l.ev f)with
     |none=>rfl| some p=>
       obtain⟨g,a,b⟩:=p;have u:l.ev f=.func (.func g) a b:=by
        unfold asFn at hf
        split at hf
        . rename_i i;cases hf;exact i
        . cases hf
       have s: ∀h,aop E l.ev h o.op=some (.call g (a.toList++c.args.toList.map l.ev++b.toList),h):=(by intro h;rw [t];simp only [aop,j,u,target]);unfold mZ du;cases d with
       | false=>
         simp only [cond_false,s,dH];show resDK (R.call g (a.toList++c.args.toList.map l.ev++b.toList) none h) k=_;cases R.call g (a.toList++c.args.toList.map l.ev++b.toList) none h with
         |none=>rfl|some q=>obtain⟨x,w,m⟩:=q;cases x<;>rfl
       | true=>
         simp only [cond_true,s,dH];show resDK (R.call g (a.toList++c.args.toList.map l.ev++b.toList) none {h with lo:=h.n}) (yR h k)=_;cases R.call g (a.toList++c.args.toList.map l.ev++b.toList) none {h with lo:=h.n}with
         |none=>rfl| some q=>
           obtain⟨x,w,m⟩:=q;cases x with
           |pan v=>rfl| ret v=>
             show yR h k v m=_;simp only [yR];cases Xa h.n m.lo<;>rfl
theorem Dh(h:sG op=true):dZ op=false:=by cases op<;>first|rfl|exact absurd h (by simp [sG])
theorem BF (E:Env) (R:Rec) (cx:Cx) (ops:List Oper) (q:Nat) (K:Loc->Hp->List (Nat×Tch)->Opt): ∀(os:List Oper) (i:Nat) (l:Loc) (h:Hp) (a:List (Nat×Tch)),
 qJ E R cx ops q (fun _ l h a=>K l h a) os i l h a=(match dI E R ops q os i l h a with
  |none=>none|some (l',h',d)=>K l' h' d)
 | [],i,l,h,a=>rfl| o :: os,i,l,h,a=>by
   have g:=BF E R cx ops q K os;show Option.rec (motive:=fun _=>Opt) none (fun b=>Bool.rec (qJ E R cx ops q (fun _ l h a=>K l h a) os (i+1) (iQ l o.dst (.tuple #[])) h a) (xz E R cx q o (qJ E R cx ops q (fun _ l h a=>K l h a) os) i l h a) b) (sH ops l o)=_;rw [zY];simp only [dI];cases cV ops l.regs o with
   |none=>rfl| some b=>
     cases b with
     |false=>show qJ E R cx ops q (fun _ l h a=>K l h a) os (i+1) (iQ l o.dst (.tuple #[])) h a=_;rw [g,px]
     | true=>
       show xz E R cx q o (qJ E R cx ops q (fun _ l h a=>K l h a) os) i l h a=_;simp only [];have c: ∀f,gQ E q i o.op=f->mZ E R f o l h (fun v h'=>qJ E R cx ops q (fun _ l h a=>K l h a) os (i+1) (iQ l o.dst v) h' (jm i a (df (l.evD (tmpsOf o.op.operands.toList)) f o.op h h')))=
        (match(match du E R (l.evD (tmpsOf o.op.operands.toList)) (gQ E q i o.op) o h with
          |none=>none|some (v,h')=>dI E R ops q os (i+1) (l.put o.dst v) h' (jm i a (df (l.evD (tmpsOf o.op.operands.toList)) (gQ E q i o.op) o.op h h')))with
          |none=>none|some (l',h',d)=>K l' h' d):=by
        intro f e;rw [e,Ae];unfold mZ;cases du E R l.ev f o h with
        |none=>rfl|some p=>obtain⟨v,h'⟩:=p;show qJ E R cx ops q _ os (i+1) (iQ l o.dst v) h' _=_;rw [g,px]
       unfold xz;cases hf:sG o.op with
       | false=>show ym E R (s7 E q i o.op) o l h _=_;rw [elseDK_eq,xh];exact c _ rfl| true=>
         have k: ∀b (h h':Hp),df (l.evD (tmpsOf o.op.operands.toList)) b o.op h h'=yi l o.op:=(by intro b h h';have j:gD o.op=false:=(by cases m:o.op<;>first|rfl|(rw [m]at hf;simp [sG]at hf));unfold df yi lq;rw [Dh hf,j];rfl);simp only [k]at c⊢;cases e:s7 E q i o.op with
         | true=>rw [xh]at e;exact c true e| false=>
           rw [xh]at e;show opK o.op E R cx o.dst l h _ _=_;rw [opK_eq,(fast_step (R:=R) hf (K:=fun _ _=>none)).2,Ae,e];cases du E R l.ev false o h with
           |none=>rfl|some p=>obtain⟨v,h'⟩:=p;simp only [];rw [g]
theorem codeK_eq(E:Env)(R:Rec)(M:CodeM)(D: ∀cx c l h d g,M cx c l h d g=eB (R.code cx c l h) d g)(cx:Cx): ∀(c:Code) (l:Loc) (h:Hp) (d:Loc->Hp->Opt) (g:Ex->Loc->Hp->Opt),
 qa E R M cx c l h d g=eB (aR E R cx c l h) d g:=by
 intro c
 induction c with
 |skip=>intro l h d g;rfl|label n=>intro l h d g;rfl| region id j s=>
   intro l h d g;cases s with
   |false=>exact opsK_eq E R cx j.toList d g j.toList l h| true=>
     show(Bool.rec (motive:=fun _=>Opt) (drawK E R cx j.toList l h d) (eB (cutD E R cx j.toList l h) d g) (E.cut cx.fn):Opt)=_;simp only [aR,cond_true];cases E.cut cx.fn with
     |true=>rfl|false=>
     show drawK E R cx j.toList l h d=_;simp only [cond_false];unfold drawK drawKo;generalize c8 j.toList=r;cases lS E r with
     |none=>rfl| some p=>
       obtain⟨q,u⟩:=p;show qJ E R cx r q (fun _ l h B=>Bool.rec none (d l h) (dQ B u)) r 0 l h []=_;rw [BF E R cx r q (fun l h B=>Bool.rec none (d l h) (dQ B u))];simp only [];cases dI E R r q r 0 l h []with
       |none=>rfl| some x=>
         obtain⟨a,b,c⟩:=x;simp only [];cases dQ c u<;>rfl
 | seq a b k o=>
   intro l h d g;show qa E R M cx a l h (fun l h=>qa E R M cx b l h d g) g=_;rw [k,show(fun l h=>qa E R M cx b l h d g)=fun l h=>eB (aR E R cx b l h) d g from funext fun l=>funext fun h=>o l h d g];rw [tC _ _ _ _ _ (fun _ _ _ _=>rfl)];simp only [aR];cases aR E R cx a l h with
   |none=>rfl|some q=>obtain⟨e,z,A⟩:=q;cases e<;>rfl
 | cond c a b k o=>
   intro l h d g;show Option.rec (motive:=fun _=>Opt) none (fun t=>Bool.rec (qa E R M cx b l h d g) (qa E R M cx a l h d g) t) (asBool (evK l c))=_;rw [iG,k,o];simp only [aR];cases l.ev c<;>(try rfl);rename_i t;cases t<;>rfl
 | block id b w=>
   intro l h d g;show qa E R M cx b l h d (fun e l h=>blkK e id d g l h)=_;rw [w];simp only [aR];cases aR E R cx b l h with
   |none=>rfl| some q=>
     obtain⟨e,z,A⟩:=q;cases e with
     |normal=>rfl|ret=>rfl|pan v=>rfl| exit i=>
       show Bool.rec (motive:=fun _=>Opt) (g (.exit i) z A) (d z A) (Xe i id)=_;simp only [];cases Xe i id<;>rfl
 | loop b w=>
   intro l h d g;show qa E R M cx b l h (fun l h=>M cx (.loop b) l h d g) g=_;rw [w,show(fun l h=>M cx (.loop b) l h d g)=fun l h=>eB (R.code cx (.loop b) l h) d g from funext fun l=>funext fun h=>D cx (.loop b) l h d g];rw [tC _ _ _ _ _ (fun _ _ _ _=>rfl)];simp only [aR];cases aR E R cx b l h with
   |none=>rfl|some q=>obtain⟨e,z,A⟩:=q;cases e<;>rfl
 | rangeFunc f u C y _ _=>intro l h d g;show eB (jz R cx (evK l f) u C y l h) d g=_;rw [iG];rfl|exit id=>intro l h d g;rfl|scope b w=>intro l h d g;exact w l h d g|goto n=>intro l h d g;rfl|ret=>intro l h d g;rfl|refuse m=>intro l h d g;rfl
theorem Be(E:Env)(R:Rec)(a:Func)(l:Loc)(h:Hp):doneK E R a l h=wP E R a l h:=by
 unfold doneK wP;cases b:l.dfs with
 |cons d c=>rfl| nil=>
   simp only [cF];cases bU E l.regs h a.results.toList<;>rfl
theorem callBK_eq(E:Env)(R:Rec)(f:FuncId)(args:List Value)(c:Option (Value×Bool))(h:Hp):callBK E R f args c h=mg E R f args c h:=by
 unfold callBK mg;cases E.fn f with
 |none=>rfl| some b=>
   show Option.rec (motive:=fun _=>qw) none (fun a=>xF E R f args c h b a) b.body=_;simp only [];cases b.body with
   |none=>rfl| some a=>
     show xF E R f args c h b a=_;unfold xF;simp only [];cases Xa args.length b.ntmps with
     |false=>rfl| true=>
       show leaveK E R b _=_;simp only [cond_true];cases R.code ⟨f,b.ntmps,none⟩ a ⟨(Tr.blank (.tuple #[]) b.ntmps b.ntmps).setAll 0 args,[],c⟩ h with
       |none=>rfl| some q=>
         obtain⟨e,l,d⟩:=q;cases e with
         |exit i=>rfl|pan v=>rfl|normal=>exact Be E R b l d|ret=>exact Be E R b l d
theorem callSK_eq(E:Env)(R:Rec)(f:FuncId)(args:List Value)(a:Option (Value×Bool))(h:Hp):yz E R f args a h=jK E R f args a h:=by
 unfold yz jK;cases E.orc f args with
 |none=>exact callBK_eq E R f args a h|some v=>cases a<;>rfl
theorem B2(E:Env): ∀n,(runK E n).rec'=run E n/\ ∀cx c l h b d,(runK E n).code cx c l h b d=eB ((run E n).code cx c l h) b d
 |0=>⟨rfl,fun _ _ _ _ _ _=>rfl⟩
 | n+1=>by
   obtain⟨i,k⟩:=B2 E n;have j: ∀cx c l h b d,(runK E (n+1)).code cx c l h b d=eB ((run E (n+1)).code cx c l h) b d:=(by intro cx c l h b d;show qa E (runK E n).rec' (runK E n).code cx c l h b d=eB (aR E (run E n) cx c l h) b d;rw [i];exact codeK_eq E (run E n) (runK E n).code k cx c l h b d);refine⟨?_,j⟩;show Rec.mk (fun f a g h=>yz E (runK E n).rec' f a g h) (fun cx c l h=>(runK E (n+1)).code cx c l h (fun l h=>some (.normal,l,h)) (fun e l h=>some (e,l,h)))=next E (run E n)
   rw [i];unfold next
   congr 1
   . funext f a g h;exact callSK_eq E (run E n) f a g h
   . funext cx c l h;rw [j,bind2_id];rfl
theorem runK_call(E:Env)(n:Nat)(f:FuncId)(args:List Value)(a:Option (Value×Bool))(h:Hp):(runK E n).call f args a h=(run E n).call f args a h:=by rw [<-(B2 E n).1];rfl
theorem envK_eq(a:Tr Func)(b:Tr TypeInfo)(c:List Nat):envK a b c=envOf a b c:=rfl
end
section
variable{E:Env}{ρ:Operand->Value}{h:Hp}
theorem o_move:aop E ρ h (.move x)=some (.val (ρ x),h):=rfl
theorem o_assign:aop E ρ h (.assign x)=some (.val (ρ x),h):=rfl
theorem o_load{a:Operand}:aop E ρ h (.load t a)=cU h (gw E h t (ρ a)):=rfl
theorem o_store{a:Operand}:aop E ρ h (.store t a x)=iu (jZ E h t (ρ a) (ρ x)):=rfl
theorem o_binOp{op:BinOp}:aop E ρ h (.binOp op t x y u)=cU h (bS E op t x y (ρ x) (ρ y)):=rfl
theorem o_unOp{op:UnOp}:aop E ρ h (.unOp op t x)=cU h (unP op (ρ x)):=rfl
theorem D1{a b:Array Operand}:aop E ρ h (.makeFunc (.func f) a b)=some (.val (.func (.func f) (a.map ρ) (b.map ρ)),h):=rfl
theorem o_slice{l u m:Option Operand}:aop E ρ h (.slice t x l u m)=cU h (iz E t (ρ x) (l.map ρ) (u.map ρ) (m.map ρ)):=rfl
theorem Di:aop E ρ h (.fieldAddr s x i)=cU h (aH E s (ρ x) i):=rfl
theorem o_field:aop E ρ h (.field s x i)=cU h (bH E s (ρ x) i):=rfl
theorem Da{i:Operand}:aop E ρ h (.indexAddr t x i)=cU h (gC E t (ρ x) (ρ i)):=rfl
theorem o_index{i:Operand}:aop E ρ h (.index t x i)=cU h (jH E t (ρ x) (ρ i)):=rfl
theorem o_build{ps:Array (Nat×Operand)}:aop E ρ h (.build t ps)=cU h (lj E t (ps.toList.map fun p=>(p.1,ρ p.2))):=rfl
theorem BJ{ps:Array (Nat×Operand)}:aop E ρ h (.buildSlice t n ps)=dC (lG E h t n (ps.toList.map fun p=>(p.1,ρ p.2))):=rfl
theorem Dm{l c:Operand}:aop E ρ h (.makeSlice t l c)=dC (kE E h t (ρ l) (ρ c)):=rfl
theorem BT{a:Bool}:aop E ρ h (.typeAssert x s t a)=cU h (qP E (ρ x) t a):=rfl
theorem o_convert:aop E ρ h (.convert s t x)=dC (jS E h s t (ρ x)):=rfl
theorem o_lookup{m k:Operand}{a:Bool}:aop E ρ h (.lookup t m k a)=cU h (dN E h t (ρ m) (ρ k) a):=rfl
theorem Dn{m k v:Operand}:aop E ρ h (.mapUpdate t m k v)=iu (jy E h t (ρ m) (ρ k) (ρ v)):=rfl
theorem EP{m k:Operand}:aop E ρ h (.mapEntry t m k)=dC (lh E h t (ρ m) (ρ k)):=rfl
theorem AV{m s v:Operand}:aop E ρ h (.entryStore t m s v)=iu (n8 h (ρ m) (ρ s) (ρ v)):=rfl
theorem o_callv{f:Operand}{as:Array Operand}{ts:Array TypeId}:aop E ρ h (.call ⟨.value f,as,ts⟩)=match target (ρ f) (as.toList.map ρ)with|none=>none|some x=>some (x,h):=rfl
theorem o_max{ts:Array TypeId}:aop E ρ h (.call ⟨.builtin .max,#[x,y],ts⟩)=cU h (iT true (ρ x) [ρ y]):=rfl
theorem o_min{ts:Array TypeId}:aop E ρ h (.call ⟨.builtin .min,#[x,y],ts⟩)=cU h (iT false (ρ x) [ρ y]):=rfl
theorem o_append{s:Operand}{ts:Array TypeId}:aop E ρ h (.call ⟨.builtin .append,#[s,x],ts⟩)=dC (dL E h ts.toList (ρ s) (ρ x)):=rfl
theorem o_copy{s:Operand}{ts:Array TypeId}:aop E ρ h (.call ⟨.builtin .copy,#[s,x],ts⟩)=dC (copyV E h ts.toList (ρ s) (ρ x)):=rfl
end
theorem EA:cU h (some v)=some (.val v,h):=rfl
theorem DX:dC (some (h,v))=some (.val v,h):=rfl
theorem Eb:iu (some h)=some (.skip,h):=rfl
theorem ig(k:IntKind):kW k k=true:=by rw [je];simp
theorem b_add{n:Int}:bS E .add t x y (.int k m) (.int k n)=some (.int k (aq k (m+n))):=by simp [bS,ig,ji]
theorem b_sub{n:Int}:bS E .sub t x y (.int k m) (.int k n)=some (.int k (aq k (m-n))):=by simp [bS,ig,ji]
theorem b_mul{n:Int}:bS E .mul t x y (.int k m) (.int k n)=some (.int k (aq k (m*n))):=by simp [bS,ig,ji]
theorem pI(m n:Int):jO m n=decide (m=n):=by rw [jd];by_cases h:m=n<;>simp [h]
theorem b_eql{n:Int}:bS E .eql t x y (.int k m) (.int k n)=some (.bool (decide (m=n))):=by simp [bS,ig,ji,pI]
theorem b_neq{n:Int}:bS E .neq t x y (.int k m) (.int k n)=some (.bool (!decide (m=n))):=by simp [bS,ig,ji,pI]
theorem b_lss{n:Int}:bS E .lss t x y (.int k m) (.int k n)=some (.bool (decide (m<n))):=by simp [bS,ig,ji,js]
theorem b_leq{n:Int}:bS E .leq t x y (.int k m) (.int k n)=some (.bool (decide (m<=n))):=by
 simp only [bS,ig,ji,js,cond_true];by_cases a:m<=n
 . rw [decide_eq_true a,decide_eq_false (by omega)];rfl
 . rw [decide_eq_false a,decide_eq_true (by omega)];rfl
theorem b_gtr{n:Int}:bS E .gtr t x y (.int k m) (.int k n)=some (.bool (decide (n<m))):=by simp [bS,ig,ji,js]
theorem b_geq{n:Int}:bS E .geq t x y (.int k m) (.int k n)=some (.bool (decide (n<=m))):=by
 simp only [bS,ig,ji,js,cond_true];by_cases a:n<=m
 . rw [decide_eq_true a,decide_eq_false (by omega)];rfl
 . rw [decide_eq_false a,decide_eq_true (by omega)];rfl
theorem oK{n:Int}(h:n≠0):bS E .quo t x y (.int k m) (.int k n)=some (.int k (aq k (m.tdiv n))):=by simp [bS,ig,ji,pI,h]
theorem pX{n:Int}(h:n≠0):bS E .rem t x y (.int k m) (.int k n)=some (.int k (m.tmod n)):=by simp [bS,ig,ji,pI,h]
theorem mm_max{k':IntKind}{a b:Int}:iT true (.int k a) [.int k' b]=some (.int k (max a b)):=by
 simp only [iT,js,cond_true];by_cases h:a<b
 . rw [decide_eq_true h];simp only [cond_true];rw [Int.max_eq_right (by omega)]
 . rw [decide_eq_false h];simp only [cond_false];rw [Int.max_eq_left (by omega)]
theorem mm_min{k':IntKind}{a b:Int}:iT false (.int k a) [.int k' b]=some (.int k (min a b)):=by
 simp only [iT,js,cond_false];by_cases h:b<a
 . rw [decide_eq_true h];simp only [cond_true];rw [Int.min_eq_right (by omega)]
 . rw [decide_eq_false h];simp only [cond_false];rw [Int.min_eq_left (by omega)]
theorem mj{s:Option Nat}(a:E.agg t=some false)(c:h.load b o 1=some [v]):gw E h t (.pointer (some ⟨b,o,s⟩))=some v:=by simp [gw,a,c]
theorem wrap64{n:Int}(a: -9223372036854775808<=n)(b:n<9223372036854775808):aq .i64 n=n:=by
 unfold aq;cases n with
 | ofNat m=>have:Xp m (hf .i64)=true:=(by rw [Nat.blt_eq];simp only [hf];have c:(m:Int)<9223372036854775808:=b;omega);simp only [this,cond_true]| negSucc m=>have:Xp m (hf .i64)=true:=(by rw [Nat.blt_eq];simp only [hf];have: -9223372036854775808<=Int.negSucc m:=a;omega);simp only [sgn,this,cond_true]
theorem v9{c:Type}{a:c}{P:c->Prop}:(∃b,some a=some b/\P b)↔P a:=⟨fun⟨b,d,e⟩=>by cases d;exact e,fun h=>⟨a,rfl,h⟩⟩
theorem Db{a:Bool}{P:Bool->Prop}:(∃t,Value.bool a=Value.bool t/\P t)↔P a:=⟨fun⟨b,c,d⟩=>by cases c;exact d,fun h=>⟨a,rfl,h⟩⟩
theorem cK:cZ (v::l) 0=v:=rfl
theorem dD:cZ (v::l) (i+1)=cZ l i:=rfl
section
variable{l:Loc}
theorem c_int{n:Int}:l.ev (.const (.int k n))=.int k n:=rfl
theorem c_bool{b:Bool}:l.ev (.const (.bool b))=.bool b:=rfl
theorem c_string{s:ByteArray}:l.ev (.const (.string s))=.string s:=rfl
theorem c_nilp:l.ev (.const (.pointer none))=.pointer none:=rfl
theorem c_nils:l.ev (.const (.slice none 0 0))=.slice none 0 0:=rfl
theorem c_nilm:l.ev (.const (.map none))=.map none:=rfl
theorem c_nilf:l.ev (.const .nilFunc)=.nilFunc:=rfl
theorem c_nili:l.ev (.const .nilIface)=.nilIface:=rfl
end
def one1:Option (List Value)->Option Value
 |some [v]=>some v|_=>none
theorem one1_some:one1 (some [v])=some v:=rfl
theorem Ep{s:Option Nat}(a:E.agg t=some false):gw E h t (.pointer (some ⟨b,o,s⟩))=one1 (h.load b o 1):=by simp only [gw,a];unfold one1;rfl
def gv(a:Bool):Option Value->Option Bool
 |some (.bool b)=>some (bif b then a else !a)
 |some (.tuple _)=>some false|_=>none
noncomputable def gj(a:Bool)(b:Tr Value):Option Oper->Option Bool
 |none=>some false| some o=>match o.dst with
   |none=>some false|some d=>gv a (b.get d)
theorem DP{c:Tr Value}{d:Option Tmp}{p:String}{e:Array Edge}{b:Bool}:cV a c ⟨d,op,t,p,e,some (j,b)⟩=gj b c (a[j]?):=by
 simp only [cV,gj];cases a[j]? with
 |none=>rfl| some o=>
   simp only [];cases o.dst with
   |none=>rfl| some d=>
     simp only [gv];cases c.get d with
     |none=>rfl|some v=>cases v<;>rfl
theorem gj_some{a:Bool}{b:Tr Value}{d:Tmp}{p:String}{c:Array Edge}{g:Option (Nat×Bool)}:gj a b (some ⟨some d,op,t,p,c,g⟩)=gv a (b.get d):=rfl
theorem gv_true{b:Bool}:gv true (some (.bool b))=some b:=by cases b<;>rfl
theorem gv_false{b:Bool}:gv false (some (.bool b))=some (!b):=by cases b<;>rfl
theorem gv_tuple{a:Bool}{x:Array Value}:gv a (some (.tuple x))=some false:=rfl
theorem u_not{b:Bool}:unP .not (.bool b)=some (.bool (!b)):=rfl
theorem target_fn{a b:Array Value}:target (.func (.func g) a b) args=some (.call g (a.toList++args++b.toList)):=rfl
theorem n_new{x:Blk}:(h.new x).n=h.n+1:=rfl
def aT(E:Env)(f:FuncId)(args:List Value)(h:Hp)(v:Value):Prop:=Ret E f args h fun a b=>a=v/\Gr h b
theorem cq{Q:gJ}{k:List Fr}{l:Loc}{b:Code}:Run E (lim E) cx Q (.code (.loop b)::k) .normal l h↔Run E (lim E) cx Q (.code b:: .code (.loop b)::k) .normal l h:=by
 rw [<-run_seq];simp only [Run];have:aR E (lim E) cx (.loop b) l h=aR E (lim E) cx (.seq b (.loop b)) l h:=by
  simp only [aR];cases aR E (lim E) cx b l h with
  |none=>rfl| some q=>
    obtain⟨e,a,c⟩:=q;cases e with
    |normal=>show(lim E).code cx (.loop b) a c=_;rw [y8];rfl|exit i=>rfl|ret=>rfl|pan v=>rfl
 rw [this]
def lenK(r:Option (dT×Hp))(h:Hp):Option Value->Option (dT×Hp)
 |some v=>some (.val v,h)|none=>r
theorem o_lenK:aop E ρ h (.call ⟨.builtin .len,#[x],#[t]⟩)=lenK (match ρ x with
 | .map (some r)=>match h.get r with
   |some (.map a _)=>match E.und t with
    |some (.map _ _)=>some (.val (.int .i64 (.ofNat a.length)),h)|_=>none
   |_=>none
 |_=>none) h (lenP E t (ρ x)):=by
 simp only [aop,pop];cases lenP E t (ρ x)with
 |some v=>rfl| none=>
   simp only [lenK];cases ρ x<;>rfl
theorem natOf_nn{i:Int}(h:0<=i):jo i=some i.toNat:=by
 cases i with
 |ofNat n=>rfl|negSucc n=>exact absurd h (by simp)
theorem idxP_in{i:Int}(h0:0<=i)(a:i<n):ij (.int k i) n=some i.toNat:=by
 simp only [ij,natOf_nn h0];have:Xp i.toNat n=true:=by rw [Nat.blt_eq];omega
 rw [this];rfl
theorem gL(a:i<n):ij (.int k (i:Int)) n=some i:=by rw [idxP_in (Int.natCast_nonneg i) (by omega)];simp
theorem ia_slice{k:Nat}{a:Addr}(b:E.und t=some (.slice e))(d:E.sz e=some k):gC E t (.slice (some a) n c) v=(ij v n).map fun i=>.pointer (some (iC a (i*k))):=by simp only [gC,b,d];cases ij v n<;>rfl
theorem ag{o:Oper}{l:Loc}{K:Ex->Loc->Hp->Prop}(a:aT E f args h v)(b: ∀h',Gr h h'->K .normal (l.put o.dst v) h'):hZ E cx o l K (some (.call f args,h)):=
 step_ret a fun c h' ⟨e,g⟩=>by rw [e];exact b h' g
theorem xL{K:Value->Hp->Prop}(a:aT E f args h v)(b: ∀h',Gr h h'->K v h'):l9 E K (some (.call f args,h)):=
 uu a fun c h' ⟨e,g⟩=>by rw [e];exact b h' g
section
variable(E:Env)(cx:Cx)(Q:gJ)
def GStep(a:List Oper)(o:Oper)(os:List Oper)(k:List Fr)(l:Loc)(h:Hp):Option Bool->Prop
 |some true=>hZ E cx o l (fun e b c=>Run E (lim E) cx Q (.ops a os::k) e b c) (aop E l.ev h o.op)
 |some false=>Run E (lim E) cx Q (.ops a os::k) .normal (l.put o.dst (.tuple #[])) h|none=>False
def CStep(a b:Code)(k:List Fr)(l:Loc)(h:Hp):Value->Prop
 | .bool true=>Run E (lim E) cx Q (.code a::k) .normal l h| .bool false=>Run E (lim E) cx Q (.code b::k) .normal l h|_=>False
def yq(a:List Oper)(q:Nat)(ps:List (Nat×Nat))(o:Oper)(os:List Oper)(i:Nat)(c:List (Nat×Tch))(k:List Fr)(l:Loc)(h:Hp):Option Bool->Bool->Prop
 |some true,false=>l9 E (fun v b=>Run E (lim E) cx Q (.opsD a q ps os (i+1) (jm i c (df l.ev false o.op h b))::k) .normal (l.put o.dst v) b) (aop E l.ev h o.op)
 |some true,true=>l9 E (fun v b=>Xa h.n b.lo=true/\Run E (lim E) cx Q (.opsD a q ps os (i+1) (jm i c (df l.ev true o.op h h))::k) .normal (l.put o.dst v) {b with lo:=h.lo}) (aop E l.ev {h with lo:=h.n} o.op)
 |some false,_=>Run E (lim E) cx Q (.opsD a q ps os (i+1) c::k) .normal (l.put o.dst (.tuple #[])) h|none,_=>False
end
section
variable{E:Env}{cx:Cx}{Q:gJ}{k:List Fr}{l:Loc}{h:Hp}
theorem r_ops{o:Oper}:Run E (lim E) cx Q (.ops a (o::os)::k) .normal l h↔GStep E cx Q a o os k l h (cV a l.regs o):=by
 rw [Ci];cases cV a l.regs o with
 |none=>exact⟨fun⟨_,e,_⟩=>(by cases e),fun h=>h.elim⟩
 | some b=>
   rw [v9];cases b with
   |true=>rw [if_pos rfl];exact then_step|false=>rw [if_neg (by simp)];exact Xb
theorem g_true{o:Oper}:GStep E cx Q a o os k l h (some true)↔hZ E cx o l (fun e l' h'=>Run E (lim E) cx Q (.ops a os::k) e l' h') (aop E l.ev h o.op):=Xb
theorem g_false{o:Oper}:GStep E cx Q a o os k l h (some false)↔Run E (lim E) cx Q (.ops a os::k) .normal (l.put o.dst (.tuple #[])) h:=Xb
theorem r_cond{c:Operand}{a b:Code}:Run E (lim E) cx Q (.code (.cond c a b)::k) .normal l h↔CStep E cx Q a b k l h (l.ev c):=by
 rw [run_cond];cases l.ev c<;>(try (exact⟨fun⟨_,e,_⟩=>(by cases e),fun h=>h.elim⟩));rename_i t;rw [Db];cases t with
 |true=>rw [if_pos rfl];exact Xb|false=>rw [if_neg (by simp)];exact Xb
theorem c_true{a b:Code}:CStep E cx Q a b k l h (.bool true)↔Run E (lim E) cx Q (.code a::k) .normal l h:=Xb
theorem c_false{a b:Code}:CStep E cx Q a b k l h (.bool false)↔Run E (lim E) cx Q (.code b::k) .normal l h:=Xb
theorem r_opsD{o:Oper}{c:List (Nat×Tch)}:Run E (lim E) cx Q (.opsD a q ps (o::os) i c::k) .normal l h↔yq E cx Q a q ps o os i c k l h (cV a l.regs o) (gQ E q i o.op):=by
 rw [run_opsD];cases cV a l.regs o with
 |none=>exact⟨fun⟨_,e,_⟩=>(by cases e),fun h=>h.elim⟩
 | some b=>
   rw [v9];cases b with
   | true=>
     rw [if_pos rfl];cases gQ E q i o.op with
     |true=>rw [if_pos rfl];exact Xb|false=>rw [if_neg (by simp)];exact Xb
   |false=>rw [if_neg (by simp)];exact Xb
theorem d_skip{o:Oper}{c:List (Nat×Tch)}{b:Bool}:yq E cx Q a q ps o os i c k l h (some false) b↔Run E (lim E) cx Q (.opsD a q ps os (i+1) c::k) .normal (l.put o.dst (.tuple #[])) h:=Xb
theorem kT{a:List (Nat×Tch)}:jm i a none=a:=rfl
theorem aS{b:Tch}{a:List (Nat×Tch)}:jm i a (some b)=(i,b)::a:=rfl
theorem aU{a:List (Nat×Tch)}:dQ a []=true:=rfl
theorem guard_no{b:Tr Value}{d:Option Tmp}{p:String}{c:Array Edge}:cV a b ⟨d,op,t,p,c,none⟩=some true:=rfl
end
theorem b_eqlB{a b:Bool}(c:E.und t=some .bool):bS E .eql t x y (.bool a) (.bool b)=some (.bool (bif a then b else !b)):=by simp [bS,iE,fF,c]
theorem b_neqB{a b:Bool}(c:E.und t=some .bool):bS E .neq t x y (.bool a) (.bool b)=some (.bool (!(bif a then b else !b))):=by simp [bS,iE,fF,c]
theorem same_bool{d:Bool}:(bif d then d else !d)=true:=by cases d<;>rfl
noncomputable def boxR(h:Hp)(t:TypeId):Value->Option (dT×Hp)
 | .chan _=>none|v=>some (.val (ptrTo h.n),h.new (.cells (Tr.ofList (ae v)) (ae v).length t 1))
theorem o_boxR:aop E ρ h (.box t x)=boxR h t (ρ x):=by simp only [aop];cases ρ x<;>rfl
noncomputable def allocR(h:Hp)(t:TypeId):Option (List Value)->Option (dT×Hp)
 |none=>none|some z=>some (.val (ptrTo h.n),h.new (.cells (Tr.ofList z) z.length t 1))
theorem o_allocR:aop E ρ h (.alloc t)=allocR h t (E.zero t):=by simp only [aop];cases E.zero t<;>rfl
section
variable{E:Env}{cx:Cx}{o:Oper}{l:Loc}{K:Ex->Loc->Hp->Prop}{h:Hp}
theorem aA{ops:List Oper}(h:((ops.any uL||um ops)&&ops.all (jV ops.length))=false):c8 ops=ops:=by unfold c8;rw [h];rfl
theorem ar{Q:gJ}{k:List Fr}{id:Nat}{ops:Array Oper}(b:c8 ops.toList=os)(c:lS E os=some (q,ps))(d:Run E (lim E) cx Q (.opsD os q ps os 0 []::k) .normal l h)(a:E.cut cx.fn=false:=by rfl):Run E (lim E) cx Q (.code (.region id ops true)::k) .normal l h:=(run_draw a b c).2 d
theorem Eo{Q:gJ}{k:List Fr}{id:Nat}{ops:Array Oper}(b:lI ops.toList (ops.toList.length-1)=true)(c:cutN ops.toList=n)(d:c8 (ops.toList.take n)=os)(e:lS E os=some (q,ps))
 (f:Run E (lim E) cx Q (.opsD os q ps os 0 []:: .ops ops.toList (ops.toList.drop n)::k) .normal l h) (a:E.cut cx.fn=true:=by rfl) (hf:forkOk E ops.toList=false:=by rfl):Run E (lim E) cx Q (.code (.region id ops true)::k) .normal l h:=run_split a b hf c d e f
end
theorem B7(g:Gr {h with lo:=h.n} h'):Xa h.n h'.lo=true:=g.hlo
theorem gr_lo(g:Gr {h with lo:=h.n} h'):Gr h {h' with lo:=h.lo}:=
 ⟨g.ok0,g.ok,g.n,g.get,fun _ _ h=>h⟩
theorem hush_s:gQ E q i op=(decide (q/2 ^i%2=1)&&decide (3<=cls E op)):=by unfold gQ;rw [Nat.testBit_eq_decide_div_mod_eq,fG]
theorem CQ{K:Value->Hp->Prop}(a:aT E f args {h with lo:=h.n} v)(b: ∀h',Gr h h'->K v h'):
 l9 E (fun v h'=>Xa h.n h'.lo=true/\K v {h' with lo:=h.lo}) (some (.call f args,{h with lo:=h.n})):=
 xL a fun h' g=>⟨B7 g,b _ (gr_lo g)⟩
section
variable(E:Env)(cx:Cx)(Q:gJ)(a:List Oper)(q:Nat)(ps:List (Nat×Nat))(o:Oper)(os:List Oper)(i:Nat)(k:List Fr)(l:Loc)
def DN(c:Hp->List (Nat×Tch))(x:Option (dT×Hp)):Prop:=l9 E (fun v b=>Run E (lim E) cx Q (.opsD a q ps os (i+1) (c b)::k) .normal (l.put o.dst v) b) x
def DQ(h:Hp)(c:List (Nat×Tch))(x:Option (dT×Hp)):Prop:=l9 E (fun v b=>Xa h.n b.lo=true/\Run E (lim E) cx Q (.opsD a q ps os (i+1) c::k) .normal (l.put o.dst v) {b with lo:=h.lo}) x
end
section
variable{E:Env}{cx:Cx}{Q:gJ}{a:List Oper}{q:Nat}{ps:List (Nat×Nat)}{o:Oper}{os:List Oper}{i:Nat}{k:List Fr}{l:Loc}{h:Hp}{tr:List (Nat×Tch)}{tf:Hp->List (Nat×Tch)}
theorem dn_loud:yq E cx Q a q ps o os i tr k l h (some true) false↔DN E cx Q a q ps o os i k l (fun h'=>jm i tr (df l.ev false o.op h h')) (aop E l.ev h o.op):=Xb
theorem dn_quiet:yq E cx Q a q ps o os i tr k l h (some true) true↔DQ E cx Q a q ps o os i k l h (jm i tr (df l.ev true o.op h h)) (aop E l.ev {h with lo:=h.n} o.op):=Xb
theorem dn_val:DN E cx Q a q ps o os i k l tf (some (.val v,h'))↔Run E (lim E) cx Q (.opsD a q ps os (i+1) (tf h')::k) .normal (l.put o.dst v) h':=Xb
theorem dn_skip:DN E cx Q a q ps o os i k l tf (some (.skip,h'))↔Run E (lim E) cx Q (.opsD a q ps os (i+1) (tf h')::k) .normal (l.put o.dst (.tuple #[])) h':=Xb
theorem cu{P:Value->Hp->Prop}(b:Ret E f args h P)(c: ∀v h',P v h'->Run E (lim E) cx Q (.opsD a q ps os (i+1) (tf h')::k) .normal (l.put o.dst v) h'):DN E cx Q a q ps o os i k l tf (some (.call f args,h)):=uu b c
theorem bC(b:aT E f args h v)(c: ∀h',Gr h h'->Run E (lim E) cx Q (.opsD a q ps os (i+1) (tf h')::k) .normal (l.put o.dst v) h'):DN E cx Q a q ps o os i k l tf (some (.call f args,h)):=xL b c
theorem uX(b:aT E f args {h with lo:=h.n} v)(c: ∀h',Gr h h'->Run E (lim E) cx Q (.opsD a q ps os (i+1) tr::k) .normal (l.put o.dst v) h'):DQ E cx Q a q ps o os i k l h tr (some (.call f args,{h with lo:=h.n})):=CQ b c
theorem dq_ret{P:Value->Hp->Prop}(b:Ret E f args {h with lo:=h.n} fun v h'=>Gr {h with lo:=h.n} h'/\P v {h' with lo:=h.lo})(c: ∀v h',Gr h h'->P v h'->Run E (lim E) cx Q (.opsD a q ps os (i+1) tr::k) .normal (l.put o.dst v) h'):DQ E cx Q a q ps o os i k l h tr (some (.call f args,{h with lo:=h.n})):=
 uu b fun v h' ⟨g,p⟩=>⟨B7 g,c v _ (gr_lo g) p⟩
end
theorem ah:ptrTo b=.pointer (some ⟨b,0,none⟩):=rfl
section
open Go.ChangeShapes Go.WideShapes Go.RowKit
theorem len2{c:Type}{l:List c}(h:l.length=2): ∃a b,l=[a,b]:=by
 match l,h with
 | [a,b],_=>exact⟨a,b,rfl⟩
section
variable{H:Type}{enc:TypeId×Value->H}{P:Program}
theorem ug(f:laidOutB P=true){W g:World}(i:Below W.heap.size W g): ∀{ts:List TypeId} {vs:List Value} {c:List (DataW H)} {ps:List MemPlace},(ts.all fun t=>P.readableRec t&&decide (t<P.types.size))=true->
 DataW.TrodAll enc P W 0 (fun _=>true) true ts vs c ps->(∀x∈ps,x.block<W.heap.size)->DataW.TrodAll enc P g 0 (fun b=>decide (b<W.heap.size)) true ts vs c ps
 | [],vs,c,ps,_,h,_=>by
   obtain⟨rfl,rfl,rfl⟩:=trodAll_nil h;exact rfl
 | t::ts,vs,c,ps,a,h,hlt=>by obtain⟨v,j,d,k,p,q,rfl,rfl,rfl,l,m⟩:=trodAll_cons h;simp only [List.all_cons,Xh,decide_eq_true_eq]at a;exact⟨p,q,Below.trod f a.1.1 a.1.2 l i (fun x e=>hlt x (by simp [e])),ug f i a.2 m (fun x e=>hlt x (by simp [e])),rfl⟩
theorem AD{f:Func}{s:ChangeSpec}{a b:Bool}{u:World}{args:Array Value}{g:List (DataW H)}{c:List MemPlace}{bt:TypeId}
 (y:laidOutB P=true) (k:(f.params.toList.all fun t=>P.readableRec t&&decide (t<P.types.size))=true) (v:s.vars=[])
 (l:DataW.Whole enc P f.params.toList s.vars a W args.toList g [] c) (d:s.fn H (g++[])={results:=[.lit (.bool true)],args:=g}) (j:Below W.heap.size W u)
 (m:P.underlying bt=some .bool) (n:f.resultTypes=#[bt]):
 s.post enc P f a true b false W args (.bool true) u:=by
 have hlt:=l.lt;have o:=l;obtain⟨p,q,z,w,rfl,C,D⟩:=l;rw [v]at w;obtain⟨_,rfl⟩:=trodVars_none w;refine⟨g,[],_,[],p,[],o,?_,?_,?_,⟨j.os,j.output,fun i A=>?_⟩,fun h=>by cases h⟩
 . rw [d,n];exact trodAll_cons_mk (shut_bool m _) trodAll_mk0
 . rw [d];exact ug y j k z (fun x B=>hlt x (by simpa using B))
 . rw [d,v];rfl
 . rw [j.block i A]
   split
   . rename_i r e;rw [r]at e;cases e;exact⟨rfl,rfl,rfl,fun _ _=>rfl⟩
   . rename_i r e;rw [r]at e;cases e;exact .inr ⟨rfl,rfl⟩
   . rfl
end
end
section
open Go.ChangeShapes Go.WideShapes Go.RowKit
noncomputable section
def lO(n:Nat):Value->Value
 | .bool b=>.bool b| .int k i=>.int k i| .string s=>.string s| .pointer none=>.pointer none| .pointer (some a)=>if a.spot=none/\a.block<n then .pointer (some ⟨a.block+16,a.off,none⟩)else poison
 | .slice none 0 0=>.slice none 0 0| .slice (some a) c d=>if c<=d then(if a.spot=none/\a.block<n then .slice (some ⟨a.block+16,a.off,none⟩) c d else .slice (some ⟨0,0,none⟩) c d)else poison
 |_=>poison
def absA(n:Nat):Value->Value
 | .agg a=>.agg ⟨a.toList.map (lO n)⟩|v=>lO n v
def absO(n:Nat):Obj->Blk
 | .cells a _ _=>.cells (Tr.ofList (a.toList.map (lO n))) (a.toList.map (lO n)).length 0 0|_=>.dead
def hpW(W:World):Hp:={n:=16+W.heap.size,t:=Tr.ofList (Xf 16 .dead++W.heap.toList.map (absO W.heap.size)),lo:=16+W.heap.size}
def muW(W:World):Mu:=fun b=>if b<16 then .dead else match W.heap[b-16]? with
 |some (.cells a _ _)=>.blk (b-16) 0 a.size|some _=>.dead|none=>.none
theorem hpW_ok(W:World):(hpW W).t.Sized (hpW W).n:=by
 have h:=Tr.sized_ofList (Xf 16 Blk.dead++W.heap.toList.map (absO W.heap.size));have a:(Xf 16 Blk.dead++W.heap.toList.map (absO W.heap.size)).length=16+W.heap.size:=by grind
 rw [a]at h;exact h
theorem hpW_dead(W:World)(h:b<16):(hpW W).get b=some .dead:=by show(Tr.ofList _).get b=_;rw [Tr.get_ofList,Xr (by simpa using h),Xv,if_pos h]
theorem uF(W:World)(c:Nat):(hpW W).get (c+16)=(W.heap[c]?).map (absO W.heap.size):=by show(Tr.ofList _).get (c+16)=_;rw [Tr.get_ofList,List.getElem?_append_right (by simp)];simp
theorem qu(W:World)(c:Nat):muW W (c+16)=match W.heap[c]? with
 |some (.cells cs _ _)=>.blk c 0 cs.size|some _=>.dead|none=>.none:=by
 rfl
theorem arel_W{a:Addr}(h:a.spot=none/\a.block<W.heap.size):gf (muW W) ⟨a.block+16,a.off,none⟩ a:=by obtain⟨b,o,s⟩:=a;grind[gf,qu,Xj]
theorem vrel_V(W:World)(v:Value):az (muW W) (lO W.heap.size v) v:=by
 cases v<;>(try exact .poison _)
 . exact .bool _
 . exact .int _ _
 . exact .string _
 . rename_i a;cases a with
   |none=>exact .nilp| some a=>
     simp only [lO]
     split
     . exact .ptr (arel_W ‹_›)
     . exact .poison _
 . rename_i a d e;cases a with
   | none=>
     cases d with
     | zero=>cases e with
       |zero=>exact .nils|succ n=>exact .poison _
     |succ n=>exact .poison _
   | some a=>
     simp only [lO]
     split
     . rename_i c
       split
       . rename_i h;refine .slice c ?_;have:=arel_W h;obtain⟨b,o,s⟩:=a;grind[fj,qu,Xj]
       . refine .slice c ?_;simp_all[fj,muW,Xi]
     . exact .poison _
theorem vrel_A(W:World)(v:Value):az (muW W) (absA W.heap.size v) v:=by
 cases v
 case agg b=>
  refine .agg (by simp) fun i x c a d=>?_;simp only [Xq,Xl]at a;obtain⟨y,e,rfl⟩:=a;grind[vrel_V]
 all_goals (unfold absA;exact vrel_V W _)
theorem hrelW(W:World):aY (muW W) (hpW W) W:=by
 refine⟨hpW_ok W,fun b c a e d=>?_,fun b d=>?_,fun b t c a e f l u w=>?_,fun b d=>?_⟩
 . have x:16<=b:=by
    rcases Xm b 16 with h|h
    . simp_all[muW,if_pos]
    . exact h
   obtain⟨k,rfl⟩: ∃k,b=k+16:=⟨b-16,by omega⟩;rw [qu]at d
   split at d
   next m n p q=>
    cases d;refine⟨absO W.heap.size (.cells m n p),_,by rw [uF,q];rfl,q,m,n,p,rfl,rfl,by simp,Tr.sized_ofList _,fun i v g=>?_,fun h=>absurd rfl h⟩;rw [Tr.get_ofList]at g;simp only [Xq,Xl]at g;obtain⟨y,z,rfl⟩:=g;grind[vrel_V]
   next=>cases d
   next=>cases d
 . rcases Xm b 16 with h|h
   . exact hpW_dead W h
   . obtain⟨k,rfl⟩: ∃k,b=k+16:=⟨b-16,by omega⟩;rw [qu]at d
     split at d
     next=>cases d
     next o r j=>
      rw [uF,j];cases o<;>first|rfl|grind
     next=>cases d
 . have s: ∀b c a e,muW W b=.blk c a e->b=c+16:=by
    intro b c a e d;rcases Xm b 16 with h|h
    . simp_all[muW,if_pos]
    . obtain⟨k,rfl⟩: ∃k,b=k+16:=⟨b-16,by omega⟩;grind[qu]
   grind
 . show b<16+W.heap.size;rcases Xm b 16 with h|h
   . omega
   . obtain⟨k,rfl⟩: ∃k,b=k+16:=⟨b-16,by omega⟩;rw [qu]at d;grind
theorem globW(W:World):nQ (muW W):=by intro g a;simp_all[gf,muW,if_pos]
theorem belowW{w':World}{f:Mu}(e:Ext (muW W) (hpW W) W f h' w'):Below W.heap.size W w':=by
 refine⟨e.os,e.tape,e.output,e.wsize,fun c i=>?_⟩;cases m:W.heap[c]with
 | cells g n o=>have j:W.heap[c]? =some (.cells g n o):=(by grind);have p:muW W (c+16)=.blk c 0 g.size:=(by rw [qu,j]);exact(e.ro (c+16) c 0 g.size _ _ 0 p (by rw [uF,j];rfl)).1| _ =>
   refine e.frame c i fun b l q a=>?_;rcases Xm b 16 with h|h
   . unfold muW at a;rw [if_pos h]at a;cases a
   . obtain⟨k,rfl⟩: ∃k,b=k+16:=⟨b-16,by omega⟩;rw [qu]at a
     split at a
     next r s t d=>
      cases a;rw [Xj i,m]at d;cases d
     next=>cases a
     next=>cases a
theorem calls_W(d:EOk E P){args:Array Value}(h:aT E f (args.toList.map (absA W.heap.size)) (hpW W) (.bool true)):
 Calls P f args W fun e w'=>e=.returned (.bool true)/\Below W.heap.size W w':=by
 obtain⟨v,A,j,rfl,g⟩:=h;intro k;obtain⟨_,a⟩:=lim_ok d _ _ _ _ _ _ _ j;have l:VL (muW W) (args.toList.map (absA W.heap.size)) args.toList:=by refine⟨by simp,fun i x B a C=>?_⟩;simp only [Xq,Xl]at a;obtain⟨y,D,rfl⟩:=a;grind[vrel_A]
 obtain⟨m,w',c,n,F,o,G,p,q,r,s⟩:=a (muW W) W args none k .normal (hrelW W) (globW W) l trivial (.inl rfl);have:=p.normal;subst this;obtain⟨H,b,t⟩:=r;cases t;obtain⟨u,w,z⟩:=b.res;exact⟨.returned (.bool true),w',n,⟨rfl,belowW o⟩,q,s,b.mode,b.defers,b.kind,u,w,z⟩
theorem load_W{a:Addr}(c:a.spot=none)(h:W.cell? (a.add i)=some v):(hpW W).load (a.block+16) (a.off+i) 1=some [lO W.heap.size v]:=by
 obtain⟨b,o,s⟩:=a;simp only []at c;subst c;have d:(Addr.mk b o none).add i=⟨b,o+i,none⟩:=by grind[Addr.add]
 rw [d]at h;unfold World.cell? at h;simp only []at h
 split at h
 next e k l f=>
  have g:Row (hpW W) (b+16) (e.toList.map (lO W.heap.size)) 0:=⟨_,_,by rw [uF,f];rfl,Tr.sized_ofList _,fun j=>Tr.get_ofList _ j⟩;refine g.load1 ?_;grind
 grind
end
end
def argEq:Value->Value->Bool
 | .int k a,.int c b=>kW k c&&jO a b| .bool a,.bool b=>bif a then b else !b
 | .string s,.string u=>jf (aM s) (aM u)|_,_=>false
def rC:List Value->List Value->Bool
 | [],[]=>true|a::l,b::m=>argEq a b&&rC l m|_,_=>false
def orcOf:List (Nat×List Value×Value)->Nat->List Value->Option Value
 | [],_,_=>none|(f,as,v)::l,g,a=>bif Xe f g&&rC as a then some v else orcOf l g a
theorem Co{a b:Value}(h:argEq a b=true):a=b:=by
 unfold argEq at h
 split at h
 . rename_i k m c n;simp only [Xh]at h;have d:k=c:=(by simpa [je]using h.1);have e:m=n:=(by simpa [jd]using h.2);rw [d,e]
 . rename_i a b;cases a<;>cases b<;>first|rfl|cases h
 . rename_i s u;have this:s.data.toList=u.data.toList:=(by have:=h;rw [kM]at this;simpa [aM]using this);cases s with|mk a=>cases u with|mk b=>rw [show a=b from Array.ext' this]
 . cases h
theorem Ad: ∀{a b:List Value},rC a b=true->a=b
 | [],[],_=>rfl| [],_::_,h=>by simp [rC]at h|_::_,[],h=>by simp [rC]at h| a::x,b::y,h=>by simp only [rC,Xh]at h;rw [Ad h.2,Co h.1]
theorem zz{P:Nat->List Value->Value->Prop}: ∀{l:List (Nat×List Value×Value)},(∀e∈l,P e.1 e.2.1 e.2.2)-> ∀{g:Nat} {args:List Value} {v:Value},orcOf l g args=some v->P g args v
 | [],_,g,args,v,h=>by cases h
 | (f,as,x)::l,b,g,args,v,h=>by
   simp only [orcOf]at h;cases a:Xe f g&&rC as args with
   | true=>
     rw [a]at h;cases h;simp only [Xh]at a;have c:=Xw a.1;have d:=Ad a.2;subst c;subst d;exact b _ (List.mem_cons_self)
   | false=>
     rw [a]at h;exact zz (fun e i=>b e (Xz _ i)) h
def isVal(v:Value)(r:Option (Out×Option (Value×Bool)×Hp)):Bool:=match r with
 |some (.ret u,none,_)=>argEq u v|_=>false
theorem isVal_ret{r:Option (Out×Option (Value×Bool)×Hp)}(h:isVal v r=true): ∃h',r=some (.ret v,none,h'):=by
 unfold isVal at h
 split at h
 . rw [Co h];exact⟨_,rfl⟩
 . cases h
def Known(E:Env)(P:Program)(e:Nat×List Value×Value):Prop:=(∃a,E.fn e.1=some a/\a.body.isSome=true)/\OrcAt P e.1 e.2.1 e.2.2
theorem known_of(c:EOk E P){f:Nat}(b:(args.all dp&&dp v)=true)(a:isVal v ((runK E n).call f args none hp0)=true):Known E P (f,args,v):=by simp only [Xh]at b;obtain⟨d,a⟩:=isVal_ret a;rw [runK_call]at a;exact ED c b.1 b.2 a
theorem eok_table(b:EOk E P){l:List (Nat×List Value×Value)}(c: ∀e∈l,Known E P e):EOk (yU E (orcOf l)) P:=
 eok_with b fun _ _ _ h=>zz (P:=fun g a v=>Known E P (g,a,v)) c h
inductive Ob where
 |row (l:List Value) (md:Nat)
 |map (es:List (Value×Value×Nat)) (c:Nat)
 |loop (x:fZ)
 |dfr
def Has(h:Hp)(b:Nat):Ob->Prop
 | .row l a=>Row h b l a| .map d c=>h.get b=some (.map d c)| .loop x=>h.get b=some (.loop x)| .dfr=>h.get b=some .dfr
theorem Row.of_get(e:h'.get b=h.get b)(k:Row h b l md):Row h' b l md:=by obtain⟨t,f,a,c,d⟩:=k;exact⟨t,f,by rw [e];exact a,c,d⟩
theorem Has.of_get{h h':Hp}{b:Nat}{o:Ob}(e:h'.get b=h.get b)(k:Has h b o):Has h' b o:=by
 cases o with
 |row l a=>exact Row.of_get e k|map d c=>exact e.trans k|loop x=>exact e.trans k|dfr=>exact e.trans k
theorem Has.lt{h:Hp}(a:OZ h){b:Nat}{o:Ob}(k:Has h b o):b<h.n:=by
 cases o with
 |row l d=>exact Row.lt a k|map e c=>exact iF a k|loop x=>exact iF a k|dfr=>exact iF a k
structure Mo(M:Nat->Prop)(h h':Hp):Prop where
 ok0:OZ h
 ok:OZ h'
 n:h.n<=h'.n
 get: ∀b,b<h.n-> ¬M b->h'.get b=h.get b
 lo: ∀x,x<=h.n->x<=h.lo->(∀b,M b->x<=b)->x<=h'.lo
abbrev NoM:Nat->Prop:=fun _=>False
theorem Gr.fr(g:Gr h h'):Mo M h h':=⟨g.ok0,g.ok,g.n,fun b a _=>g.get b a,fun x c d _=>g.lo x c d⟩
theorem Mo.gr(g:Mo NoM h h'):Gr h h':=⟨g.ok0,g.ok,g.n,fun b a=>g.get b a (fun x=>x),fun x c d=>g.lo x c d (fun _ h=>h.elim)⟩
theorem Mo.refl{M:Nat->Prop}{h:Hp}(a:OZ h):Mo M h h:=(Gr.refl a).fr
theorem Mo.trans{M M':Nat->Prop}{a b c:Hp}(x:Mo M a b)(y:Mo M' b c)(e: ∀i,M' i->M i\/a.n<=i):Mo M a c:=
 ⟨x.ok0,y.ok,Xt x.n y.n,fun i f g=>(y.get i (Nat.lt_of_lt_of_le f x.n) (fun d=>(e i d).elim g (fun h=>by omega))).trans (x.get i f g),
  fun i k m l=>y.lo i (Xt k x.n) (x.lo i k m l) fun j n=>(e j n).elim (l j) (fun h=>by omega)⟩
theorem Mo.mono{M':Nat->Prop}{a b:Hp}(x:Mo M a b)(c: ∀i,M i->M' i):Mo M' a b:=
 ⟨x.ok0,x.ok,x.n,fun i d e=>x.get i d (fun h=>e (c i h)),fun i f g k=>x.lo i f g fun j l=>k j (c j l)⟩
theorem Mo.new{M:Nat->Prop}{a h:Hp}(g:Mo M a h)(x:Blk):Mo M a (h.new x):=g.trans (M':=NoM) (Gr.new g.ok x).fr (fun _ h=>h.elim)
theorem Mo.put{M:Nat->Prop}{a h:Hp}(g:Mo M a h){b:Nat}(f:a.n<=b\/M b)(x:Blk):Mo M a (h.put b x):=by refine g.trans (M':=fun i=>i=b) ⟨g.ok,put_ok g.ok b x,Xi _,fun i j c=>dG (fun e=>c e.symm),fun i k l d=>?_⟩ (fun i h=>by grind);show i<=d6 b h.lo;have:=d b rfl;grind[d6,Xa]
theorem Mo.has{a:Hp}(g:Mo M a h){o:Ob}(k:Has a b o)(c: ¬M b):Has h b o:=Has.of_get (g.get b (k.lt g.ok0) c) k
abbrev GL:=Value×Nat×List Value
def eJ:GL->Option Nat
 |(.slice (some a) _ _,_,_)=>some a.block|_=>none
def ik(h:Hp)(p:GL):Prop:=(p.1=.slice none 0 0/\p.2.2=[])\/ ∃b n,p.1=.slice (some ⟨b,0,some p.2.1⟩) n n/\n*p.2.1=p.2.2.length/\Row h b p.2.2 1
def keys(L:List (Nat×Ob))(G:List GL):List Nat:=L.map Prod.fst++G.filterMap eJ
structure St(M:Nat->Prop)(h0 h:Hp)(L:List (Nat×Ob))(G:List GL):Prop where
 fr:Mo M h0 h
 own: ∀p∈L,(h0.n<=p.1\/M p.1)/\Has h p.1 p.2
 gown: ∀p∈G,ik h p/\ ∀b,eJ p=some b->h0.n<=b\/M b
 apart:(keys L G).Nodup
section
variable{M:Nat->Prop}{h0 h:Hp}{L:List (Nat×Ob)}{G:List GL}
theorem ik.of_get{h':Hp}{p:GL}(k:ik h p)(e: ∀b,eJ p=some b->h'.get b=h.get b):ik h' p:=by
 rcases k with k|⟨b,n,a,c,d⟩
 . exact .inl k
 . refine .inr ⟨b,n,a,c,Row.of_get (e b ?_) d⟩;obtain⟨v,k,f⟩:=p;simp only []at a;subst a;rfl
theorem ik.lt(d:OZ h){p:GL}(k:ik h p){b:Nat}(c:eJ p=some b):b<h.n:=by
 rcases k with k|⟨j,n,a,e,f⟩
 . obtain⟨v,g,i⟩:=p;obtain⟨a,e⟩:=k;simp only []at a;subst a;cases c
 . obtain⟨v,g,i⟩:=p;simp only []at a;subst a;cases c;exact Row.lt d f
theorem iV{p:Nat×Ob}(a:p∈L):p.1∈keys L G:=List.mem_append_left _ (XA a)
theorem fJ{p:GL}(a:p∈G)(c:eJ p=some b):b∈keys L G:=List.mem_append_right _ (List.mem_filterMap.2 ⟨p,a,c⟩)
theorem St.key_lt(S:St M h0 h L G)(a:b∈keys L G):b<h.n:=by
 unfold keys at a;rcases List.mem_append.1 a with a|a
 . obtain⟨p,c,rfl⟩:=List.mem_map.1 a;exact(S.own p c).2.lt S.fr.ok
 . obtain⟨p,c,d⟩:=List.mem_filterMap.1 a;exact(S.gown p c).1.lt S.fr.ok d
theorem St.init(a:OZ h):St M h h [] []:=⟨Mo.refl a,fun _ h=>(by cases h),fun _ h=>(by cases h),.nil⟩
theorem St.ok(S:St M h0 h L G):OZ h:=S.fr.ok
theorem St.gr(S:St NoM h0 h L G):Gr h0 h:=S.fr.gr
theorem St.push(S:St M h0 h L G){o:Ob}(d:h0.n<=b\/M b)(e:Has h b o)(c:b∉keys L G):St M h0 h ((b,o)::L) G:=
 ⟨S.fr,fun p a=>by
  rcases List.mem_cons.1 a with rfl|a
  . grind
  . exact S.own p a,S.gown,List.nodup_cons.2 ⟨c,S.apart⟩⟩
theorem St.step(S:St M h0 h L G){M':Nat->Prop}(f:Mo M' h h')(e: ∀b,M' b->M b\/h0.n<=b)(c: ∀b∈keys L G,¬M' b):St M h0 h' L G:=
 ⟨S.fr.trans f e,fun p a=>⟨(S.own p a).1,f.has (S.own p a).2 (c _ (iV a))⟩,
  fun p a=>⟨(S.gown p a).1.of_get fun b d=>f.get b ((S.gown p a).1.lt S.ok d) (c b (fJ a d)),(S.gown p a).2⟩,S.apart⟩
theorem St.call(S:St M h0 h L G)(g:Gr h h'):St M h0 h' L G:=S.step (M':=NoM) g.fr (fun _ h=>h.elim) (fun _ _ h=>h)
theorem St.new(S:St M h0 h L G){x:Blk}{o:Ob}(a:Has (h.new x) h.n o):St M h0 (h.new x) ((h.n,o)::L) G:=
 (S.call (Gr.new S.ok x)).push (.inl S.fr.n) a (fun b=>by have:=S.key_lt b;omega)
theorem St.newG(S:St M h0 h L G){x:Blk}{k:Nat}(d:n*k=vs.length)(f:Row (h.new x) h.n vs 1):St M h0 (h.new x) L ((.slice (some ⟨h.n,0,some k⟩) n n,k,vs)::G):=by
 have a:=S.call (Gr.new S.ok x);refine⟨a.fr,a.own,fun p c=>?_,?_⟩
 . rcases List.mem_cons.1 c with rfl|c
   . exact⟨.inr ⟨_,n,rfl,d,f⟩,fun b g=>by cases g;exact .inl S.fr.n⟩
   . exact a.gown p c
 . unfold keys;have e:List.filterMap eJ ((Value.slice (some ⟨h.n,0,some k⟩) n n,k,vs)::G)=h.n::List.filterMap eJ G:=rfl;rw [e];refine(List.perm_middle.nodup_iff).2 (List.nodup_cons.2 ⟨fun i=>?_,S.apart⟩);have:=S.key_lt i;omega
theorem St.nilG(S:St M h0 h L G){k:Nat}:St M h0 h L ((.slice none 0 0,k,[])::G):=
 ⟨S.fr,S.own,fun p a=>by
  rcases List.mem_cons.1 a with rfl|a
  . exact⟨.inl ⟨rfl,rfl⟩,fun b c=>by cases c⟩
  . exact S.gown p a,S.apart⟩
theorem oa{a:Type}{l:List a}{x y:a}(h:y∈l.set i x):y=x\/ ∃j,j≠i/\l[j]? =some y:=by rw [List.mem_iff_getElem?]at h;grind
theorem qg{a:Type}{l:List a}(h:l.Nodup){x:a}(b:l[i]? =some x)(c:l[j]? =some x):i=j:=by grind[Xs,Nat.lt_trichotomy,absurd,List.pairwise_iff_getElem]
theorem oz{L:List (Nat×Ob)}{G:List GL}{p:Nat×Ob}(a:L[i]? =some p):(keys L G)[i]? =some p.1:=by grind[keys,Xs,Xr]
theorem St.put(S:St M h0 h L G){i b:Nat}{o o':Ob}(g:L[i]? =some (b,o)){x:Blk}(q:Has (h.put b x) b o'):St M h0 (h.put b x) (L.set i (b,o')) G:=by
 have k:=S.own _ (zO g);have f:(keys L G)[i]? =some b:=oz g;refine⟨S.fr.put k.1 x,fun p a=>?_,fun p a=>⟨(S.gown p a).1.of_get fun c l=>?_,(S.gown p a).2⟩,?_⟩
 . rcases oa a with rfl|⟨j,m,a⟩
   . grind
   . have d:=S.own p (zO a);refine⟨d.1,d.2.of_get (dG fun e=>m ?_)⟩;have n:(keys L G)[j]? =some b:=(by rw [oz a];rw [e]);exact qg S.apart n f
 . refine dG fun e=>?_;subst e;have d:=S.apart;unfold keys at d;rw [List.nodup_append]at d;exact d.2.2 b (List.mem_map.2 ⟨_,zO g,rfl⟩) b (List.mem_filterMap.2 ⟨p,a,l⟩) rfl
 . have:keys (L.set i (b,o')) G=keys L G:=(by unfold keys;congr 1;rw [List.map_set];refine Xk fun j=>?_;grind);rw [this];exact S.apart
theorem St.row(S:St M h0 h L G){b:Nat}{l:List Value}{md:Nat}(a:(b,Ob.row l md)∈L):Row h b l md:=(S.own _ a).2
theorem St.ld(S:St M h0 h L G)(a:(b,Ob.row l md)∈L)(c:l[o]? =some v):h.load b o 1=some [v]:=(S.row a).load1 c
theorem St.lds(S:St M h0 h L G)(a:(b,Ob.row l md)∈L)(c:o+n<=l.length):h.load b o n=some ((l.drop o).take n):=(S.row a).load c
theorem m0{b:Type}{a:b}{l:List b}:a∈a::l:=List.mem_cons_self
theorem m1{c:Type}{a b:c}{l:List c}:a∈b::a::l:=.tail _ m0
theorem m2{d:Type}{a b c:d}{l:List d}:a∈b::c::a::l:=.tail _ m1
theorem m3{e:Type}{a b c d:e}{l:List e}:a∈b::c::d::a::l:=.tail _ m2
theorem m4{f:Type}{a b c d e:f}{l:List f}:a∈b::c::d::e::a::l:=.tail _ m3
theorem m5{g:Type}{a b c d e f:g}{l:List g}:a∈b::c::d::e::f::a::l:=.tail _ m4
theorem m6{i:Type}{a b c d e f g:i}{l:List i}:a∈b::c::d::e::f::g::a::l:=.tail _ m5
theorem m7{j:Type}{a b c d e f g i:j}{l:List j}:a∈b::c::d::e::f::g::i::a::l:=.tail _ m6
theorem St.old(S:St M h0 h L G)(e:h0.load b o n=some l)(a: ¬M b):h.load b o n=some l:=by have:=S.fr.get b (bD S.fr.ok0 e) a;grind[Hp.load]
end
def rU(h:Hp)(X:Hp->Option (dT×Hp))(F:Nat->Value)(o:Ob):Prop:=
 ∃a,(∀x,X {h with lo:=x}=some (.val (F h.n),({h with lo:=x}:Hp).new a))/\(OZ h->Has (h.new a) h.n o)
section
variable{M:Nat->Prop}{h0 h:Hp}{L:List (Nat×Ob)}{G:List GL}
section
variable{E:Env}{cx:Cx}{o:Oper}{l:Loc}{K:Ex->Loc->Hp->Prop}{X:Hp->Option (dT×Hp)}{F:Nat->Value}{ob:Ob}
theorem ac(N:rU h X F ob)(S:St M h0 h L G)(a: ∀h' b,St M h0 h' ((b,ob)::L) G->h0.n<=b->K .normal (l.put o.dst (F b)) h'):hZ E cx o l K (X h):=by obtain⟨c,d,f⟩:=N;have e:X h=_:=d h.lo;rw [e];exact a _ _ (S.new (f S.ok)) S.fr.n
theorem dg{Q:gJ}{k:List Fr}{c:List (Nat×Tch)}(N:rU h X F ob)(S:St M h0 h L G)
 (d: ∀h' b,St M h0 h' ((b,ob)::L) G->h0.n<=b->b=h.n->Run E (lim E) cx Q (.opsD a q ps os (i+1) c::k) .normal (l.put o.dst (F b)) h'):DQ E cx Q a q ps o os i k l h c (X {h with lo:=h.n}):=by
 obtain⟨e,f,g⟩:=N;rw [f];exact⟨zM (Xi _),d _ _ (S.new (g S.ok)) S.fr.n rfl⟩
end
theorem aV(b: ∀x,v≠ .chan x):rU h (fun h=>boxR h t v) ptrTo (.row (ae v) 1):=by refine⟨.cells (Tr.ofList (ae v)) (ae v).length t 1,fun x=>?_,fun a=>qY a _ _ _⟩;cases v<;>first|rfl|grind
theorem aB{z:List Value}:rU h (fun h=>allocR h t (some z)) ptrTo (.row z 1):=
 ⟨.cells (Tr.ofList z) z.length t 1,fun _=>rfl,fun a=>qY a _ _ _⟩
noncomputable def mapR(h:Hp):Option (dT×Hp):=some (.val (.map (some h.n)),h.new (.map [] 0))
theorem EE:aop E ρ h (.makeMap t none)=mapR h:=rfl
theorem oq:rU h mapR (fun b=>.map (some b)) (.map [] 0):=⟨.map [] 0,fun _=>rfl,fun a=>by show(h.new _).get h.n=_;rw [h.get_new _ a,if_pos rfl]⟩
theorem Ct(a:List Value): ∀n,(bJ a n).length=n*a.length
 |0=>by simp [bJ]|n+1=>by simp only [bJ,Xc,Ct a n];rw [XB];omega
theorem row_blank(a:OZ h)(z:Value)(n:Nat)(e:TypeId):Row (h.new (.cells (Tr.blank z n n) n e 1)) h.n (Xf n z) 1:=by
 refine⟨Tr.blank z n n,e,?_,?_,fun i=>?_⟩
 . rw [h.get_new _ a,if_pos rfl,Xx]
 . rw [Xx];exact Tr.sized_blank _ _ _ (Xi _)
 . rw [Tr.get_blank _ _ _ (Xi _),Xv]
def fU(E:Env)(e:TypeId)(a k:Nat)(b:List Value):Prop:=(∃i,E.ty e=some i/\i.bytes=a/\i.size=k)/\E.zero e=some b/\b.length=k
theorem mr{d k:Nat}{c:List Value}{kd kd':IntKind}{n:Int}(o:E.und t=some (.slice e))(u:fU E e d k c)(h0:0<=n)(v:n.toNat*(d+1)<=70368744177664):
 rU h (fun h=>dC (kE E h t (.int kd n) (.int kd' n))) (fun b=>.slice (some ⟨b,0,none⟩) n.toNat n.toNat) (.row (bJ c n.toNat) 1):=by
 obtain⟨⟨i,p,rfl,rfl⟩,q,w⟩:=u;obtain⟨m,rfl⟩:=Int.eq_ofNat_of_zero_le h0;have hle:Xa (m*(i.bytes+1)) 70368744177664=true:=zM v;have r:Xe c.length i.size=true:=by simp_all
 have f:natV (.int kd (m:Int))=some m:=rfl;have g:natV (.int kd' (m:Int))=some m:=rfl;have s:(Xa m m&&Xa (m*(i.bytes+1)) 70368744177664)=true:=by simp_all
 by_cases y: ∃z,c=[z]
 . obtain⟨z,rfl⟩:=y;refine⟨.cells (Tr.blank z m m) m e 1,fun x=>?_,fun j=>?_⟩
   . simp only [kE,o,p,q,f,g,s,r,cond_true,dC];rfl
   . have:bJ [z] (m:Int).toNat=Xf m z:=by
      have: ∀n,bJ [z] n=Xf n z:=by intro n;induction n with
       |zero=>rfl|succ n A=>simp [bJ,A,List.replicate_succ]
      exact this m
     rw [this];exact row_blank j z m e
 . refine⟨.cells (Tr.ofList (bJ c m)) (m*i.size) e 1,fun x=>?_,fun j=>?_⟩
   . simp only [kE,o,p,q,f,g,s,r,cond_true];cases c with
     |nil=>rfl| cons a l=>
       cases l with
       |nil=>grind|cons b l=>rfl
   . have:=qY j (bJ c m) e 1;rw [Ct,w]at this;show Row _ _ (bJ c m) 1;omega
theorem St.store(S:St M h0 h L G){E:Env}{t:TypeId}{i b off n md:Nat}{s:Option Nat}{l:List Value}{v:Value}(c:L[i]? =some (b,.row l md))(g:E.sz t=some n)(j: ∀x,v≠ .chan x)(d:(ae v).length=n)
 (hf:(ae v).all mN=true) (e:off+n<=l.length) (a:md≠0): ∃h',jZ E h t (.pointer (some ⟨b,off,s⟩)) v=some h'/\St M h0 h' (L.set i (b,.row (lay l off (ae v)) md)) G/\Mo (· =b) h h':=by
 subst d;obtain⟨x,k,f⟩:=(S.row (zO c)).store S.ok a (vs:=ae v) e hf;refine⟨h.put b x,?_,S.put c f,(Mo.refl (M:=(· =b)) S.ok).put (.inr rfl) x⟩;grind[jZ,Xe,ae,Xn]
section
variable{E:Env}{cx:Cx}{o:Oper}{l:Loc}{K:Ex->Loc->Hp->Prop}
theorem aC{x:Option Hp}{P:Hp->Prop}(a: ∃h',x=some h'/\P h')(b: ∀h',P h'->K .normal (l.put o.dst (.tuple #[])) h'):hZ E cx o l K (iu x):=by obtain⟨h',rfl,c⟩:=a;exact b h' c
theorem dV{x:Option (Hp×Value)}{P:Hp->Value->Prop}(a: ∃h' v,x=some (h',v)/\P h' v)(b: ∀h' v,P h' v->K .normal (l.put o.dst v) h'):hZ E cx o l K (dC x):=by obtain⟨h',v,rfl,c⟩:=a;exact b h' v c
theorem cP{Q:gJ}{k:List Fr}{b:Hp->List (Nat×Tch)}{x:Option Hp}{P:Hp->Prop}(c: ∃h',x=some h'/\P h')
 (d: ∀h',P h'->Run E (lim E) cx Q (.opsD a q ps os (i+1) (b h')::k) .normal (l.put o.dst (.tuple #[])) h'):DN E cx Q a q ps o os i k l b (iu x):=by
 obtain⟨h',rfl,e⟩:=c;exact d h' e
theorem mw{Q:gJ}{k:List Fr}{b:Hp->List (Nat×Tch)}{x:Option (Hp×Value)}{P:Hp->Value->Prop}(c: ∃h' v,x=some (h',v)/\P h' v)
 (d: ∀h' v,P h' v->Run E (lim E) cx Q (.opsD a q ps os (i+1) (b h')::k) .normal (l.put o.dst v) h'):DN E cx Q a q ps o os i k l b (dC x):=by
 obtain⟨h',v,rfl,e⟩:=c;exact d h' v e
end
theorem rQ{L:List (Nat×Ob)}{G:List GL}{p c:GL}(i:(keys L G).Nodup)(d:G[j]? =some p)(e:eJ c=some b)(a:b∉keys L G):(keys L (G.set j c)).Nodup:=by
 obtain⟨hlt,f⟩:=List.getElem?_eq_some_iff.1 d;have k:G=G.take j++p::G.drop (j+1):=by rw [<-f,List.getElem_cons_drop hlt,List.take_append_drop]
 have g:G.set j c=G.take j++c::G.drop (j+1):=List.set_eq_take_append_cons_drop.trans (if_pos hlt);unfold keys at*
 rw [g,List.filterMap_append,List.filterMap_cons_some e,<-List.append_assoc];refine List.perm_middle.nodup_iff.2 (List.nodup_cons.2 ⟨fun l=>a ?_,?_⟩)
 . grind
 grind
theorem St.grow (S:St M h0 h L G)  {tx:TypeId} {u k m:Nat} {zs new:List Value} {x:Value} (J:G[j]? =some (v,k,vs)) (hu:E.und t=some (.slice e)) (he:fU E e u k zs) (K:0<u)
 (O:eR E tx=some false) (ad:aP h k x=some (m,new)) (hm:m*k=new.length) (z:0<k) (hf:new.all mN=true) (P:(vs.length+new.length)*(u+1)<=70368744177664) {ts:List TypeId}:
 ∃h' v',dL E h (t::tx::ts) v x=some (h',v')/\St M h0 h' L (G.set j (v',k,vs++new)):=by
 obtain⟨⟨i,hi,rfl,rfl⟩,hz,hl⟩:=he;have hlt:=(List.getElem?_eq_some_iff.1 J).1;obtain⟨hg,A⟩:=S.gown _ (zO J);have af : ∀ a d,v=.slice a d d->d*i.size=vs.length->(a=none/\d=0\/ ∃b,a=some ⟨b,0,some i.size⟩/\Row h b vs 1)->
  ∃h' v',ib E h e i a d d m new=some (h',v')/\St M h0 h' L (G.set j (v',i.size,vs++new)):=by
  intro a d hv B ha;by_cases f:m=0
  . subst f;have:new=[]:=(by grind);subst this;refine⟨h,v,?_,?_⟩
    . unfold ib;rw [zM (by omega:d+0<=d)];grind
    . rw [List.append_nil];have:G.set j (v,i.size,vs)=G:=(by refine Xk fun n=>?_;grind);grind
  . have ai : Xa (d+m) d=false:=by
     cases O:Xa (d+m) d with
     |false=>rfl|true=>exact absurd (Xg O) (by omega)
    have C:d+m<=vs.length+new.length:=(by rw [<-B,<-hm];have f:=Xd d z;have Q:=Xd m z;omega);have N:(Xa ((d+m)*(i.bytes+1)) 70368744177664&&Xp 0 i.bytes)=true:=(by rw [zM (Xt (Xo _ C) P)];simp_all);have ak:Xe zs.length i.size=true:=(by simp_all);have r:ib E h e i a d d m new=pT h e i.size a d m new:=(by unfold ib;grind);rw [r];rcases ha with⟨rfl,rfl⟩|⟨b,rfl,D⟩
    . have R:vs=[]:=(by grind);subst R;refine⟨h.new (.cells (Tr.ofList new) new.length e 1),.slice (some ⟨h.n,0,some i.size⟩) m m,rfl,?_⟩;have T:=S.call (Gr.new S.ok (.cells (Tr.ofList new) new.length e 1));have w:h.n∉keys L G:=fun z=>(by have:=S.key_lt z;omega);refine⟨T.fr,T.own,fun p o=>?_,rQ S.apart J (b:=h.n) rfl w⟩;rcases oa o with rfl|⟨j',_,o⟩
      . exact⟨.inr ⟨h.n,m,rfl,hm,qY S.ok new e 1⟩,fun b K=>by cases K;exact .inl S.fr.n⟩
      . exact T.gown p (zO o)
    . obtain ⟨F,el,s,H,al⟩:=D;have U:lg F vs.length 0 (d*i.size) new=some (F.pushAll vs.length new,vs.length+new.length):=(by grind[lg,Xn]);refine⟨(h.put b .dead).new (.cells (F.pushAll vs.length new) (vs.length+new.length) e 1),.slice (some ⟨h.n,0,some i.size⟩) (d+m) (d+m),?_,?_⟩
      . unfold pT;simp only [s,U,hf,Xn];rfl
      . have I:eJ (v,i.size,vs)=some b:=(by rw [hv];rfl);have an:=iF S.ok s;have y:=(S.fr.put (A b I) .dead);have V: ∀c∈L.map Prod.fst,c≠b:=fun c W e=>(by have f:=S.apart;grind[keys,List.nodup_append,zO]);have l: ∀c,c<h.n->c≠b->((h.put b .dead).new (.cells (F.pushAll vs.length new) (vs.length+new.length) e 1)).get c=h.get c:=fun c W X=>(by rw [Hp.get_new _ _ y.ok,if_neg (by show c≠h.n;omega)];exact dG (Ne.symm X));have w:h.n∉keys L G:=fun z=>(by have:=S.key_lt z;omega);refine⟨y.new _,fun p o=>?_,fun p o=>?_,rQ S.apart J (b:=h.n) rfl w⟩
        . have f:=S.own p o;exact⟨f.1,f.2.of_get (l _ (f.2.lt S.ok) (V _ (XA o)))⟩
        . rcases oa o with rfl|⟨j',Y,o⟩
          . refine⟨.inr ⟨h.n,d+m,rfl,?_,?_⟩,fun b K=>by cases K;exact .inl S.fr.n⟩
            . grind
            . refine⟨F.pushAll vs.length new,e,?_,?_,fun n=>?_⟩
              . rw [Hp.get_new _ _ y.ok];rw [if_pos (show h.n=(h.put b .dead).n from rfl),Xc]
              . rw [Xc];exact Tr.sized_pushAll _ H
              grind[Tr.get_pushAll]
          . have f:=S.gown p (zO o);refine⟨f.1.of_get fun c W=>l c (f.1.lt S.ok W) fun e=>Y ?_,f.2⟩;subst e
            -- two lists with ax Z
            have Q:=S.apart;unfold keys at Q;have h3:=(List.nodup_append.1 Q).2.1;have ay: ∀(G:List GL) (a c:Nat) (p q:GL),(G.filterMap eJ).Nodup->G[a]? =some p->G[c]? =some q-> ∀x,eJ p=some x->eJ q=some x->a=c:=by
             intro G
             induction G with
             |nil=>grind| cons g G ih=>grind
            grind
 unfold dL;simp only [O];unfold lC;simp only [hu,hi];rcases hg with⟨k1,k2⟩|⟨b,n,k1,k2,k3⟩
 . grind
 simp_all
end
theorem bA{Q:gJ}{k:List Fr}{d:List Deferred}{e:Option (Value×Bool)}{b:Code}{g:Type}(I:g->(Nat->Value)->Hp->Prop)(m:g->Nat)
 (o: ∀a,(∀i c h',m i<m a->I i c h'->Run E (lim E) cx Q (.code (.loop b)::k) .normal (LL n c d e) h')-> ∀ρ h,I a ρ h->Run E (lim E) cx Q (.code b:: .code (.loop b)::k) .normal (LL n ρ d e) h):
 ∀a ρ h,I a ρ h->Run E (lim E) cx Q (.code (.loop b)::k) .normal (LL n ρ d e) h:=by
 have f: ∀j a,m a<j-> ∀ρ h,I a ρ h->Run E (lim E) cx Q (.code (.loop b)::k) .normal (LL n ρ d e) h:=by
  intro j
  induction j with
  |zero=>omega| succ j p=>grind[cq]
 intro a ρ h l;exact f (m a+1) a (by omega) ρ h l
def rX(b:Nat):Deferred:={target:=.collected b,args:=#[]}
section
variable(E:Env)(cx:Cx)(Q:gJ)(k:List Fr)
def RangeGo(l:Loc)(h:Hp):Option Code->Prop
 |none=>Run E (lim E) cx Q k .normal l h|some (.exit id)=>Run E (lim E) cx Q k (.exit id) l h|some .ret=>Run E (lim E) cx Q k .ret l h|_=>False
def RangeQ(l:Loc)(b:Nat):Out->Option (Value×Bool)->Hp->Prop
 | .pan v,_,a=>Run E (lim E) cx Q k (.pan v) l a| .ret _,_,a=> ∃x,a.get b=some (.loop x)/\x.st≠1/\RangeGo E cx Q k l (a.put b .dead) x.pending
end
section
variable{E:Env}{cx:Cx}{Q:gJ}{k:List Fr}{n:Nat}{ρ:Nat->Value}{d:List Deferred}{rc:Option (Value×Bool)}{M:Nat->Prop}{h0 h:Hp}{L:List (Nat×Ob)}{G:List GL}
theorem Ee {f:Operand} {params:Array Tmp} {assign body:Code}  {a b:Array Value} {j:Hp} {m:Nat} {dfs:List Deferred} (hf:(LL n ρ d rc).ev f=.func (.func g) a b) (D:cx.nr=n)
 (F :(match cx.round with
   |none=>some (h.new .dfr,h.n,({target:=.collected h.n,args:=#[]}:Deferred)::d)| some r=>match h.get r with
     |some (.loop x)=>some (h,x.defers,d)|_=>none)=some (j,m,dfs))
 (H:eS E g (a.toList++[.func (.yield j.n) #[] #[]]++b.toList) none (j.new (.loop {fn:=cx.fn,regs:=tab n ρ,nr:=n,params,assign,body,st:=0,pending:=none,defers:=m})) (RangeQ E cx Q k (LL n ρ dfs rc) j.n)):
 Run E (lim E) cx Q (.code (.rangeFunc f params assign body)::k) .normal (LL n ρ d rc) h:=by
 obtain⟨o,I,l,J,y⟩:=H;simp only [Run];have e:aR E (lim E) cx (.rangeFunc f params assign body) (LL n ρ d rc) h=jz (lim E) cx ((LL n ρ d rc).ev f) params assign body (LL n ρ d rc) h:=rfl;rw [e,hf];have K:jz (lim E) cx (.func (.func g) a b) params assign body (LL n ρ d rc) h=(match(some (j,m,dfs):Option (Hp×Nat×List Deferred))with
  |none=>none| some (j,m,dfs)=>
    match(lim E).call g (a.toList++[.func (.yield j.n) #[] #[]]++b.toList) none
     (j.new (.loop {fn:=cx.fn,regs:=tab n ρ,nr:=cx.nr,params,assign,body,st:=0,pending:=none,defers:=m}))with
    |none=>none|some (.pan v,_,l)=>some (.pan v,LL n ρ dfs rc,l)| some (.ret _,_,l)=>match l.get j.n with
      | some (.loop x)=>match x.st with
        |1=>none| _=>match x.pending with
          |none=>some (.normal,LL n ρ dfs rc,l.put j.n .dead)|some (.exit id)=>some (.exit id,LL n ρ dfs rc,l.put j.n .dead)|some .ret=>some (.ret,LL n ρ dfs rc,l.put j.n .dead)|_=>none
      |_=>none):=by rw [<-F];rfl
 rw [K];simp only [D,J];cases o with
 |pan v=>exact⟨_,_,_,rfl,y⟩| ret v=>
   obtain⟨x,N,O,s⟩:=y;simp only [N];obtain⟨P,u,R,p,q,w,S,i,t⟩:=x;simp only []at O s;have z: ∃A B C,(match i with
    |none=>some (Ex.normal,LL n ρ dfs rc,l.put j.n .dead)|some (.exit id)=>some (.exit id,LL n ρ dfs rc,l.put j.n .dead)|some .ret=>some (.ret,LL n ρ dfs rc,l.put j.n .dead)|_=>none)=some (A,B,C)/\Run E (lim E) cx Q k A B C:=by
    cases i with
    |none=>exact⟨_,_,_,rfl,s⟩|some c=>cases c<;>first|exact s.elim|exact⟨_,_,_,rfl,s⟩
   omega
theorem ie(S:St M h0 h L G){f:Operand}{params:Array Tmp}{assign body:Code}{a b:Array Value}(hf:(LL n ρ d rc).ev f=.func (.func g) a b)(j:cx.nr=n)(l:cx.round=none)
 (m: ∀h' c e,St M h0 h' ((e,.loop {fn:=cx.fn,regs:=tab n ρ,nr:=n,params,assign,body,st:=0,pending:=none,defers:=c})::(c,.dfr)::L) G->h.n<=c->h.n<=e->Gr h h'->
   eS E g (a.toList++[.func (.yield e) #[] #[]]++b.toList) none h' (RangeQ E cx Q k (LL n ρ (rX c::d) rc) e)):
 Run E (lim E) cx Q (.code (.rangeFunc f params assign body)::k) .normal (LL n ρ d rc) h:=by
 have i:St M h0 (h.new .dfr) ((h.n,.dfr)::L) G:=S.new (by show(h.new _).get h.n=_;rw [h.get_new _ S.ok,if_pos rfl]);have p:=i.new (x:=.loop {fn:=cx.fn,regs:=tab n ρ,nr:=n,params,assign,body,st:=0,pending:=none,defers:=h.n}) (o:=.loop {fn:=cx.fn,regs:=tab n ρ,nr:=n,params,assign,body,st:=0,pending:=none,defers:=h.n})
  (by show(Hp.new _ _).get _=_;rw [Hp.get_new _ _ i.ok,if_pos rfl])
 exact Ee hf j (by rw [l];rfl) (m _ _ _ p (Xi _) (Nat.le_succ _) ((Gr.new S.ok _).trans (Gr.new i.ok _)))
end
section
variable(E:Env)(cx:Cx)(lb:Nat)(Q:Out->Hp->Prop)
def tq:gJ
 | .normal,_,a=> ∃x,a.get lb=some (.loop x)/\Q (.ret (.bool true)) (a.put lb (.loop {x with st:=0,pending:=none}))
 | .exit id,_,a=> ∃x,a.get lb=some (.loop x)/\Q (.ret (.bool false)) (a.put lb (.loop {x with st:=2,pending:=some (.exit id)}))
 | .ret,_,a=> ∃x,a.get lb=some (.loop x)/\Q (.ret (.bool false)) (a.put lb (.loop {x with st:=2,pending:=some .ret}))
 | .pan v,b,a=>b.dfs=[]/\Q (.pan v) a
def zC(body:Code):gJ
 | .normal,l,a=> ∃x,a.get lb=some (.loop x)/\x.st=0/\x.fn=cx.fn/\x.nr=cx.nr/\x.body=body/\Run E (lim E) cx (tq lb Q) [.code body] .normal l (a.put lb (.loop {x with st:=1}))
 |_,_,_=>False
end
def setPs(ρ:Nat->Value):List Tmp->List Value->Option (Nat->Value)
 | [],[]=>some ρ|t::a,v::b=>setPs (aG ρ t v) a b|_,_=>none
theorem ue{n:Nat}: ∀(ts:List Tmp) (vs:List Value) (ρ a:Nat->Value),setPs ρ ts vs=some a->qt (tab n ρ) ts vs=some (tab n a)
 | [],[],ρ,a,h=>by cases h;rfl
 | t::ts,v::vs,ρ,a,h=>by simp only [qt,tab_set];exact ue ts vs _ _ h| [],_::_,_,_,h=>by cases h
 |_::_,[],_,_,h=>by cases h
theorem wg{Q:gJ}{c:Code}{l:Loc}(a:Run E (lim E) cx Q [.code c] .normal l h): ∃e l' h',(lim E).code cx c l h=some (e,l',h')/\Q e l' h':=by obtain⟨e,l',h',b,d⟩:=a;exact⟨e,l',h',by rw [y8];exact b,d⟩
theorem ii{Q:Out->Hp->Prop}{fn:FuncId}{ρ a:Nat->Value}{params:Array Tmp}{assign body:Code}
 (d:h.get c=some (.loop {fn,regs:=tab n ρ,nr:=n,params,assign,body,st:=0,pending:=none,defers:=o})) (g:(E.fn fn).isSome=true) (p:setPs ρ params.toList args=some a)
 (q:Run E (lim E) ⟨fn,n,some c⟩ (zC E ⟨fn,n,some c⟩ c Q body) [.code assign] .normal (LL n a [] none) h):m8 E c args h Q:=by
 obtain⟨e,l,z,r,f⟩:=wg q;unfold m8 kC;rw [d];simp only [g,cond_true,ue _ _ _ _ p];rw [show Loc.mk (tab n a) [] none=LL n a [] none from rfl,r];cases e with
 |exit i=>exact f.elim|ret=>exact f.elim|pan v=>exact f.elim| normal=>
   obtain⟨x,s,t,A,B,C,u⟩:=f;obtain⟨w,D,F,j,b⟩:=wg u;simp only [s,t,j];cases w with
   |normal=>obtain⟨y,k,m⟩:=b;grind
   |exit i=>obtain⟨y,k,m⟩:=b;grind
   |ret=>obtain⟨y,k,m⟩:=b;grind
   |pan v=>obtain⟨k,m⟩:=b;grind
section
variable{E:Env}{cx:Cx}{lb:Nat}{Q:Out->Hp->Prop}{M:Nat->Prop}{h0 h:Hp}{L:List (Nat×Ob)}{G:List GL}{body:Code}{l:Loc}
theorem St.loopPut(S:St M h0 h L G){X Y:fZ}(a:L[i]? =some (lb,.loop X)):h.get lb=some (.loop X)/\St M h0 (h.put lb (.loop Y)) (L.set i (lb,.loop Y)) G:=by have b:h.get lb=some (.loop X):=(S.own _ (zO a)).2;refine⟨b,S.put a ?_⟩;show(h.put lb _).get lb=_;rw [Hp.get_put,if_pos ⟨rfl,by rw [b];rfl⟩]
theorem gu(S:St M h0 h L G){X:fZ}(a:L[i]? =some (lb,.loop X))(b:X.st=0)(c:X.fn=cx.fn)(d:X.nr=cx.nr)(e:X.body=body)
 (f: ∀h',St M h0 h' (L.set i (lb,.loop {X with st:=1})) G->Run E (lim E) cx (tq lb Q) [.code body] .normal l h'):zC E cx lb Q body .normal l h:=by
 obtain⟨g,j⟩:=S.loopPut (Y:={X with st:=1}) a;exact⟨X,g,b,c,d,e,f _ j⟩
theorem dP(S:St M h0 h L G){X:fZ}(a:L[i]? =some (lb,.loop X))(b: ∀h',St M h0 h' (L.set i (lb,.loop {X with st:=0,pending:=none})) G->Q (.ret (.bool true)) h'):tq lb Q .normal l h:=by obtain⟨c,d⟩:=S.loopPut (Y:={X with st:=0,pending:=none}) a;exact⟨X,c,b _ d⟩
theorem round_ret(S:St M h0 h L G){X:fZ}(a:L[i]? =some (lb,.loop X))(b: ∀h',St M h0 h' (L.set i (lb,.loop {X with st:=2,pending:=some .ret})) G->Q (.ret (.bool false)) h'):tq lb Q .ret l h:=by obtain⟨c,d⟩:=S.loopPut (Y:={X with st:=2,pending:=some .ret}) a;exact⟨X,c,b _ d⟩
end
def Iter(E:Env)(g:FuncId)(d post:List Value)(h0:Hp)(D:Nat->Prop)(xs:List (List Value)):Prop:=
 ∀ (e:Nat) (J:Nat->Hp->List Nat->Prop) (Z:Out->Hp->Prop) (h:Hp) (F:List Nat),
   OZ h->h0.n<=h.n->(∀b,b<h0.n->D b->h.get b=h0.get b)->
   (∀i h F,J i h F->OZ h/\ ∀b∈F,b<h.n)->(∀i h F a,J i h F->Gr h a->J i a F)->(∀h a,Z (.ret (.bool false)) h->Gr h a->Z (.ret (.bool false)) a)->(∀b∈F,¬(b<h0.n/\D b))->
   (∀i x h F,xs[i]? =some x->J i h F->m8 E e x h fun o a=>(o=.ret (.bool true)/\ ∃c,J (i+1) a c/\Mo (· ∈F) h a/\ ∀b∈c,b∈F\/h.n<=b)\/(o=.ret (.bool false)/\Z o a/\OZ a)\/((∃v,o=.pan v)/\Z o a))->
   J 0 h F->eS E g (d++[.func (.yield e) #[] #[]]++post) none h fun o f a=>f=none/\((∃u c,o=.ret u/\J xs.length a c)\/(∃u,o=.ret u/\Z (.ret (.bool false)) a)\/(∃v,o=.pan v/\Z o a))
theorem load_len(e:h.load b o n=some l):l.length=n:=by grind[Hp.load,Xa,Tr.slice_spec]
theorem ra(e:h.load b o n=some l){m:Nat}(g:i+m<=n):h.load b (o+i) m=some ((l.drop i).take m):=by
 unfold Hp.load at e⊢
 split at e
 next t a j p q=>
  cases c:Xa (o+n) a with
  |false=>grind| true=>
    rw [c]at e;have hle:=Xg c;rw [zM (by omega:o+i+m<=a)];simp only [cond_true]at e⊢;obtain⟨r,f⟩:=Tr.slice_spec e;obtain⟨s,d⟩:=Tr.slice_mk (t:=t) (i:=o+i) (n:=m) (fun k u=>by
     have:=f (i+k) (by omega);grind)
    rw [d];obtain⟨v,w⟩:=Tr.slice_spec d;congr 1;refine Xk fun k=>?_;grind
 next=>cases e
theorem load_join{f:Nat->Value}(h0: ∃l,h.load b o 0=some l)(e: ∀i,i<n->h.load b (o+i) 1=some [f i]):h.load b o n=some ((List.range n).map f):=by
 unfold Hp.load at h0 e⊢;cases d:h.get b with
 |none=>grind|some c=>
 cases c with
 |dead=>grind|map=>grind|loop=>grind|dfr=>grind| cells t a q r=>
   rw [d]at h0;simp only [d]at e;simp only []at h0;have hle:o+n<=a:=by
    cases n with
    | zero=>
      obtain⟨l,h0⟩:=h0;cases g:Xa (o+0) a with
      |false=>grind|true=>simp_all
    | succ n=>
      have:=e n (by omega);cases g:Xa (o+n+1) a with
      |false=>grind|true=>have:=Xg g;omega
   have j: ∀i,i<n->t.get (o+i)=some (f i):=(by intro i p;have:=e i p;rw [zM (by omega:o+i+1<=a)]at this;have:=(Tr.slice_spec this).2 0 (by omega);simpa using this);simp only [];rw [zM hle];simp only [cond_true];obtain⟨l,m⟩:=Tr.slice_mk (t:=t) (i:=o) (n:=n) (fun k s=>by grind);rw [m];obtain⟨u,v⟩:=Tr.slice_spec m;congr 1;refine Xk fun k=>?_;grind
section
variable{α:Type}
theorem cC{k:Nat}{enc:α->List Value}(a: ∀x,(enc x).length=k)(xs:List α):(xs.flatMap enc).length=xs.length*k:=by
 induction xs with
 |nil=>simp|cons x xs b=>grind
theorem DE{k:Nat}{enc:α->List Value}(b: ∀x,(enc x).length=k)(xs:List α)(a:i<xs.length):((xs.flatMap enc).drop (i*k)).take k=enc xs[i]:=by
 induction xs generalizing i with
 |nil=>simp at a| cons x xs c=>
   cases i with
   |zero=>grind| succ i=>grind[XB,Nat.add_comm,List.drop_drop,List.drop,List.flatMap,List.drop_left]
def aD(h:Hp)(k:Nat)(enc:α->List Value)(v:Value)(xs:List α):Prop:=
 (v=.slice none 0 0/\xs=[])\/ ∃b o s c,v=.slice (some ⟨b,o,s⟩) xs.length c/\xs.length<=c/\h.load b o (xs.length*k)=some (xs.flatMap enc)
variable{h:Hp}{k:Nat}{enc:α->List Value}{v:Value}{xs:List α}
theorem aD.gr(g:Gr h h')(s:aD h k enc v xs):aD h' k enc v xs:=by
 rcases s with s|⟨b,o,s,c,a,d,e⟩
 . exact .inl s
 . exact .inr ⟨b,o,s,c,a,d,g.load e⟩
def au:Value->Nat->Prop
 | .slice (some a) _ _,b=>a.block=b| .pointer (some a),b=>a.block=b|_,_=>False
theorem aD.mo(g:Mo M h h')(s:aD h k enc v xs)(d: ∀b,au v b-> ¬M b):aD h' k enc v xs:=by
 rcases s with s|⟨b,o,s,c,a,e,f⟩
 . exact .inl s
 . refine .inr ⟨b,o,s,c,a,e,?_⟩;have:=g.get b (bD g.ok0 f) (d b (by rw [a];rfl));grind[Hp.load]
theorem aD.lt(d:OZ h)(s:aD h k enc v xs)(a:au v b):b<h.n:=by
 rcases s with⟨rfl,_⟩|⟨e,o,s,c,rfl,g,f⟩
 . exact a.elim
 . have:e=b:=a;subst this;exact bD d f
theorem aD.idx(s:aD h k enc v xs)(d: ∀x,(enc x).length=k)(a:i<xs.length): ∃b o s' c,v=.slice (some ⟨b,o,s'⟩) xs.length c/\h.load b (o+i*k) k=some (enc xs[i]):=by
 rcases s with⟨rfl,rfl⟩|⟨b,o,s,c,rfl,f,e⟩
 . simp at a
 . refine⟨b,o,s,c,rfl,?_⟩;have:i*k+k<=xs.length*k:=(by rw [<-XB];exact Xo _ a);rw [ra e this,DE d xs a]
theorem aD.at{kd:IntKind}(s:aD h k enc v xs)(d: ∀x,(enc x).length=k)(f:E.und t=some (.slice e))(g:E.sz e=some k)(a:i<xs.length):
 ∃b o,gC E t v (.int kd i)=some (.pointer (some ⟨b,o,none⟩))/\h.load b o k=some (enc xs[i]):=by
 obtain⟨b,o,l,c,rfl,j⟩:=s.idx d a;refine⟨b,o+i*k,?_,j⟩;rw [ia_slice f g,gL a];rfl
theorem aD.src(s:aD h k enc v xs):aP h k v=some (xs.length,xs.flatMap enc):=by
 rcases s with⟨rfl,rfl⟩|⟨b,o,s,c,rfl,a,d⟩
 . rfl
 grind[List.length_eq_zero_iff,aP,List.length_nil]
theorem ik.sl(g:ik h (v,k,vs))(d:vs=xs.flatMap enc)(e: ∀x,(enc x).length=k)(i:0<k):aD h k enc v xs:=by
 rcases g with⟨c,a⟩|⟨b,n,c,a,f⟩
 . simp only []at c a;refine .inl ⟨c,?_⟩;rw [a]at d;have:=cC e xs;rw [<-d]at this;cases xs with
   |nil=>rfl| cons x xs=>grind
 . simp only []at c a f;have j:n=xs.length:=(by rw [d,cC e]at a;exact Nat.eq_of_mul_eq_mul_right i a);subst j;refine .inr ⟨b,0,some k,xs.length,c,Xi _,?_⟩;rw [f.load (by omega),a,Xy,Xu,d]
end
def encI(kd:IntKind)(x:Int):List Value:=[.int kd x]
def encB(x:Bool):List Value:=[.bool x]
theorem cB(kd:IntKind)(x:Int):(encI kd x).length=1:=rfl
theorem Bl(x:Bool):(encB x).length=1:=rfl
def agg1:Option (List Value)->Option Value
 |some l=>some (.agg ⟨l⟩)|none=>none
theorem agg1_some:agg1 (some l)=some (.agg ⟨l⟩):=rfl
theorem loadV_agg{s:Option Nat}(a:E.agg t=some true)(c:E.sz t=some n):gw E h t (.pointer (some ⟨b,o,s⟩))=agg1 (h.load b o n):=by simp only [gw,a,c];cases h.load b o n<;>rfl
def isIface(E:Env)(t:TypeId):Bool:=match E.und t with
 |some (.interface _)=>true|_=>false
def qC(E:Env)(t:TypeId):Bool:=match E.und t with
 |some (.pointer _)=>true|_=>false
def mM(E:Env)(t:TypeId):Bool:=match E.und t with
 |some (.struct _)=>true|some (.int _)=>true|some (.pointer _)=>true|_=>false
section
variable{E:Env}{t:TypeId}{x y:Operand}
theorem rL(b:isIface E t=true): ∃a,E.und t=some (.interface a):=by grind[isIface]
theorem vz(b:qC E t=true): ∃a,E.und t=some (.pointer a):=by grind[qC]
theorem n_iface(a:isIface E t=true):bS E .neq t x y (.iface u v) .nilIface=some (.bool true):=by grind[rL,bS,iE,fF]
theorem n_nil(b:isIface E t=true):bS E .neq t x (.const v) .nilIface .nilIface=some (.bool false):=by obtain⟨a,c⟩:=rL b;cases x<;>simp [bS,iE,fF,c]
theorem e_iface(a:isIface E t=true):bS E .eql t x y (.iface u v) .nilIface=some (.bool false):=by grind[rL,bS,iE,fF]
theorem e_nil(b:isIface E t=true):bS E .eql t x (.const v) .nilIface .nilIface=some (.bool true):=by obtain⟨a,c⟩:=rL b;cases x<;>simp [bS,iE,fF,c]
theorem n_ptr(b:qC E t=true){a:Addr}:bS E .neq t x y (.pointer (some a)) (.pointer none)=some (.bool true):=by grind[vz,bS,iE,fF]
theorem e_ptr(b:qC E t=true){a:Addr}:bS E .eql t x y (.pointer (some a)) (.pointer none)=some (.bool false):=by grind[vz,bS,iE,fF]
theorem n_pnil(a:qC E t=true):bS E .neq t x y (.pointer none) (.pointer none)=some (.bool false):=by grind[vz,bS,iE,fF]
theorem e_pnil(a:qC E t=true):bS E .eql t x y (.pointer none) (.pointer none)=some (.bool true):=by grind[vz,bS,iE,fF]
theorem wI(b:mM E t=true): ∃d,E.und t=some d/\ ∀a,d≠ .interface a:=by grind[mM]
theorem assert_is(a:mM E t=true):qP E (.iface t v) t true=some (.tuple #[v,.bool true]):=by obtain⟨d,b,c⟩:=wI a;unfold qP;rw [b];cases d<;>first|exact absurd rfl (c _)|simp [uZ]
theorem mk_iface(a:mM E t=true):(match E.und t with|none=>none|some (.interface _)=>none|some _=>some (Value.iface t v))=some (.iface t v):=by obtain⟨d,b,c⟩:=wI a;grind
end
theorem o_recover{as:Array Operand}{ts:Array TypeId}:aop E ρ h (.call ⟨.builtin .recover,as,ts⟩)=some (.recov,h):=rfl
theorem o_deferR{f:Operand}{as:Array Operand}{ts:Array TypeId}:aop E ρ h (.defer ⟨.value f,as,ts⟩)=match ρ f with
 | .func (.func g) a b=>some (.defer {target:=.fn (.func g) b,args:=⟨a.toList++as.toList.map ρ⟩},h)|_=>none:=rfl
def panR(h:Hp):Value->Option (dT×Hp)
 | .iface t v=>some (.panic (.iface t v),h)|_=>none
theorem o_panicR:aop E ρ h (.panic x)=panR h (ρ x):=by rfl
theorem D9:panR h (.iface t v)=some (.panic (.iface t v),h):=rfl
section
variable{E:Env}{cx:Cx}{o:Oper}{K:Ex->Loc->Hp->Prop}{h:Hp}{n:Nat}{ρ:Nat->Value}{d:List Deferred}
theorem yh:hZ E cx o (LL n ρ d (some (v,false))) K (some (.recov,h))↔cx.round=none/\K .normal ((LL n ρ d (some (v,true))).put o.dst v) h:=Xb
theorem xW:hZ E cx o (LL n ρ d none) K (some (.recov,h))↔cx.round=none/\K .normal ((LL n ρ d none).put o.dst .nilIface) h:=Xb
theorem step_defer{a:Option (Value×Bool)}{x:Deferred}:hZ E cx o (LL n ρ d a) K (some (.defer x,h))↔cx.round=none/\K .normal ((LL n ρ (x::d) a).put o.dst (.tuple #[])) h:=Xb
theorem jt{l:Loc}{P:Out->Option (Value×Bool)->Hp->Prop}(e:eS E f args none h P)(g: ∀x c h',P x c h'->match x with
 | .ret v=>K .normal (l.put o.dst v) h'| .pan v=>K (.pan v) l h'):hZ E cx o l K (some (.call f args,h)):=by
 obtain⟨x,c,h',a,b⟩:=e;exact⟨x,c,h',a,g x c h' b⟩
theorem yv{l:Loc}{P:Out->Hp->Prop}(c:m8 E b args h P)(e: ∀x h',P x h'->match x with
 | .ret v=>K .normal (l.put o.dst v) h'| .pan v=>K (.pan v) l h'):hZ E cx o l K (some (.yield b args,h)):=by
 obtain⟨x,h',a,b⟩:=c;exact⟨x,h',a,e x h' b⟩
end
theorem B9:target (.func (.yield b) #[] #[]) args=some (.yield b args):=rfl
def UnQ(E:Env)(c:List Deferred)(m:Option Value)(h:Hp)(Q:Option Value->Hp->Prop):Prop:= ∃a b,cF (lim E) c m h=some (a,b)/\Q a b
section
variable{E:Env}{rs:List ResultVar}{Q:Out->Option (Value×Bool)->Hp->Prop}{n:Nat}{ρ:Nat->Value}{d:List Deferred}{rc:Option (Value×Bool)}{h:Hp}
theorem cS(a:UnQ E d none h fun m h'=>m=none/\ ∃vs,bU E (tab n ρ) h' rs=some vs/\Q (.ret (ab vs)) rc h'):qz E rs Q .ret (LL n ρ d rc) h:=by obtain⟨m,h',b,rfl,c⟩:=a;exact⟨h',b,c⟩
theorem cg(a:UnQ E d none h fun m h'=>m=none/\ ∃vs,bU E (tab n ρ) h' rs=some vs/\Q (.ret (ab vs)) rc h'):qz E rs Q .normal (LL n ρ d rc) h:=cS a
theorem eZ(a:UnQ E d (some v) h fun m h'=>match m with
 |some v=>Q (.pan v) rc h'|none=> ∃vs,bU E (tab n ρ) h' rs=some vs/\Q (.ret (ab vs)) rc h'):qz E rs Q (.pan v) (LL n ρ d rc) h:=by
 obtain⟨m,h',b,c⟩:=a;exact⟨m,h',b,c⟩
theorem bV{m:Option Value}{P:Option Value->Hp->Prop}(a:P m h):UnQ E [] m h P:=⟨m,h,rfl,a⟩
theorem un_dfr{a:List Deferred}{m:Option Value}{P:Option Value->Hp->Prop}(i:h.get b=some .dfr)(c:UnQ E a m (h.put b .dead) P):UnQ E (rX b::a) m h P:=by obtain⟨e,f,j,g⟩:=c;refine⟨e,f,?_,g⟩;simp_all[cF,rX]
theorem un_fn{cap args:Array Value}{a:List Deferred}{P:Option Value->Hp->Prop}(b:eS E f (args.toList++cap.toList) none h fun o rc h'=>(∃v,o=.ret v)/\rc=none/\UnQ E a none h' P):UnQ E ({target:=.fn (.func f) cap,args}::a) none h P:=by obtain⟨o,c,k,e,⟨v,rfl⟩,rfl,g,h',i,j⟩:=b;refine⟨g,h',?_,j⟩;simp only [cF,e];exact i
theorem oh{cap args:Array Value}{a:List Deferred}{P:Option Value->Hp->Prop}(c:eS E f (args.toList++cap.toList) (some (v,false)) h fun o rc h'=>(∃u,o=.ret u)/\ ∃v' b,rc=some (v',b)/\UnQ E a (if b=true then none else some v') h' P):
 UnQ E ({target:=.fn (.func f) cap,args}::a) (some v) h P:=by
 obtain⟨o,e,j,k,⟨u,rfl⟩,v',b,rfl,g,h',l,i⟩:=c;refine⟨g,h',?_,i⟩;grind[cF]
theorem iA(a:bU E (tab n ρ) h rs=some vs)(hq:Q (.ret (ab vs)) rc h):qz E rs Q .ret (LL n ρ [] rc) h:=cS (bV ⟨rfl,vs,a,hq⟩)
end
section
variable{M:Nat->Prop}{h0 h:Hp}{L:List (Nat×Ob)}{G:List GL}{E:Env}
theorem cd{k:Nat}{d cs:List Value}{a:List (Nat×Value)}(f:E.und t=some (.slice e))(g:fU E e c k d)(j:n*k<=16777216)
 (hf:lW (fun i=>some (i*k,k)) (bJ d n) a=some cs):rU h (fun h=>dC (lG E h t n a)) (fun b=>.slice (some ⟨b,0,none⟩) n n) (.row cs 1):=by
 obtain⟨⟨i,l,rfl,rfl⟩,m,o⟩:=g;have p:E.sz e=some i.size:=by unfold Env.sz;rw [l]
 refine⟨.cells (Tr.ofList cs) cs.length e 1,fun x=>?_,fun q=>qY q _ _ _⟩;simp only [lG,f,p,zM j,m,o,Xn,hf,cond_true];rfl
theorem St.clone(S:St M h0 h L G){o:TypeId}{k m:Nat}{r new:List Value}{x:Value}(N:E.und t=some (.slice e))(B:fU E e c k r)(O:0<c)
 (s:eR E o=some false) (u:aP h k x=some (m,new)) (C:m*k=new.length) (D:n*k=vs.length) (v:0<k) (p:(vs.length+new.length)*(c+1)<=70368744177664) {ts:List TypeId}
 (F:Row h b vs md):
 ∃ h' v',dL E h (t::o::ts) (.slice (some ⟨b,0,none⟩) n n) x=some (h',v')/\
   ((m=0/\h'=h/\v'=.slice (some ⟨b,0,none⟩) n n)\/ ∃w,v'=.slice (some ⟨w,0,some k⟩) (n+m) (n+m)/\St M h0 h' ((w,.row (vs++new) 1)::L) G):=by
 obtain⟨⟨i,P,rfl,rfl⟩,Q,H⟩:=B;have q:dL E h (t::o::ts) (.slice (some ⟨b,0,none⟩) n n) x=ib E h e i (some ⟨b,0,none⟩) n n m new:=by grind[dL,lC]
 rw [q];by_cases y:m=0
 . subst y;have:new=[]:=(by grind);subst this;refine⟨h,_,?_,.inl ⟨rfl,rfl,rfl⟩⟩;grind[ib,zM]
 . have z:Xa (n+m) n=false:=by
    cases s:Xa (n+m) n with
    |false=>rfl|true=>exact absurd (Xg s) (by omega)
   have d:n+m<=vs.length+new.length:=(by rw [<-D,<-C];have y:=Xd n v;have R:=Xd m v;omega);have g:(Xa ((n+m)*(i.bytes+1)) 70368744177664&&Xp 0 i.bytes)=true:=(by rw [zM (Xt (Xo _ d) p)];simp_all);have I:Xe r.length i.size=true:=(by simp_all);have a:ib E h e i (some ⟨b,0,none⟩) n n m new=pT h e i.size (some ⟨b,0,none⟩) n m new:=(by unfold ib;grind);rw [a];obtain⟨l,T,A,f,J⟩:=F;have K:lg l vs.length 0 (n*i.size) new=some (l.pushAll vs.length new,vs.length+new.length):=(by grind[lg,Xn]);refine⟨h.new (.cells (l.pushAll vs.length new) (vs.length+new.length) e 1),.slice (some ⟨h.n,0,some i.size⟩) (n+m) (n+m),?_,.inr ⟨h.n,rfl,?_⟩⟩
   . grind[pT]
   . refine S.new ⟨l.pushAll vs.length new,e,?_,?_,fun j=>?_⟩
     . rw [h.get_new _ S.ok,if_pos rfl,Xc]
     . rw [Xc];exact Tr.sized_pushAll _ f
     grind[Tr.get_pushAll]
theorem St.cloneSl{n:Type}{enc:n->List Value}{xs ys:List n}(S:St M h0 h L G){o:TypeId}{d k:Nat}{B:List Value}{x:Value}(q:E.und t=some (.slice e))(i:fU E e d k B)(r:0<d)
 (s:eR E o=some false) (u:aD h k enc x ys) (a: ∀x,(enc x).length=k) (v:0<k) (C:((xs.length+ys.length)*k)*(d+1)<=70368744177664) {ts:List TypeId}
 (j:Row h b (xs.flatMap enc) md):
 ∃h' v',dL E h (t::o::ts) (.slice (some ⟨b,0,none⟩) xs.length xs.length) x=some (h',v')/\St M h0 h' L G/\Gr h h'/\aD h' k enc v' (xs++ys)/\(∀c,au v' c->c=b\/h.n<=c):=by
 obtain⟨h',v',w,D⟩:=S.clone q i r s u.src (cC a ys).symm (cC a xs).symm v (by grind[cC,XC]) (ts:=ts) j;refine⟨h',v',w,?_⟩;rcases D with⟨y,rfl,rfl⟩|⟨l,rfl,f⟩
 . have F:ys=[]:=List.length_eq_zero_iff.1 y;subst F;refine⟨S,Gr.refl S.ok,.inr ⟨b,0,none,xs.length,by simp,by simp,?_⟩,fun c m=>.inl (Eq.symm m)⟩;rw [List.append_nil,j.load (by rw [cC a];omega),Xy,<-cC a xs,Xu]
 . have H:St M h0 h' L G:=⟨f.fr,fun p I=>f.own p (Xz _ I),f.gown,(List.nodup_cons.1 f.apart).2⟩;have g:Row h' l (xs.flatMap enc++ys.flatMap enc) 1:=f.row m0;have T:=(St.init (M:=NoM) S.ok).clone q i r s u.src (cC a ys).symm (cC a xs).symm v (by grind[cC,XC]) (ts:=ts) j;obtain⟨J,K,z,N⟩:=T;rw [w]at z;cases z;rcases N with⟨y,_,i⟩|⟨P,O,A⟩
   . grind
   . cases O;refine⟨H,A.gr,.inr ⟨l,0,some k,xs.length+ys.length,by grind,by grind,?_⟩,fun c m=>?_⟩
     . rw [g.load (by grind[Xc,cC,XC]),Xy,<-List.flatMap_append,<-cC a (xs++ys),Xu]
     . right;have:l=c:=m;subst this;rcases(A.own _ m0).1 with h|h
       . exact h
       . exact h.elim
end
end Go.Ab

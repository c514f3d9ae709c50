/- A deterministic evaluator of the model's code, and that the model follows it (part 3). -/
import Derived.Test.YtnandelhggbchaaGreatDoorAbB
import Derived.Calls
import Derived.RowKit3
open Nat renaming beq->zj,lor->zq,lt_or_ge->zt,pow->zu,le_refl->zw,blt->zx,ble->zy,testBit->zG
open Array renaming getD_eq_getD_getElem?->zk,getElem?_eq_none->zn,replicate->zp,getElem?_toList->zz,toList_append->zF
open List renaming getElem?_eq_getElem->zl,range->zo,getElem?_eq_none->zC,replicate->zD,range'->zH
set_option maxHeartbeats 400000
set_option linter.defProp false
set_option linter.unusedVariables false
set_option linter.unusedSimpArgs false
namespace Go.Ab
noncomputable section

structure Loc where
 regs:Tr Value
 dfs:List Deferred
 rc:Option (Value×Bool)

def Loc.ev(l:Loc):Operand->Value
 | .tmp t=>match l.regs.get t with
   |some v=>v
   |none=>.tuple #[]
 | .const v=>bif cg v then v else poison
 | .global g=>bif zx g 16 then .pointer (some ⟨g,0,none⟩)else poison
 | .func f=>.func (.func f) #[] #[]
def Loc.put(l:Loc)(d:Option Tmp)(v:Value):Loc:=match d with
 |none=>l
 |some t=>{l with regs:=l.regs.set t v}

inductive Ex where
 |normal
 |exit (id:Nat)
 |ret
 |pan (v:Value)

inductive Out where
 |ret (v:Value)
 |pan (v:Value)

structure Cx where
 fn:FuncId
 nr:Nat
 round:Option Nat

structure Rec where
 call:FuncId->List Value->Option (Value×Bool)->Hp->Option (Out×Option (Value×Bool)×Hp)
 code:Cx->Code->Loc->Hp->Option (Ex×Loc×Hp)

def lj(a:Tr Value):List Tmp->List Value->Option (Tr Value)
 | [],[]=>some a
 |t::b,v::c=>lj (a.set t v) b c
 |_,_=>none
def gK (E:Env) (R:Rec) (b:Nat) (args:List Value) (h:Hp):Option (Out×Hp):=match h.get b with
 | some (.loop r)=>bif (E.fn r.fn).isSome then match r.st with
   | 0 =>match lj r.regs r.params.toList args with
     |none=>none
     | some c=>match R.code ⟨r.fn,r.nr,some b⟩ r.assign ⟨c,[],none⟩ h with
       | some (.normal,l,e)=>match e.get b with
         | some (.loop f)=>match f.st with
           | 0 =>match R.code ⟨r.fn,r.nr,some b⟩ r.body l (e.put b (.loop {f with st:=1}))with
             | some (.normal,_,a)=>match a.get b with
               |some (.loop d)=>some (.ret (.bool true),a.put b (.loop {d with st:=0,pending:=none}))
               |_=>none
             | some (.exit id,_,a)=>match a.get b with
               |some (.loop d)=>some (.ret (.bool false),a.put b (.loop {d with st:=2,pending:=some (.exit id)}))
               |_=>none
             | some (.ret,_,a)=>match a.get b with
               |some (.loop d)=>some (.ret (.bool false),a.put b (.loop {d with st:=2,pending:=some .ret}))
               |_=>none
             | some (.pan v,g,a)=>match g.dfs with
               | []=>some (.pan v,a)
               |_=>none
             |none=>none
           |_=>none
         |_=>none
       |_=>none
   |_=>none
   else none
 |_=>none

def bC (ops:List Oper) (c:Tr Value) (o:Oper):Option Bool:=match o.guard with
 |none=>some true
 | some (j,a)=>match ops[j]? with
   |none=>some false
   | some e=>match e.dst with
     |none=>some false
     | some d=>match c.get d with
       |some (.bool b)=>some (bif b then a else !a)
       |some (.tuple _)=>some false
       |_=>none

def cd(E:Env)(R:Rec):Option (cH×Hp)->Option (Out×Hp)
 |some (.val v,c)=>some (.ret v,c)
 |some (.skip,c)=>some (.ret (.tuple #[]),c)
 | some (.call f a,c)=>match R.call f a none c with
   |some (x,_,d)=>some (x,d)
   |none=>none
 |some (.yield b a,c)=>gK E R b a c
 |some (.panic v,c)=>some (.pan v,c)
 |some (.recov,_)=>none
 |some (.defer _,_)=>none
 |none=>none
def kU(o:Oper)(l:Loc):Option (Out×Hp)->Option (Ex×Loc×Hp)
 |some (.ret v,a)=>some (.normal,l.put o.dst v,a)
 |some (.pan v,a)=>some (.pan v,l,a)
 |none=>none
def c9(E:Env)(R:Rec)(cx:Cx)(o:Oper)(l:Loc)(h:Hp):Option (Ex×Loc×Hp):=match aop E l.ev h o.op with
 | some (.recov,a)=>match cx.round with
   |some _=>none
   | none=>match l.rc with
     |some (v,false)=>some (.normal,({l with rc:=some (v,true)}:Loc).put o.dst v,a)
     |_=>some (.normal,l.put o.dst .nilIface,a)
 | some (.defer d,a)=>match cx.round with
   |some _=>none
   |none=>some (.normal,({l with dfs:=d::l.dfs}:Loc).put o.dst (.tuple #[]),a)
 |r=>kU o l (cd E R r)

def fK(E:Env)(R:Rec)(cx:Cx)(ops:List Oper):List Oper->Loc->Hp->Option (Ex×Loc×Hp)
 | [],l,h=>some (.normal,l,h)
 | o ::a,l,h=>match bC ops l.regs o with
   |none=>none
   |some false=>fK E R cx ops a (l.put o.dst (.tuple #[])) h
   | some true=>match c9 E R cx o l h with
     |some (.normal,b,c)=>fK E R cx ops a b c
     |r=>r

def cls(E:Env):Op->Nat
 | .move _| .assign _| .pick .. | .nilCheck _| .binOp .. | .unOp .. | .makeInterface .. | .makeFunc .. | .slice .. | .fieldAddr .. | .field ..
 | .indexAddr .. | .index .. | .extract .. | .build .. | .typeAssert .. =>0
 | .convert a b _=>match E.und a,E.und b with
   |some (.slice _),_=>1
   |some .string,some (.slice _)=>4
   |_,_=>0
 | .load .. | .lookup .. =>1
 | .store .. | .insert .. | .mapUpdate .. | .mapEntry .. | .entryStore .. =>2
 | .alloc _| .box .. | .buildSlice .. | .makeSlice .. | .makeMap .. =>4
 | .call c=>match c.callee with
   | .builtin .min| .builtin .max=>0
   | .builtin .len=>1
   | .builtin .delete| .builtin .copy=>2
   | .builtin .append=>5
   |_=>3
 |_=>3
def touch(ρ:Operand->Value):Op->Option Nat
 | .load _ a| .store _ a _=>match ρ a with
   | .pointer (some a)=>some a.block
   |_=>none
 | .lookup _ m _ _| .insert _ m _ _| .mapUpdate _ m _ _| .mapEntry _ m _| .entryStore _ m _ _=>match ρ m with
   | .map r=>r
   |_=>none
 | .convert _ _ x=>match ρ x with
   | .slice (some a) _ _=>some a.block
   |_=>none
 | .call c=>match c.args.toList with
   | x::_=>match ρ x with
     | .map r=>r
     | .slice (some a) _ _=>some a.block
     |_=>none
   |_=>none
 |_=>none
def befs :List Oper->List Nat->Option (List Nat)
 | [],a=>some a
 | o ::b,a=>match(o.after.toList.foldl (fun s e=>match s with
     |none=>none
     | some s=>match e.ground with
       | .textOnly _=>some s
       | .gcOnly _=>some s
       | _=>match a[a.length-1-e.on]? with
         |none=>none
         |some m=>bif zx e.on a.length then some (zq (zq s (zu 2 e.on)) m)else none) (some 0))with
   |none=>none
   |some s=>befs b (s::a)
def hZ (ops:List Oper) (o:Oper):List Tmp:=
 o.dst.toList++(o.op.operands.toList.filterMap fun x=>match x with| .tmp t=>some t|_=>none)++
  (match o.guard with
    |none=>[]
    | some (j,_)=>match ops[j]? with
      |none=>[]
      |some a=>a.dst.toList)
def jY(t:Nat):List Nat->Bool
 | []=>false
 |x::l=>zj t x||jY t l
def pQ(ops:List Oper)(o p:Oper):Bool:=
 (match o.dst with|none=>true|some t=>!jY t (hZ ops p))&&(match p.dst with|none=>true|some t=>!jY t (hZ ops o))
def ii:Op->Op->Bool
 | .mapEntry t _ _,.lookup a _ _ b=>!b&&zj t a
 |_,_=>false
def cQ:Op->Bool
 | .call c=>match c.callee with
   | .builtin _=>false
   |_=>true
 |_=>false
def dI:Op->Bool
 | .alloc _=>true
 |_=>false
def isMk:Op->Bool
 | .makeMap .. =>true
 |_=>false
def mapArg:Op->Option Tmp
 | .insert _ (.tmp t) _ _=>some t
 | .mapUpdate _ (.tmp t) _ _=>some t
 |_=>none
def oY(t:Tmp)(o:Oper):Bool:=match o.dst with
 |some d=>zj d t
 |none=>false
def atIs(f:Oper->Bool)(ops:List Oper)(k:Nat):Bool:=match ops[k]? with
 |some o=>f o
 |none=>false
def lE(ops:List Oper)(o:Oper)(n i:Nat):Bool:=match mapArg o.op with
 |some t=>(zo n).any fun k=>zx i k&&(atIs (fun p=>isMk p.op&&oY t p) ops k&&(zo n).all fun j=>zy j k|| !atIs (oY t) ops j)
 |none=>false
def gz (E:Env) (ops:List Oper) (o:Oper) (m n:Nat):List Oper->Nat->Nat×List (Nat×Nat)->Option (Nat×List (Nat×Nat))
 | [],_,r=>some r
 | p ::a,i,(q,l)=>bif zG m i then gz E ops o m n a (i+1) (q,l)else
   bif pQ ops o p then
    match cls E o.op,cls E p.op with
    |0,_=>gz E ops o m n a (i+1) (q,l)
    |_,0=>gz E ops o m n a (i+1) (q,l)
    |1,1=>gz E ops o m n a (i+1) (q,l)
    |2,1=>gz E ops o m n a (i+1) (q,bif ii o.op p.op then l else(i,n)::l)
    |1,2=>gz E ops o m n a (i+1) (q,bif ii p.op o.op then l else(i,n)::l)
    |5,1=>gz E ops o m n a (i+1) (q,(i,n)::l)
    |1,5=>gz E ops o m n a (i+1) (q,(i,n)::l)
    |3,1=>bif cQ o.op then gz E ops o m n a (i+1) (q,(i,n)::l)else gz E ops o m n a (i+1) (zq (zu 2 n) q,l)
    |1,3=>bif cQ p.op then gz E ops o m n a (i+1) (q,(i,n)::l)else gz E ops o m n a (i+1) (zq (zu 2 i) q,l)
    |3,4=>bif cQ o.op&&dI p.op then gz E ops o m n a (i+1) (q,(i,n)::l)else gz E ops o m n a (i+1) (zq (zu 2 n) q,l)
    |2,3=>bif lE ops o n i then gz E ops o m n a (i+1) (zq (zu 2 i) q,l)else none
    |2,_=>none
    |_,2=>none
    |c,d=>gz E ops o m n a (i+1)
     (zq (bif zj d 3||zj d 5 then zu 2 i else 0) (zq (bif zj c 3||zj c 5 then zu 2 n else 0) q),l)
   else none
def qh(E:Env)(ops:List Oper):List Oper->List Nat->Nat->Nat×List (Nat×Nat)->Option (Nat×List (Nat×Nat))
 | [],_,_,r=>some r
 | o::a,m::b,n,r=>match gz E ops o m n (ops.take n) 0 r with
   |none=>none
   |some (q,l)=>qh E ops a b (n+1) (bif zj (cls E o.op) 4 then zq (zu 2 n) q else q,l)
 |_,[],_,_=>none
def iI(E:Env)(ops:List Oper):Option (Nat×List (Nat×Nat)):=match befs ops []with
 |none=>none
 |some a=>qh E ops ops a.reverse 0 (0,[])

def tmpsOf:List Operand->List Tmp
 | []=>[]
 | .tmp t::l=>t::tmpsOf l
 |_::l=>tmpsOf l
def Loc.evD(l:Loc)(ts:List Tmp):Operand->Value
 | .tmp t=>bif jY t ts then l.ev (.tmp t)else poison
 |x=>l.ev x
def dk(E:Env)(q i:Nat)(o:Op):Bool:=zG q i&&zy 3 (cls E o)
def bQ(E:Env)(R:Rec)(ρ:Operand->Value)(a:Bool)(o:Oper)(h:Hp):Option (Value×Hp):=
 bif a then
  match cd E R (aop E ρ {h with lo:=h.n} o.op)with
  |some (.ret v,b)=>bif zy h.n b.lo then some (v,{b with lo:=h.lo})else none
  |_=>none
 else match cd E R (aop E ρ h o.op)with
  |some (.ret v,b)=>some (v,b)
  |_=>none
inductive Tch where
 |blk (b:Nat)
 |run (h h':Hp)
def g8(ρ:Operand->Value)(op:Op)(h:Hp):Option Nat:=bif dI op then some h.n else touch ρ op
def bM(ρ:Operand->Value)(a:Bool)(op:Op)(h c:Hp):Option Tch:=
 bif cQ op then(bif a then none else some (.run h c))else match g8 ρ op h with
  |none=>none
  |some b=>some (.blk b)
def eJ(i:Nat)(a:List (Nat×Tch)):Option Tch->List (Nat×Tch)
 |none=>a
 |some b=>(i,b)::a
def aS(E:Env)(R:Rec)(ops:List Oper)(q:Nat):List Oper->Nat->Loc->Hp->List (Nat×Tch)->Option (Loc×Hp×List (Nat×Tch))
 | [],_,l,h,a=>some (l,h,a)
 | o ::b,i,l,h,a=>match bC ops l.regs o with
   |none=>none
   |some false=>aS E R ops q b (i+1) (l.put o.dst (.tuple #[])) h a
   | some true=>match bQ E R (l.evD (tmpsOf o.op.operands.toList)) (dk E q i o.op) o h with
     |none=>none
     |some (v,c)=>aS E R ops q b (i+1) (l.put o.dst v) c (eJ i a (bM (l.evD (tmpsOf o.op.operands.toList)) (dk E q i o.op) o.op h c))
def bR(i:Nat):List (Nat×Tch)->Option Tch
 | []=>none
 |(k,b)::l=>bif zj i k then some b else bR i l
def sameAddr(a b:Addr):Bool:=zj a.block b.block&&zj a.off b.off&&(match a.spot,b.spot with
 |none,none=>true
 |some i,some j=>zj i j
 |_,_=>false)
def nL(a b:Value):Bool:=match aY a b with
 |some t=>t
 | none=>match a,b with
   | .pointer none,.pointer none=>true
   | .pointer (some x),.pointer (some y)=>sameAddr x y
   | .slice none n m,.slice none c d=>zj n c&&zj m d
   | .slice (some x) n m,.slice (some y) c d=>sameAddr x y&&(zj n c&&zj m d)
   | .map none,.map none=>true
   | .map (some x),.map (some y)=>zj x y
   | .nilFunc,.nilFunc=>true
   | .nilIface,.nilIface=>true
   |_,_=>false
def pO:List Value->List Value->Bool
 | [],[]=>true
 |x::l,y::m=>nL x y&&pO l m
 |_,_=>false
def sZ(a b:Value):Bool:=match a,b with
 | .func (.func g) x y,.func (.func c) d e=>zj g c&&(pO x.toList d.toList&&pO y.toList e.toList)
 | .iface t x,.iface f y=>zj t f&&nL x y
 |_,_=>nL a b
def sameT:Tr Value->Tr Value->Bool
 | .nil,.nil=>true
 | .node x l r,.node a b c=>sZ x a&&(sameT l b&&sameT r c)
 |_,_=>false
def sameE:List (Value×Value×Nat)->List (Value×Value×Nat)->Bool
 | [],[]=>true
 |(k,x,n)::l,(a,y,m)::b=>nL k a&&(sZ x y&&(zj n m&&sameE l b))
 |_,_=>false
def sameB(x y:Blk):Bool:=(match x,y with
 | .cells t n e m,.cells b d f g=>sameT t b&&(zj n d&&(zj e f&&zj m g))
 | .map h c,.map a i=>zj c i&&sameE h a
 |_,_=>false)|| @decide (x=y) (Classical.propDecidable _)
def leaves(h a:Hp)(b:Nat):Bool:=match h.get b,a.get b with
 |some x,some y=>sameB x y
 |none,none=>true
 |_,_=>false
def iY:Option Tch->Option Tch->Bool
 |some (.blk a),some (.blk b)=>!Nat.beq a b
 |some (.blk a),some (.run h c)=>leaves h c a
 |some (.run h c),some (.blk a)=>leaves h c a
 |some (.run _ _),some (.run _ _)=>false
 |_,_=>true
def bL(a:List (Nat×Tch)):List (Nat×Nat)->Bool
 | []=>true
 |(i,j)::l=>iY (bR i a) (bR j a)&&bL a l

def pT(o:Oper):Bool:=dI o.op&&o.guard.isNone
def pB(ops:List Oper)(i:Nat):Bool:=match ops[i]? with
 |some o=>pT o
 |none=>false
def lates:List Oper->List Bool->List Bool
 | [],a=>a
 |o::b,a=>lates b ((isMk o.op||o.after.toList.any fun e=>zx e.on a.length&&a.getD (a.length-1-e.on) false)::a)
def pV(ops:List Oper):Bool:=ops.any (fun o=>cQ o.op)&&(ops.any (fun o=>isMk o.op)&&ops.any fun o=>(mapArg o.op).isSome)
def sa(ops:List Oper)(i:Nat):Bool:=pV ops&&(lates ops []).reverse.getD i false
def ordL(ops:List Oper):List Nat:=(zo ops.length).filter (pB ops)++((zo ops.length).filter (fun i=>!pB ops i&& !sa ops i)++(zo ops.length).filter fun i=>!pB ops i&&sa ops i)
def dT(i:Nat):List Nat->Nat
 | []=>0
 |x::l=>bif zj i x then 0 else dT i l+1
def reix(ord:List Nat)(o:Oper):Oper:={o with after:=o.after.map fun e=>{e with on:=dT e.on ord},guard:=match o.guard with
 |none=>none
 |some (j,w)=>some (dT j ord,w)}
def dv(ops:List Oper)(ord:List Nat):List Nat->List Oper
 | []=>[]
 | i::l=>match ops[i]? with
   |none=>dv ops ord l
   |some o=>reix ord o::dv ops ord l
def gE(n:Nat)(o:Oper):Bool:=match o.guard with
 |none=>true
 |some (j,_)=>zx j n
def aZ(ops:List Oper):List Oper:=bif (ops.any pT||pV ops)&&ops.all (gE ops.length)then dv ops (ordL ops) (ordL ops)else ops

def fullM(ops:List Oper)(n:Nat):Bool:=match befs ops []with
 |some (m::_)=>(zo n).all fun i=>zG m i
 |_=>false
def qm(ops:List Oper)(n:Nat):Bool:=fullM ops n&&(ops.take n).all (gE n)
def sh (E:Env) (R:Rec) (cx:Cx) (ops:List Oper) (l:Loc) (h:Hp):Option (Ex×Loc×Hp):=bif qm ops (ops.length-1)then
    match iI E (aZ (ops.take (ops.length-1)))with
    |none=>none
    | some (q,a)=>match aS E R (aZ (ops.take (ops.length-1))) q (aZ (ops.take (ops.length-1))) 0 l h []with
      |none=>none
      |some (b,c,d)=>bif bL d a then fK E R cx ops (ops.drop (ops.length-1)) b c else none
 else none

def mC:Value->Bool
 | .int _ _=>true
 |_=>false
def insK(t:Tmp)(o:Oper):Option (TypeId×Value):=match o.op with
 | .insert a (.tmp b) (.const k) _=>bif zj b t&&(o.dst.isNone&&mC k)then some (a,k)else none
 |_=>none
def p9(x y:Value):Bool:=match aY x y with
 |some b=>!b
 |none=>false
def tw(ty:TypeId):Op->Bool
 | .lookup a _ _ _=>zj a ty
 |_=>false
def sn(E:Env)(ty:TypeId)(t:Tmp)(o:Oper):Bool:=!oY t o&&(zj (cls E o.op) 0||tw ty o.op)
def m6(E:Env)(os:List Oper)(i:Nat):Option Tmp:=match os[i]?,os[i+1]?,os[i+2]? with
 | some m,some a,some b=>match m.dst with
   | some t=>match insK t a,insK t b with
     |some (c,x),some (d,y)=>bif isMk m.op&&(zj c d&&(p9 x y&&(p9 y x&&((os.drop (i+3)).all (sn E c t)&&os.all fun o=>o.guard.isNone))))then some t else none
     |_,_=>none
   |none=>none
 |_,_,_=>none
def jH(os:List Oper):Nat:=os.findIdx fun o=>isMk o.op
def swN(k i:Nat):Nat:=bif zj i k then k+1 else bif zj i (k+1)then k else i
def fj(n k:Nat):List Nat:=(zo n).map (swN k)
def tie(k i:Nat)(o:Oper):Oper:=bif zj i (k+1)then {o with after:=o.after.push ⟨k,.data⟩}else o
def jS(os:List Oper)(k:Nat):List Oper:=os.mapIdx (tie k)
def pE(E:Env)(ops:List Oper):Bool:=(m6 E (aZ ops) (jH (aZ ops))).isSome
def qA(E:Env)(os:List Oper):Option (Nat×List (Nat×Nat)):=match m6 E os (jH os),befs os [],iI E (jS os (jH os+1)),iI E (jS (dv os (fj os.length (jH os+1)) (fj os.length (jH os+1))) (jH os+1))with
 |some _,some _,some (q,b),some (c,a)=>bif zj q c then some (q,b++a)else none
 |_,_,_,_=>none
def kT(t:Option Tmp)(l:Loc)(h:Hp):Option Hp:=match t with
 | some t=>match l.ev (.tmp t)with
   | .map (some b)=>match h.get b with
     |some (.map _ _)=>some (h.put b .dead)
     |_=>none
   |_=>none
 |none=>none
def forkD(E:Env)(R:Rec)(ops:List Oper)(l:Loc)(h:Hp):Option (Ex×Loc×Hp):=match qA E (aZ ops)with
 |none=>none
 | some (q,b)=>match aS E R (aZ ops) q (aZ ops) 0 l h []with
   |none=>none
   | some (a,c,d)=>bif bL d b then(match kT (m6 E (aZ ops) (jH (aZ ops))) a c with
     |some e=>some (.normal,a,e)
     |none=>none)else none
def cutD(E:Env)(R:Rec)(cx:Cx)(ops:List Oper)(l:Loc)(h:Hp):Option (Ex×Loc×Hp):=bif pE E ops then forkD E R ops l h else sh E R cx ops l h

def fJ (R:Rec) (cx:Cx) (f:Value) (params:Array Tmp) (assign body:Code) (l:Loc) (h:Hp):Option (Ex×Loc×Hp):=
 match f with
 | .func (.func g) a b=>
   match(match cx.round with
    |none=>some (h.new .dfr,h.n,({target:=.collected h.n,args:=#[]}:Deferred)::l.dfs)
    | some r=>match h.get r with
      |some (.loop x)=>some (h,x.defers,l.dfs)
      |_=>none)with
   |none=>none
   | some (e,d,c)=>
     match R.call g (a.toList++[.func (.yield e.n) #[] #[]]++b.toList) none
      (e.new (.loop {fn:=cx.fn,regs:=l.regs,nr:=cx.nr,params,assign,body,st:=0,pending:=none,defers:=d}))with
     |none=>none
     |some (.pan v,_,i)=>some (.pan v,{l with dfs:=c},i)
     | some (.ret _,_,i)=>match i.get e.n with
       | some (.loop x)=>match x.st with
         |1=>none
         | _=>match x.pending with
           |none=>some (.normal,{l with dfs:=c},i.put e.n .dead)
           |some (.exit id)=>some (.exit id,{l with dfs:=c},i.put e.n .dead)
           |some .ret=>some (.ret,{l with dfs:=c},i.put e.n .dead)
           |_=>none
       |_=>none
 |_=>none

def ay (E:Env) (R:Rec) (cx:Cx):Code->Loc->Hp->Option (Ex×Loc×Hp)
 | .skip,l,h=>some (.normal,l,h)
 | .label _,l,h=>some (.normal,l,h)
 | .region _ d m,l,h=>bif m then
  bif E.cut cx.fn then cutD E R cx d.toList l h else match iI E (aZ d.toList)with
  |none=>none
  | some (q,o)=>match aS E R (aZ d.toList) q (aZ d.toList) 0 l h []with
    |none=>none
    |some (j,k,p)=>bif bL p o then some (.normal,j,k)else none
   else fK E R cx d.toList d.toList l h
 | .seq a b,l,h=>match ay E R cx a l h with
   |some (.normal,j,k)=>ay E R cx b j k
   |r=>r
 | .cond c a b,l,h=>match l.ev c with
   | .bool t=>bif t then ay E R cx a l h else ay E R cx b l h
   |_=>none
 | .block id b,l,h=>match ay E R cx b l h with
   |some (.exit i,j,k)=>bif zj i id then some (.normal,j,k)else some (.exit i,j,k)
   |r=>r
 | .loop b,l,h=>match ay E R cx b l h with
   |some (.normal,j,k)=>R.code cx (.loop b) j k
   |r=>r
 | .rangeFunc f e g n,l,h=>fJ R cx (l.ev f) e g n l h
 | .exit id,l,h=>some (.exit id,l,h)
 | .scope b,l,h=>ay E R cx b l h
 | .goto _,_,_=>none
 | .ret,l,h=>some (.ret,l,h)
 | .refuse _,_,_=>none

def bA (R:Rec):List Deferred->Option Value->Hp->Option (Option Value×Hp)
 | [],m,h=>some (m,h)
 | d ::a,m,h=>match d.target with
   | .collected b=>match h.get b with
     |some .dfr=>bA R a m (h.put b .dead)
     |_=>none
   | .fn (.func f) c=>match R.call f (d.args.toList++c.toList) (match m with|none=>none|some v=>some (v,false)) h with
     | some (.ret _,g,e)=>match m,g with
       |none,none=>bA R a none e
       |some _,some (_,true)=>bA R a none e
       |some _,some (v,false)=>bA R a (some v) e
       |_,_=>none
     |_=>none
   |_=>none
def aO(E:Env)(b:Tr Value)(h:Hp):List ResultVar->Option (List Value)
 | []=>some []
 | .tmp t::c=>match aO E b h c with
   |none=>none
   |some l=>some ((match b.get t with|some v=>v|none=>.tuple #[])::l)
 | .cell a t::c=>match dJ E h t (match b.get a with|some v=>v|none=>.tuple #[])with
   |none=>none
   | some v=>match aO E b h c with
     |none=>none
     |some l=>some (v::l)
def ae:List Value->Value
 | [v]=>v
 |l=>.tuple ⟨l⟩
def iG (E:Env) (R:Rec) (f:FuncId) (args:List Value) (g:Option (Value×Bool)) (h:Hp):Option (Out×Option (Value×Bool)×Hp):=
 match E.fn f with
 |none=>none
 | some b=>match b.body with
   |none=>none
   | some c=>
     bif zy args.length b.ntmps then
     match R.code ⟨f,b.ntmps,none⟩ c ⟨(Tr.blank (.tuple #[]) b.ntmps b.ntmps).setAll 0 args,[],g⟩ h with
     |none=>none
     |some (.exit _,_,_)=>none
     | some (.pan v,l,d)=>match bA R l.dfs (some v) d with
       |none=>none
       |some (some v,a)=>some (.pan v,l.rc,a)
       | some (none,a)=>match aO E l.regs a b.results.toList with
         |none=>none
         |some e=>some (.ret (ae e),l.rc,a)
     | some (_,l,d)=>match bA R l.dfs none d with
       | some (none,a)=>match aO E l.regs a b.results.toList with
         |none=>none
         |some e=>some (.ret (ae e),l.rc,a)
       |_=>none
     else none

def fV(E:Env)(R:Rec)(f:FuncId)(args:List Value)(a:Option (Value×Bool))(h:Hp):Option (Out×Option (Value×Bool)×Hp):=
 match E.orc f args with
 |none=>iG E R f args a h
 | some v=>match a with
   |none=>some (.ret v,none,h)
   |some _=>none

def next(E:Env)(R:Rec):Rec:={call:=fV E R,code:=ay E R}
def bot:Rec:={call:=fun _ _ _ _=>none,code:=fun _ _ _ _=>none}
def run(E:Env):Nat->Rec
 |0=>bot
 |n+1=>next E (run E n)
end
end Go.Ab

namespace Go.Ab

structure FC where
 fn:FuncId
 kind:CallKind
 round:Option Nat
def FC.mk'(F:FC)(tmps:Array Value)(dfs:List Deferred)(todo:List Item):Frame:=
 {fn:=F.fn,tmps,todo,defers:=dfs,mode:=.run,kind:=F.kind,roundOf:=F.round}

section steps
variable{P:Program}{F:FC}{tmps:Array Value}{dfs:List Deferred}{k:List Item}{cs:List Frame}{w:World}

theorem st_skip:step P (lone (F.mk' tmps dfs (.code .skip::k)) cs w)=.next (lone (F.mk' tmps dfs k) cs w):=step_lone_go (by simp [stepG,stepG.exec,FC.mk'])
theorem st_label{l:Nat}:step P (lone (F.mk' tmps dfs (.code (.label l)::k)) cs w)=.next (lone (F.mk' tmps dfs k) cs w):=step_lone_go (by simp [stepG,stepG.exec,FC.mk'])
theorem yV{id:Nat}:step P (lone (F.mk' tmps dfs (.inBlock id::k)) cs w)=.next (lone (F.mk' tmps dfs k) cs w):=step_lone_go (by simp [stepG,stepG.exec,FC.mk'])
theorem ze{b:Code}:step P (lone (F.mk' tmps dfs (.inScope b::k)) cs w)=.next (lone (F.mk' tmps dfs k) cs w):=step_lone_go (by simp [stepG,stepG.exec,FC.mk'])
theorem st_seq{a b:Code}:step P (lone (F.mk' tmps dfs (.code (.seq a b)::k)) cs w)=.next (lone (F.mk' tmps dfs (.code a:: .code b::k)) cs w):=step_lone_go (by simp [stepG,stepG.exec,FC.mk'])
theorem st_block{id:Nat}{b:Code}:step P (lone (F.mk' tmps dfs (.code (.block id b)::k)) cs w)=.next (lone (F.mk' tmps dfs (.code b:: .inBlock id::k)) cs w):=step_lone_go (by simp [stepG,stepG.exec,FC.mk'])
theorem st_loop{b:Code}:step P (lone (F.mk' tmps dfs (.code (.loop b)::k)) cs w)=.next (lone (F.mk' tmps dfs (.code b:: .inLoop b::k)) cs w):=step_lone_go (by simp [stepG,stepG.exec,FC.mk'])
theorem st_inLoop{b:Code}:step P (lone (F.mk' tmps dfs (.inLoop b::k)) cs w)=.next (lone (F.mk' tmps dfs (.code b:: .inLoop b::k)) cs w):=step_lone_go (by simp [stepG,stepG.exec,FC.mk'])
theorem st_scope{b:Code}:step P (lone (F.mk' tmps dfs (.code (.scope b)::k)) cs w)=.next (lone (F.mk' tmps dfs (.code b:: .inScope b::k)) cs w):=step_lone_go (by simp [stepG,stepG.exec,FC.mk'])
theorem st_exit{id:Nat}{k':List Item}(h:exitTo id k=some k'):step P (lone (F.mk' tmps dfs (.code (.exit id)::k)) cs w)=.next (lone (F.mk' tmps dfs k') cs w):=step_lone_go (by simp [stepG,stepG.exec,FC.mk',h])
theorem st_region{id:Nat}{ops:Array Oper}:step P (lone (F.mk' tmps dfs (.code (.region id ops false)::k)) cs w)=.next (lone (F.mk' tmps dfs (.inRegion ops (zo ops.size)::k)) cs w):=step_lone_go (by simp [stepG,stepG.exec,FC.mk'])
theorem ky{id:Nat}{ops:Array Oper}:step P (lone (F.mk' tmps dfs (.code (.region id ops true)::k)) cs w)=
 .next (lone (F.mk' tmps dfs (.inRegion ops (Region.schedule (P.follows .mixedOrders) ops (w.tape w.drawn (.order F.fn id)))::k)) cs {w with drawn:=w.drawn+1}):=
 step_lone_go (by simp [stepG,stepG.exec,FC.mk',choose,Sem.run,Question.forced,Question.cut])
theorem lK{ops:Array Oper}:step P (lone (F.mk' tmps dfs (.inRegion ops []::k)) cs w)=.next (lone (F.mk' tmps dfs k) cs w):=step_lone_go (by simp [stepG,stepG.exec,FC.mk'])

def cK(tmps:Array Value):Operand->Value
 | .tmp t=>tmps.getD t undef
 | .const v=>v
 | .global g=>.pointer (some ⟨g,0,none⟩)
 | .func f=>.func (.func f) #[] #[]
theorem tz(todo:List Item):(F.mk' tmps dfs todo).eval=cK tmps:=by funext x;cases x<;>rfl
theorem st_cond{c:Operand}{a b:Code}{t:Bool}(h:cK tmps c=.bool t):step P (lone (F.mk' tmps dfs (.code (.cond c a b)::k)) cs w)=.next (lone (F.mk' tmps dfs (.code (if t then a else b)::k)) cs w):=
 step_lone_go (by
  have:=congrFun (tz (F:=F) (tmps:=tmps) (dfs:=dfs) (.code (.cond c a b)::k)) c
  simp only [FC.mk']at this
  simp [stepG,stepG.exec,FC.mk',this,h])

def d6(tmps:Array Value)(d:Option Tmp)(v:Value):Array Value:=match d with
 |some d=>tmps.setIfInBounds d v
 |none=>tmps
theorem iF{ops:Array Oper}{i:Nat}{rest:List Nat}(v:Value):(F.mk' tmps dfs (.inRegion ops (i::rest)::k)).finish v=F.mk' (d6 tmps ((ops[i]?).bind (·.dst)) v) dfs (.inRegion ops rest::k):=by
 cases h:(ops[i]?).bind (·.dst)<;>simp [Frame.finish,FC.mk',d6,h]
theorem su{ops:Array Oper}{i:Nat}{rest:List Nat}(h:((ops[i]?).map (Region.wanted · (yielded ops tmps))).getD false=false):
 step P (lone (F.mk' tmps dfs (.inRegion ops (i::rest)::k)) cs w)=.next (lone (F.mk' (d6 tmps ((ops[i]?).bind (·.dst)) undef) dfs (.inRegion ops rest::k)) cs w):=by
 rw [<-iF]
 exact step_lone_go (by
  have a:=h
  simp only [FC.mk']at*
  simp [stepG,stepG.exec,a])
theorem lG{ops:Array Oper}{i:Nat}{rest:List Nat}{o:Oper}(d:ops[i]? =some o)(e:Region.wanted o (yielded ops tmps)=true)(a:F.round=none\/ ∀c,o.op≠ .defer c):
 stepG P true {frame:=F.mk' tmps dfs (.inRegion ops (i::rest)::k),callers:=cs,status:=.running,dying:=none} w=
  stepG.apply P true (F.mk' tmps dfs (.inRegion ops (i::rest)::k)) cs none (execOp (cK tmps) o) w:=by
 have b:=tz (F:=F) (tmps:=tmps) (dfs:=dfs) (.inRegion ops (i::rest)::k)
 simp only [FC.mk']at b
 rcases a with a|a
 . rw [a]at b
   simp [stepG,stepG.exec,stepG.oper,Frame.oper?,FC.mk',d,e,a]
   rw [b]
 . simp only [stepG,stepG.exec,stepG.oper,Frame.oper?,FC.mk',d,e,Option.map_some,Option.getD_some,if_true,b]
   cases F.round with
   |none=>rfl
   | some l=>
     obtain⟨f,op,h,pos,j,g⟩:=o
     cases op<;>first|rfl|exact absurd rfl (a _)

section op
variable{ops:Array Oper}{i:Nat}{rest:List Nat}{o:Oper}{w':World}
theorem wY(a:ops[i]? =some o)(b:Region.wanted o (yielded ops tmps)=true)(d:F.round=none\/ ∀c,o.op≠ .defer c){v:Value}(e:(execOp (cK tmps) o).run P w=.ok (.value v) w'):
 step P (lone (F.mk' tmps dfs (.inRegion ops (i::rest)::k)) cs w)=.next (lone (F.mk' (d6 tmps o.dst v) dfs (.inRegion ops rest::k)) cs w'):=by
 have:F.mk' (d6 tmps o.dst v) dfs (.inRegion ops rest::k)=(F.mk' tmps dfs (.inRegion ops (i::rest)::k)).finish v:=by rw [iF,a];rfl
 rw [this]
 exact step_lone_go (by rw [lG a b d];simp [stepG.apply,e])
theorem st_opskip(a:ops[i]? =some o)(b:Region.wanted o (yielded ops tmps)=true)(d:F.round=none\/ ∀c,o.op≠ .defer c)(e:(execOp (cK tmps) o).run P w=.ok .skip w'):
 step P (lone (F.mk' tmps dfs (.inRegion ops (i::rest)::k)) cs w)=.next (lone (F.mk' (d6 tmps o.dst undef) dfs (.inRegion ops rest::k)) cs w'):=by
 have:F.mk' (d6 tmps o.dst undef) dfs (.inRegion ops rest::k)=(F.mk' tmps dfs (.inRegion ops (i::rest)::k)).finish undef:=by rw [iF,a];rfl
 rw [this]
 exact step_lone_go (by rw [lG a b d];simp [stepG.apply,e])
theorem st_enter(a:ops[i]? =some o)(b:Region.wanted o (yielded ops tmps)=true)(d:F.round=none\/ ∀c,o.op≠ .defer c){f:FuncId}{args:Array Value}(e:(execOp (cK tmps) o).run P w=.ok (.enter f args) w'):
 step P (lone (F.mk' tmps dfs (.inRegion ops (i::rest)::k)) cs w)=.next (lone (Frame.enter P f args .normal) (F.mk' tmps dfs (.inRegion ops (i::rest)::k)::cs) w'):=
 step_lone_go (by rw [lG a b d];simp [stepG.apply,e,FC.mk'])
theorem st_round(e:ops[i]? =some o)(g:Region.wanted o (yielded ops tmps)=true)(h:F.round=none\/ ∀c,o.op≠ .defer c){l:Nat}{f:FuncId}{d:Array Value}{a b:Code}(j:(execOp (cK tmps) o).run P w=.ok (.round l f d a b) w'):
 step P (lone (F.mk' tmps dfs (.inRegion ops (i::rest)::k)) cs w)=.next (lone (Frame.round l f d a b .normal) (F.mk' tmps dfs (.inRegion ops (i::rest)::k)::cs) w'):=
 step_lone_go (by rw [lG e g h];simp [stepG.apply,j,FC.mk'])
theorem st_defer(a:ops[i]? =some o)(b:Region.wanted o (yielded ops tmps)=true)(c:F.round=none){d:Deferred}(e:(execOp (cK tmps) o).run P w=.ok (.defer d) w'):
 step P (lone (F.mk' tmps dfs (.inRegion ops (i::rest)::k)) cs w)=.next (lone (F.mk' (d6 tmps o.dst undef) (d::dfs) (.inRegion ops rest::k)) cs w'):=by
 have:F.mk' (d6 tmps o.dst undef) (d::dfs) (.inRegion ops rest::k)=(F.mk' tmps (d::dfs) (.inRegion ops (i::rest)::k)).finish undef:=by rw [iF,a];rfl
 rw [this]
 exact step_lone_go (by rw [lG a b (.inl c)];simp [stepG.apply,e,FC.mk'])
theorem st_panic(a:ops[i]? =some o)(b:Region.wanted o (yielded ops tmps)=true)(d:F.round=none\/ ∀c,o.op≠ .defer c){v:Value}(e:(execOp (cK tmps) o).run P w=.halt (.panic v) w'):
 step P (lone (F.mk' tmps dfs (.inRegion ops (i::rest)::k)) cs w)=.next (lone {F.mk' tmps dfs (.inRegion ops (i::rest)::k)with mode:=.panicking [{v,recovered:=false}]} cs w'):=
 step_lone_go (by rw [lG a b d];simp [stepG.apply,e,Frame.raise,FC.mk'])
theorem rU(b:ops[i]? =some o)(d:Region.wanted o (yielded ops tmps)=true)(c:F.round=none)(e:(execOp (cK tmps) o).run P w=.ok .recover w')
 (f:tryRecover (F.mk' tmps dfs (.inRegion ops (i::rest)::k)) cs=none):
 step P (lone (F.mk' tmps dfs (.inRegion ops (i::rest)::k)) cs w)=.next (lone (F.mk' (d6 tmps o.dst .nilIface) dfs (.inRegion ops rest::k)) cs w'):=by
 have:F.mk' (d6 tmps o.dst .nilIface) dfs (.inRegion ops rest::k)=(F.mk' tmps dfs (.inRegion ops (i::rest)::k)).finish .nilIface:=by rw [iF,b];rfl
 rw [this]
 have a:(F.mk' tmps dfs (.inRegion ops (i::rest)::k)).roundOf=none:=c
 exact step_lone_go (by rw [lG b d (.inl c)];simp [stepG.apply,e,a,f])
theorem si(c:ops[i]? =some o)(e:Region.wanted o (yielded ops tmps)=true)(d:F.round=none)(f:(execOp (cK tmps) o).run P w=.ok .recover w'){v:Value}{a:List Frame}
 (g:tryRecover (F.mk' tmps dfs (.inRegion ops (i::rest)::k)) cs=some (v,a)):
 step P (lone (F.mk' tmps dfs (.inRegion ops (i::rest)::k)) cs w)=.next (lone (F.mk' (d6 tmps o.dst v) dfs (.inRegion ops rest::k)) a w'):=by
 have:F.mk' (d6 tmps o.dst v) dfs (.inRegion ops rest::k)=(F.mk' tmps dfs (.inRegion ops (i::rest)::k)).finish v:=by rw [iF,c];rfl
 rw [this]
 have b:(F.mk' tmps dfs (.inRegion ops (i::rest)::k)).roundOf=none:=d
 exact step_lone_go (by rw [lG c e (.inl d)];simp [stepG.apply,f,b,g])
end op

structure LeaveP(P:Program)(fr:Frame)(kind:CallKind)(v:Value):Prop where
 mode:fr.mode=.panicking [{v,recovered:=false}]
 defers:fr.defers=[]
 kind:fr.kind=kind
 fn: ∃fn,P.funcs[fr.fn]? =some fn
theorem xf{a c:Frame}{v:Value}(h:nU P a w .normal v):step P (lone a (c::cs) w)=.next (lone (c.finish v) cs w):=by
 obtain⟨d,hf,b⟩:=h.res
 exact step_lone_go (by simp [stepG,unwind,doReturn,h.mode,h.defers,h.kind,hf,b])
theorem kx{b c:Frame}{a:CallKind}{v:Value}(h:LeaveP P b a v):step P (lone b (c::cs) w)=.next (lone (c.raise [{v,recovered:=false}]) cs w):=by
 obtain⟨d,hf⟩:=h.fn
 exact step_lone_go (by simp [stepG,unwind,Frame.catches,h.mode,h.defers,hf])
end steps
end Go.Ab

namespace Go.Ab
section
variable{P:Program}{F:FC}{tmps:Array Value}{dfs:List Deferred}{k:List Item}{cs:List Frame}{w:World}

def setW(w:World)(c:Nat)(o:Obj):World:={w with heap:=w.heap.setIfInBounds c o}
def Plain:Obj->Prop
 | .cells .. =>False
 |_=>True
theorem lZ{c:Nat}{o q:Obj}(a:w.heap[c]? =some q)(b:Plain q):(setObj c o).run P w=.ok () (setW w c o):=by
 cases q<;>first|exact b.elim|simp [setObj,Sem.run,a,setW]
theorem sK{c:Nat}{q:Obj}(a:w.heap[c]? =some q)(b:Plain q):(getObj c).run P w=.ok q w:=by
 cases q<;>first|exact b.elim|simp [getObj,Sem.run,a]
theorem iZ{c:Nat}{r:Loop}(a:w.heap[c]? =some (.loop r)):(Instr.getLoop c).run P w=.ok r w:=by
 unfold Instr.getLoop
 simp only [Sem.run_bind,sK a trivial,Result.andThen_ok,Sem.run_pure]
theorem tG{c:Nat}{r:Loop}(a:w.heap[c]? =some (.loop r))(b:r.state=.ready):
 (Instr.beginRound c).run P w=.ok () (setW w c (.loop {r with state:=.busy})):=by
 unfold Instr.beginRound
 simp only [Sem.run_bind,iZ a,Result.andThen_ok,lZ a trivial,b,Sem.run_pure]
theorem vj{c:Nat}{r:Loop}(b:w.heap[c]? =some (.loop r))(a:Option Code):
 (Instr.endRound c a).run P w=.ok (.bool a.isNone) (setW w c (.loop {r with state:=if a.isNone then .ready else .done,pending:=a})):=by
 unfold Instr.endRound
 simp only [Sem.run_bind,iZ b,Result.andThen_ok,lZ b trivial,Sem.run_pure]
theorem xL{c:Nat}{r:Loop}(a:w.heap[c]? =some (.loop r))(b:r.state≠ .busy):
 (Instr.endLoop c).run P w=.ok r.pending (setW w c (.loop {r with state:=.exhausted})):=by
 unfold Instr.endLoop
 have:(r.state==LoopState.busy)=false:=by cases h:r.state<;>simp_all<;>rfl
 simp only [Sem.run_bind,iZ a,Result.andThen_ok,this,Bool.false_eq_true,if_false,lZ a trivial,Sem.run_pure]
theorem rE{c:Nat}{a:List Deferred}(b:w.heap[c]? =some (.deferred (some a))):
 (Instr.takeDeferred c).run P w=.ok a (setW w c (.deferred none)):=by
 unfold Instr.takeDeferred
 simp only [Sem.run_bind,sK b trivial,Result.andThen_ok,lZ b trivial,Sem.run_pure]

theorem uC{c:Nat}(a:F.round=some c){r:Loop}(b:w.heap[c]? =some (.loop r))(d:r.state=.ready):
 step P (lone (F.mk' tmps dfs (.beginRound::k)) cs w)=.next (lone (F.mk' tmps dfs k) cs (setW w c (.loop {r with state:=.busy}))):=by
 refine step_lone_go ?_
 have e:=tG (P:=P) b d
 simp [stepG,stepG.exec,stepG.apply,FC.mk',a,e,Frame.finish]
def w7(todo:List Item)(a:Option Code):Prop:=
 (todo=[]/\a=none)\/(∃b,todo=.code .ret::b/\a=some .ret)\/(∃id b,todo=.code (.exit id)::b/\exitTo id b=none/\a=some (.exit id))
theorem uD{c:Nat}(b:F.round=some c)(d:F.kind=.normal){r:Loop}(f:w.heap[c]? =some (.loop r)){todo:List Item}{a:Option Code}(g:w7 todo a){c0:Frame}:
 step P (lone (F.mk' tmps dfs todo) (c0::cs) w)=
  .next (lone (c0.finish (.bool a.isNone)) cs (setW w c (.loop {r with state:=if a.isNone then .ready else .done,pending:=a}))):=by
 refine step_lone_go ?_
 have e:=vj (P:=P) f a
 rcases g with⟨rfl,rfl⟩|⟨h,rfl,rfl⟩|⟨id,h,rfl,i,rfl⟩
 . simp [stepG,stepG.exec,FC.mk',b,e,doReturn,d]
 . simp [stepG,stepG.exec,FC.mk',b,e,doReturn,d]
 . simp [stepG,stepG.exec,FC.mk',b,e,doReturn,d,i]
theorem yT(a:F.round=none){todo:List Item}(c:todo=[]\/ ∃b,todo=.code .ret::b):
 step P (lone (F.mk' tmps dfs todo) cs w)=.next (lone {F.mk' tmps dfs todo with mode:=.returning} cs w):=by
 refine step_lone_go ?_
 rcases c with rfl|⟨b,rfl⟩
 . simp [stepG,stepG.exec,FC.mk',a]
 . simp [stepG,stepG.exec,FC.mk',a]
theorem xF{c:Nat}{r:Loop}(a:w.heap[c]? =some (.loop r))(b:r.state≠ .busy):
 step P (lone (F.mk' tmps dfs (.endRangeFunc c::k)) cs w)=.next (lone (F.mk' tmps dfs ((r.pending.map Item.code).toList++k)) cs (setW w c (.loop {r with state:=.exhausted}))):=by
 refine step_lone_go ?_
 have d:=xL (P:=P) a b
 simp [stepG,stepG.exec,FC.mk',d]

def jb(w:World)(o:Obj):World:={w with heap:=w.heap.push o}
theorem rW{o:Obj}:(newObj o).run P w=.ok w.heap.size (jb w o):=by simp [newObj,Sem.run,jb]
theorem vZ{params:Array Tmp}{assign body:Code}:
 (Instr.enterLoop F.fn tmps params assign body none).run P w=.ok (w.heap.size+1,[{target:=.collected w.heap.size,args:=#[]}])
  (jb (jb w (.deferred (some []))) (.loop {state:=.ready,pending:=none,fn:=F.fn,tmps,params,assign,body,defers:=w.heap.size})):=by
 unfold Instr.enterLoop
 simp only [Sem.run_bind,rW,Result.andThen_ok,Sem.run_pure]
 simp [jb]
theorem rX{c:Nat}{r:Loop}(a:w.heap[c]? =some (.loop r)){params:Array Tmp}{assign body:Code}:
 (Instr.enterLoop F.fn tmps params assign body (some c)).run P w=.ok (w.heap.size,[])
  (jb w (.loop {state:=.ready,pending:=none,fn:=F.fn,tmps,params,assign,body,defers:=r.defers})):=by
 unfold Instr.enterLoop
 simp only [Sem.run_bind,rW,Result.andThen_ok,Sem.run_pure,iZ a]
theorem st_range{f:Operand}{params:Array Tmp}{assign body:Code}{g:FuncId}{x y:Array Value}(hf:cK tmps f=.func (.func g) x y)
 (h: ∀args w,(callFunc g args).run P w=.ok (.enter g args) w) {c:Nat} {mark:List Deferred} {b:World}
 (h0:(Instr.enterLoop F.fn tmps params assign body F.round).run P w=.ok (c,mark) b):
 step P (lone (F.mk' tmps dfs (.code (.rangeFunc f params assign body)::k)) cs w)=
  .next (lone (Frame.enter P g (x++#[.func (.yield c) #[] #[]]++y) .normal) (F.mk' tmps (mark++dfs) (.inRangeFunc c::k)::cs) b):=by
 refine step_lone_go ?_
 have e:=tz (F:=F) (tmps:=tmps) (dfs:=mark++dfs) (.inRangeFunc c::k)
 simp only [FC.mk']at e
 have i: ∀a,(do let d<-resolve (cK tmps) {callee:=.value f,args:=#[.const (.func (.yield c) #[] #[])],argTypes:=#[]} 0;invoke d.target d.args).run P a=
  .ok (.enter g (x++#[.func (.yield c) #[] #[]]++y)) a:=by
  intro a
  simp [resolve,hf,Deferred.ofValue,invoke,h,show∀v,cK tmps (.const v)=v from fun _=>rfl]
 simp only [stepG,stepG.exec,FC.mk']
 simp [h0]
 rw [e]
 simp [stepG.apply,i]
end
end Go.Ab

namespace Go.Ab

def ns(mu:Mu):Option (Value×Bool)->Option (Value×Bool)->Prop
 |none,none=>True
 |some (v,b),some (a,c)=>b=c/\aq mu v a
 |_,_=>False
theorem ns.mono{mu c:Mu}(h:Le mu c){a b:Option (Value×Bool)}(k:ns mu a b):ns c a b:=by
 cases a<;>cases b<;>simp only [ns]at*
 exact⟨k.1,k.2.mono h⟩
theorem jw.mono{mu d:Mu}(h:Le mu d){a b:Deferred}(k:jw mu a b):jw d a b:=by
 unfold jw at*
 split
 . rename_i f j e;rw [e]at k;obtain⟨c,g,i,l⟩:=k;exact⟨c,g,VL.mono h i,VL.mono h l⟩
 . rename_i b e;rw [e]at k;obtain⟨c,g,i⟩:=k;exact⟨c,g,i.mono h⟩
 . rename_i m n;split at k<;>first|(rename_i e;exact absurd e (by first|exact m _ _|exact n _))|exact k
abbrev DL(mu:Mu):=LR (jw mu)

def aA:Option (Value×Bool)->List Frame->List Frame
 |none,a=>a
 |some (v,b),c::r=>{c with mode:=.panicking [{v,recovered:=b}]}::r
 |some _,[]=>[]
def KOk(a:CallKind)(b:List Frame):Option (Value×Bool)->Prop
 |none=>a=.normal\/(a=.deferred/\ ∃c r,b=c::r/\c.mode=.returning)
 |some _=>a=.deferred/\b≠ []
def RdRel(mu:Mu):Option Nat->Option Nat->Prop
 |none,none=>True
 |some b,some c=>cL mu b c
 |_,_=>False
theorem RdRel.mono{mu c:Mu}(h:Le mu c){a b:Option Nat}(k:RdRel mu a b):RdRel c a b:=by
 cases a<;>cases b<;>simp only [RdRel]at*
 exact k.mono h

theorem ev_rel{mu:Mu}{l:Loc}{n:Nat}{tmps:Array Value}(d:gD mu l.regs n tmps)(x:Operand)
 (b: ∀g,g<16->dA mu ⟨g,0,none⟩ ⟨g,0,none⟩):aq mu (l.ev x) (cK tmps x):=by
 cases x with
 | tmp t=>
   simp only [Loc.ev,cK]
   cases a:l.regs.get t with
   | none=>
     have:n<=t:=by
      rcases zt t n with c|c
      . obtain⟨v,e⟩:=Tr.get_some d.sized c;rw [e]at a;cases a
      . exact c
     rw [zk,zn (by rw [d.size];exact this)]
     exact .tuple rfl (by intro i v h a;simp at a)
   | some v=>
     obtain⟨h,c,e⟩:=d.get t v a
     rw [zk,c];exact e
 | const v=>
   simp only [Loc.ev,cK]
   cases j:cg v with
   |true=>simp only [cond_true];exact aq.const mu j
   |false=>simp only [cond_false];exact .poison v
 | global g=>
   simp only [Loc.ev,cK]
   cases k:zx g 16 with
   |true=>simp only [cond_true];exact .ptr (b g (by simpa [Nat.blt_eq]using k))
   |false=>simp only [cond_false];exact .poison _
 |func f=>exact .fn rfl (by intro i v h a;simp at a) rfl (by intro i v h a;simp at a)

theorem qx{mu:Mu}{t:Tr Value}{n:Nat}{tmps:Array Value}(a:gD mu t n tmps)(d:Option Tmp){v v':Value}(g:aq mu v v'):
 gD mu (match d with|none=>t|some d=>t.set d v) n (d6 tmps d v'):=by
 cases d with
 |none=>exact a
 | some d=>
   refine⟨by simp [d6,a.size],Tr.sized_set d v a.sized,fun i u b=>?_⟩
   rw [Tr.get_set]at b
   simp only [d6]
   by_cases c:d=i/\(t.get i).isSome
   . rw [if_pos c]at b
     cases b
     obtain⟨rfl,h⟩:=c
     have:d<tmps.size:=by rw [a.size];exact(a.sized d).1 h
     exact⟨v',by simp [this],g⟩
   . rw [if_neg c]at b
     obtain⟨j,k,l⟩:=a.get i u b
     have f:d≠i:=by intro e;exact c ⟨e,by rw [b];rfl⟩
     exact⟨j,by rw [Array.getElem?_setIfInBounds,if_neg f];exact k,l⟩
end Go.Ab

namespace Go.Ab

abbrev jq(mu:Mu):Prop:= ∀g,g<16->dA mu ⟨g,0,none⟩ ⟨g,0,none⟩
theorem jq.mono{mu a:Mu}(h:Le mu a)(k:jq mu):jq a:=fun g b=>(k g b).mono h

structure SR(P:Program)(cx:Cx)(l:Loc)(h:Hp)(mu:Mu)(w:World)(F:FC)(cs0:List Frame)(tmps:Array Value)(dfs:List Deferred)(rcC:Option (Value×Bool)):Prop where
 hr:aD mu h w
 glob:jq mu
 regs:gD mu l.regs cx.nr tmps
 dfs:DL mu l.dfs dfs
 rc:ns mu l.rc rcC
 ko:KOk F.kind cs0 rcC
 fn:F.fn=cx.fn
 rd:RdRel mu cx.round F.round
 rn:F.round≠none->F.kind=.normal
 fs:(P.funcs[F.fn]?).isSome=true

theorem SR.step{P:Program}{cx:Cx}{l:Loc}{h e:Hp}{mu a:Mu}{w w':World}{F:FC}{b:List Frame}{tmps:Array Value}{dfs:List Deferred}{c:Option (Value×Bool)}
 (s:SR P cx l h mu w F b tmps dfs c) (f:aD a e w') (d:Le mu a):SR P cx l e a w' F b tmps dfs c:=
 ⟨f,s.glob.mono d,s.regs.mono d,LR.mono s.dfs fun _ _=>jw.mono d,s.rc.mono d,s.ko,s.fn,s.rd.mono d,s.rn,s.fs⟩
theorem SR.put{P:Program}{cx:Cx}{l:Loc}{h:Hp}{mu:Mu}{w:World}{F:FC}{a:List Frame}{tmps:Array Value}{dfs:List Deferred}{b:Option (Value×Bool)}
 (s:SR P cx l h mu w F a tmps dfs b) (d:Option Tmp) {v v':Value} (c:aq mu v v'):SR P cx (l.put d v) h mu w F a (d6 tmps d v') dfs b:=by
 cases d with
 |none=>exact s
 |some d=>exact⟨s.hr,s.glob,qx s.regs (some d) c,s.dfs,s.rc,s.ko,s.fn,s.rd,s.rn,s.fs⟩

def Reach(P:Program)(F:FC)(d:List Frame)(m:Machine)(k:List Item)(g:Mu)(w':World)(a:Array Value)(b:List Deferred)(c:Option (Value×Bool)):Ex->Prop
 | .normal=>Steps P m (lone (F.mk' a b k) (aA c d) w')
 | .exit id=> ∃f,exitTo id f=exitTo id k/\Steps P m (lone (F.mk' a b (.code (.exit id)::f)) (aA c d) w')
 | .ret=> ∃f,Steps P m (lone (F.mk' a b (.code .ret::f)) (aA c d) w')
 | .pan v=> ∃h e,aq g v h/\Steps P m (lone {F.mk' a b e with mode:=.panicking [{v:=h,recovered:=false}]} (aA c d) w')
def Sim(P:Program)(cx:Cx)(h:Hp)(mu:Mu)(w:World)(F:FC)(d:List Frame)(tmps:Array Value)(dfs:List Deferred)(f:Option (Value×Bool))(todo k:List Item)(x:Ex)(l':Loc)(i:Hp):Prop:=
 ∃ e g a b c,SR P cx l' i e g F d a b c/\Ext mu h w e i g/\
   Reach P F d (lone (F.mk' tmps dfs todo) (aA f d) w) k e g a b c x
def gG(P:Program)(f:Cx->Code->Loc->Hp->Option (Ex×Loc×Hp)):Prop:=
 ∀ j c l h x m n,f j c l h=some (x,m,n)-> ∀o w F e d g i k a,SR P j l h o w F e d g i->
   (a=.code c::k\/ ∃b,c=.loop b/\a=.inLoop b::k)->Sim P j h o w F e d g i a k x m n
def CallEnd(P:Program)(d:Frame)(w':World)(a:CallKind)(b:Mu):Out->Prop
 | .ret v=> ∃c,nU P d w' a c/\aq b v c
 | .pan v=> ∃c,LeaveP P d a c/\aq b v c
def eG (E:Env) (P:Program) (f:FuncId->List Value->Option (Value×Bool)->Hp->Option (Out×Option (Value×Bool)×Hp)):Prop:=
 ∀ g i q h o k n,f g i q h=some (o,k,n)->(∃r,E.fn g=some r/\r.body.isSome=true)/\
   ∀ l w b j d a,aD l h w->jq l->VL l i b.toList->ns l q j->KOk a d j->
     ∃ e m c p,aD e n m/\Ext l h w e n m/\ns e k c/\KOk a d c/\
       Steps P (lone (Frame.enter P g b a) (aA j d) w) (lone p (aA c d) m)/\
       CallEnd P p m a e o/\p.fn=g

def OutTo(P:Program)(a:Mu)(m:Machine)(b d:Value->Machine):Out->Prop
 | .ret v=> ∃c,aq a v c/\Steps P m (b c)
 | .pan v=> ∃c,aq a v c/\Steps P m (d c)
def wR(P:Program)(F:FC)(d:List Frame)(m:Machine)(ops:Array Oper)(rest:List Nat)(k:List Item)(e:Mu)(w':World)(a:Array Value)(b:List Deferred)(c:Option (Value×Bool)):Ex->Prop
 | .normal=>Steps P m (lone (F.mk' a b (.inRegion ops rest::k)) (aA c d) w')
 | .pan v=>Reach P F d m k e w' a b c (.pan v)
 |_=>False

theorem KOk.normal{b:List Frame}{a:Option (Value×Bool)}(h:KOk .normal b a):a=none:=by
 cases a with
 |none=>rfl
 |some x=>exact absurd h.1 (by simp)

theorem nJ{mu:Mu}{h:Hp}{w:World}(f:aD mu h w){b c:Nat}(a:cL mu b c){r:fG}(g:h.get b=some (.loop r)):
 ∃top d,mu b=.blk c 0 top/\w.heap[c]? =some (.loop d)/\jv mu r d:=by
 unfold cL at a
 cases e:mu b with
 |none=>rw [e]at a;exact a.elim
 |dead=>have:=f.dead _ e;rw [g]at this;cases this
 | blk n i top=>
   rw [e]at a
   obtain⟨rfl,rfl⟩:=a
   obtain⟨y,o,j,k,l⟩:=f.blk _ c 0 top e
   rw [g]at j;cases j
   obtain⟨_,d,rfl,m⟩:=l
   exact⟨top,d,rfl,k,m⟩
theorem pN{w:World}{c:Nat}{o q:Obj}(h:w.heap[c]? =some q):WSet w (setW w c o) c o:=vO ⟨_,h⟩
theorem wg{mu:Mu}{h:Hp}{w:World}(f:aD mu h w){b c top:Nat}(g:mu b=.blk c 0 top){r d:fG}(i:h.get b=some (.loop r)){j a:Loop}(k:w.heap[c]? =some (.loop j))(l:jv mu d a):
 aD mu (h.put b (.loop d)) (setW w c (.loop a))/\Ext mu h w mu (h.put b (.loop d)) (setW w c (.loop a)):=
 rG f g (by intro t m el e;rw [i]at e;cases e) (pN k) ⟨rfl,a,rfl,l⟩

theorem pf{mu:Mu}{n:Nat}: ∀(ps:List Tmp) (args args':List Value) (a:Tr Value) (tmps:Array Value) (b:Tr Value),lj a ps args=some b->gD mu a n tmps->VL mu args args'->
 ps.length=args'.length/\gD mu b n ((ps.zip args').foldl (fun tmps (x:Tmp×Value)=>tmps.setIfInBounds x.1 x.2) tmps)
 | [],[],args',a,tmps,b,h,c,d=>by
   rw [d.nil_left];cases h;exact⟨rfl,c⟩
 | [],_::_,_,_,_,_,h,_,_=>by cases h
 |_::_,[],_,_,_,_,h,_,_=>by cases h
 | t::ts,v::vs,args',a,tmps,b,h,c,d=>by
   obtain⟨v',e,rfl,f,g⟩:=d.cons_left
   have i:=qx c (some t) f
   obtain⟨j,k⟩:=pf ts vs e (a.set t v) (tmps.setIfInBounds t v') b h i g
   exact⟨by simp [j],k⟩

section
variable{E:Env}{P:Program}(ok:EOk E P){R:Rec}(hc:eG E P R.call)(hcode:gG P R.code)

theorem yield_run{w:World}{c:Nat}{r:Loop}(a:w.heap[c]? =some (.loop r)){args:Array Value}(b:r.params.toList.length=args.toList.length):
 (Instr.yield c args).run P w=.ok (.round c r.fn ((r.params.toList.zip args.toList).foldl (fun tmps (x:Tmp×Value)=>tmps.setIfInBounds x.1 x.2) r.tmps) r.assign r.body) w:=by
 unfold Instr.yield
 have d:args.size=r.params.size:=by simpa using b.symm
 simp only [Sem.run_bind,iZ a,Result.andThen_ok,d,ne_eq,not_true_eq_false,if_false,Sem.run_pure]
 rw [<-Array.foldl_toList,Array.toList_zip]

include ok hcode in
theorem round_sim {mu:Mu} {h h':Hp} {w:World} (hh:aD mu h w) (hg:jq mu) {b c:Nat} (hp:cL mu b c) {args:List Value} {args':Array Value} (ha:VL mu args args'.toList) {X:Out}
 (e:gK E R b args h=some (X,h')) (c0:Frame) (cs:List Frame):
 ∃ f tm x y,(Instr.yield c args').run P w=.ok (.round c f tm x y) w/\ ∃u w',aD u h' w'/\Ext mu h w u h' w'/\
   OutTo P u (lone (Frame.round c f tm x y .normal) (c0::cs) w) (fun v'=>lone (c0.finish v') cs w') (fun v'=>lone (c0.raise [{v:=v',recovered:=false}]) cs w') X:=by
 unfold gK at e
 split at e
 next r Y=>
  obtain⟨bi,l,hm,hw,q⟩:=nJ hh hp Y
  cases K:(E.fn r.fn).isSome with
  |false=>rw [K]at e;cases e
  |true=>
  rw [K]at e
  simp only [cond_true]at e
  split at e
  next Z=>
   split at e
   next=>cases e
   next T V=>
    obtain⟨a0,a1⟩:=pf r.params.toList args args'.toList r.regs l.tmps T V q.regs ha
    have hy:=yield_run (P:=P) hw (args:=args') (by rw [q.params];exact a0)
    refine⟨_,_,_,_,hy,?_⟩
    let F:FC:=⟨l.fn,.normal,some c⟩
    have aa:(P.funcs[l.fn]?).isSome=true:=by
     rw [q.fn]
     cases he:E.fn r.fn with
     |none=>rw [he]at K;cases K
     |some fn=>rw [ok.fn _ _ he];rfl
    have sr:SR P ⟨r.fn,r.nr,some b⟩ ⟨T,[],none⟩ h mu w F (c0::cs) ((l.params.toList.zip args'.toList).foldl (fun tmps (x:Tmp×Value)=>tmps.setIfInBounds x.1 x.2) l.tmps) [] none:=
     ⟨hh,hg,by rw [q.params];exact a1,LR.nil,trivial,.inl rfl,q.fn,hp,fun _=>rfl,aa⟩
    split at e
    next l1 h1 L=>
     obtain⟨z,w1,A,D,bk,G,e1,s1⟩:=hcode _ _ _ _ _ _ _ L mu w F (c0::cs) _ [] none [.beginRound,.code l.body] [.code l.assign,.beginRound,.code l.body] sr (.inl (by rw [q.assign]))
     have ac:=G.ko.normal
     subst ac
     split at e
     next r1 H=>
      obtain⟨bf,C,a2,ad,m⟩:=nJ G.hr (show cL z b c from G.rd) H
      split at e
      next af=>
       have M:C.state=.ready:=by
        have:=m.st;rw [af]at this
        cases hs:C.state<;>rw [hs]at this<;>first|rfl|cases this
       have b1:=uC (P:=P) (F:=F) (tmps:=A) (dfs:=D) (k:=[.code l.body]) (cs:=c0::cs) (c:=c) rfl ad M
       have a3:jv z {r1 with st:=1} {C with state:=.busy}:=⟨m.fn,m.regs,m.params,m.assign,m.body,rfl,m.pending⟩
       obtain⟨a4,e2⟩:=wg G.hr a2 H ad a3
       have N:=G.step a4 (Le.refl _)
       have e12:=Ext.trans e1 e2
       have ai:Steps P (lone (Frame.round c l.fn ((l.params.toList.zip args'.toList).foldl (fun tmps (x:Tmp×Value)=>tmps.setIfInBounds x.1 x.2) l.tmps) l.assign l.body .normal) (c0::cs) w)
        (lone (F.mk' A D [.code l.body]) (c0::cs) (setW w1 c (.loop {C with state:=.busy}))):=Steps.trans s1 (.one b1)
       have B: ∀{J:Hp} {i:Mu} {O:World} {d:Array Value} {n:List Deferred} {s:List Item} {j:Option Code} {U:fG} {pe:Option Code} {st:Nat},aD i J O->cL i b c->J.get b=some (.loop U)->
        Ext z (h1.put b (.loop {r1 with st:=1})) (setW w1 c (.loop {C with state:=.busy})) i J O->
        Steps P (lone (F.mk' A D [.code l.body]) (c0::cs) (setW w1 c (.loop {C with state:=.busy}))) (lone (F.mk' d n s) (c0::cs) O)->
        w7 s j->pe=j->st=(if j.isNone then 0 else 2)->
        ∃ u w',aD u (J.put b (.loop {U with st:=st,pending:=pe})) w'/\Ext mu h w u (J.put b (.loop {U with st:=st,pending:=pe})) w'/\
          ∃v',aq u (.bool j.isNone) v'/\Steps P (lone (Frame.round c l.fn ((l.params.toList.zip args'.toList).foldl (fun tmps (x:Tmp×Value)=>tmps.setIfInBounds x.1 x.2) l.tmps) l.assign l.body .normal) (c0::cs) w) (lone (c0.finish v') cs w'):=by
        intro J i O d n s j U pe st ak a5 I Q S a6 a7 Z
        obtain⟨bh,ba,bb,al,t⟩:=nJ ak a5 I
        have b3:=uD (P:=P) (F:=F) (tmps:=d) (dfs:=n) (cs:=cs) (c:=c) rfl rfl al a6 (c0:=c0)
        have bc:jv i {U with st:=st,pending:=pe} {ba with state:=if j.isNone then .ready else .done,pending:=j}:=
         ⟨t.fn,t.regs,t.params,t.assign,t.body,by subst Z;cases j<;>rfl,a7.symm⟩
        obtain⟨bd,e4⟩:=wg ak bb I al bc
        exact⟨i,_,bd,Ext.trans e12 (Ext.trans Q e4),_,.bool _,Steps.trans ai (Steps.trans S (.one b3))⟩
       split at e
       next l3 J a=>
        obtain⟨i,O,d,n,W,g,Q,S⟩:=hcode _ _ _ _ _ _ _ a z _ F (c0::cs) _ _ none [] [.code l.body] N (.inl (by rw [q.body]))
        have o:=g.ko.normal
        subst o
        split at e
        next U p=>
         cases e
         exact B g.hr (show cL i b c from g.rd) p Q S (.inl ⟨rfl,rfl⟩) rfl rfl
        next=>cases e
       next id l3 J a=>
        obtain⟨i,O,d,n,W,g,Q,k0,be,S⟩:=hcode _ _ _ _ _ _ _ a z _ F (c0::cs) _ _ none [] [.code l.body] N (.inl (by rw [q.body]))
        have o:=g.ko.normal
        subst o
        split at e
        next U p=>
         cases e
         exact B g.hr (show cL i b c from g.rd) p Q S (.inr (.inr ⟨id,k0,rfl,be.trans rfl,rfl⟩)) rfl rfl
        next=>cases e
       next l3 J a=>
        obtain⟨i,O,d,n,W,g,Q,k0,S⟩:=hcode _ _ _ _ _ _ _ a z _ F (c0::cs) _ _ none [] [.code l.body] N (.inl (by rw [q.body]))
        have o:=g.ko.normal
        subst o
        split at e
        next U p=>
         cases e
         exact B g.hr (show cL i b c from g.rd) p Q S (.inr (.inl ⟨k0,rfl,rfl⟩)) rfl rfl
        next=>cases e
       next v l3 J a=>
        obtain⟨i,O,d,n,W,g,Q,v',s,hv,S⟩:=hcode _ _ _ _ _ _ _ a z _ F (c0::cs) _ _ none [] [.code l.body] N (.inl (by rw [q.body]))
        have o:=g.ko.normal
        subst o
        split at e
        next hd=>
         cases e
         have an:=g.dfs
         rw [hd]at an
         have:=LR.nil_left an
         subst this
         have lv:LeaveP P {F.mk' d [] s with mode:=.panicking [{v:=v',recovered:=false}]} .normal v':=⟨rfl,rfl,rfl,by
          obtain⟨fn,h⟩:=Option.isSome_iff_exists.1 aa;exact⟨fn,h⟩⟩
         exact⟨i,O,g.hr,Ext.trans e12 Q,v',hv,Steps.trans ai (Steps.trans S (.one (kx lv)))⟩
        next=>cases e
       next=>cases e
      next=>cases e
     next=>cases e
    next=>cases e
  next=>cases e
 next=>cases e
end
end Go.Ab

namespace Go.Ab
section
variable{E:Env}{P:Program}(ok:EOk E P){R:Rec}(hc:eG E P R.call)(hcode:gG P R.code)

include ok hc hcode in
theorem pk {mu:Mu} {h I:Hp} {w:World} (B:aD mu h w) (S:jq mu) {ρ:Operand->Value} {tmps:Array Value} (J: ∀x,aq mu (ρ x) (cK tmps x)) {F:FC} {dfs:List Deferred} {k:List Item} {cs:List Frame}
 {ops:Array Oper} {i:Nat} {rest:List Nat} {o:Oper} (A:ops[i]? =some o) (C:Region.wanted o (yielded ops tmps)=true) {m:Out} (e:cd E R (aop E ρ h o.op)=some (m,I)):
 ∃ a w',aD a I w'/\Ext mu h w a I w'/\
   OutTo P a (lone (F.mk' tmps dfs (.inRegion ops (i::rest)::k)) cs w) (fun v'=>lone (F.mk' (d6 tmps o.dst v') dfs (.inRegion ops rest::k)) cs w')
    (fun v'=>lone {F.mk' tmps dfs (.inRegion ops (i::rest)::k)with mode:=.panicking [{v:=v',recovered:=false}]} cs w') m:=by
 have D:F.round=none\/ ∀c,o.op≠ .defer c:=by
  right
  intro c K
  rw [K]at e
  simp only [aop]at e
  split at e
  . split at e<;>cases e
  . cases e
 have r: ∀v,(F.mk' tmps dfs (.inRegion ops (i::rest)::k)).finish v=F.mk' (d6 tmps o.dst v) dfs (.inRegion ops rest::k):=by
  intro v;rw [iF,A];rfl
 cases L:aop E ρ h o.op with
 |none=>rw [L]at e;cases e
 | some q=>
   obtain⟨W,h1⟩:=q
   rw [L]at e
   have g:=aop_run (P:=P) ok B J (o:=o) L
   cases W with
   | val v=>
     cases e
     obtain⟨v',a,w',n,p,G,X⟩:=g
     exact⟨a,w',p,G,v',X,.one (wY A C D n)⟩
   | skip=>
     cases e
     obtain⟨a,w',n,p,G⟩:=g
     exact⟨a,w',p,G,undef,.tuple rfl (by intro i v v' Y;simp at Y),.one (st_opskip A C D n)⟩
   | call f H=>
     obtain⟨rfl,j,n,p⟩:=g
     simp only [cd]at e
     split at e
     next x Z h2 s=>
      cases e
      obtain⟨⟨fn,M,t⟩,hs⟩:=hc _ _ _ _ _ _ _ s
      obtain⟨a,w',T,fr,N,O,Q,k4,U,V,_⟩:=hs mu w j none (F.mk' tmps dfs (.inRegion ops (i::rest)::k)::cs) .normal B S p trivial (.inl rfl)
      have:=k4.normal
      subst this
      have l:=st_enter (P:=P) (F:=F) (dfs:=dfs) (k:=k) (cs:=cs) (rest:=rest) A C D (n.trans (ok.call f fn j w M t))
      refine⟨a,w',N,O,?_⟩
      cases m with
      | ret v=>
        obtain⟨v',u,z⟩:=V
        refine⟨v',z,Steps.trans (.one l) (Steps.trans U (.one ?_))⟩
        show step P _=.next (lone (F.mk' (d6 tmps o.dst v') dfs (.inRegion ops rest::k)) cs w')
        rw [<-r];exact xf u
      | pan v=>
        obtain⟨v',u,z⟩:=V
        exact⟨v',z,Steps.trans (.one l) (Steps.trans U (.one (kx u)))⟩
     next=>cases e
   | yield b H=>
     obtain⟨rfl,c,j,n,p,G⟩:=g
     simp only [cd]at e
     obtain⟨f,tm,x,y,y1,a,w',N,O,Q⟩:=round_sim ok hcode B S p G e (F.mk' tmps dfs (.inRegion ops (i::rest)::k)) cs
     have l:=st_round (P:=P) (F:=F) (dfs:=dfs) (k:=k) (cs:=cs) (rest:=rest) A C D (n.trans y1)
     refine⟨a,w',N,O,?_⟩
     cases m with
     | ret v=>
       obtain⟨v',z,u⟩:=Q
       refine⟨v',z,Steps.trans (.one l) ?_⟩
       show Steps P _ (lone (F.mk' (d6 tmps o.dst v') dfs (.inRegion ops rest::k)) cs w')
       rw [<-r];exact u
     | pan v=>
       obtain⟨v',z,u⟩:=Q
       exact⟨v',z,Steps.trans (.one l) u⟩
   | panic v=>
     cases e
     obtain⟨rfl,v',n,p⟩:=g
     exact⟨mu,w,B,Ext.refl mu _ w B,v',p,.one (st_panic A C D n)⟩
   |recov=>cases e
   |defer d=>cases e

include ok hc hcode in
theorem zd {cx :Cx} {l l':Loc} {h G:Hp} {mu:Mu} {w:World} {F:FC} {g:List Frame} {tmps:Array Value} {dfs:List Deferred} {j:Option (Value×Bool)} (s:SR P cx l h mu w F g tmps dfs j)
 {k:List Item} {ops:Array Oper} {i:Nat} {rest:List Nat} {o:Oper} (O:ops[i]? =some o) (Q:Region.wanted o (yielded ops tmps)=true) {x:Ex} (e:c9 E R cx o l h=some (x,l',G)):
 ∃ m w' a p t,SR P cx l' G m w' F g a p t/\Ext mu h w m G w'/\
   wR P F g (lone (F.mk' tmps dfs (.inRegion ops (i::rest)::k)) (aA j g) w) ops rest k m w' a p t x:=by
 have K: ∀x,aq mu (l.ev x) (cK tmps x):=fun x=>ev_rel s.regs x s.glob
 unfold c9 at e
 have n: ∀{r:Option (cH×Hp)},aop E l.ev h o.op=r->kU o l (cd E R r)=some (x,l',G)-> ∃m w' a p t,SR P cx l' G m w' F g a p t/\Ext mu h w m G w'/\
  wR P F g (lone (F.mk' tmps dfs (.inRegion ops (i::rest)::k)) (aA j g) w) ops rest k m w' a p t x:=by
  intro r B e
  cases C:cd E R r with
  |none=>rw [C]at e;cases e
  | some q=>
    obtain⟨U,S⟩:=q
    rw [C]at e
    rw [<-B]at C
    obtain⟨m,w',J,L,g3⟩:=pk ok hc hcode s.hr s.glob K (F:=F) (dfs:=dfs) (k:=k) (cs:=aA j g) (rest:=rest) O Q C
    have s':=s.step J (L.le s.hr)
    cases U with
    | ret v=>
      cases e
      obtain⟨v',V,W⟩:=g3
      exact⟨m,w',_,dfs,j,s'.put o.dst V,L,W⟩
    | pan v=>
      cases e
      obtain⟨v',V,W⟩:=g3
      exact⟨m,w',tmps,dfs,j,s',L,v',_,V,W⟩
 cases D:aop E l.ev h o.op with
 |none=>rw [D]at e;exact n D e
 | some q =>
   obtain⟨nx,S⟩:=q
   rw [D]at e
   have H:=aop_run (P:=P) ok s.hr K (o:=o) D
   cases nx with
   |val v=>exact n D e
   |skip=>exact n D e
   |call f M=>exact n D e
   |yield b M=>exact n D e
   |panic v=>exact n D e
   | recov =>
     obtain⟨rfl,J⟩:=H
     simp only []at e
     cases B:cx.round with
     |some r=>rw [B]at e;cases e
     | none=>
       rw [B]at e
       simp only []at e
       have T:F.round=none:=by
        have:=s.rd;rw [B]at this
        cases hf:F.round with
        |none=>rfl
        |some c=>rw [hf]at this;exact this.elim
       have A:=s.rc
       have u:tryRecover (F.mk' tmps dfs (.inRegion ops (i::rest)::k)) (aA j g)=none->
        ∃ m w' a p t,SR P cx (l.put o.dst .nilIface) S m w' F g a p t/\Ext mu S w m S w'/\
          Steps P (lone (F.mk' tmps dfs (.inRegion ops (i::rest)::k)) (aA j g) w) (lone (F.mk' a p (.inRegion ops rest::k)) (aA t g) w'):=by
        intro X
        exact⟨mu,w,_,dfs,j,s.put o.dst .nili,Ext.refl mu _ w s.hr,.one (rU O Q T J X)⟩
       cases N:l.rc with
       | none=>
         rw [N]at e A
         cases e
         apply u
         cases j with
         |some y=>exact A.elim
         | none=>
           rcases s.ko with I|⟨I,c,r,rfl,hm⟩
           . simp [tryRecover,FC.mk',I]
           . simp [tryRecover,FC.mk',I,aA,hm]
       | some y =>
         obtain⟨v,b⟩:=y
         rw [N]at e A
         cases j with
         |none=>exact A.elim
         | some z=>
           obtain⟨v',b'⟩:=z
           obtain⟨rfl,C⟩:=A
           obtain⟨I,Y⟩:=s.ko
           cases g with
           |nil=>exact absurd rfl Y
           | cons c r=>
             cases b with
             | true=>
               cases e
               apply u
               simp [tryRecover,FC.mk',I,aA]
             | false=>
               cases e
               have X:tryRecover (F.mk' tmps dfs (.inRegion ops (i::rest)::k)) (aA (some (v',false)) (c::r))=some (v',aA (some (v',true)) (c::r)):=by
                simp [tryRecover,FC.mk',I,aA]
               have Z:SR P cx {l with rc:=some (v,true)} G mu w F (c::r) tmps dfs (some (v',true)):=
                ⟨s.hr,s.glob,s.regs,s.dfs,⟨rfl,C⟩,⟨I,by simp⟩,s.fn,s.rd,s.rn,s.fs⟩
               exact⟨mu,w,_,dfs,_,Z.put o.dst C,Ext.refl mu _ w s.hr,.one (si O Q T J X)⟩
   | defer d=>
     obtain⟨rfl,d',J,L⟩:=H
     simp only []at e
     cases B:cx.round with
     |some r=>rw [B]at e;cases e
     | none=>
       rw [B]at e
       cases e
       have T:F.round=none:=by
        have:=s.rd;rw [B]at this
        cases hf:F.round with
        |none=>rfl
        |some c=>rw [hf]at this;exact this.elim
       have Z:SR P cx {l with dfs:=d::l.dfs} G mu w F g tmps (d'::dfs) j:=
        ⟨s.hr,s.glob,s.regs,LR.cons L s.dfs,s.rc,s.ko,s.fn,s.rd,s.rn,s.fs⟩
       exact⟨mu,w,_,_,j,Z.put o.dst (v':=undef) (.tuple rfl (by intro i v v' C;simp at C)),Ext.refl mu _ w s.hr,.one (st_defer O Q T J)⟩

omit ok in
theorem uz {mu:Mu} {ops:Array Oper} {t:Tr Value} {n:Nat} {tmps:Array Value} (i:gD mu t n tmps) {o:Oper} {b:Bool} (a:bC ops.toList t o=some b):Region.wanted o (yielded ops tmps)=b:=by
 unfold bC at a
 unfold Region.wanted
 cases c:o.guard with
 |none=>rw [c]at a;cases a;rfl
 | some q=>
   obtain⟨j,e⟩:=q
   rw [c]at a
   simp only []at a⊢
   unfold yielded
   cases k:ops[j]? with
   |none=>rw [zz,k]at a;cases a;simp [Option.bind]
   | some m=>
     rw [zz,k]at a
     simp only [Option.bind_some]at a⊢
     cases l:m.dst with
     |none=>rw [l]at a;cases a;rfl
     | some d=>
       rw [l]at a
       simp only [Option.bind_some]at a⊢
       split at a
       next p f=>
        obtain⟨r,g,h⟩:=i.get d _ f
        cases h
        rw [g]
        cases a
        cases p<;>cases e<;>rfl
       next x f=>
        obtain⟨r,g,h⟩:=i.get d _ f
        rw [g]
        cases a
        cases h
        rfl
       next=>cases a

include ok hc hcode in
theorem ua {cx:Cx} {ops:Array Oper} {F:FC} {p:List Frame} {k:List Item}: ∀(os:List Oper) (i:Nat) (l l':Loc) (h B:Hp) (mu:Mu) (w:World) (tmps:Array Value) (dfs:List Deferred) (f:Option (Value×Bool)) (x:Ex),
 ops.toList.drop i=os->SR P cx l h mu w F p tmps dfs f->fK E R cx ops.toList os l h=some (x,l',B)->
 Sim P cx h mu w F p tmps dfs f (.inRegion ops (zH i os.length)::k) k x l' B:=by
 intro os
 induction os with
 | nil=>
   intro i l l' h B mu w tmps dfs f x C s d
   simp only [fK]at d
   cases d
   exact⟨mu,w,tmps,dfs,f,s,Ext.refl mu h w s.hr,.one lK⟩
 | cons o os N=>
   intro i l l' h B mu w tmps dfs f x C s d
   have D:ops[i]? =some o:=by
    have:=congrArg (·[0]?) C
    simpa using this
   have y:ops.toList.drop (i+1)=os:=by
    have:=congrArg (List.drop 1) C
    simpa [Nat.add_comm]using this
   simp only [fK]at d
   rw [List.length_cons,List.range'_succ]
   cases G:bC ops.toList l.regs o with
   |none=>rw [G]at d;cases d
   | some b=>
     have O:=uz s.regs G
     rw [G]at d
     cases b with
     | false=>
       simp only []at d
       have c:=su (P:=P) (F:=F) (tmps:=tmps) (dfs:=dfs) (k:=k) (cs:=aA f p) (w:=w) (ops:=ops) (i:=i) (rest:=zH (i+1) os.length) (by rw [D];simpa using O)
       rw [D]at c
       obtain⟨r,H,e,g,j,I,J,m⟩:=N (i+1) _ _ _ _ _ _ _ _ _ _ y (s.put o.dst (v':=undef) (.tuple rfl (by intro i v v' T;simp at T))) d
       refine⟨r,H,e,g,j,I,J,?_⟩
       cases x with
       |normal=>exact .head c m
       |exit id=>obtain⟨t,a,b⟩:=m;exact⟨t,a,.head c b⟩
       |ret=>obtain⟨t,b⟩:=m;exact⟨t,.head c b⟩
       |pan v=>obtain⟨v',K,a,b⟩:=m;exact⟨v',K,a,.head c b⟩
     | true=>
       simp only []at d
       cases L:c9 E R cx o l h with
       |none=>rw [L]at d;cases d
       | some q=>
         obtain⟨U,W,X⟩:=q
         rw [L]at d
         obtain⟨M,V,u,z,A,Q,S,n⟩:=zd ok hc hcode s (k:=k) (rest:=zH (i+1) os.length) D O L
         cases U with
         | normal=>
           simp only []at d n
           obtain⟨r,H,e,g,j,I,J,m⟩:=N (i+1) _ _ _ _ _ _ _ _ _ _ y Q d
           refine⟨r,H,e,g,j,I,Ext.trans S J,?_⟩
           cases x with
           |normal=>exact Steps.trans n m
           |exit id=>obtain⟨t,a,b⟩:=m;exact⟨t,a,Steps.trans n b⟩
           |ret=>obtain⟨t,b⟩:=m;exact⟨t,Steps.trans n b⟩
           |pan v=>obtain⟨v',K,a,b⟩:=m;exact⟨v',K,a,Steps.trans n b⟩
         |exit id=>exact n.elim
         |ret=>exact n.elim
         | pan v=>
           cases d
           exact⟨M,V,u,z,A,Q,S,n⟩
end
end Go.Ab

namespace Go.Ab

theorem Reach.pre{P:Program}{F:FC}{f:List Frame}{m m1:Machine}{k:List Item}{g:Mu}{w':World}{c:Array Value}{d:List Deferred}{e:Option (Value×Bool)}{x:Ex}
 (h:Steps P m m1) (r:Reach P F f m1 k g w' c d e x):Reach P F f m k g w' c d e x:=by
 cases x with
 |normal=>exact Steps.trans h r
 |exit id=>obtain⟨i,a,b⟩:=r;exact⟨i,a,Steps.trans h b⟩
 |ret=>obtain⟨i,b⟩:=r;exact⟨i,Steps.trans h b⟩
 |pan v=>obtain⟨j,l,a,b⟩:=r;exact⟨j,l,a,Steps.trans h b⟩
theorem Sim.pre{P:Program}{cx:Cx}{h t:Hp}{mu m:Mu}{w q:World}{F:FC}{g:List Frame}{tmps d:Array Value}{dfs i:List Deferred}{n j:Option (Value×Bool)}{todo f k:List Item}{x:Ex}{l':Loc}{u:Hp}
 (v:Steps P (lone (F.mk' tmps dfs todo) (aA n g) w) (lone (F.mk' d i f) (aA j g) q)) (e:Ext mu h w m t q)
 (s:Sim P cx t m q F g d i j f k x l' u):Sim P cx h mu w F g tmps dfs n todo k x l' u:=by
 obtain⟨r,y,l,o,p,a,b,c⟩:=s
 exact⟨r,y,l,o,p,a,Ext.trans e b,c.pre v⟩
theorem Reach.out{P:Program}{F:FC}{f:List Frame}{m:Machine}{k k2:List Item}{g:Mu}{w':World}{c:Array Value}{d:List Deferred}{e:Option (Value×Bool)}{x:Ex}
 (h: ∀id,x=.exit id->exitTo id k=exitTo id k2) (i:x≠ .normal) (r:Reach P F f m k g w' c d e x):Reach P F f m k2 g w' c d e x:=by
 cases x with
 |normal=>exact absurd rfl i
 |exit id=>obtain⟨j,a,b⟩:=r;exact⟨j,a.trans (h id rfl),b⟩
 |ret=>exact r
 |pan v=>exact r

def DrawOk(E:Env)(P:Program)(R:Rec):Prop:=
 ∀ f id a l h g i q j m,iI E (aZ a.toList)=some (q,j)->aS E R (aZ a.toList) q (aZ a.toList) 0 l h []=some (g,i,m)->bL m j=true-> ∀n w F c b d e k,SR P f l h n w F c b d e->
   Sim P f h n w F c b d e (.code (.region id a true)::k) k .normal g i
def rl(E:Env)(P:Program)(R:Rec):Prop:=
 ∀ f id (b:Array Oper) l h g i x,cutD E R f b.toList l h=some (x,g,i)-> ∀j w F c a d e k,SR P f l h j w F c a d e->
   Sim P f h j w F c a d e (.code (.region id b true)::k) k x g i

section
variable{E:Env}{P:Program}(ok:EOk E P){R:Rec}(hc:eG E P R.call)(hcode:gG P R.code)

theorem dead_at{mu:Mu}{h:Hp}{w:World}(e:aD mu h w){b c:Nat}(a:cL mu b c)(f:h.get b=some .dfr): ∃top,mu b=.blk c 0 top/\w.heap[c]? =some (.deferred (some [])):=by
 unfold cL at a
 cases d:mu b with
 |none=>rw [d]at a;exact a.elim
 |dead=>have:=e.dead _ d;rw [f]at this;cases this
 | blk l g top=>
   rw [d]at a
   obtain⟨rfl,rfl⟩:=a
   obtain⟨y,o,i,j,k⟩:=e.blk _ c 0 top d
   rw [f]at i;cases i
   obtain⟨_,rfl⟩:=k
   exact⟨top,rfl,j⟩

theorem rZ(w:World)(o:Obj):WNew w (jb w o) o:=⟨rfl,rfl,rfl,rfl⟩
theorem v9{mu:Mu}{h:Hp}{w:World}(b:aD mu h w){r:fG}{a:Loop}(c:jv mu r a):
 aD (upd mu h.n (.blk w.heap.size 0 0)) (h.new (.loop r)) (jb w (.loop a))/\Ext mu h w (upd mu h.n (.blk w.heap.size 0 0)) (h.new (.loop r)) (jb w (.loop a)):=
 j6 b (rZ w _) ⟨rfl,a,rfl,c⟩
theorem dfr_new{mu:Mu}{h:Hp}{w:World}(a:aD mu h w):
 aD (upd mu h.n (.blk w.heap.size 0 0)) (h.new .dfr) (jb w (.deferred (some [])))/\Ext mu h w (upd mu h.n (.blk w.heap.size 0 0)) (h.new .dfr) (jb w (.deferred (some []))):=
 j6 a (rZ w _) ⟨rfl,rfl⟩

theorem xC{cx:Cx}{params:Array Tmp}{assign body:Code}{l:Loc}{h n:Hp}{d:Nat}{e:List Deferred}
 (b:(match cx.round with
   |none=>some (h.new .dfr,h.n,({target:=.collected h.n,args:=#[]}:Deferred)::l.dfs)
   | some r=>match h.get r with
     |some (.loop x)=>some (h,x.defers,l.dfs)
     |_=>none)=some (n,d,e))
 {mu:Mu} {w:World} {F:FC} {g:List Frame} {tmps:Array Value} {dfs:List Deferred} {i:Option (Value×Bool)} (s:SR P cx l h mu w F g tmps dfs i):
 ∃ f o c mark,(Instr.enterLoop F.fn tmps params assign body F.round).run P w=.ok (c,mark) o/\cL f n.n c/\
   SR P cx {l with dfs:=e} (n.new (.loop {fn:=cx.fn,regs:=l.regs,nr:=cx.nr,params,assign,body,st:=0,pending:=none,defers:=d})) f o F g tmps (mark++dfs) i/\
   Ext mu h w f (n.new (.loop {fn:=cx.fn,regs:=l.regs,nr:=cx.nr,params,assign,body,st:=0,pending:=none,defers:=d})) o:=by
 cases j:cx.round with
 | none=>
   rw [j]at b
   cases b
   have v:F.round=none:=by
    have:=s.rd;rw [j]at this
    cases hf:F.round with
    |none=>rfl
    |some c=>rw [hf]at this;exact this.elim
   obtain⟨p,u⟩:=dfr_new s.hr
   have k:=s.step p (u.le s.hr)
   have q:jv (upd mu h.n (.blk w.heap.size 0 0)) {fn:=cx.fn,regs:=l.regs,nr:=cx.nr,params,assign,body,st:=0,pending:=none,defers:=h.n}
    {state:=.ready,pending:=none,fn:=F.fn,tmps,params,assign,body,defers:=w.heap.size}:=⟨s.fn,k.regs,rfl,rfl,rfl,rfl,rfl⟩
   obtain⟨t,m⟩:=v9 p q
   have a:=k.step t (m.le p)
   refine⟨_,_,_,_,by rw [v];exact vZ,?_,?_,Ext.trans u m⟩
   . show cL (upd _ (h.n+1) _) (h.n+1) (w.heap.size+1)
     unfold cL
     rw [upd_same]
     exact⟨by simp [jb],rfl⟩
   . refine⟨a.hr,a.glob,a.regs,LR.cons ⟨w.heap.size,rfl,?_⟩ a.dfs,a.rc,a.ko,a.fn,a.rd,a.rn,a.fs⟩
     show cL (upd (upd mu h.n (.blk w.heap.size 0 0)) (h.n+1) _) h.n w.heap.size
     unfold cL
     rw [aB _ _ (by omega),upd_same]
     exact⟨rfl,rfl⟩
 | some r=>
   rw [j]at b
   simp only []at b
   split at b
   next x y=>
    cases b
    cases hf:F.round with
    |none=>have:=s.rd;rw [j,hf]at this;exact this.elim
    | some c=>
      have z:cL mu r c:=by have:=s.rd;rw [j,hf]at this;exact this
      obtain⟨A,B,D,C,G⟩:=nJ s.hr z y
      have q:jv mu {fn:=cx.fn,regs:=l.regs,nr:=cx.nr,params,assign,body,st:=0,pending:=none,defers:=x.defers}
       {state:=.ready,pending:=none,fn:=F.fn,tmps,params,assign,body,defers:=B.defers}:=⟨s.fn,s.regs,rfl,rfl,rfl,rfl,rfl⟩
      obtain⟨t,m⟩:=v9 s.hr q
      have a:=s.step t (m.le s.hr)
      refine⟨_,_,_,[],rX C,?_,a,m⟩
      unfold cL
      rw [upd_same]
      exact⟨rfl,rfl⟩
   next=>cases b

include ok hc in
theorem uJ {cx:Cx} {f:Operand} {params:Array Tmp} {assign body:Code} {l l':Loc} {h h':Hp} {x:Ex} (m:fJ R cx (l.ev f) params assign body l h=some (x,l',h'))
 {mu:Mu} {w:World} {F:FC} {j:List Frame} {tmps:Array Value} {dfs:List Deferred} {i:Option (Value×Bool)} {k:List Item} (s:SR P cx l h mu w F j tmps dfs i):
 Sim P cx h mu w F j tmps dfs i (.code (.rangeFunc f params assign body)::k) k x l' h':=by
 unfold fJ at m
 have hf:=ev_rel s.regs f s.glob
 split at m
 next fv g a b U=>
  rw [U]at hf
  cases D:cK tmps f<;>rw [D]at hf<;>cases hf
  rename_i a' b' f1 f2 f3 f4
  split at m
  next=>cases m
  next O d ai G=>
   obtain⟨H,w2,c,mark,h0,hp,u,V⟩:=xC (params:=params) (assign:=assign) (body:=body) G s
   cases n:R.call g (a.toList++[.func (.yield O.n) #[] #[]]++b.toList) none (O.new (.loop {fn:=cx.fn,regs:=l.regs,nr:=cx.nr,params,assign,body,st:=0,pending:=none,defers:=d}))with
   |none=>rw [n]at m;cases m
   | some q=>
     obtain⟨W,an,h2⟩:=q
     rw [n]at m
     obtain⟨⟨fn,X,z⟩,hs⟩:=hc _ _ _ _ _ _ _ n
     have I:=st_range (P:=P) (F:=F) (dfs:=dfs) (k:=k) (cs:=aA i j) D (fun J w=>ok.call g fn J w X z) h0
     have A:VL H (a.toList++[.func (.yield O.n) #[] #[]]++b.toList) (a'++#[Value.func (.yield c) #[] #[]]++b').toList:=by
      simp only [zF]
      have le:=V.le s.hr
      exact LR.append (LR.append (VL.mono le ⟨f1,f2⟩) (LR.cons (.yield hp) LR.nil)) (VL.mono le ⟨f3,f4⟩)
     obtain⟨K,Q,ak,fr,S,Y,k3,k4,k5,k6,_⟩:=hs H w2 (a'++#[.func (.yield c) #[] #[]]++b') none (F.mk' tmps (mark++dfs) (.inRangeFunc c::k)::aA i j) .normal u.hr u.glob A trivial (.inl rfl)
     have:=k4.normal
     subst this
     have L:=Y.le u.hr
     have M:=u.step S L
     cases W with
     | pan v=>
       cases m
       obtain⟨v',Z,l2⟩:=k6
       exact⟨K,Q,tmps,mark++dfs,i,M,Ext.trans V Y,v',.inRangeFunc c::k,l2,Steps.trans (.one I) (Steps.trans k5 (.one (kx Z (c:=F.mk' tmps (mark++dfs) (.inRangeFunc c::k)) (cs:=aA i j))))⟩
     | ret v=>
       obtain⟨v',Z,l2⟩:=k6
       simp only []at m
       split at m
       next x1 N=>
        have aa:cL K O.n c:=hp.mono L
        obtain⟨al,y,g1,g2,T⟩:=nJ S aa N
        have p:Steps P (lone (F.mk' tmps dfs (.code (.rangeFunc f params assign body)::k)) (aA i j) w) (lone (F.mk' tmps (mark++dfs) (.endRangeFunc c::k)) (aA i j) Q):=
         Steps.trans (.one I) (Steps.trans k5 (.one (xf Z (c:=F.mk' tmps (mark++dfs) (.inRangeFunc c::k)) (cs:=aA i j))))
        split at m
        next=>cases m
        next ac=>
         have ad:y.state≠ .busy:=by
          intro e
          have:=T.st
          rw [e]at this
          exact ac this.symm
         have af:=xF (P:=P) (F:=F) (tmps:=tmps) (dfs:=mark++dfs) (k:=k) (cs:=aA i j) g2 ad
         obtain⟨a1,a2⟩:=lD S g1 (by intro t sz el e;rw [N]at e;cases e) (pN (o:=.loop {y with state:=.exhausted}) g2)
         have B:=M.step a1 (a2.le S)
         have e4:=Ext.trans V (Ext.trans Y a2)
         have C: ∀td,(y.pending.map Item.code).toList++k=td->step P (lone (F.mk' tmps (mark++dfs) (.endRangeFunc c::k)) (aA i j) Q)=
          .next (lone (F.mk' tmps (mark++dfs) td) (aA i j) (setW Q c (.loop {y with state:=.exhausted}))):=by
          intro td e;rw [<-e];exact af
         split at m
         next r=>
          cases m
          exact⟨_,_,tmps,mark++dfs,i,B,e4,Steps.trans p (.one (C _ (by rw [T.pending,r];rfl)))⟩
         next id r=>
          cases m
          exact⟨_,_,tmps,mark++dfs,i,B,e4,k,rfl,Steps.trans p (.one (C _ (by rw [T.pending,r];rfl)))⟩
         next r=>
          cases m
          exact⟨_,_,tmps,mark++dfs,i,B,e4,k,Steps.trans p (.one (C _ (by rw [T.pending,r];rfl)))⟩
         next=>cases m
       next=>cases m
 next=>cases m

include ok hc hcode in
theorem xh (U:DrawOk E P R) (N:rl E P R):gG P (ay E R):=by
 intro X c
 induction c with
 | skip=>
   intro l h x K L j C w F u g dfs p k B s D
   rcases D with rfl|⟨b,G,_⟩
   . cases j;exact⟨C,w,g,dfs,p,s,Ext.refl C _ w s.hr,.one st_skip⟩
   . cases G
 | label n=>
   intro l h x K L j C w F u g dfs p k B s D
   rcases D with rfl|⟨b,G,_⟩
   . cases j;exact⟨C,w,g,dfs,p,s,Ext.refl C _ w s.hr,.one st_label⟩
   . cases G
 | region id ops Y=>
   intro l h x K L j C w F u g dfs p k B s D
   rcases D with rfl|⟨b,G,_⟩
   . simp only [ay]at j
     cases Y with
     | false=>
       simp only [cond_false]at j
       have r:=ua ok hc hcode (ops:=ops) (k:=k) ops.toList 0 _ _ _ _ _ _ _ _ _ _ rfl s j
       rw [Array.length_toList,<-List.range_eq_range']at r
       exact r.pre (.one st_region) (Ext.refl C h w s.hr)
     | true=>
       simp only [cond_true]at j
       cases T:E.cut X.fn with
       | true=>
         rw [T]at j
         exact N X id ops l h _ _ _ j C w F u g dfs p k s
       | false =>
         rw [T]at j
         simp only [cond_false]at j
         cases hp:iI E (aZ ops.toList)with
         |none=>rw [hp]at j;cases j
         | some q=>
           obtain⟨q,ps⟩:=q
           rw [hp]at j
           simp only []at j
           cases he:aS E R (aZ ops.toList) q (aZ ops.toList) 0 l h []with
           |none=>rw [he]at j;cases j
           | some q3=>
             obtain⟨l1,h1,tr⟩:=q3
             rw [he]at j
             simp only []at j
             cases V:bL tr ps with
             |false=>rw [V]at j;cases j
             | true=>
               rw [V]at j
               cases j
               exact U X id ops l h _ _ q ps tr hp he V C w F u g dfs p k s
   . cases G
 | seq a b O Q=>
   intro l h x K L j C w F u g dfs p k B s D
   rcases D with rfl|⟨b,G,_⟩
   . simp only [ay]at j
     cases M:ay E R X a l h with
     |none=>rw [M]at j;cases j
     | some q=>
       obtain⟨Z,l1,h1⟩:=q
       rw [M]at j
       obtain⟨y,H,d,o,z,I,J,W⟩:=O _ _ _ _ _ M C w F u g dfs p (.code b::k) _ s (.inl rfl)
       have A:=Reach.pre (.one st_seq) W
       cases Z with
       | normal=>
         exact Sim.pre A J (Q _ _ _ _ _ j y H F u d o z k _ I (.inl rfl))
       |exit id=>cases j;exact⟨y,H,d,o,z,I,J,A.out (fun id _=>rfl) (by simp)⟩
       |ret=>cases j;exact⟨y,H,d,o,z,I,J,A.out (fun id _=>rfl) (by simp)⟩
       |pan v=>cases j;exact⟨y,H,d,o,z,I,J,A.out (fun id _=>rfl) (by simp)⟩
   . cases G
 | cond c a b O Q=>
   intro l h x K L j C w F u g dfs p k B s D
   rcases D with rfl|⟨b,G,_⟩
   . simp only [ay]at j
     have hv:=ev_rel s.regs c s.glob
     split at j
     next t ai=>
      rw [ai]at hv
      cases aa:cK g c<;>rw [aa]at hv<;>cases hv
      have S:=st_cond (P:=P) (F:=F) (dfs:=dfs) (k:=k) (cs:=aA p u) (w:=w) (a:=a) (b:=b) aa
      cases t with
      |true=>exact Sim.pre (.one S) (Ext.refl C h w s.hr) (O _ _ _ _ _ j C w F u g dfs p k _ s (.inl rfl))
      |false=>exact Sim.pre (.one S) (Ext.refl C h w s.hr) (Q _ _ _ _ _ j C w F u g dfs p k _ s (.inl rfl))
     next=>cases j
   . cases G
 | block id b ih=>
   intro l h x K L j C w F u g dfs p k B s D
   rcases D with rfl|⟨b,G,_⟩
   . simp only [ay]at j
     cases M:ay E R X b l h with
     |none=>rw [M]at j;cases j
     | some q=>
       obtain⟨Z,l1,h1⟩:=q
       rw [M]at j
       obtain⟨y,H,d,o,z,I,J,W⟩:=ih _ _ _ _ _ M C w F u g dfs p (.inBlock id::k) _ s (.inl rfl)
       have A:=Reach.pre (.one st_block) W
       cases Z with
       |normal=>cases j;exact⟨y,H,d,o,z,I,J,Steps.trans A (.one yV)⟩
       | exit i=>
         simp only []at j
         obtain⟨k0,ac,r2⟩:=A
         cases hi:zj i id with
         | true=>
           have:i=id:=Nat.eq_of_beq_eq_true hi
           subst this
           rw [hi]at j
           cases j
           exact⟨y,H,d,o,z,I,J,Steps.trans r2 (.one (st_exit (k':=k) (by rw [ac];simp [exitTo])))⟩
         | false=>
           have ak:id≠i:=by intro e;subst e;rw [Nat.beq_refl]at hi;cases hi
           rw [hi]at j
           cases j
           exact⟨y,H,d,o,z,I,J,k0,by rw [ac];simp [exitTo,ak],r2⟩
       |ret=>cases j;exact⟨y,H,d,o,z,I,J,A⟩
       |pan v=>cases j;exact⟨y,H,d,o,z,I,J,A⟩
   . cases G
 | loop b ih=>
   intro l h x K L j C w F u g dfs p k B s D
   have S:step P (lone (F.mk' g dfs B) (aA p u) w)=.next (lone (F.mk' g dfs (.code b:: .inLoop b::k)) (aA p u) w):=by
    rcases D with rfl|⟨b2,G,rfl⟩
    . exact st_loop
    . cases G;exact st_inLoop
   simp only [ay]at j
   cases M:ay E R X b l h with
   |none=>rw [M]at j;cases j
   | some q=>
     obtain⟨Z,l1,h1⟩:=q
     rw [M]at j
     obtain⟨y,H,d,o,z,I,J,W⟩:=ih _ _ _ _ _ M C w F u g dfs p (.inLoop b::k) _ s (.inl rfl)
     have A:=Reach.pre (.one S) W
     cases Z with
     |normal=>exact Sim.pre A J (hcode _ _ _ _ _ _ _ j y H F u d o z k _ I (.inr ⟨b,rfl,rfl⟩))
     |exit id=>cases j;exact⟨y,H,d,o,z,I,J,A.out (fun id _=>rfl) (by simp)⟩
     |ret=>cases j;exact⟨y,H,d,o,z,I,J,A.out (fun id _=>rfl) (by simp)⟩
     |pan v=>cases j;exact⟨y,H,d,o,z,I,J,A.out (fun id _=>rfl) (by simp)⟩
 | rangeFunc f ad af al O Q=>
   intro l h x K L j C w F u g dfs p k B s D
   rcases D with rfl|⟨b,G,_⟩
   . exact uJ ok hc j s
   . cases G
 | exit id=>
   intro l h x K L j C w F u g dfs p k B s D
   rcases D with rfl|⟨b,G,_⟩
   . cases j;exact⟨C,w,g,dfs,p,s,Ext.refl C _ w s.hr,k,rfl,Steps.refl _ _⟩
   . cases G
 | scope b ih=>
   intro l h x K L j C w F u g dfs p k B s D
   rcases D with rfl|⟨b,G,_⟩
   . obtain⟨y,H,d,o,z,I,J,W⟩:=ih _ _ _ _ _ j C w F u g dfs p (.inScope b::k) _ s (.inl rfl)
     have A:=Reach.pre (.one st_scope) W
     cases x with
     |normal=>exact⟨y,H,d,o,z,I,J,Steps.trans A (.one ze)⟩
     |exit id=>exact⟨y,H,d,o,z,I,J,A.out (fun id _=>rfl) (by simp)⟩
     |ret=>exact⟨y,H,d,o,z,I,J,A.out (fun id _=>rfl) (by simp)⟩
     |pan v=>exact⟨y,H,d,o,z,I,J,A.out (fun id _=>rfl) (by simp)⟩
   . cases G
 |goto n=>intro l h x K L j;cases j
 | ret=>
   intro l h x K L j C w F u g dfs p k B s D
   rcases D with rfl|⟨b,G,_⟩
   . cases j;exact⟨C,w,g,dfs,p,s,Ext.refl C _ w s.hr,k,Steps.refl _ _⟩
   . cases G
 |refuse m=>intro l h x K L j;cases j
end
end Go.Ab

namespace Go.Ab

theorem pR.hrel{w w':World}(k:pR w w'){mu:Mu}{h:Hp}(a:aD mu h w):aD mu h w':=
 ⟨a.sized,fun b c d e i=>by
  obtain⟨x,o,j,f,l⟩:=a.blk b c d e i
  refine⟨x,o,j,?_,l⟩
  rw [k.heap c (by
   rcases zt c w.heap.size with g|g
   . exact g
   . rw [zn g]at f;cases f)]
  exact f,a.dead,a.inj,a.lt⟩
theorem pR.ext{w w':World}(k:pR w w'){mu:Mu}{h:Hp}(hh:aD mu h w):Ext mu h w mu h w' where
 n:=zw _
 old:=fun _ _=>.inl rfl
 fresh:=fun b c base top hb hm=>absurd (hh.lt b (by rw [hm];simp)) (by omega)
 lo:=zw _
 same:=fun _ _ _=>rfl
 frame:=fun c hc _=>k.heap c hc
 ro:=fun b c base top t sz el hm hg=>by
  obtain⟨x,o,h1,h2,h3⟩:=hh.blk b c base top hm
  refine⟨k.heap c ?_,rfl,rfl⟩
  rcases zt c w.heap.size with hc|hc
  . exact hc
  . rw [zn hc]at h2;cases h2
 wsize:=k.size
 os:=k.os
 tape:=k.tape
 output:=k.output
 cover:=fun _ h1 h2=>absurd h2 (by omega)

def og(mu:Mu):Option Value->FrameMode->Prop
 |none,M=>M=.returning
 |some v,M=> ∃a,M=.panicking [{v:=a,recovered:=false}]/\aq mu v a
theorem og.mono{mu c:Mu}(h:Le mu c){m:Option Value}{M:FrameMode}(k:og mu m M):og c m M:=by
 cases m with
 |none=>exact k
 |some v=>obtain⟨d,a,b⟩:=k;exact⟨d,a,b.mono h⟩
def FC.un(F:FC)(tmps:Array Value)(dfs:List Deferred)(todo:List Item)(M:FrameMode):Frame:={F.mk' tmps dfs todo with mode:=M}

section
variable{P:Program}{F:FC}{tmps:Array Value}{dfs:List Deferred}{todo:List Item}{cs:List Frame}{w:World}
theorem vt{M:FrameMode}(d:M≠ .run){c:Nat}{args:Array Value}{a:List Deferred}(e:w.heap[c]? =some (.deferred (some a))):
 step P (lone (F.un tmps ({target:=.collected c,args}::dfs) todo M) cs w)=.next (lone (F.un tmps (a++dfs) todo M) cs (setW w c (.deferred none))):=by
 refine step_lone_go ?_
 have b:=rE (P:=P) e
 cases M with
 |run=>exact absurd rfl d
 |returning=>simp [stepG,unwind,FC.un,FC.mk',b]
 |panicking f=>simp [stepG,unwind,FC.un,FC.mk',b]
theorem ni{M:FrameMode}(b:M≠ .run){f:FuncId}{cap args:Array Value}(hf: ∀a w,(callFunc f a).run P w=.ok (.enter f a) w):
 step P (lone (F.un tmps ({target:=.fn (.func f) cap,args}::dfs) todo M) cs w)=.next (lone (Frame.enter P f (args++cap) .deferred) (F.un tmps dfs todo M::cs) w):=by
 refine step_lone_go ?_
 cases M with
 |run=>exact absurd rfl b
 |returning=>simp [stepG,unwind,callDeferred,FC.un,FC.mk',invoke,hf]
 |panicking c=>simp [stepG,unwind,callDeferred,FC.un,FC.mk',invoke,hf]
theorem lO{b c:Frame}{v:Value}(h:nU P b w .deferred v)(a:c.mode=.returning\/ ∃v',c.mode=.panicking [{v:=v',recovered:=false}]):
 step P (lone b (c::cs) w)=.next (lone c cs w):=by
 obtain⟨e,hf,d⟩:=h.res
 refine step_lone_go ?_
 rcases a with a|⟨v',a⟩<;>simp [stepG,unwind,doReturn,h.mode,h.defers,h.kind,hf,d,a]
theorem pU{a c:Frame}{v v':Value}(h:nU P a w .deferred v)(b:c.mode=.panicking [{v:=v',recovered:=true}]):
 step P (lone a (c::cs) w)=.next (lone {c with mode:=.returning} cs w):=by
 obtain⟨e,hf,d⟩:=h.res
 exact step_lone_go (by simp [stepG,unwind,doReturn,h.mode,h.defers,h.kind,hf,d,b])
end

section
variable{E:Env}{P:Program}(ok:EOk E P){R:Rec}(hc:eG E P R.call)(hcode:gG P R.code)

include ok hc in
theorem iO {F : FC} {tmps:Array Value} {todo:List Item} {cs:List Frame}: ∀(K:List Deferred) (m G:Option Value) (h B:Hp),bA R K m h=some (G,B)->
 ∀ (mu:Mu) (w:World) (dfs:List Deferred) (M:FrameMode),aD mu h w->jq mu->DL mu K dfs->og mu m M->
   ∃k w' M',aD k B w'/\Ext mu h w k B w'/\og k G M'/\Steps P (lone (F.un tmps dfs todo M) cs w) (lone (F.un tmps [] todo M') cs w')
 | [],m,G,h,B,i,mu,w,dfs,M,A,L,hd,N=>by
   cases i
   rw [hd.nil_left]
   exact⟨mu,w,M,A,Ext.refl mu h w A,N,Steps.refl _ _⟩
 | d :: K, m,G,h,B,i,mu,w,dfs,M,A,L,hd,N=>by
   obtain⟨d',j,rfl,U,h2⟩:=hd.cons_left
   have hM:M≠ .run:=by
    intro e;subst e
    cases m with
    |none=>cases N
    |some v=>obtain⟨_,a,_⟩:=N;cases a
   obtain⟨ak,l⟩:=d'
   unfold bA at i
   split at i
   next b hb=>
    split at i
    next H=>
     unfold jw at U
     rw [hb]at U
     obtain⟨c,r,hp⟩:=U
     simp only []at r
     subst r
     obtain⟨al,O,I⟩:=dead_at A hp H
     obtain⟨a1,a2⟩:=lD A O (by intro t sz el e;rw [H]at e;cases e) (pN (o:=.deferred none) I)
     have s:=a2.le A
     obtain⟨k,w',M',V,J,W,k4⟩:=iO K m G _ B i _ _ j M a1 (L.mono s) (LR.mono h2 fun _ _=>jw.mono s) (N.mono s)
     exact⟨k,w',M',V,Ext.trans a2 J,W,.head (vt hM I) k4⟩
    next=>cases i
   next f cap hb=>
    unfold jw at U
    rw [hb]at U
    obtain⟨n,r,X,u⟩:=U
    simp only []at r u
    subst r
    have va:VL mu (d.args.toList++cap.toList) (l++n).toList:=by
     rw [zF];exact LR.append u X
    cases m with
    | none=>
      have ac:M=.returning:=N
      subst ac
      simp only []at i
      cases g:R.call f (d.args.toList++cap.toList) none h with
      |none=>rw [g]at i;cases i
      | some q=>
        obtain⟨Q,rc,ad⟩:=q
        rw [g]at i
        obtain⟨⟨fn,S,p⟩,hs⟩:=hc _ _ _ _ _ _ _ g
        have C:=ni (P:=P) (F:=F) (tmps:=tmps) (dfs:=j) (todo:=todo) (cs:=cs) (w:=w) hM (cap:=n) (args:=l) (fun a w=>ok.call f fn a w S p)
        obtain⟨D,w1,x,fr,V,J,W,k4,k5,k6,_⟩:=hs mu w (l++n) none (F.un tmps j todo .returning::cs) .deferred A L va trivial (.inr ⟨rfl,_,_,rfl,rfl⟩)
        cases Q with
        |pan v=>cases i
        | ret v=>
          obtain⟨v',l1,l2⟩:=k6
          simp only []at i
          cases rc with
          |some y=>cases i
          | none=>
            cases x with
            |some y=>exact W.elim
            | none=>
              simp only []at i
              have s:=J.le A
              obtain⟨k,w',M',O,I,Y,Z⟩:=iO K none G _ B i D w1 j .returning V (L.mono s) (LR.mono h2 fun _ _=>jw.mono s) rfl
              exact⟨k,w',M',O,Ext.trans J I,Y,Steps.trans (.one C) (Steps.trans k5 (.head (lO l1 (.inl rfl)) Z))⟩
    | some pv =>
      obtain⟨aa,rfl,af⟩:=N
      simp only []at i
      cases g:R.call f (d.args.toList++cap.toList) (some (pv,false)) h with
      |none=>rw [g]at i;cases i
      | some q=>
        obtain⟨Q,rc,ad⟩:=q
        rw [g]at i
        obtain⟨⟨fn,S,p⟩,hs⟩:=hc _ _ _ _ _ _ _ g
        have C:=ni (P:=P) (F:=F) (tmps:=tmps) (dfs:=j) (todo:=todo) (cs:=cs) (w:=w) hM (cap:=n) (args:=l) (fun a w=>ok.call f fn a w S p)
        obtain⟨D,w1,x,fr,V,J,W,k4,k5,k6,_⟩:=hs mu w (l++n) (some (aa,false)) (F.un tmps j todo (.panicking [{v:=aa,recovered:=false}])::cs) .deferred A L va ⟨rfl,af⟩ ⟨rfl,by simp⟩
        cases Q with
        |pan v=>cases i
        | ret v =>
          obtain⟨v',l1,l2⟩:=k6
          simp only []at i
          have s:=J.le A
          cases rc with
          |none=>cases i
          | some y=>
            obtain⟨v0,b⟩:=y
            cases x with
            |none=>exact W.elim
            | some z=>
              obtain⟨T,b'⟩:=z
              obtain⟨rfl,ai⟩:=W
              cases b with
              | true=>
                simp only []at i
                obtain⟨k,w',M',O,I,Y,Z⟩:=iO K none G _ B i D w1 j .returning V (L.mono s) (LR.mono h2 fun _ _=>jw.mono s) rfl
                refine⟨k,w',M',O,Ext.trans J I,Y,Steps.trans (.one C) (Steps.trans k5 (.head (pU l1 rfl) Z))⟩
              | false=>
                simp only []at i
                obtain⟨k,w',M',O,I,Y,Z⟩:=iO K (some v0) G _ B i D w1 j (.panicking [{v:=T,recovered:=false}]) V (L.mono s) (LR.mono h2 fun _ _=>jw.mono s) ⟨T,rfl,ai⟩
                refine⟨k,w',M',O,Ext.trans J I,Y,Steps.trans (.one C) (Steps.trans k5 (.head (lO l1 (.inr ⟨T,rfl⟩)) Z))⟩
   next=>cases i

include ok in
theorem xG {mu:Mu} {h:Hp} {w:World} (C:aD mu h w) {t:Tr Value} {n:Nat} {tmps:Array Value} (m:gD mu t n tmps): ∀(rs:List ResultVar) (vs:List Value),aO E t h rs=some vs->
 ∃ c,(rs.mapM (fun
   | .tmp t=>pure (tmps.getD t undef)
   | .cell a t=>do loadVar t (<-asAddr (tmps.getD a undef)):ResultVar->Sem Value)).run P w=.ok c w/\VL mu vs c:=by
 have e: ∀a,aq mu (match t.get a with|some v=>v|none=>.tuple #[]) (tmps.getD a undef):=by
  intro a
  cases d:t.get a with
  | none=>
    have:n<=a:=by
     rcases zt a n with g|g
     . obtain⟨v,o⟩:=Tr.get_some m.sized g;rw [o]at d;cases d
     . exact g
    rw [zk,zn (by rw [m.size];exact this)]
    exact .tuple rfl (by intro i v p d;simp at d)
  | some v=>
    obtain⟨p,g,o⟩:=m.get a v d
    rw [zk,g];exact o
 intro rs
 induction rs with
 |nil=>intro vs b;cases b;exact⟨[],by simp,LR.nil⟩
 | cons r rs B=>
   intro vs b
   cases r with
   | tmp a=>
     simp only [aO]at b
     cases f:aO E t h rs with
     |none=>rw [f]at b;cases b
     | some l=>
       rw [f]at b
       cases b
       obtain⟨c,q,s⟩:=B l f
       refine⟨tmps.getD a undef::c,?_,LR.cons (e a) s⟩
       simp only [List.mapM_cons,Sem.run_bind,Sem.run_pure,Result.andThen_ok,q]
   | cell a D=>
     simp only [aO]at b
     split at b
     next=>cases b
     next v d=>
      cases f:aO E t h rs with
      |none=>rw [f]at b;cases b
      | some l=>
        rw [f]at b
        cases b
        obtain⟨c,q,s⟩:=B l f
        obtain⟨p,u,F⟩:=ul (P:=P) ok C d (e a)
        refine⟨p::c,?_,LR.cons F s⟩
        have k: ∃j,tmps.getD a undef=.pointer (some j):=by
         have z: ∀x y,dJ E h D x=some v->aq mu x y-> ∃j,y=.pointer (some j):=by
          intro x y d G
          unfold dJ at d
          cases G<;>(try simp only []at d)<;>first|(cases d;done)|exact⟨_,rfl⟩
         exact z _ _ d (e a)
        obtain⟨j,k⟩:=k
        have A:(asAddr (tmps.getD a undef)).run P w=.ok j w:=by rw [k];simp [asAddr]
        rw [k]at u
        simp only [Instr.loadAt,Instr.sureAddr,Sem.run_bind,Sem.run_pure,Result.andThen_ok]at u
        simp only [List.mapM_cons,Sem.run_bind,A,Sem.run_pure,Result.andThen_ok,u,q]

include ok in
theorem xZ{mu:Mu}{h:Hp}{w:World}(j:aD mu h w){t:Tr Value}{n:Nat}{tmps:Array Value}(k:gD mu t n tmps){c:Func}{vs:List Value}(l:aO E t h c.results.toList=some vs):
 ∃v',(results c tmps).run P w=.ok v' w/\aq mu (ae vs) v':=by
 obtain⟨b,m,d⟩:=xG (P:=P) ok j k _ _ l
 have o:(results c tmps).run P w=.ok (if h:b.toArray.size=1 then b.toArray[0]else .tuple b.toArray) w:=by
  unfold results
  rw [Array.mapM_eq_mapM_toList]
  simp only [map_eq_pure_bind,Sem.run_bind]
  refine(congrArg (fun q:Result (List Value)=>(q.andThen fun a e=>(pure a.toArray:Sem (Array Value)).run P e).andThen
   fun a e=>(pure (if h:a.size=1 then a[0]else .tuple a):Sem Value).run P e) m).trans ?_
  simp
 refine⟨_,o,?_⟩
 cases vs with
 | nil=>
   rw [d.nil_left]
   exact .tuple rfl (by intro i v v' p;simp at p)
 | cons v r=>
   obtain⟨v',C,rfl,s,g⟩:=d.cons_left
   cases r with
   | nil=>
     rw [g.nil_left]
     simpa [ae]using s
   | cons D F=>
     obtain⟨x,y,rfl,G,z⟩:=g.cons_left
     simp only [ae,List.size_toArray,List.length_cons]
     rw [dif_neg (by omega)]
     exact .tuple (by simpa using z.1) (fun i u A B f=>d.2 i u A (by simpa using B) (by simpa using f))

include ok hc hcode in
theorem uM : eG E P (iG E R):=by
 intro g d rc h o X h' c
 unfold iG at c
 cases K:E.fn g with
 |none=>rw [K]at c;cases c
 | some f =>
   rw [K]at c
   simp only []at c
   cases hb:f.body with
   |none=>rw [hb]at c;cases c
   | some p =>
     rw [hb]at c
     simp only []at c
     refine⟨⟨f,rfl,by rw [hb];rfl⟩,?_⟩
     intro mu w b z l j hh hg ha ad L
     have hP:=ok.fn g f K
     cases hle:zy d.length f.ntmps with
     |false=>rw [hle]at c;cases c
     | true =>
       rw [hle]at c
       simp only [cond_true]at c
       have a0:d.length<=f.ntmps:=Nat.le_of_ble_eq_true hle
       have af:j=.normal\/j=.deferred:=by
        cases z with
        |none=>rcases L with a|a;exact .inl a;exact .inr a.1
        |some y=>exact .inr L.1
       let F:FC:=⟨g,j,none⟩
       have Y:Frame.enter P g b j=F.mk' (b++zp (f.ntmps-b.size) undef) [] [.code p]:=by
        simp [Frame.enter,hP,hb,FC.mk',F]
       have ai:d.length=b.size:=by rw [ha.1];simp
       have M:gD mu ((Tr.blank (.tuple #[]) f.ntmps f.ntmps).setAll 0 d) f.ntmps (b++zp (f.ntmps-b.size) undef):=by
        refine⟨by simp [ai.symm];omega,Tr.sized_setAll 0 d (Tr.sized_blank _ _ _ (zw _)),fun i v A=>?_⟩
        rw [Tr.get_setAll _ 0 d f.ntmps (Tr.sized_blank _ _ _ (zw _)) (by omega)]at A
        by_cases hi:i<d.length
        . rw [if_pos ⟨Nat.zero_le _,by omega⟩]at A
          obtain⟨u,g1,g2⟩:=ha.get (i:=i) (by simpa using A)
          exact⟨u,by rw [Array.getElem?_append_left (by omega)];simpa using g1,g2⟩
        . rw [if_neg (by omega),Tr.get_blank _ _ _ (zw _)]at A
          split at A
          . cases A
            refine⟨undef,?_,.tuple rfl (by intro i v u A;simp at A)⟩
            rw [Array.getElem?_append_right (by omega)]
            rw [Array.getElem?_replicate,if_pos (by omega)]
          . cases A
       have sr:SR P ⟨g,f.ntmps,none⟩ ⟨(Tr.blank (.tuple #[]) f.ntmps f.ntmps).setAll 0 d,[],rc⟩ h mu w F l (b++zp (f.ntmps-b.size) undef) [] z:=
        ⟨hh,hg,M,LR.nil,ad,L,rfl,trivial,fun e=>absurd rfl e,by show(P.funcs[g]?).isSome=true;rw [hP];rfl⟩
       rw [Y]
       cases N:R.code ⟨g,f.ntmps,none⟩ p ⟨(Tr.blank (.tuple #[]) f.ntmps f.ntmps).setAll 0 d,[],rc⟩ h with
       |none=>rw [N]at c;cases c
       | some q =>
         obtain⟨x,G,h1⟩:=q
         rw [N]at c
         obtain⟨Z,w1,r,B,k,t,e1,r1⟩:=hcode _ _ _ _ _ _ _ N mu w F l _ [] z [] [.code p] sr (.inl rfl)
         have aa: ∀{s:Array Value} {todo:List Item} {m:Mu} {O:Hp} {I:World} {Q:List Value},aD m O I->gD m G.regs f.ntmps s->aO E G.regs O f.results.toList=some Q->
          ∃u,nU P (F.un s [] todo .returning) I j u/\aq m (ae Q) u:=by
          intro s todo m O I Q ak al n
          obtain⟨u,g1,g2⟩:=xZ (P:=P) ok ak al n
          exact⟨u,⟨rfl,rfl,rfl,f,hP,g1⟩,g2⟩
         have C: ∀{todo:List Item},Steps P (lone (F.mk' (b++zp (f.ntmps-b.size) undef) [] [.code p]) (aA z l) w) (lone (F.mk' r B todo) (aA k l) w1)->(todo=[]\/ ∃k0,todo=.code .ret::k0)->
          (match bA R G.dfs none h1 with
            | some (none,ac)=>match aO E G.regs ac f.results.toList with
              |none=>none
              |some Q=>some (Out.ret (ae Q),G.rc,ac)
            |_=>none)=some (o,X,h')->
          ∃ H w' D fr,aD H h' w'/\Ext mu h w H h' w'/\ns H X D/\KOk j l D/\
            Steps P (lone (F.mk' (b++zp (f.ntmps-b.size) undef) [] [.code p]) (aA z l) w) (lone fr (aA D l) w')/\
            CallEnd P fr w' j H o/\fr.fn=g:=by
          intro todo st ht c
          cases S:bA R G.dfs none h1 with
          |none=>rw [S]at c;cases c
          | some q2=>
            obtain⟨m2,O⟩:=q2
            rw [S]at c
            cases m2 with
            |some v=>cases c
            | none=>
              simp only []at c
              obtain⟨m,I,M2,J,V,k3,k4⟩:=iO ok hc (F:=F) (tmps:=r) (todo:=todo) (cs:=aA k l) _ _ _ _ _ S Z w1 B .returning t.hr t.glob t.dfs rfl
              have T:M2=.returning:=k3
              subst T
              have le:=V.le t.hr
              cases n:aO E G.regs O f.results.toList with
              |none=>rw [n]at c;cases c
              | some Q=>
                rw [n]at c
                cases c
                have W:=t.step J le
                obtain⟨u,f1,f2⟩:=aa (todo:=todo) J W.regs n
                exact⟨m,I,k,_,J,Ext.trans e1 V,W.rc,t.ko,Steps.trans st (.head (yT rfl ht) k4),⟨u,f1,f2⟩,rfl⟩
         cases x with
         |exit id=>cases c
         |normal=>exact C r1 (.inl rfl) c
         |ret=>obtain⟨k0,r2⟩:=r1;exact C r2 (.inr ⟨k0,rfl⟩) c
         | pan v =>
           obtain⟨u,todo,A,r2⟩:=r1
           simp only []at c
           cases S:bA R G.dfs (some v) h1 with
           |none=>rw [S]at c;cases c
           | some q2=>
             obtain⟨m2,O⟩:=q2
             rw [S]at c
             obtain⟨m,I,M2,J,V,k3,k4⟩:=iO ok hc (F:=F) (tmps:=r) (todo:=todo) (cs:=aA k l) _ _ _ _ _ S Z w1 B (.panicking [{v:=u,recovered:=false}]) t.hr t.glob t.dfs ⟨u,rfl,A⟩
             have le:=V.le t.hr
             have W:=t.step J le
             cases m2 with
             | some v2=>
               cases c
               obtain⟨U,rfl,an⟩:=k3
               exact⟨m,I,k,_,J,Ext.trans e1 V,W.rc,t.ko,Steps.trans r2 k4,⟨U,⟨rfl,rfl,rfl,f,hP⟩,an⟩,rfl⟩
             | none=>
               have T:M2=.returning:=k3
               subst T
               simp only []at c
               cases n:aO E G.regs O f.results.toList with
               |none=>rw [n]at c;cases c
               | some Q=>
                 rw [n]at c
                 cases c
                 obtain⟨U,f1,f2⟩:=aa (todo:=todo) J W.regs n
                 exact⟨m,I,k,_,J,Ext.trans e1 V,W.rc,t.ko,Steps.trans r2 k4,⟨U,f1,f2⟩,rfl⟩

include ok hc hcode in
theorem wd:eG E P (fV E R):=by
 intro g a u h o m C d
 unfold fV at d
 cases n:E.orc g a with
 |none=>rw [n]at d;exact uM ok hc hcode g a u h o m C d
 | some v =>
   rw [n]at d
   cases u with
   |some x=>cases d
   | none =>
     cases d
     obtain⟨p,D,F,G⟩:=ok.orc g a v n
     refine⟨p,?_⟩
     intro y w b q r e z O s t f
     cases q with
     |some x=>exact t.elim
     | none=>
       have c:b=⟨a⟩:=by
        apply Array.ext'
        refine List.ext_getElem? fun i=>?_
        obtain⟨A,j⟩:=s
        rcases zt i a.length with k|k
        . have l:i<b.toList.length:=by omega
          have H:=j i a[i] b.toList[i] (zl k) (zl l)
          have I:cg a[i]=true:=List.all_eq_true.1 D _ (List.getElem_mem k)
          rw [zl l,aq.const_eq I H]
          exact(zl k).symm
        . rw [zC k,zC (by omega)]
       subst c
       obtain⟨J,K,B,L,M,N⟩:=G w r e f
       exact⟨y,J,none,K,B.hrel z,B.ext z,trivial,f,L,⟨v,M,aq.const y F⟩,N⟩
end
end Go.Ab

namespace Go.Ab

theorem run_ok{E:Env}{P:Program}(d:EOk E P)(e: ∀R,eG E P R.call->gG P R.code->DrawOk E P R/\rl E P R): ∀n,eG E P (run E n).call/\gG P (run E n).code
 | 0=>by
   constructor
   . intro g args k h o i j f;cases f
   . intro cx c l h x l' j f;cases f
 | n+1=>by
   obtain⟨a,b⟩:=run_ok d e n
   exact⟨wd d a b,xh d a b (e _ a b).1 (e _ a b).2⟩

noncomputable def hp0:Hp:={n:=16,t:=Tr.ofList (zD 16 .dead),lo:=16}
def mu0:Mu:=fun b=>if b<16 then .dead else .none
theorem hrel0(w:World):aD mu0 hp0 w:=by
 refine⟨?_,?_,?_,?_,?_⟩
 . have:=Tr.sized_ofList (zD 16 Blk.dead)
   rwa [List.length_replicate]at this
 . intro b c a d h
   unfold mu0 at h;split at h<;>cases h
 . intro b h
   unfold mu0 at h
   split at h
   next e=>
    show(Tr.ofList (zD 16 Blk.dead)).get b=_
    rw [Tr.get_ofList,List.getElem?_replicate,if_pos e]
   next=>cases h
 . intro b i c a d f g h
   unfold mu0 at h;split at h<;>cases h
 . intro b h
   unfold mu0 at h
   split at h
   next e=>exact e
   next=>exact absurd rfl h
theorem glob0:jq mu0:=by
 intro g a
 unfold dA mu0
 simp [a]

end Go.Ab

namespace Go.Ab

theorem tS{h a:Hp}{b o n:Nat}(e:a.get b=h.get b):h.load b o n=a.load b o n:=by unfold Hp.load;rw [e]

theorem rq {E : Env} {op:Op} {ρ:Operand->Value} (F:cls E op=0\/cls E op=1):
 ∃f:Hp->Option Value,(∀h,aop E ρ h op=bO h (f h))/\(cls E op=0-> ∀h u,f h=f u)/\(∀h u,(∀b,touch ρ op=some b->u.get b=h.get b)->f h=f u):=by
 have z:(∀h,aop E ρ h op=bO h (pop E ρ op))-> ∃f:Hp->Option Value,(∀h,aop E ρ h op=bO h (f h))/\(cls E op=0-> ∀h u,f h=f u)/\(∀h u,(∀b,touch ρ op=some b->u.get b=h.get b)->f h=f u):=
  fun h=>⟨fun _=>pop E ρ op,h,fun _ _ _=>rfl,fun _ _ _=>rfl⟩
 cases op
 case load t a=>
  refine⟨fun h=>dJ E h t (ρ a),fun _=>rfl,fun g=>by simp [cls]at g,fun h u q=>?_⟩
  show dJ E h t (ρ a)=dJ E u t (ρ a)
  unfold dJ
  unfold touch at q
  simp only []at q
  split at q
  next x I=>
   rw [I];simp only []
   have e: ∀o n,h.load x.block o n=u.load x.block o n:=fun o n=>tS (q _ rfl)
   simp only [e]
  next I=>cases D:ρ a<;>rw [D]at I<;>(try rfl);rename_i p;cases p<;>first|rfl|exact absurd rfl (I _)
 case lookup t m k b=>
  refine⟨fun h=>bU E h t (ρ m) (ρ k) b,fun _=>rfl,fun g=>by simp [cls]at g,fun h u q=>?_⟩
  show bU E h t (ρ m) (ρ k) b=bU E u t (ρ m) (ρ k) b
  unfold touch at q
  unfold bU
  simp only []at q
  cases D:ρ m<;>rw [D]at q<;>(try rfl)
  rename_i r
  cases r with
  |none=>rfl
  |some r=>simp only []at q⊢;rw [q r rfl]
 case convert s j x=>
  have A:cls E (.convert s j x)=0-> ∀p,ct E s j=some p->p.1=0:=by
   intro g p i
   unfold cls at g
   unfold ct at i
   simp only []at g
   cases G:E.und s with
   |none=>rw [G]at i;cases i
   | some d=>
     rw [G]at i g
     cases d<;>(try simp only []at i g)<;>(try (cases i;rfl))<;>(try (cases g;done))
     cases H:E.und j with
     |none=>rw [H]at i;cases i
     |some J=>rw [H]at i g;cases J<;>(try simp only []at i g)<;>(try (cases i;rfl))<;>(try (cases g;done))
  have B:cls E (.convert s j x)=1-> ∀p,ct E s j=some p->p.1=0\/p.1=1:=by
   intro g p i
   unfold cls at g
   unfold ct at i
   simp only []at g
   cases G:E.und s with
   |none=>rw [G]at i;cases i
   | some d=>
     rw [G]at i g
     cases d<;>(try simp only []at i g)<;>(try (cases g;done))<;>(try (cases i;exact .inl rfl))
     . cases H:E.und j with
       |none=>rw [H]at i;cases i
       |some J=>rw [H]at i g;cases J<;>(try simp only []at i g)<;>(try (cases g;done))<;>(try (cases i;exact .inl rfl))
     . split at i
       . split at i
         . cases i;exact .inr rfl
         . cases i
       . cases i
  refine⟨fun h=>match ct E s j with
   |some (0,_)=>jR E j (ρ x)
   |some (1,_)=>strOf h (ρ x)
   |_=>none,fun h=>?_,fun g h u=>?_,fun h u q=>?_⟩
  . show cw (jK E h s j (ρ x))=bO h _
    unfold jK
    cases C:ct E s j with
    |none=>rfl
    | some p=>
      obtain⟨n,e⟩:=p
      have K:n=0\/n=1:=by
       rcases F with g|g
       . exact .inl (A g _ C)
       . exact B g _ C
      rcases K with rfl|rfl
      . simp only [];cases jR E j (ρ x)<;>rfl
      . simp only [];cases strOf h (ρ x)<;>rfl
  . cases C:ct E s j with
    |none=>simp only [C]
    | some p=>
      obtain⟨n,e⟩:=p
      have:n=0:=A g _ C
      subst this
      simp only [C]
  . cases C:ct E s j with
    |none=>simp only [C]
    | some p=>
      obtain⟨n,e⟩:=p
      simp only [C]
      match n with
      |0=>rfl
      | 1=>
        show strOf h (ρ x)=strOf u (ρ x)
        unfold touch at q
        simp only []at q
        unfold strOf
        cases D:ρ x<;>rw [D]at q<;>(try rfl)
        rename_i a l c
        cases a with
        |none=>rfl
        |some a=>simp only []at q⊢;rw [tS (q _ rfl)]
      |n+2=>rfl
 case call c =>
  cases w:c.callee with
  |value f=>simp [cls,w]at F
  |invoke r n=>simp [cls,w]at F
  | builtin b =>
    cases b<;>(try (simp [cls,w]at F;done))
    case len =>
     refine ⟨fun h=>match pop E ρ (.call c)with
      |some v=>some v
      | none => match c.args.toList with
        | x ::_=>match ρ x with
          | .map (some r)=>match h.get r with
            | some (.map M _)=>match c.argTypes.toList with
              | t::_=>match E.und t with
                |some (.map _ _)=>some (.int .i64 (.ofNat M.length))
                |_=>none
              |_=>none
            |_=>none
          |_=>none
        |_=>none,fun h=>?_,fun g=>by simp [cls,w]at g,fun h u q=>?_⟩
     . simp only [aop,w]
       cases pop E ρ (.call c)with
       |some v=>rfl
       | none=>
         simp only []
         cases L:c.args.toList with
         |nil=>rfl
         | cons x N=>
           simp only []
           cases D:ρ x<;>(try rfl)
           rename_i r
           cases r with
           |none=>rfl
           | some r=>
             simp only []
             cases P:h.get r with
             |none=>rfl
             | some y=>
               cases y<;>(try rfl)
               cases O:c.argTypes.toList with
               |nil=>rfl
               | cons t Q=>
                 simp only []
                 cases R:E.und t with
                 |none=>rfl
                 |some d=>cases d<;>rfl
     . show _=_
       cases pop E ρ (.call c)with
       |some v=>rfl
       | none=>
         simp only []
         unfold touch at q
         simp only []at q
         cases L:c.args.toList with
         |nil=>rfl
         | cons x N=>
           rw [L]at q
           simp only []at q⊢
           cases D:ρ x<;>rw [D]at q<;>(try rfl)
           rename_i r
           cases r with
           |none=>rfl
           |some r=>simp only []at q⊢;rw [q r rfl]
    all_goals exact z (fun h=>by simp only [aop,w])
 all_goals first
  |exact z (fun _=>rfl)
  |(exfalso;simp [cls]at F;done)

theorem bK{h:Hp}{b a:Nat}{x:Blk}(c:b≠a):(h.put b x).get a=h.get a:=by
 rw [Hp.get_put,if_neg (fun e=>c e.1)]
theorem oG{h:Hp}{b:Nat}{x:Blk}(a:h.t.Sized h.n)(c:b<h.n):(h.new x).get b=h.get b:=by
 rw [Hp.get_new h x a,if_neg (by omega)]
theorem oH{h e:Hp}{b o:Nat}{l:List Value}(a:h.store b o l=some e){c:Nat}(d:b≠c):e.get c=h.get c:=by
 unfold Hp.store at a
 split at a
 . cases f:(_&&_&&_:Bool)<;>rw [f]at a
   . cases a
   . cases a;exact bK d
 . cases a
end Go.Ab

namespace Go.Ab

theorem ly{E:Env}{h:Hp}{t:TypeId}{m k:Value}{r:Nat}{b:List (Value×Value×Nat)}{c:Nat}{el:TypeId}(a:gc E h t m k=some (r,b,c,el)):
 m=.map (some r)/\h.get r=some (.map b c)/\ ∃kt,E.und t=some (.map kt el)/\aM E kt k=true:=by
 unfold gc at a
 split at a
 next kt d e=>
  cases hf:aM E kt k with
  |false=>rw [hf]at a;cases a
  | true=>
    rw [hf]at a
    simp only [cond_true]at a
    split at a
    next i=>
     split at a
     next f j g=>cases a;exact⟨rfl,g,kt,e,hf⟩
     next=>cases a
    next=>cases a
 next=>cases a

theorem w_only {E : Env} {op:Op} {ρ:Operand->Value} {h G:Hp} {N:cH} (O:h.t.Sized h.n) (w:cls E op=2\/cls E op=5) (l:aop E ρ h op=some (N,G)):
 ∀b,b<h.n->touch ρ op≠some b->G.get b=h.get b:=by
 intro b P u
 have Q: ∀{r:Option (Hp×Value)},cw r=some (N,G)-> ∃v,r=some (G,v):=by
  intro r A
  cases r with
  |none=>cases A
  |some q=>obtain⟨a,b⟩:=q;cases A;exact⟨b,rfl⟩
 have L: ∀{r:Option Hp},dK r=some (N,G)->r=some G:=by
  intro r A
  cases r with
  |none=>cases A
  |some q=>cases A;rfl
 cases op
 case store t a x=>
  have d:=L l
  unfold fH at d
  unfold touch at u
  simp only []at u
  split at d
  next o X=>
   rw [X]at u
   simp only []at u
   have g:o.block≠b:=fun e=>u (by rw [e])
   split at d
   next=>cases d
   next n Y=>
    split at d
    next=>cases d
    next v hv=>
     cases H:zj (ah (ρ x)).length n with
     |false=>rw [H]at d;cases d
     |true=>rw [H]at d;exact oH d g
  next=>cases d
 case mapUpdate t m k v=>
  have d:=L l
  unfold c7 at d
  split at d
  next=>cases d
  next r M c el B=>
   obtain⟨C,_,_⟩:=ly B
   have g:r≠b:=by intro e;subst e;exact u (by unfold touch;simp only [];rw [C])
   split at d
   next=>cases d
   next=>cases d;exact bK g
   next=>cases d;exact bK g
 case insert t m k v=>
  have d:=L l
  unfold c7 at d
  split at d
  next=>cases d
  next r M c el B=>
   obtain⟨C,_,_⟩:=ly B
   have g:r≠b:=by intro e;subst e;exact u (by unfold touch;simp only [];rw [C])
   split at d
   next=>cases d
   next=>cases d;exact bK g
   next=>cases d;exact bK g
 case mapEntry t m k=>
  obtain⟨v,d⟩:=Q l
  unfold fQ at d
  split at d
  next=>cases d
  next r M c el B=>
   obtain⟨C,_,_⟩:=ly B
   have g:r≠b:=by intro e;subst e;exact u (by unfold touch;simp only [];rw [C])
   split at d
   next=>cases d
   next=>cases d;exact bK g
   next=>
    split at d
    next=>cases d
    next=>cases d;exact bK g
 case entryStore t m s v=>
  have d:=L l
  unfold jf at d
  split at d
  next r A=>
   have g:r≠b:=by intro e;subst e;exact u (by unfold touch;simp only [];rw [A])
   split at d
   next M c Z=>
    split at d
    next kd i hi=>
     split at d
     next=>cases d
     next n Y=>
      split at d
      next=>cases d
      next=>cases d;exact bK g
    next=>cases d
   next=>cases d
  next=>cases d
 case call c =>
  cases p:c.callee with
  |value f=>simp [cls,p]at w
  |invoke r n=>simp [cls,p]at w
  | builtin bi =>
    cases bi<;>(try (simp [cls,p]at w;done))
    case append =>
     simp only [aop,p]at l
     split at l
     next s x T j =>
      obtain⟨v,d⟩:=Q l
      unfold cV at d
      split at d
      next t tx U =>
       split at d
       next =>
        unfold iR at d
        split at d
        next e hu=>
         split at d
         next=>cases d
         next i hi =>
          split at d
          next a z I D=>
           have g: ∀o,a=some o->o.block≠b:=by
            intro o e R
            subst e
            exact u (by unfold touch;simp only [];rw [j];simp only [];rw [D];simp only [];rw [R])
           split at d
           next=>cases d
           next n S V=>
            unfold d9 at d
            cases H:zy (z+n) I with
            | true=>
              rw [H]at d
              simp only [cond_true]at d
              split at d
              next=>cases d;rfl
              next o=>
               split at d
               next=>cases d;rfl
               next=>
                split at d
                next=>cases d
                next W F=>cases d;exact oH F (g _ rfl)
            | false =>
              rw [H]at d
              simp only [cond_false]at d
              cases J:(zy ((z+n)*(i.bytes+1)) 70368744177664&&(zx 0 i.bytes))with
              |false=>rw [J]at d;cases d
              | true =>
                rw [J]at d
                simp only [cond_true]at d
                split at d
                next=>cases d
                next zs hz=>
                 cases K:zj zs.length i.size with
                 |false=>rw [K]at d;cases d
                 | true=>
                   rw [K]at d
                   simp only [cond_true]at d
                   unfold mg at d
                   split at d
                   next=>
                    cases y:zj z 0 with
                    |false=>rw [y]at d;cases d
                    |true=>rw [y]at d;cases d;exact oG O P
                   next o=>
                    split at d
                    next tr sz el md Z=>
                     split at d
                     next=>cases d
                     next t2 s2 aa=>
                      split at d
                      next k' ac=>
                       cases y:(zj k' i.size&& !Nat.beq md 0&&S.all iw)with
                       |false=>rw [y]at d;cases d
                       | true=>
                         rw [y]at d
                         cases d
                         rw [oG (h:=h.put o.block .dead) (Tr.sized_set _ _ O) P]
                         exact bK (g _ rfl)
                      next=>cases d;exact oG O P
                    next=>cases d
          next=>cases d
        next=>cases d
       next=>cases d
      next=>cases d
     next=>cases l
    case copy=>
     simp only [aop,p]at l
     split at l
     next s x T j=>
      obtain⟨v,d⟩:=Q l
      unfold copyV at d
      split at d
      next t U=>
       split at d
       next e hu=>
        split at d
        next=>cases d
        next k hk=>
         split at d
         next a z I D=>
          have g: ∀o,a=some o->o.block≠b:=by
           intro o e R
           subst e
           exact u (by unfold touch;simp only [];rw [j];simp only [];rw [D];simp only [];rw [R])
          split at d
          next=>cases d;rfl
          next=>
           split at d
           next=>cases d
           next=>cases d;rfl
           next=>
            split at d
            next=>cases d
            next o=>
             split at d
             next=>cases d
             next W F=>cases d;exact oH F (g _ rfl)
          next=>cases d
         next=>cases d
       next=>cases d
      next=>cases d
     next=>cases l
    case delete=>
     simp only [aop,p]at l
     split at l
     next t U m k T af j=>
      split at l
      next=>cases l
      next W d=>
       cases l
       unfold jN at d
       split at d
       next=>cases d
       next r M c el B=>
        obtain⟨C,_,_⟩:=ly B
        have g:r≠b:=by intro e;subst e;exact u (by unfold touch;simp only [];rw [j];simp only [];rw [C])
        split at d
        next=>cases d
        next=>cases d;exact bK g
     next=>cases l
 case convert ai ak x=>
  exfalso
  unfold cls at w
  simp only []at w
  split at w<;>omega
 all_goals first
  |(exfalso;simp [cls]at w;done)
  |(exfalso;unfold cls at w;simp only []at w;split at w<;>simp at w;done)
end Go.Ab

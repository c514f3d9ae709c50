/- A deterministic evaluator of the model's code, and that the model follows it (part 3). -/
import Derived.Test.YtnandelhggbchaaGreatDoorMbB
import Derived.Calls
import Derived.RowKit3
open Nat renaming beq->zM,lor->Xe,lt_or_ge->Xf,pow->Xg,le_refl->Xh,blt->Xi,ble->Xj,testBit->Xo
open Array renaming getD_eq_getD_getElem?->zN,getElem?_eq_none->Xb,replicate->Xd,getElem?_toList->Xk,toList_append->Xn
open List renaming getElem?_eq_getElem->Xa,range->Xc,getElem?_eq_none->Xl,replicate->Xm,range'->Xp
set_option maxHeartbeats 400000
set_option linter.defProp false
set_option linter.unusedVariables false
set_option linter.unusedSimpArgs false
namespace Go.Ab
noncomputable section

structure Loc where
 regs:Tr Value
 dfs:List Deferred
 rc:Option (Value×Bool)

def Loc.ev(l:Loc):Operand->Value
 | .tmp t=>match l.regs.get t with
   |some v=>v
   |none=>.tuple #[]
 | .const v=>bif cJ v then v else poison
 | .global g=>bif Xi g 16 then .pointer (some ⟨g,0,none⟩)else poison
 | .func f=>.func (.func f) #[] #[]
def Loc.put(l:Loc)(d:Option Tmp)(v:Value):Loc:=match d with
 |none=>l
 |some t=>{l with regs:=l.regs.set t v}

inductive Ex where
 |normal
 |exit (id:Nat)
 |ret
 |pan (v:Value)

inductive Out where
 |ret (v:Value)
 |pan (v:Value)

structure Cx where
 fn:FuncId
 nr:Nat
 round:Option Nat

structure Rec where
 call:FuncId->List Value->Option (Value×Bool)->Hp->Option (Out×Option (Value×Bool)×Hp)
 code:Cx->Code->Loc->Hp->Option (Ex×Loc×Hp)

def m9(a:Tr Value):List Tmp->List Value->Option (Tr Value)
 | [],[]=>some a
 |t::b,v::c=>m9 (a.set t v) b c
 |_,_=>none
def iQ (E:Env) (R:Rec) (b:Nat) (args:List Value) (h:Hp):Option (Out×Hp):=match h.get b with
 | some (.loop r)=>bif (E.fn r.fn).isSome then match r.st with
   | 0 =>match m9 r.regs r.params.toList args with
     |none=>none
     | some c=>match R.code ⟨r.fn,r.nr,some b⟩ r.assign ⟨c,[],none⟩ h with
       | some (.normal,l,e)=>match e.get b with
         | some (.loop f)=>match f.st with
           | 0 =>match R.code ⟨r.fn,r.nr,some b⟩ r.body l (e.put b (.loop {f with st:=1}))with
             | some (.normal,_,a)=>match a.get b with
               |some (.loop d)=>some (.ret (.bool true),a.put b (.loop {d with st:=0,pending:=none}))
               |_=>none
             | some (.exit id,_,a)=>match a.get b with
               |some (.loop d)=>some (.ret (.bool false),a.put b (.loop {d with st:=2,pending:=some (.exit id)}))
               |_=>none
             | some (.ret,_,a)=>match a.get b with
               |some (.loop d)=>some (.ret (.bool false),a.put b (.loop {d with st:=2,pending:=some .ret}))
               |_=>none
             | some (.pan v,g,a)=>match g.dfs with
               | []=>some (.pan v,a)
               |_=>none
             |none=>none
           |_=>none
         |_=>none
       |_=>none
   |_=>none
   else none
 |_=>none

def bV (ops:List Oper) (c:Tr Value) (o:Oper):Option Bool:=match o.guard with
 |none=>some true
 | some (j,a)=>match ops[j]? with
   |none=>some false
   | some e=>match e.dst with
     |none=>some false
     | some d=>match c.get d with
       |some (.bool b)=>some (bif b then a else !a)
       |some (.tuple _)=>some false
       |_=>none

def cI(E:Env)(R:Rec):Option (c8×Hp)->Option (Out×Hp)
 |some (.val v,c)=>some (.ret v,c)
 |some (.skip,c)=>some (.ret (.tuple #[]),c)
 | some (.call f a,c)=>match R.call f a none c with
   |some (x,_,d)=>some (x,d)
   |none=>none
 |some (.yield b a,c)=>iQ E R b a c
 |some (.panic v,c)=>some (.pan v,c)
 |some (.recov,_)=>none
 |some (.defer _,_)=>none
 |none=>none
def mI(o:Oper)(l:Loc):Option (Out×Hp)->Option (Ex×Loc×Hp)
 |some (.ret v,a)=>some (.normal,l.put o.dst v,a)
 |some (.pan v,a)=>some (.pan v,l,a)
 |none=>none
def dG(E:Env)(R:Rec)(cx:Cx)(o:Oper)(l:Loc)(h:Hp):Option (Ex×Loc×Hp):=match aop E l.ev h o.op with
 | some (.recov,a)=>match cx.round with
   |some _=>none
   | none=>match l.rc with
     |some (v,false)=>some (.normal,({l with rc:=some (v,true)}:Loc).put o.dst v,a)
     |_=>some (.normal,l.put o.dst .nilIface,a)
 | some (.defer d,a)=>match cx.round with
   |some _=>none
   |none=>some (.normal,({l with dfs:=d::l.dfs}:Loc).put o.dst (.tuple #[]),a)
 |r=>mI o l (cI E R r)

def ik(E:Env)(R:Rec)(cx:Cx)(ops:List Oper):List Oper->Loc->Hp->Option (Ex×Loc×Hp)
 | [],l,h=>some (.normal,l,h)
 | o ::a,l,h=>match bV ops l.regs o with
   |none=>none
   |some false=>ik E R cx ops a (l.put o.dst (.tuple #[])) h
   | some true=>match dG E R cx o l h with
     |some (.normal,b,c)=>ik E R cx ops a b c
     |r=>r

def cls(E:Env):Op->Nat
 | .move _| .assign _| .pick .. | .nilCheck _| .binOp .. | .unOp .. | .makeInterface .. | .makeFunc .. | .slice .. | .fieldAddr .. | .field ..
 | .indexAddr .. | .index .. | .extract .. | .build .. | .typeAssert .. =>0
 | .convert a b _=>match E.und a,E.und b with
   |some (.slice _),_=>1
   |some .string,some (.slice _)=>4
   |_,_=>0
 | .load .. | .lookup .. =>1
 | .store .. | .insert .. | .mapUpdate .. | .mapEntry .. | .entryStore .. =>2
 | .alloc _| .box .. | .buildSlice .. | .makeSlice .. | .makeMap .. =>4
 | .call c=>match c.callee with
   | .builtin .min| .builtin .max=>0
   | .builtin .len=>1
   | .builtin .delete| .builtin .copy=>2
   | .builtin .append=>5
   |_=>3
 |_=>3
def touch(ρ:Operand->Value):Op->Option Nat
 | .load _ a| .store _ a _=>match ρ a with
   | .pointer (some a)=>some a.block
   |_=>none
 | .lookup _ m _ _| .insert _ m _ _| .mapUpdate _ m _ _| .mapEntry _ m _| .entryStore _ m _ _=>match ρ m with
   | .map r=>r
   |_=>none
 | .convert _ _ x=>match ρ x with
   | .slice (some a) _ _=>some a.block
   |_=>none
 | .call c=>match c.args.toList with
   | x::_=>match ρ x with
     | .map r=>r
     | .slice (some a) _ _=>some a.block
     |_=>none
   |_=>none
 |_=>none
def befs :List Oper->List Nat->Option (List Nat)
 | [],a=>some a
 | o ::b,a=>match(o.after.toList.foldl (fun s e=>match s with
     |none=>none
     | some s=>match e.ground with
       | .textOnly _=>some s
       | .gcOnly _=>some s
       | _=>match a[a.length-1-e.on]? with
         |none=>none
         |some m=>bif Xi e.on a.length then some (Xe (Xe s (Xg 2 e.on)) m)else none) (some 0))with
   |none=>none
   |some s=>befs b (s::a)
def jd (ops:List Oper) (o:Oper):List Tmp:=
 o.dst.toList++(o.op.operands.toList.filterMap fun x=>match x with| .tmp t=>some t|_=>none)++
  (match o.guard with
    |none=>[]
    | some (j,_)=>match ops[j]? with
      |none=>[]
      |some a=>a.dst.toList)
def mi(t:Nat):List Nat->Bool
 | []=>false
 |x::l=>zM t x||mi t l
def rb(ops:List Oper)(o p:Oper):Bool:=
 (match o.dst with|none=>true|some t=>!mi t (jd ops p))&&(match p.dst with|none=>true|some t=>!mi t (jd ops o))
def jc:Op->Op->Bool
 | .mapEntry t _ _,.lookup a _ _ b=>!b&&zM t a
 |_,_=>false
def di:Op->Bool
 | .call c=>match c.callee with
   | .builtin _=>false
   |_=>true
 |_=>false
def dR:Op->Bool
 | .alloc _=>true
 |_=>false
def isMk:Op->Bool
 | .makeMap .. =>true
 |_=>false
def mapArg:Op->Option Tmp
 | .insert _ (.tmp t) _ _=>some t
 | .mapUpdate _ (.tmp t) _ _=>some t
 |_=>none
def qm(t:Tmp)(o:Oper):Bool:=match o.dst with
 |some d=>zM d t
 |none=>false
def atIs(f:Oper->Bool)(ops:List Oper)(k:Nat):Bool:=match ops[k]? with
 |some o=>f o
 |none=>false
def mV(ops:List Oper)(o:Oper)(n i:Nat):Bool:=match mapArg o.op with
 |some t=>(Xc n).any fun k=>Xi i k&&(atIs (fun p=>isMk p.op&&qm t p) ops k&&(Xc n).all fun j=>Xj j k|| !atIs (qm t) ops j)
 |none=>false
def iM (E:Env) (ops:List Oper) (o:Oper) (m n:Nat):List Oper->Nat->Nat×List (Nat×Nat)->Option (Nat×List (Nat×Nat))
 | [],_,r=>some r
 | p ::a,i,(q,l)=>bif Xo m i then iM E ops o m n a (i+1) (q,l)else
   bif rb ops o p then
    match cls E o.op,cls E p.op with
    |0,_=>iM E ops o m n a (i+1) (q,l)
    |_,0=>iM E ops o m n a (i+1) (q,l)
    |1,1=>iM E ops o m n a (i+1) (q,l)
    |2,1=>iM E ops o m n a (i+1) (q,bif jc o.op p.op then l else(i,n)::l)
    |1,2=>iM E ops o m n a (i+1) (q,bif jc p.op o.op then l else(i,n)::l)
    |5,1=>iM E ops o m n a (i+1) (q,(i,n)::l)
    |1,5=>iM E ops o m n a (i+1) (q,(i,n)::l)
    |3,1=>bif di o.op then iM E ops o m n a (i+1) (q,(i,n)::l)else iM E ops o m n a (i+1) (Xe (Xg 2 n) q,l)
    |1,3=>bif di p.op then iM E ops o m n a (i+1) (q,(i,n)::l)else iM E ops o m n a (i+1) (Xe (Xg 2 i) q,l)
    |3,4=>bif di o.op&&dR p.op then iM E ops o m n a (i+1) (q,(i,n)::l)else iM E ops o m n a (i+1) (Xe (Xg 2 n) q,l)
    |2,3=>bif mV ops o n i then iM E ops o m n a (i+1) (Xe (Xg 2 i) q,l)else none
    |2,_=>none
    |_,2=>none
    |c,d=>iM E ops o m n a (i+1)
     (Xe (bif zM d 3||zM d 5 then Xg 2 i else 0) (Xe (bif zM c 3||zM c 5 then Xg 2 n else 0) q),l)
   else none
def rQ(E:Env)(ops:List Oper):List Oper->List Nat->Nat->Nat×List (Nat×Nat)->Option (Nat×List (Nat×Nat))
 | [],_,_,r=>some r
 | o::a,m::b,n,r=>match iM E ops o m n (ops.take n) 0 r with
   |none=>none
   |some (q,l)=>rQ E ops a b (n+1) (bif zM (cls E o.op) 4 then Xe (Xg 2 n) q else q,l)
 |_,[],_,_=>none
def iS(E:Env)(ops:List Oper):Option (Nat×List (Nat×Nat)):=match befs ops []with
 |none=>none
 |some a=>rQ E ops ops a.reverse 0 (0,[])

def tmpsOf:List Operand->List Tmp
 | []=>[]
 | .tmp t::l=>t::tmpsOf l
 |_::l=>tmpsOf l
def Loc.evD(l:Loc)(ts:List Tmp):Operand->Value
 | .tmp t=>bif mi t ts then l.ev (.tmp t)else poison
 |x=>l.ev x
def dQ(E:Env)(q i:Nat)(o:Op):Bool:=Xo q i&&Xj 3 (cls E o)
def cw(E:Env)(R:Rec)(ρ:Operand->Value)(a:Bool)(o:Oper)(h:Hp):Option (Value×Hp):=
 bif a then
  match cI E R (aop E ρ {h with lo:=h.n} o.op)with
  |some (.ret v,b)=>bif Xj h.n b.lo then some (v,{b with lo:=h.lo})else none
  |_=>none
 else match cI E R (aop E ρ h o.op)with
  |some (.ret v,b)=>some (v,b)
  |_=>none
inductive Tch where
 |blk (b:Nat)
 |run (h h':Hp)
def ij(ρ:Operand->Value)(op:Op)(h:Hp):Option Nat:=bif dR op then some h.n else touch ρ op
def bU(ρ:Operand->Value)(a:Bool)(op:Op)(h h':Hp):Option Tch:=
 bif di op then(bif a then none else some (.run h h'))else match ij ρ op h with
  |none=>none
  |some b=>some (.blk b)
def gw(i:Nat)(a:List (Nat×Tch)):Option Tch->List (Nat×Tch)
 |none=>a
 |some b=>(i,b)::a
def a8(E:Env)(R:Rec)(ops:List Oper)(q:Nat):List Oper->Nat->Loc->Hp->List (Nat×Tch)->Option (Loc×Hp×List (Nat×Tch))
 | [],_,l,h,a=>some (l,h,a)
 | o ::b,i,l,h,a=>match bV ops l.regs o with
   |none=>none
   |some false=>a8 E R ops q b (i+1) (l.put o.dst (.tuple #[])) h a
   | some true=>match cw E R (l.evD (tmpsOf o.op.operands.toList)) (dQ E q i o.op) o h with
     |none=>none
     |some (v,c)=>a8 E R ops q b (i+1) (l.put o.dst v) c (gw i a (bU (l.evD (tmpsOf o.op.operands.toList)) (dQ E q i o.op) o.op h c))
def cu(i:Nat):List (Nat×Tch)->Option Tch
 | []=>none
 |(k,b)::l=>bif zM i k then some b else cu i l
def sameAddr(a b:Addr):Bool:=zM a.block b.block&&zM a.off b.off&&(match a.spot,b.spot with
 |none,none=>true
 |some i,some j=>zM i j
 |_,_=>false)
def pT(a b:Value):Bool:=match bH a b with
 |some t=>t
 | none=>match a,b with
   | .pointer none,.pointer none=>true
   | .pointer (some x),.pointer (some y)=>sameAddr x y
   | .slice none n m,.slice none c d=>zM n c&&zM m d
   | .slice (some x) n m,.slice (some y) c d=>sameAddr x y&&(zM n c&&zM m d)
   | .map none,.map none=>true
   | .map (some x),.map (some y)=>zM x y
   | .nilFunc,.nilFunc=>true
   | .nilIface,.nilIface=>true
   |_,_=>false
def q8:List Value->List Value->Bool
 | [],[]=>true
 |x::l,y::m=>pT x y&&q8 l m
 |_,_=>false
def uv(a b:Value):Bool:=match a,b with
 | .func (.func g) x y,.func (.func c) d e=>zM g c&&(q8 x.toList d.toList&&q8 y.toList e.toList)
 | .iface t x,.iface f y=>zM t f&&pT x y
 |_,_=>pT a b
def sameT:Tr Value->Tr Value->Bool
 | .nil,.nil=>true
 | .node x l r,.node a b c=>uv x a&&(sameT l b&&sameT r c)
 |_,_=>false
def sameE:List (Value×Value×Nat)->List (Value×Value×Nat)->Bool
 | [],[]=>true
 |(k,x,n)::l,(a,y,m)::b=>pT k a&&(uv x y&&(zM n m&&sameE l b))
 |_,_=>false
def sameB(x y:Blk):Bool:=(match x,y with
 | .cells t n e m,.cells b d f g=>sameT t b&&(zM n d&&(zM e f&&zM m g))
 | .map h c,.map a i=>zM c i&&sameE h a
 |_,_=>false)|| @decide (x=y) (Classical.propDecidable _)
def leaves(h h':Hp)(b:Nat):Bool:=match h.get b,h'.get b with
 |some x,some y=>sameB x y
 |none,none=>true
 |_,_=>false
def i7:Option Tch->Option Tch->Bool
 |some (.blk a),some (.blk b)=>!Nat.beq a b
 |some (.blk a),some (.run h c)=>leaves h c a
 |some (.run h c),some (.blk a)=>leaves h c a
 |some (.run _ _),some (.run _ _)=>false
 |_,_=>true
def cg(a:List (Nat×Tch)):List (Nat×Nat)->Bool
 | []=>true
 |(i,j)::l=>i7 (cu i a) (cu j a)&&cg a l

def ry(o:Oper):Bool:=dR o.op&&o.guard.isNone
def ru(ops:List Oper)(i:Nat):Bool:=match ops[i]? with
 |some o=>ry o
 |none=>false
def lates:List Oper->List Bool->List Bool
 | [],a=>a
 |o::b,a=>lates b ((isMk o.op||o.after.toList.any fun e=>Xi e.on a.length&&a.getD (a.length-1-e.on) false)::a)
def qR(ops:List Oper):Bool:=ops.any (fun o=>di o.op)&&(ops.any (fun o=>isMk o.op)&&ops.any fun o=>(mapArg o.op).isSome)
def uj(ops:List Oper)(i:Nat):Bool:=qR ops&&(lates ops []).reverse.getD i false
def ordL(ops:List Oper):List Nat:=(Xc ops.length).filter (ru ops)++((Xc ops.length).filter (fun i=>!ru ops i&& !uj ops i)++(Xc ops.length).filter fun i=>!ru ops i&&uj ops i)
def eX(i:Nat):List Nat->Nat
 | []=>0
 |x::l=>bif zM i x then 0 else eX i l+1
def reix(ord:List Nat)(o:Oper):Oper:={o with after:=o.after.map fun e=>{e with on:=eX e.on ord},guard:=match o.guard with
 |none=>none
 |some (j,w)=>some (eX j ord,w)}
def dY(ops:List Oper)(ord:List Nat):List Nat->List Oper
 | []=>[]
 | i::l=>match ops[i]? with
   |none=>dY ops ord l
   |some o=>reix ord o::dY ops ord l
def iJ(n:Nat)(o:Oper):Bool:=match o.guard with
 |none=>true
 |some (j,_)=>Xi j n
def bC(ops:List Oper):List Oper:=bif (ops.any ry||qR ops)&&ops.all (iJ ops.length)then dY ops (ordL ops) (ordL ops)else ops

def fullM(ops:List Oper)(n:Nat):Bool:=match befs ops []with
 |some (m::_)=>(Xc n).all fun i=>Xo m i
 |_=>false
def n8(ops:List Oper)(n:Nat):Bool:=fullM ops n&&(ops.take n).all (iJ n)
def rF (E:Env) (R:Rec) (cx:Cx) (ops:List Oper) (l:Loc) (h:Hp):Option (Ex×Loc×Hp):=bif n8 ops (ops.length-1)then
    match iS E (bC (ops.take (ops.length-1)))with
    |none=>none
    | some (q,a)=>match a8 E R (bC (ops.take (ops.length-1))) q (bC (ops.take (ops.length-1))) 0 l h []with
      |none=>none
      |some (b,c,d)=>bif cg d a then ik E R cx ops (ops.drop (ops.length-1)) b c else none
 else none

def oC:Value->Bool
 | .int _ _=>true
 |_=>false
def insK(t:Tmp)(o:Oper):Option (TypeId×Value):=match o.op with
 | .insert a (.tmp b) (.const k) _=>bif zM b t&&(o.dst.isNone&&oC k)then some (a,k)else none
 |_=>none
def sf(x y:Value):Bool:=match bH x y with
 |some b=>!b
 |none=>false
def uO(ty:TypeId):Op->Bool
 | .lookup a _ _ _=>zM a ty
 |_=>false
def tZ(E:Env)(ty:TypeId)(t:Tmp)(o:Oper):Bool:=!qm t o&&(zM (cls E o.op) 0||uO ty o.op)
def pA(E:Env)(os:List Oper)(i:Nat):Option Tmp:=match os[i]?,os[i+1]?,os[i+2]? with
 | some m,some a,some b=>match m.dst with
   | some t=>match insK t a,insK t b with
     |some (c,x),some (d,y)=>bif isMk m.op&&(zM c d&&(sf x y&&(sf y x&&((os.drop (i+3)).all (tZ E c t)&&os.all fun o=>o.guard.isNone))))then some t else none
     |_,_=>none
   |none=>none
 |_,_,_=>none
def lu(os:List Oper):Nat:=os.findIdx fun o=>isMk o.op
def swN(k i:Nat):Nat:=bif zM i k then k+1 else bif zM i (k+1)then k else i
def gJ(n k:Nat):List Nat:=(Xc n).map (swN k)
def tie(k i:Nat)(o:Oper):Oper:=bif zM i (k+1)then {o with after:=o.after.push ⟨k,.data⟩}else o
def lh(os:List Oper)(k:Nat):List Oper:=os.mapIdx (tie k)
def oE(E:Env)(ops:List Oper):Bool:=(pA E (bC ops) (lu (bC ops))).isSome
def rX(E:Env)(os:List Oper):Option (Nat×List (Nat×Nat)):=match pA E os (lu os),befs os [],iS E (lh os (lu os+1)),iS E (lh (dY os (gJ os.length (lu os+1)) (gJ os.length (lu os+1))) (lu os+1))with
 |some _,some _,some (q,b),some (c,a)=>bif zM q c then some (q,b++a)else none
 |_,_,_,_=>none
def mK(t:Option Tmp)(l:Loc)(h:Hp):Option Hp:=match t with
 | some t=>match l.ev (.tmp t)with
   | .map (some b)=>match h.get b with
     |some (.map _ _)=>some (h.put b .dead)
     |_=>none
   |_=>none
 |none=>none
def forkD(E:Env)(R:Rec)(ops:List Oper)(l:Loc)(h:Hp):Option (Ex×Loc×Hp):=match rX E (bC ops)with
 |none=>none
 | some (q,b)=>match a8 E R (bC ops) q (bC ops) 0 l h []with
   |none=>none
   | some (a,c,d)=>bif cg d b then(match mK (pA E (bC ops) (lu (bC ops))) a c with
     |some e=>some (.normal,a,e)
     |none=>none)else none
def cutD(E:Env)(R:Rec)(cx:Cx)(ops:List Oper)(l:Loc)(h:Hp):Option (Ex×Loc×Hp):=bif oE E ops then forkD E R ops l h else rF E R cx ops l h

def ie (R:Rec) (cx:Cx) (f:Value) (params:Array Tmp) (assign body:Code) (l:Loc) (h:Hp):Option (Ex×Loc×Hp):=
 match f with
 | .func (.func g) a b=>
   match(match cx.round with
    |none=>some (h.new .dfr,h.n,({target:=.collected h.n,args:=#[]}:Deferred)::l.dfs)
    | some r=>match h.get r with
      |some (.loop x)=>some (h,x.defers,l.dfs)
      |_=>none)with
   |none=>none
   | some (e,d,c)=>
     match R.call g (a.toList++[.func (.yield e.n) #[] #[]]++b.toList) none
      (e.new (.loop {fn:=cx.fn,regs:=l.regs,nr:=cx.nr,params,assign,body,st:=0,pending:=none,defers:=d}))with
     |none=>none
     |some (.pan v,_,i)=>some (.pan v,{l with dfs:=c},i)
     | some (.ret _,_,i)=>match i.get e.n with
       | some (.loop x)=>match x.st with
         |1=>none
         | _=>match x.pending with
           |none=>some (.normal,{l with dfs:=c},i.put e.n .dead)
           |some (.exit id)=>some (.exit id,{l with dfs:=c},i.put e.n .dead)
           |some .ret=>some (.ret,{l with dfs:=c},i.put e.n .dead)
           |_=>none
       |_=>none
 |_=>none

def aE (E:Env) (R:Rec) (cx:Cx):Code->Loc->Hp->Option (Ex×Loc×Hp)
 | .skip,l,h=>some (.normal,l,h)
 | .label _,l,h=>some (.normal,l,h)
 | .region _ d m,l,h=>bif m then
  bif E.cut cx.fn then cutD E R cx d.toList l h else match iS E (bC d.toList)with
  |none=>none
  | some (q,o)=>match a8 E R (bC d.toList) q (bC d.toList) 0 l h []with
    |none=>none
    |some (j,k,p)=>bif cg p o then some (.normal,j,k)else none
   else ik E R cx d.toList d.toList l h
 | .seq a b,l,h=>match aE E R cx a l h with
   |some (.normal,j,k)=>aE E R cx b j k
   |r=>r
 | .cond c a b,l,h=>match l.ev c with
   | .bool t=>bif t then aE E R cx a l h else aE E R cx b l h
   |_=>none
 | .block id b,l,h=>match aE E R cx b l h with
   |some (.exit i,j,k)=>bif zM i id then some (.normal,j,k)else some (.exit i,j,k)
   |r=>r
 | .loop b,l,h=>match aE E R cx b l h with
   |some (.normal,j,k)=>R.code cx (.loop b) j k
   |r=>r
 | .rangeFunc f e g n,l,h=>ie R cx (l.ev f) e g n l h
 | .exit id,l,h=>some (.exit id,l,h)
 | .scope b,l,h=>aE E R cx b l h
 | .goto _,_,_=>none
 | .ret,l,h=>some (.ret,l,h)
 | .refuse _,_,_=>none

def bR (R:Rec):List Deferred->Option Value->Hp->Option (Option Value×Hp)
 | [],m,h=>some (m,h)
 | d ::a,m,h=>match d.target with
   | .collected b=>match h.get b with
     |some .dfr=>bR R a m (h.put b .dead)
     |_=>none
   | .fn (.func f) c=>match R.call f (d.args.toList++c.toList) (match m with|none=>none|some v=>some (v,false)) h with
     | some (.ret _,g,e)=>match m,g with
       |none,none=>bR R a none e
       |some _,some (_,true)=>bR R a none e
       |some _,some (v,false)=>bR R a (some v) e
       |_,_=>none
     |_=>none
   |_=>none
def aU(E:Env)(b:Tr Value)(h:Hp):List ResultVar->Option (List Value)
 | []=>some []
 | .tmp t::c=>match aU E b h c with
   |none=>none
   |some l=>some ((match b.get t with|some v=>v|none=>.tuple #[])::l)
 | .cell a t::c=>match eJ E h t (match b.get a with|some v=>v|none=>.tuple #[])with
   |none=>none
   | some v=>match aU E b h c with
     |none=>none
     |some l=>some (v::l)
def ac:List Value->Value
 | [v]=>v
 |l=>.tuple ⟨l⟩
def jG (E:Env) (R:Rec) (f:FuncId) (args:List Value) (g:Option (Value×Bool)) (h:Hp):Option (Out×Option (Value×Bool)×Hp):=
 match E.fn f with
 |none=>none
 | some b=>match b.body with
   |none=>none
   | some c=>
     bif Xj args.length b.ntmps then
     match R.code ⟨f,b.ntmps,none⟩ c ⟨(Tr.blank (.tuple #[]) b.ntmps b.ntmps).setAll 0 args,[],g⟩ h with
     |none=>none
     |some (.exit _,_,_)=>none
     | some (.pan v,l,d)=>match bR R l.dfs (some v) d with
       |none=>none
       |some (some v,a)=>some (.pan v,l.rc,a)
       | some (none,a)=>match aU E l.regs a b.results.toList with
         |none=>none
         |some e=>some (.ret (ac e),l.rc,a)
     | some (_,l,d)=>match bR R l.dfs none d with
       | some (none,a)=>match aU E l.regs a b.results.toList with
         |none=>none
         |some e=>some (.ret (ac e),l.rc,a)
       |_=>none
     else none

def iq(E:Env)(R:Rec)(f:FuncId)(args:List Value)(a:Option (Value×Bool))(h:Hp):Option (Out×Option (Value×Bool)×Hp):=
 match E.orc f args with
 |none=>jG E R f args a h
 | some v=>match a with
   |none=>some (.ret v,none,h)
   |some _=>none

def next(E:Env)(R:Rec):Rec:={call:=iq E R,code:=aE E R}
def bot:Rec:={call:=fun _ _ _ _=>none,code:=fun _ _ _ _=>none}
def run(E:Env):Nat->Rec
 |0=>bot
 |n+1=>next E (run E n)
end
end Go.Ab

namespace Go.Ab

structure FC where
 fn:FuncId
 kind:CallKind
 round:Option Nat
def FC.mk'(F:FC)(tmps:Array Value)(dfs:List Deferred)(todo:List Item):Frame:=
 {fn:=F.fn,tmps,todo,defers:=dfs,mode:=.run,kind:=F.kind,roundOf:=F.round}

section steps
variable{P:Program}{F:FC}{tmps:Array Value}{dfs:List Deferred}{k:List Item}{cs:List Frame}{w:World}

theorem st_skip:step P (lone (F.mk' tmps dfs (.code .skip::k)) cs w)=.next (lone (F.mk' tmps dfs k) cs w):=step_lone_go (by simp [stepG,stepG.exec,FC.mk'])
theorem st_label{l:Nat}:step P (lone (F.mk' tmps dfs (.code (.label l)::k)) cs w)=.next (lone (F.mk' tmps dfs k) cs w):=step_lone_go (by simp [stepG,stepG.exec,FC.mk'])
theorem AI{id:Nat}:step P (lone (F.mk' tmps dfs (.inBlock id::k)) cs w)=.next (lone (F.mk' tmps dfs k) cs w):=step_lone_go (by simp [stepG,stepG.exec,FC.mk'])
theorem AY{b:Code}:step P (lone (F.mk' tmps dfs (.inScope b::k)) cs w)=.next (lone (F.mk' tmps dfs k) cs w):=step_lone_go (by simp [stepG,stepG.exec,FC.mk'])
theorem st_seq{a b:Code}:step P (lone (F.mk' tmps dfs (.code (.seq a b)::k)) cs w)=.next (lone (F.mk' tmps dfs (.code a:: .code b::k)) cs w):=step_lone_go (by simp [stepG,stepG.exec,FC.mk'])
theorem st_block{id:Nat}{b:Code}:step P (lone (F.mk' tmps dfs (.code (.block id b)::k)) cs w)=.next (lone (F.mk' tmps dfs (.code b:: .inBlock id::k)) cs w):=step_lone_go (by simp [stepG,stepG.exec,FC.mk'])
theorem st_loop{b:Code}:step P (lone (F.mk' tmps dfs (.code (.loop b)::k)) cs w)=.next (lone (F.mk' tmps dfs (.code b:: .inLoop b::k)) cs w):=step_lone_go (by simp [stepG,stepG.exec,FC.mk'])
theorem st_inLoop{b:Code}:step P (lone (F.mk' tmps dfs (.inLoop b::k)) cs w)=.next (lone (F.mk' tmps dfs (.code b:: .inLoop b::k)) cs w):=step_lone_go (by simp [stepG,stepG.exec,FC.mk'])
theorem st_scope{b:Code}:step P (lone (F.mk' tmps dfs (.code (.scope b)::k)) cs w)=.next (lone (F.mk' tmps dfs (.code b:: .inScope b::k)) cs w):=step_lone_go (by simp [stepG,stepG.exec,FC.mk'])
theorem st_exit{id:Nat}{k':List Item}(h:exitTo id k=some k'):step P (lone (F.mk' tmps dfs (.code (.exit id)::k)) cs w)=.next (lone (F.mk' tmps dfs k') cs w):=step_lone_go (by simp [stepG,stepG.exec,FC.mk',h])
theorem st_region{id:Nat}{ops:Array Oper}:step P (lone (F.mk' tmps dfs (.code (.region id ops false)::k)) cs w)=.next (lone (F.mk' tmps dfs (.inRegion ops (Xc ops.size)::k)) cs w):=step_lone_go (by simp [stepG,stepG.exec,FC.mk'])
theorem mm{id:Nat}{ops:Array Oper}:step P (lone (F.mk' tmps dfs (.code (.region id ops true)::k)) cs w)=
 .next (lone (F.mk' tmps dfs (.inRegion ops (Region.schedule (P.follows .mixedOrders) ops (w.tape w.drawn (.order F.fn id)))::k)) cs {w with drawn:=w.drawn+1}):=
 step_lone_go (by simp [stepG,stepG.exec,FC.mk',choose,Sem.run,Question.forced,Question.cut])
theorem nv{ops:Array Oper}:step P (lone (F.mk' tmps dfs (.inRegion ops []::k)) cs w)=.next (lone (F.mk' tmps dfs k) cs w):=step_lone_go (by simp [stepG,stepG.exec,FC.mk'])

def dg(tmps:Array Value):Operand->Value
 | .tmp t=>tmps.getD t undef
 | .const v=>v
 | .global g=>.pointer (some ⟨g,0,none⟩)
 | .func f=>.func (.func f) #[] #[]
theorem uW(todo:List Item):(F.mk' tmps dfs todo).eval=dg tmps:=by funext x;cases x<;>rfl
theorem st_cond{c:Operand}{a b:Code}{t:Bool}(h:dg tmps c=.bool t):step P (lone (F.mk' tmps dfs (.code (.cond c a b)::k)) cs w)=.next (lone (F.mk' tmps dfs (.code (if t then a else b)::k)) cs w):=
 step_lone_go (by
  have:=congrFun (uW (F:=F) (tmps:=tmps) (dfs:=dfs) (.code (.cond c a b)::k)) c
  simp only [FC.mk']at this
  simp [stepG,stepG.exec,FC.mk',this,h])

def fd(tmps:Array Value)(d:Option Tmp)(v:Value):Array Value:=match d with
 |some d=>tmps.setIfInBounds d v
 |none=>tmps
theorem jH{ops:Array Oper}{i:Nat}{rest:List Nat}(v:Value):(F.mk' tmps dfs (.inRegion ops (i::rest)::k)).finish v=F.mk' (fd tmps ((ops[i]?).bind (·.dst)) v) dfs (.inRegion ops rest::k):=by
 cases h:(ops[i]?).bind (·.dst)<;>simp [Frame.finish,FC.mk',fd,h]
theorem ut{ops:Array Oper}{i:Nat}{rest:List Nat}(h:((ops[i]?).map (Region.wanted · (yielded ops tmps))).getD false=false):
 step P (lone (F.mk' tmps dfs (.inRegion ops (i::rest)::k)) cs w)=.next (lone (F.mk' (fd tmps ((ops[i]?).bind (·.dst)) undef) dfs (.inRegion ops rest::k)) cs w):=by
 rw [<-jH]
 exact step_lone_go (by
  have a:=h
  simp only [FC.mk']at*
  simp [stepG,stepG.exec,a])
theorem mQ{ops:Array Oper}{i:Nat}{rest:List Nat}{o:Oper}(d:ops[i]? =some o)(e:Region.wanted o (yielded ops tmps)=true)(a:F.round=none\/ ∀c,o.op≠ .defer c):
 stepG P true {frame:=F.mk' tmps dfs (.inRegion ops (i::rest)::k),callers:=cs,status:=.running,dying:=none} w=
  stepG.apply P true (F.mk' tmps dfs (.inRegion ops (i::rest)::k)) cs none (execOp (dg tmps) o) w:=by
 have b:=uW (F:=F) (tmps:=tmps) (dfs:=dfs) (.inRegion ops (i::rest)::k)
 simp only [FC.mk']at b
 rcases a with a|a
 . rw [a]at b
   simp [stepG,stepG.exec,stepG.oper,Frame.oper?,FC.mk',d,e,a]
   rw [b]
 . simp only [stepG,stepG.exec,stepG.oper,Frame.oper?,FC.mk',d,e,Option.map_some,Option.getD_some,if_true,b]
   cases F.round with
   |none=>rfl
   | some l=>
     obtain⟨f,op,h,pos,j,g⟩:=o
     cases op<;>first|rfl|exact absurd rfl (a _)

section op
variable{ops:Array Oper}{i:Nat}{rest:List Nat}{o:Oper}{w':World}
theorem zd(a:ops[i]? =some o)(b:Region.wanted o (yielded ops tmps)=true)(d:F.round=none\/ ∀c,o.op≠ .defer c){v:Value}(e:(execOp (dg tmps) o).run P w=.ok (.value v) w'):
 step P (lone (F.mk' tmps dfs (.inRegion ops (i::rest)::k)) cs w)=.next (lone (F.mk' (fd tmps o.dst v) dfs (.inRegion ops rest::k)) cs w'):=by
 have:F.mk' (fd tmps o.dst v) dfs (.inRegion ops rest::k)=(F.mk' tmps dfs (.inRegion ops (i::rest)::k)).finish v:=by rw [jH,a];rfl
 rw [this]
 exact step_lone_go (by rw [mQ a b d];simp [stepG.apply,e])
theorem st_opskip(a:ops[i]? =some o)(b:Region.wanted o (yielded ops tmps)=true)(d:F.round=none\/ ∀c,o.op≠ .defer c)(e:(execOp (dg tmps) o).run P w=.ok .skip w'):
 step P (lone (F.mk' tmps dfs (.inRegion ops (i::rest)::k)) cs w)=.next (lone (F.mk' (fd tmps o.dst undef) dfs (.inRegion ops rest::k)) cs w'):=by
 have:F.mk' (fd tmps o.dst undef) dfs (.inRegion ops rest::k)=(F.mk' tmps dfs (.inRegion ops (i::rest)::k)).finish undef:=by rw [jH,a];rfl
 rw [this]
 exact step_lone_go (by rw [mQ a b d];simp [stepG.apply,e])
theorem st_enter(a:ops[i]? =some o)(b:Region.wanted o (yielded ops tmps)=true)(d:F.round=none\/ ∀c,o.op≠ .defer c){f:FuncId}{args:Array Value}(e:(execOp (dg tmps) o).run P w=.ok (.enter f args) w'):
 step P (lone (F.mk' tmps dfs (.inRegion ops (i::rest)::k)) cs w)=.next (lone (Frame.enter P f args .normal) (F.mk' tmps dfs (.inRegion ops (i::rest)::k)::cs) w'):=
 step_lone_go (by rw [mQ a b d];simp [stepG.apply,e,FC.mk'])
theorem st_round(e:ops[i]? =some o)(g:Region.wanted o (yielded ops tmps)=true)(h:F.round=none\/ ∀c,o.op≠ .defer c){l:Nat}{f:FuncId}{d:Array Value}{a b:Code}(j:(execOp (dg tmps) o).run P w=.ok (.round l f d a b) w'):
 step P (lone (F.mk' tmps dfs (.inRegion ops (i::rest)::k)) cs w)=.next (lone (Frame.round l f d a b .normal) (F.mk' tmps dfs (.inRegion ops (i::rest)::k)::cs) w'):=
 step_lone_go (by rw [mQ e g h];simp [stepG.apply,j,FC.mk'])
theorem st_defer(a:ops[i]? =some o)(b:Region.wanted o (yielded ops tmps)=true)(c:F.round=none){d:Deferred}(e:(execOp (dg tmps) o).run P w=.ok (.defer d) w'):
 step P (lone (F.mk' tmps dfs (.inRegion ops (i::rest)::k)) cs w)=.next (lone (F.mk' (fd tmps o.dst undef) (d::dfs) (.inRegion ops rest::k)) cs w'):=by
 have:F.mk' (fd tmps o.dst undef) (d::dfs) (.inRegion ops rest::k)=(F.mk' tmps (d::dfs) (.inRegion ops (i::rest)::k)).finish undef:=by rw [jH,a];rfl
 rw [this]
 exact step_lone_go (by rw [mQ a b (.inl c)];simp [stepG.apply,e,FC.mk'])
theorem st_panic(a:ops[i]? =some o)(b:Region.wanted o (yielded ops tmps)=true)(d:F.round=none\/ ∀c,o.op≠ .defer c){v:Value}(e:(execOp (dg tmps) o).run P w=.halt (.panic v) w'):
 step P (lone (F.mk' tmps dfs (.inRegion ops (i::rest)::k)) cs w)=.next (lone {F.mk' tmps dfs (.inRegion ops (i::rest)::k)with mode:=.panicking [{v,recovered:=false}]} cs w'):=
 step_lone_go (by rw [mQ a b d];simp [stepG.apply,e,Frame.raise,FC.mk'])
theorem uC(b:ops[i]? =some o)(d:Region.wanted o (yielded ops tmps)=true)(c:F.round=none)(e:(execOp (dg tmps) o).run P w=.ok .recover w')
 (f:tryRecover (F.mk' tmps dfs (.inRegion ops (i::rest)::k)) cs=none):
 step P (lone (F.mk' tmps dfs (.inRegion ops (i::rest)::k)) cs w)=.next (lone (F.mk' (fd tmps o.dst .nilIface) dfs (.inRegion ops rest::k)) cs w'):=by
 have:F.mk' (fd tmps o.dst .nilIface) dfs (.inRegion ops rest::k)=(F.mk' tmps dfs (.inRegion ops (i::rest)::k)).finish .nilIface:=by rw [jH,b];rfl
 rw [this]
 have a:(F.mk' tmps dfs (.inRegion ops (i::rest)::k)).roundOf=none:=c
 exact step_lone_go (by rw [mQ b d (.inl c)];simp [stepG.apply,e,a,f])
theorem uy(c:ops[i]? =some o)(e:Region.wanted o (yielded ops tmps)=true)(d:F.round=none)(f:(execOp (dg tmps) o).run P w=.ok .recover w'){v:Value}{a:List Frame}
 (g:tryRecover (F.mk' tmps dfs (.inRegion ops (i::rest)::k)) cs=some (v,a)):
 step P (lone (F.mk' tmps dfs (.inRegion ops (i::rest)::k)) cs w)=.next (lone (F.mk' (fd tmps o.dst v) dfs (.inRegion ops rest::k)) a w'):=by
 have:F.mk' (fd tmps o.dst v) dfs (.inRegion ops rest::k)=(F.mk' tmps dfs (.inRegion ops (i::rest)::k)).finish v:=by rw [jH,c];rfl
 rw [this]
 have b:(F.mk' tmps dfs (.inRegion ops (i::rest)::k)).roundOf=none:=d
 exact step_lone_go (by rw [mQ c e (.inl d)];simp [stepG.apply,f,b,g])
end op

structure LeaveP(P:Program)(fr:Frame)(kind:CallKind)(v:Value):Prop where
 mode:fr.mode=.panicking [{v,recovered:=false}]
 defers:fr.defers=[]
 kind:fr.kind=kind
 fn: ∃fn,P.funcs[fr.fn]? =some fn
theorem xS{a c:Frame}{v:Value}(h:pX P a w .normal v):step P (lone a (c::cs) w)=.next (lone (c.finish v) cs w):=by
 obtain⟨d,hf,b⟩:=h.res
 exact step_lone_go (by simp [stepG,unwind,doReturn,h.mode,h.defers,h.kind,hf,b])
theorem lO{b c:Frame}{a:CallKind}{v:Value}(h:LeaveP P b a v):step P (lone b (c::cs) w)=.next (lone (c.raise [{v,recovered:=false}]) cs w):=by
 obtain⟨d,hf⟩:=h.fn
 exact step_lone_go (by simp [stepG,unwind,Frame.catches,h.mode,h.defers,hf])
end steps
end Go.Ab

namespace Go.Ab
section
variable{P:Program}{F:FC}{tmps:Array Value}{dfs:List Deferred}{k:List Item}{cs:List Frame}{w:World}

def setW(w:World)(c:Nat)(o:Obj):World:={w with heap:=w.heap.setIfInBounds c o}
def Plain:Obj->Prop
 | .cells .. =>False
 |_=>True
theorem nG{c:Nat}{o q:Obj}(a:w.heap[c]? =some q)(hq:Plain q):(setObj c o).run P w=.ok () (setW w c o):=by
 cases q<;>first|exact hq.elim|simp [setObj,Sem.run,a,setW]
theorem uz{c:Nat}{q:Obj}(a:w.heap[c]? =some q)(hq:Plain q):(getObj c).run P w=.ok q w:=by
 cases q<;>first|exact hq.elim|simp [getObj,Sem.run,a]
theorem j6{c:Nat}{r:Loop}(a:w.heap[c]? =some (.loop r)):(Instr.getLoop c).run P w=.ok r w:=by
 unfold Instr.getLoop
 simp only [Sem.run_bind,uz a trivial,Result.andThen_ok,Sem.run_pure]
theorem u9{c:Nat}{r:Loop}(a:w.heap[c]? =some (.loop r))(b:r.state=.ready):
 (Instr.beginRound c).run P w=.ok () (setW w c (.loop {r with state:=.busy})):=by
 unfold Instr.beginRound
 simp only [Sem.run_bind,j6 a,Result.andThen_ok,nG a trivial,b,Sem.run_pure]
theorem y8{c:Nat}{r:Loop}(b:w.heap[c]? =some (.loop r))(a:Option Code):
 (Instr.endRound c a).run P w=.ok (.bool a.isNone) (setW w c (.loop {r with state:=if a.isNone then .ready else .done,pending:=a})):=by
 unfold Instr.endRound
 simp only [Sem.run_bind,j6 b,Result.andThen_ok,nG b trivial,Sem.run_pure]
theorem Af{c:Nat}{r:Loop}(a:w.heap[c]? =some (.loop r))(b:r.state≠ .busy):
 (Instr.endLoop c).run P w=.ok r.pending (setW w c (.loop {r with state:=.exhausted})):=by
 unfold Instr.endLoop
 have:(r.state==LoopState.busy)=false:=by cases h:r.state<;>simp_all<;>rfl
 simp only [Sem.run_bind,j6 a,Result.andThen_ok,this,Bool.false_eq_true,if_false,nG a trivial,Sem.run_pure]
theorem tH{c:Nat}{a:List Deferred}(b:w.heap[c]? =some (.deferred (some a))):
 (Instr.takeDeferred c).run P w=.ok a (setW w c (.deferred none)):=by
 unfold Instr.takeDeferred
 simp only [Sem.run_bind,uz b trivial,Result.andThen_ok,nG b trivial,Sem.run_pure]

theorem xj{c:Nat}(a:F.round=some c){r:Loop}(b:w.heap[c]? =some (.loop r))(d:r.state=.ready):
 step P (lone (F.mk' tmps dfs (.beginRound::k)) cs w)=.next (lone (F.mk' tmps dfs k) cs (setW w c (.loop {r with state:=.busy}))):=by
 refine step_lone_go ?_
 have e:=u9 (P:=P) b d
 simp [stepG,stepG.exec,stepG.apply,FC.mk',a,e,Frame.finish]
def yf(todo:List Item)(a:Option Code):Prop:=
 (todo=[]/\a=none)\/(∃b,todo=.code .ret::b/\a=some .ret)\/(∃id b,todo=.code (.exit id)::b/\exitTo id b=none/\a=some (.exit id))
theorem xe{c:Nat}(b:F.round=some c)(d:F.kind=.normal){r:Loop}(f:w.heap[c]? =some (.loop r)){todo:List Item}{a:Option Code}(g:yf todo a){c0:Frame}:
 step P (lone (F.mk' tmps dfs todo) (c0::cs) w)=
  .next (lone (c0.finish (.bool a.isNone)) cs (setW w c (.loop {r with state:=if a.isNone then .ready else .done,pending:=a}))):=by
 refine step_lone_go ?_
 have e:=y8 (P:=P) f a
 rcases g with⟨rfl,rfl⟩|⟨h,rfl,rfl⟩|⟨id,h,rfl,i,rfl⟩
 . simp [stepG,stepG.exec,FC.mk',b,e,doReturn,d]
 . simp [stepG,stepG.exec,FC.mk',b,e,doReturn,d]
 . simp [stepG,stepG.exec,FC.mk',b,e,doReturn,d,i]
theorem AH(a:F.round=none){todo:List Item}(c:todo=[]\/ ∃b,todo=.code .ret::b):
 step P (lone (F.mk' tmps dfs todo) cs w)=.next (lone {F.mk' tmps dfs todo with mode:=.returning} cs w):=by
 refine step_lone_go ?_
 rcases c with rfl|⟨b,rfl⟩
 . simp [stepG,stepG.exec,FC.mk',a]
 . simp [stepG,stepG.exec,FC.mk',a]
theorem zW{c:Nat}{r:Loop}(a:w.heap[c]? =some (.loop r))(b:r.state≠ .busy):
 step P (lone (F.mk' tmps dfs (.endRangeFunc c::k)) cs w)=.next (lone (F.mk' tmps dfs ((r.pending.map Item.code).toList++k)) cs (setW w c (.loop {r with state:=.exhausted}))):=by
 refine step_lone_go ?_
 have d:=Af (P:=P) a b
 simp [stepG,stepG.exec,FC.mk',d]

def kc(w:World)(o:Obj):World:={w with heap:=w.heap.push o}
theorem tS{o:Obj}:(newObj o).run P w=.ok w.heap.size (kc w o):=by simp [newObj,Sem.run,kc]
theorem xn{params:Array Tmp}{assign body:Code}:
 (Instr.enterLoop F.fn tmps params assign body none).run P w=.ok (w.heap.size+1,[{target:=.collected w.heap.size,args:=#[]}])
  (kc (kc w (.deferred (some []))) (.loop {state:=.ready,pending:=none,fn:=F.fn,tmps,params,assign,body,defers:=w.heap.size})):=by
 unfold Instr.enterLoop
 simp only [Sem.run_bind,tS,Result.andThen_ok,Sem.run_pure]
 simp [kc]
theorem uL{c:Nat}{r:Loop}(a:w.heap[c]? =some (.loop r)){params:Array Tmp}{assign body:Code}:
 (Instr.enterLoop F.fn tmps params assign body (some c)).run P w=.ok (w.heap.size,[])
  (kc w (.loop {state:=.ready,pending:=none,fn:=F.fn,tmps,params,assign,body,defers:=r.defers})):=by
 unfold Instr.enterLoop
 simp only [Sem.run_bind,tS,Result.andThen_ok,Sem.run_pure,j6 a]
theorem st_range{f:Operand}{params:Array Tmp}{assign body:Code}{g:FuncId}{x y:Array Value}(hf:dg tmps f=.func (.func g) x y)
 (h: ∀args w,(callFunc g args).run P w=.ok (.enter g args) w) {c:Nat} {mark:List Deferred} {b:World}
 (h0:(Instr.enterLoop F.fn tmps params assign body F.round).run P w=.ok (c,mark) b):
 step P (lone (F.mk' tmps dfs (.code (.rangeFunc f params assign body)::k)) cs w)=
  .next (lone (Frame.enter P g (x++#[.func (.yield c) #[] #[]]++y) .normal) (F.mk' tmps (mark++dfs) (.inRangeFunc c::k)::cs) b):=by
 refine step_lone_go ?_
 have e:=uW (F:=F) (tmps:=tmps) (dfs:=mark++dfs) (.inRangeFunc c::k)
 simp only [FC.mk']at e
 have i: ∀a,(do let d<-resolve (dg tmps) {callee:=.value f,args:=#[.const (.func (.yield c) #[] #[])],argTypes:=#[]} 0;invoke d.target d.args).run P a=
  .ok (.enter g (x++#[.func (.yield c) #[] #[]]++y)) a:=by
  intro a
  simp [resolve,hf,Deferred.ofValue,invoke,h,show∀v,dg tmps (.const v)=v from fun _=>rfl]
 simp only [stepG,stepG.exec,FC.mk']
 simp [h0]
 rw [e]
 simp [stepG.apply,i]
end
end Go.Ab

namespace Go.Ab

def oL(mu:Mu):Option (Value×Bool)->Option (Value×Bool)->Prop
 |none,none=>True
 |some (v,b),some (a,c)=>b=c/\ao mu v a
 |_,_=>False
theorem oL.mono{mu c:Mu}(h:Le mu c){a b:Option (Value×Bool)}(k:oL mu a b):oL c a b:=by
 cases a<;>cases b<;>simp only [oL]at*
 exact⟨k.1,k.2.mono h⟩
theorem kX.mono{mu d:Mu}(h:Le mu d){a b:Deferred}(k:kX mu a b):kX d a b:=by
 unfold kX at*
 split
 . rename_i f j e;rw [e]at k;obtain⟨c,g,i,l⟩:=k;exact⟨c,g,VL.mono h i,VL.mono h l⟩
 . rename_i b e;rw [e]at k;obtain⟨c,g,i⟩:=k;exact⟨c,g,i.mono h⟩
 . rename_i m n;split at k<;>first|(rename_i e;exact absurd e (by first|exact m _ _|exact n _))|exact k
abbrev DL(mu:Mu):=LR (kX mu)

def aH:Option (Value×Bool)->List Frame->List Frame
 |none,a=>a
 |some (v,b),c::r=>{c with mode:=.panicking [{v,recovered:=b}]}::r
 |some _,[]=>[]
def KOk(a:CallKind)(b:List Frame):Option (Value×Bool)->Prop
 |none=>a=.normal\/(a=.deferred/\ ∃c r,b=c::r/\c.mode=.returning)
 |some _=>a=.deferred/\b≠ []
def RdRel(mu:Mu):Option Nat->Option Nat->Prop
 |none,none=>True
 |some b,some c=>dp mu b c
 |_,_=>False
theorem RdRel.mono{mu c:Mu}(h:Le mu c){a b:Option Nat}(k:RdRel mu a b):RdRel c a b:=by
 cases a<;>cases b<;>simp only [RdRel]at*
 exact k.mono h

theorem ev_rel{mu:Mu}{l:Loc}{n:Nat}{tmps:Array Value}(d:iH mu l.regs n tmps)(x:Operand)
 (b: ∀g,g<16->eg mu ⟨g,0,none⟩ ⟨g,0,none⟩):ao mu (l.ev x) (dg tmps x):=by
 cases x with
 | tmp t=>
   simp only [Loc.ev,dg]
   cases a:l.regs.get t with
   | none=>
     have:n<=t:=by
      rcases Xf t n with c|c
      . obtain⟨v,e⟩:=Tr.get_some d.sized c;rw [e]at a;cases a
      . exact c
     rw [zN,Xb (by rw [d.size];exact this)]
     exact .tuple rfl (by intro i v h a;simp at a)
   | some v=>
     obtain⟨h,c,e⟩:=d.get t v a
     rw [zN,c];exact e
 | const v=>
   simp only [Loc.ev,dg]
   cases j:cJ v with
   |true=>simp only [cond_true];exact ao.const mu j
   |false=>simp only [cond_false];exact .poison v
 | global g=>
   simp only [Loc.ev,dg]
   cases k:Xi g 16 with
   |true=>simp only [cond_true];exact .ptr (b g (by simpa [Nat.blt_eq]using k))
   |false=>simp only [cond_false];exact .poison _
 |func f=>exact .fn rfl (by intro i v h a;simp at a) rfl (by intro i v h a;simp at a)

theorem rJ{mu:Mu}{t:Tr Value}{n:Nat}{tmps:Array Value}(a:iH mu t n tmps)(d:Option Tmp){v v':Value}(g:ao mu v v'):
 iH mu (match d with|none=>t|some d=>t.set d v) n (fd tmps d v'):=by
 cases d with
 |none=>exact a
 | some d=>
   refine⟨by simp [fd,a.size],Tr.sized_set d v a.sized,fun i u b=>?_⟩
   rw [Tr.get_set]at b
   simp only [fd]
   by_cases c:d=i/\(t.get i).isSome
   . rw [if_pos c]at b
     cases b
     obtain⟨rfl,h⟩:=c
     have:d<tmps.size:=by rw [a.size];exact(a.sized d).1 h
     exact⟨v',by simp [this],g⟩
   . rw [if_neg c]at b
     obtain⟨j,k,l⟩:=a.get i u b
     have f:d≠i:=by intro e;exact c ⟨e,by rw [b];rfl⟩
     exact⟨j,by rw [Array.getElem?_setIfInBounds,if_neg f];exact k,l⟩
end Go.Ab

namespace Go.Ab

abbrev kI(mu:Mu):Prop:= ∀g,g<16->eg mu ⟨g,0,none⟩ ⟨g,0,none⟩
theorem kI.mono{mu a:Mu}(h:Le mu a)(k:kI mu):kI a:=fun g b=>(k g b).mono h

structure SR(P:Program)(cx:Cx)(l:Loc)(h:Hp)(mu:Mu)(w:World)(F:FC)(cs0:List Frame)(tmps:Array Value)(dfs:List Deferred)(rcC:Option (Value×Bool)):Prop where
 hr:aJ mu h w
 glob:kI mu
 regs:iH mu l.regs cx.nr tmps
 dfs:DL mu l.dfs dfs
 rc:oL mu l.rc rcC
 ko:KOk F.kind cs0 rcC
 fn:F.fn=cx.fn
 rd:RdRel mu cx.round F.round
 rn:F.round≠none->F.kind=.normal
 fs:(P.funcs[F.fn]?).isSome=true

theorem SR.step{P:Program}{cx:Cx}{l:Loc}{h h':Hp}{mu a:Mu}{w w':World}{F:FC}{b:List Frame}{tmps:Array Value}{dfs:List Deferred}{c:Option (Value×Bool)}
 (s:SR P cx l h mu w F b tmps dfs c) (e:aJ a h' w') (d:Le mu a):SR P cx l h' a w' F b tmps dfs c:=
 ⟨e,s.glob.mono d,s.regs.mono d,LR.mono s.dfs fun _ _=>kX.mono d,s.rc.mono d,s.ko,s.fn,s.rd.mono d,s.rn,s.fs⟩
theorem SR.put{P:Program}{cx:Cx}{l:Loc}{h:Hp}{mu:Mu}{w:World}{F:FC}{a:List Frame}{tmps:Array Value}{dfs:List Deferred}{b:Option (Value×Bool)}
 (s:SR P cx l h mu w F a tmps dfs b) (d:Option Tmp) {v v':Value} (c:ao mu v v'):SR P cx (l.put d v) h mu w F a (fd tmps d v') dfs b:=by
 cases d with
 |none=>exact s
 |some d=>exact⟨s.hr,s.glob,rJ s.regs (some d) c,s.dfs,s.rc,s.ko,s.fn,s.rd,s.rn,s.fs⟩

def Reach(P:Program)(F:FC)(d:List Frame)(m:Machine)(k:List Item)(g:Mu)(w':World)(a:Array Value)(b:List Deferred)(c:Option (Value×Bool)):Ex->Prop
 | .normal=>Steps P m (lone (F.mk' a b k) (aH c d) w')
 | .exit id=> ∃f,exitTo id f=exitTo id k/\Steps P m (lone (F.mk' a b (.code (.exit id)::f)) (aH c d) w')
 | .ret=> ∃f,Steps P m (lone (F.mk' a b (.code .ret::f)) (aH c d) w')
 | .pan v=> ∃h e,ao g v h/\Steps P m (lone {F.mk' a b e with mode:=.panicking [{v:=h,recovered:=false}]} (aH c d) w')
def Sim(P:Program)(cx:Cx)(h:Hp)(mu:Mu)(w:World)(F:FC)(d:List Frame)(tmps:Array Value)(dfs:List Deferred)(f:Option (Value×Bool))(todo k:List Item)(x:Ex)(l':Loc)(h':Hp):Prop:=
 ∃ e g a b c,SR P cx l' h' e g F d a b c/\Ext mu h w e h' g/\
   Reach P F d (lone (F.mk' tmps dfs todo) (aH f d) w) k e g a b c x
def iO(P:Program)(f:Cx->Code->Loc->Hp->Option (Ex×Loc×Hp)):Prop:=
 ∀ j c l h x m n,f j c l h=some (x,m,n)-> ∀o w F e d g i k a,SR P j l h o w F e d g i->
   (a=.code c::k\/ ∃b,c=.loop b/\a=.inLoop b::k)->Sim P j h o w F e d g i a k x m n
def CallEnd(P:Program)(d:Frame)(w':World)(a:CallKind)(b:Mu):Out->Prop
 | .ret v=> ∃c,pX P d w' a c/\ao b v c
 | .pan v=> ∃c,LeaveP P d a c/\ao b v c
def fW (E:Env) (P:Program) (f:FuncId->List Value->Option (Value×Bool)->Hp->Option (Out×Option (Value×Bool)×Hp)):Prop:=
 ∀ g i q h o k n,f g i q h=some (o,k,n)->(∃r,E.fn g=some r/\r.body.isSome=true)/\
   ∀ l w b j d a,aJ l h w->kI l->VL l i b.toList->oL l q j->KOk a d j->
     ∃ e m c p,aJ e n m/\Ext l h w e n m/\oL e k c/\KOk a d c/\
       Steps P (lone (Frame.enter P g b a) (aH j d) w) (lone p (aH c d) m)/\
       CallEnd P p m a e o/\p.fn=g

def OutTo(P:Program)(a:Mu)(m:Machine)(b d:Value->Machine):Out->Prop
 | .ret v=> ∃c,ao a v c/\Steps P m (b c)
 | .pan v=> ∃c,ao a v c/\Steps P m (d c)
def xw(P:Program)(F:FC)(d:List Frame)(m:Machine)(ops:Array Oper)(rest:List Nat)(k:List Item)(e:Mu)(w':World)(a:Array Value)(b:List Deferred)(c:Option (Value×Bool)):Ex->Prop
 | .normal=>Steps P m (lone (F.mk' a b (.inRegion ops rest::k)) (aH c d) w')
 | .pan v=>Reach P F d m k e w' a b c (.pan v)
 |_=>False

theorem KOk.normal{b:List Frame}{a:Option (Value×Bool)}(h:KOk .normal b a):a=none:=by
 cases a with
 |none=>rfl
 |some x=>exact absurd h.1 (by simp)

theorem pS{mu:Mu}{h:Hp}{w:World}(f:aJ mu h w){b c:Nat}(a:dp mu b c){r:gW}(g:h.get b=some (.loop r)):
 ∃top d,mu b=.blk c 0 top/\w.heap[c]? =some (.loop d)/\lg mu r d:=by
 unfold dp at a
 cases e:mu b with
 |none=>rw [e]at a;exact a.elim
 |dead=>have:=f.dead _ e;rw [g]at this;cases this
 | blk n i top=>
   rw [e]at a
   obtain⟨rfl,rfl⟩:=a
   obtain⟨y,o,j,k,l⟩:=f.blk _ c 0 top e
   rw [g]at j;cases j
   obtain⟨_,d,rfl,m⟩:=l
   exact⟨top,d,rfl,k,m⟩
theorem rH{w:World}{c:Nat}{o q:Obj}(h:w.heap[c]? =some q):WSet w (setW w c o) c o:=yC ⟨_,h⟩
theorem ze{mu:Mu}{h:Hp}{w:World}(f:aJ mu h w){b c top:Nat}(g:mu b=.blk c 0 top){r d:gW}(i:h.get b=some (.loop r)){j a:Loop}(k:w.heap[c]? =some (.loop j))(l:lg mu d a):
 aJ mu (h.put b (.loop d)) (setW w c (.loop a))/\Ext mu h w mu (h.put b (.loop d)) (setW w c (.loop a)):=
 tq f g (by intro t m el e;rw [i]at e;cases e) (rH k) ⟨rfl,a,rfl,l⟩

theorem qN{mu:Mu}{n:Nat}: ∀(ps:List Tmp) (args args':List Value) (a:Tr Value) (tmps:Array Value) (b:Tr Value),m9 a ps args=some b->iH mu a n tmps->VL mu args args'->
 ps.length=args'.length/\iH mu b n ((ps.zip args').foldl (fun tmps (x:Tmp×Value)=>tmps.setIfInBounds x.1 x.2) tmps)
 | [],[],args',a,tmps,b,h,c,d=>by
   rw [d.nil_left];cases h;exact⟨rfl,c⟩
 | [],_::_,_,_,_,_,h,_,_=>by cases h
 |_::_,[],_,_,_,_,h,_,_=>by cases h
 | t::ts,v::vs,args',a,tmps,b,h,c,d=>by
   obtain⟨v',e,rfl,f,g⟩:=d.cons_left
   have i:=rJ c (some t) f
   obtain⟨j,k⟩:=qN ts vs e (a.set t v) (tmps.setIfInBounds t v') b h i g
   exact⟨by simp [j],k⟩

section
variable{E:Env}{P:Program}(ok:EOk E P){R:Rec}(hc:fW E P R.call)(hcode:iO P R.code)

theorem yield_run{w:World}{c:Nat}{r:Loop}(a:w.heap[c]? =some (.loop r)){args:Array Value}(b:r.params.toList.length=args.toList.length):
 (Instr.yield c args).run P w=.ok (.round c r.fn ((r.params.toList.zip args.toList).foldl (fun tmps (x:Tmp×Value)=>tmps.setIfInBounds x.1 x.2) r.tmps) r.assign r.body) w:=by
 unfold Instr.yield
 have d:args.size=r.params.size:=by simpa using b.symm
 simp only [Sem.run_bind,j6 a,Result.andThen_ok,d,ne_eq,not_true_eq_false,if_false,Sem.run_pure]
 rw [<-Array.foldl_toList,Array.toList_zip]

include ok hcode in
theorem round_sim {mu:Mu} {h h':Hp} {w:World} (hh:aJ mu h w) (hg:kI mu) {b c:Nat} (hp:dp mu b c) {args:List Value} {args':Array Value} (ha:VL mu args args'.toList) {X:Out}
 (e:iQ E R b args h=some (X,h')) (c0:Frame) (cs:List Frame):
 ∃ f tm x y,(Instr.yield c args').run P w=.ok (.round c f tm x y) w/\ ∃u w',aJ u h' w'/\Ext mu h w u h' w'/\
   OutTo P u (lone (Frame.round c f tm x y .normal) (c0::cs) w) (fun v'=>lone (c0.finish v') cs w') (fun v'=>lone (c0.raise [{v:=v',recovered:=false}]) cs w') X:=by
 unfold iQ at e
 split at e
 next r Y=>
  obtain⟨bi,l,hm,hw,q⟩:=pS hh hp Y
  cases K:(E.fn r.fn).isSome with
  |false=>rw [K]at e;cases e
  |true=>
  rw [K]at e
  simp only [cond_true]at e
  split at e
  next Z=>
   split at e
   next=>cases e
   next T V=>
    obtain⟨a0,a1⟩:=qN r.params.toList args args'.toList r.regs l.tmps T V q.regs ha
    have hy:=yield_run (P:=P) hw (args:=args') (by rw [q.params];exact a0)
    refine⟨_,_,_,_,hy,?_⟩
    let F:FC:=⟨l.fn,.normal,some c⟩
    have ad:(P.funcs[l.fn]?).isSome=true:=by
     rw [q.fn]
     cases he:E.fn r.fn with
     |none=>rw [he]at K;cases K
     |some fn=>rw [ok.fn _ _ he];rfl
    have sr:SR P ⟨r.fn,r.nr,some b⟩ ⟨T,[],none⟩ h mu w F (c0::cs) ((l.params.toList.zip args'.toList).foldl (fun tmps (x:Tmp×Value)=>tmps.setIfInBounds x.1 x.2) l.tmps) [] none:=
     ⟨hh,hg,by rw [q.params];exact a1,LR.nil,trivial,.inl rfl,q.fn,hp,fun _=>rfl,ad⟩
    split at e
    next l1 h1 L=>
     obtain⟨z,w1,A,D,bk,G,e1,s1⟩:=hcode _ _ _ _ _ _ _ L mu w F (c0::cs) _ [] none [.beginRound,.code l.body] [.code l.assign,.beginRound,.code l.body] sr (.inl (by rw [q.assign]))
     have af:=G.ko.normal
     subst af
     split at e
     next r1 H=>
      obtain⟨bf,C,a2,ai,m⟩:=pS G.hr (show dp z b c from G.rd) H
      split at e
      next ak=>
       have M:C.state=.ready:=by
        have:=m.st;rw [ak]at this
        cases hs:C.state<;>rw [hs]at this<;>first|rfl|cases this
       have b1:=xj (P:=P) (F:=F) (tmps:=A) (dfs:=D) (k:=[.code l.body]) (cs:=c0::cs) (c:=c) rfl ai M
       have a3:lg z {r1 with st:=1} {C with state:=.busy}:=⟨m.fn,m.regs,m.params,m.assign,m.body,rfl,m.pending⟩
       obtain⟨a4,e2⟩:=ze G.hr a2 H ai a3
       have N:=G.step a4 (Le.refl _)
       have e12:=Ext.trans e1 e2
       have al:Steps P (lone (Frame.round c l.fn ((l.params.toList.zip args'.toList).foldl (fun tmps (x:Tmp×Value)=>tmps.setIfInBounds x.1 x.2) l.tmps) l.assign l.body .normal) (c0::cs) w)
        (lone (F.mk' A D [.code l.body]) (c0::cs) (setW w1 c (.loop {C with state:=.busy}))):=Steps.trans s1 (.one b1)
       have B: ∀{J:Hp} {i:Mu} {O:World} {d:Array Value} {n:List Deferred} {s:List Item} {j:Option Code} {U:gW} {pe:Option Code} {st:Nat},aJ i J O->dp i b c->J.get b=some (.loop U)->
        Ext z (h1.put b (.loop {r1 with st:=1})) (setW w1 c (.loop {C with state:=.busy})) i J O->
        Steps P (lone (F.mk' A D [.code l.body]) (c0::cs) (setW w1 c (.loop {C with state:=.busy}))) (lone (F.mk' d n s) (c0::cs) O)->
        yf s j->pe=j->st=(if j.isNone then 0 else 2)->
        ∃ u w',aJ u (J.put b (.loop {U with st:=st,pending:=pe})) w'/\Ext mu h w u (J.put b (.loop {U with st:=st,pending:=pe})) w'/\
          ∃v',ao u (.bool j.isNone) v'/\Steps P (lone (Frame.round c l.fn ((l.params.toList.zip args'.toList).foldl (fun tmps (x:Tmp×Value)=>tmps.setIfInBounds x.1 x.2) l.tmps) l.assign l.body .normal) (c0::cs) w) (lone (c0.finish v') cs w'):=by
        intro J i O d n s j U pe st ax a5 I Q S a6 a7 Z
        obtain⟨bh,ba,bb,ay,t⟩:=pS ax a5 I
        have b3:=xe (P:=P) (F:=F) (tmps:=d) (dfs:=n) (cs:=cs) (c:=c) rfl rfl ay a6 (c0:=c0)
        have bc:lg i {U with st:=st,pending:=pe} {ba with state:=if j.isNone then .ready else .done,pending:=j}:=
         ⟨t.fn,t.regs,t.params,t.assign,t.body,by subst Z;cases j<;>rfl,a7.symm⟩
        obtain⟨bd,e4⟩:=ze ax bb I ay bc
        exact⟨i,_,bd,Ext.trans e12 (Ext.trans Q e4),_,.bool _,Steps.trans al (Steps.trans S (.one b3))⟩
       split at e
       next l3 J a=>
        obtain⟨i,O,d,n,W,g,Q,S⟩:=hcode _ _ _ _ _ _ _ a z _ F (c0::cs) _ _ none [] [.code l.body] N (.inl (by rw [q.body]))
        have o:=g.ko.normal
        subst o
        split at e
        next U p=>
         cases e
         exact B g.hr (show dp i b c from g.rd) p Q S (.inl ⟨rfl,rfl⟩) rfl rfl
        next=>cases e
       next id l3 J a=>
        obtain⟨i,O,d,n,W,g,Q,k0,be,S⟩:=hcode _ _ _ _ _ _ _ a z _ F (c0::cs) _ _ none [] [.code l.body] N (.inl (by rw [q.body]))
        have o:=g.ko.normal
        subst o
        split at e
        next U p=>
         cases e
         exact B g.hr (show dp i b c from g.rd) p Q S (.inr (.inr ⟨id,k0,rfl,be.trans rfl,rfl⟩)) rfl rfl
        next=>cases e
       next l3 J a=>
        obtain⟨i,O,d,n,W,g,Q,k0,S⟩:=hcode _ _ _ _ _ _ _ a z _ F (c0::cs) _ _ none [] [.code l.body] N (.inl (by rw [q.body]))
        have o:=g.ko.normal
        subst o
        split at e
        next U p=>
         cases e
         exact B g.hr (show dp i b c from g.rd) p Q S (.inr (.inl ⟨k0,rfl,rfl⟩)) rfl rfl
        next=>cases e
       next v l3 J a=>
        obtain⟨i,O,d,n,W,g,Q,v',s,hv,S⟩:=hcode _ _ _ _ _ _ _ a z _ F (c0::cs) _ _ none [] [.code l.body] N (.inl (by rw [q.body]))
        have o:=g.ko.normal
        subst o
        split at e
        next hd=>
         cases e
         have aL:=g.dfs
         rw [hd]at aL
         have:=LR.nil_left aL
         subst this
         have lv:LeaveP P {F.mk' d [] s with mode:=.panicking [{v:=v',recovered:=false}]} .normal v':=⟨rfl,rfl,rfl,by
          obtain⟨fn,h⟩:=Option.isSome_iff_exists.1 ad;exact⟨fn,h⟩⟩
         exact⟨i,O,g.hr,Ext.trans e12 Q,v',hv,Steps.trans al (Steps.trans S (.one (lO lv)))⟩
        next=>cases e
       next=>cases e
      next=>cases e
     next=>cases e
    next=>cases e
  next=>cases e
 next=>cases e
end
end Go.Ab

namespace Go.Ab
section
variable{E:Env}{P:Program}(ok:EOk E P){R:Rec}(hc:fW E P R.call)(hcode:iO P R.code)

include ok hc hcode in
theorem rj {mu:Mu} {h h':Hp} {w:World} (B:aJ mu h w) (Q:kI mu) {ρ:Operand->Value} {tmps:Array Value} (I: ∀x,ao mu (ρ x) (dg tmps x)) {F:FC} {dfs:List Deferred} {k:List Item} {cs:List Frame}
 {ops:Array Oper} {i:Nat} {rest:List Nat} {o:Oper} (A:ops[i]? =some o) (C:Region.wanted o (yielded ops tmps)=true) {m:Out} (e:cI E R (aop E ρ h o.op)=some (m,h')):
 ∃ a w',aJ a h' w'/\Ext mu h w a h' w'/\
   OutTo P a (lone (F.mk' tmps dfs (.inRegion ops (i::rest)::k)) cs w) (fun v'=>lone (F.mk' (fd tmps o.dst v') dfs (.inRegion ops rest::k)) cs w')
    (fun v'=>lone {F.mk' tmps dfs (.inRegion ops (i::rest)::k)with mode:=.panicking [{v:=v',recovered:=false}]} cs w') m:=by
 have D:F.round=none\/ ∀c,o.op≠ .defer c:=by
  right
  intro c J
  rw [J]at e
  simp only [aop]at e
  split at e
  . split at e<;>cases e
  . cases e
 have r: ∀v,(F.mk' tmps dfs (.inRegion ops (i::rest)::k)).finish v=F.mk' (fd tmps o.dst v) dfs (.inRegion ops rest::k):=by
  intro v;rw [jH,A];rfl
 cases K:aop E ρ h o.op with
 |none=>rw [K]at e;cases e
 | some q=>
   obtain⟨V,h1⟩:=q
   rw [K]at e
   have g:=aop_run (P:=P) ok B I (o:=o) K
   cases V with
   | val v=>
     cases e
     obtain⟨v',a,w',n,p,G,W⟩:=g
     exact⟨a,w',p,G,v',W,.one (zd A C D n)⟩
   | skip=>
     cases e
     obtain⟨a,w',n,p,G⟩:=g
     exact⟨a,w',p,G,undef,.tuple rfl (by intro i v v' X;simp at X),.one (st_opskip A C D n)⟩
   | call f H=>
     obtain⟨rfl,j,n,p⟩:=g
     simp only [cI]at e
     split at e
     next x Y h2 s=>
      cases e
      obtain⟨⟨Z,L,t⟩,hs⟩:=hc _ _ _ _ _ _ _ s
      obtain⟨a,w',S,fr,M,N,O,k4,T,U,_⟩:=hs mu w j none (F.mk' tmps dfs (.inRegion ops (i::rest)::k)::cs) .normal B Q p trivial (.inl rfl)
      have:=k4.normal
      subst this
      have l:=st_enter (P:=P) (F:=F) (dfs:=dfs) (k:=k) (cs:=cs) (rest:=rest) A C D (n.trans (ok.call f Z j w L t))
      refine⟨a,w',M,N,?_⟩
      cases m with
      | ret v=>
        obtain⟨v',u,z⟩:=U
        refine⟨v',z,Steps.trans (.one l) (Steps.trans T (.one ?_))⟩
        show step P _=.next (lone (F.mk' (fd tmps o.dst v') dfs (.inRegion ops rest::k)) cs w')
        rw [<-r];exact xS u
      | pan v=>
        obtain⟨v',u,z⟩:=U
        exact⟨v',z,Steps.trans (.one l) (Steps.trans T (.one (lO u)))⟩
     next=>cases e
   | yield b H=>
     obtain⟨rfl,c,j,n,p,G⟩:=g
     simp only [cI]at e
     obtain⟨f,tm,x,y,y1,a,w',M,N,O⟩:=round_sim ok hcode B Q p G e (F.mk' tmps dfs (.inRegion ops (i::rest)::k)) cs
     have l:=st_round (P:=P) (F:=F) (dfs:=dfs) (k:=k) (cs:=cs) (rest:=rest) A C D (n.trans y1)
     refine⟨a,w',M,N,?_⟩
     cases m with
     | ret v=>
       obtain⟨v',z,u⟩:=O
       refine⟨v',z,Steps.trans (.one l) ?_⟩
       show Steps P _ (lone (F.mk' (fd tmps o.dst v') dfs (.inRegion ops rest::k)) cs w')
       rw [<-r];exact u
     | pan v=>
       obtain⟨v',z,u⟩:=O
       exact⟨v',z,Steps.trans (.one l) u⟩
   | panic v=>
     cases e
     obtain⟨rfl,v',n,p⟩:=g
     exact⟨mu,w,B,Ext.refl mu _ w B,v',p,.one (st_panic A C D n)⟩
   |recov=>cases e
   |defer d=>cases e

include ok hc hcode in
theorem Bb {cx :Cx} {l l':Loc} {h h':Hp} {mu:Mu} {w:World} {F:FC} {g:List Frame} {tmps:Array Value} {dfs:List Deferred} {j:Option (Value×Bool)} (s:SR P cx l h mu w F g tmps dfs j)
 {k:List Item} {ops:Array Oper} {i:Nat} {rest:List Nat} {o:Oper} (N:ops[i]? =some o) (O:Region.wanted o (yielded ops tmps)=true) {x:Ex} (e:dG E R cx o l h=some (x,l',h')):
 ∃ m w' a p t,SR P cx l' h' m w' F g a p t/\Ext mu h w m h' w'/\
   xw P F g (lone (F.mk' tmps dfs (.inRegion ops (i::rest)::k)) (aH j g) w) ops rest k m w' a p t x:=by
 have J: ∀x,ao mu (l.ev x) (dg tmps x):=fun x=>ev_rel s.regs x s.glob
 unfold dG at e
 have n: ∀{r:Option (c8×Hp)},aop E l.ev h o.op=r->mI o l (cI E R r)=some (x,l',h')-> ∃m w' a p t,SR P cx l' h' m w' F g a p t/\Ext mu h w m h' w'/\
  xw P F g (lone (F.mk' tmps dfs (.inRegion ops (i::rest)::k)) (aH j g) w) ops rest k m w' a p t x:=by
  intro r B e
  cases C:cI E R r with
  |none=>rw [C]at e;cases e
  | some q=>
    obtain⟨T,Q⟩:=q
    rw [C]at e
    rw [<-B]at C
    obtain⟨m,w',I,K,Z⟩:=rj ok hc hcode s.hr s.glob J (F:=F) (dfs:=dfs) (k:=k) (cs:=aH j g) (rest:=rest) N O C
    have s':=s.step I (K.le s.hr)
    cases T with
    | ret v=>
      cases e
      obtain⟨v',U,V⟩:=Z
      exact⟨m,w',_,dfs,j,s'.put o.dst U,K,V⟩
    | pan v=>
      cases e
      obtain⟨v',U,V⟩:=Z
      exact⟨m,w',tmps,dfs,j,s',K,v',_,U,V⟩
 cases D:aop E l.ev h o.op with
 |none=>rw [D]at e;exact n D e
 | some q =>
   obtain⟨nx,Q⟩:=q
   rw [D]at e
   have G:=aop_run (P:=P) ok s.hr J (o:=o) D
   cases nx with
   |val v=>exact n D e
   |skip=>exact n D e
   |call f L=>exact n D e
   |yield b L=>exact n D e
   |panic v=>exact n D e
   | recov =>
     obtain⟨rfl,I⟩:=G
     simp only []at e
     cases B:cx.round with
     |some r=>rw [B]at e;cases e
     | none=>
       rw [B]at e
       simp only []at e
       have S:F.round=none:=by
        have:=s.rd;rw [B]at this
        cases hf:F.round with
        |none=>rfl
        |some c=>rw [hf]at this;exact this.elim
       have A:=s.rc
       have u:tryRecover (F.mk' tmps dfs (.inRegion ops (i::rest)::k)) (aH j g)=none->
        ∃ m w' a p t,SR P cx (l.put o.dst .nilIface) Q m w' F g a p t/\Ext mu Q w m Q w'/\
          Steps P (lone (F.mk' tmps dfs (.inRegion ops (i::rest)::k)) (aH j g) w) (lone (F.mk' a p (.inRegion ops rest::k)) (aH t g) w'):=by
        intro W
        exact⟨mu,w,_,dfs,j,s.put o.dst .nili,Ext.refl mu _ w s.hr,.one (uC N O S I W)⟩
       cases M:l.rc with
       | none=>
         rw [M]at e A
         cases e
         apply u
         cases j with
         |some y=>exact A.elim
         | none=>
           rcases s.ko with H|⟨H,c,r,rfl,hm⟩
           . simp [tryRecover,FC.mk',H]
           . simp [tryRecover,FC.mk',H,aH,hm]
       | some y =>
         obtain⟨v,b⟩:=y
         rw [M]at e A
         cases j with
         |none=>exact A.elim
         | some z=>
           obtain⟨v',b'⟩:=z
           obtain⟨rfl,C⟩:=A
           obtain⟨H,X⟩:=s.ko
           cases g with
           |nil=>exact absurd rfl X
           | cons c r=>
             cases b with
             | true=>
               cases e
               apply u
               simp [tryRecover,FC.mk',H,aH]
             | false=>
               cases e
               have W:tryRecover (F.mk' tmps dfs (.inRegion ops (i::rest)::k)) (aH (some (v',false)) (c::r))=some (v',aH (some (v',true)) (c::r)):=by
                simp [tryRecover,FC.mk',H,aH]
               have Y:SR P cx {l with rc:=some (v,true)} h' mu w F (c::r) tmps dfs (some (v',true)):=
                ⟨s.hr,s.glob,s.regs,s.dfs,⟨rfl,C⟩,⟨H,by simp⟩,s.fn,s.rd,s.rn,s.fs⟩
               exact⟨mu,w,_,dfs,_,Y.put o.dst C,Ext.refl mu _ w s.hr,.one (uy N O S I W)⟩
   | defer d=>
     obtain⟨rfl,d',I,K⟩:=G
     simp only []at e
     cases B:cx.round with
     |some r=>rw [B]at e;cases e
     | none=>
       rw [B]at e
       cases e
       have S:F.round=none:=by
        have:=s.rd;rw [B]at this
        cases hf:F.round with
        |none=>rfl
        |some c=>rw [hf]at this;exact this.elim
       have Y:SR P cx {l with dfs:=d::l.dfs} h' mu w F g tmps (d'::dfs) j:=
        ⟨s.hr,s.glob,s.regs,LR.cons K s.dfs,s.rc,s.ko,s.fn,s.rd,s.rn,s.fs⟩
       exact⟨mu,w,_,_,j,Y.put o.dst (v':=undef) (.tuple rfl (by intro i v v' C;simp at C)),Ext.refl mu _ w s.hr,.one (st_defer N O S I)⟩

omit ok in
theorem vp {mu:Mu} {ops:Array Oper} {t:Tr Value} {n:Nat} {tmps:Array Value} (i:iH mu t n tmps) {o:Oper} {b:Bool} (a:bV ops.toList t o=some b):Region.wanted o (yielded ops tmps)=b:=by
 unfold bV at a
 unfold Region.wanted
 cases c:o.guard with
 |none=>rw [c]at a;cases a;rfl
 | some q=>
   obtain⟨j,e⟩:=q
   rw [c]at a
   simp only []at a⊢
   unfold yielded
   cases k:ops[j]? with
   |none=>rw [Xk,k]at a;cases a;simp [Option.bind]
   | some m=>
     rw [Xk,k]at a
     simp only [Option.bind_some]at a⊢
     cases l:m.dst with
     |none=>rw [l]at a;cases a;rfl
     | some d=>
       rw [l]at a
       simp only [Option.bind_some]at a⊢
       split at a
       next p f=>
        obtain⟨r,g,h⟩:=i.get d _ f
        cases h
        rw [g]
        cases a
        cases p<;>cases e<;>rfl
       next x f=>
        obtain⟨r,g,h⟩:=i.get d _ f
        rw [g]
        cases a
        cases h
        rfl
       next=>cases a

include ok hc hcode in
theorem wl {cx:Cx} {ops:Array Oper} {F:FC} {p:List Frame} {k:List Item}: ∀(os:List Oper) (i:Nat) (l l':Loc) (h h':Hp) (mu:Mu) (w:World) (tmps:Array Value) (dfs:List Deferred) (f:Option (Value×Bool)) (x:Ex),
 ops.toList.drop i=os->SR P cx l h mu w F p tmps dfs f->ik E R cx ops.toList os l h=some (x,l',h')->
 Sim P cx h mu w F p tmps dfs f (.inRegion ops (Xp i os.length)::k) k x l' h':=by
 intro os
 induction os with
 | nil=>
   intro i l l' h h' mu w tmps dfs f x B s d
   simp only [ik]at d
   cases d
   exact⟨mu,w,tmps,dfs,f,s,Ext.refl mu h w s.hr,.one nv⟩
 | cons o os M=>
   intro i l l' h h' mu w tmps dfs f x B s d
   have C:ops[i]? =some o:=by
    have:=congrArg (·[0]?) B
    simpa using this
   have y:ops.toList.drop (i+1)=os:=by
    have:=congrArg (List.drop 1) B
    simpa [Nat.add_comm]using this
   simp only [ik]at d
   rw [List.length_cons,List.range'_succ]
   cases D:bV ops.toList l.regs o with
   |none=>rw [D]at d;cases d
   | some b=>
     have N:=vp s.regs D
     rw [D]at d
     cases b with
     | false=>
       simp only []at d
       have c:=ut (P:=P) (F:=F) (tmps:=tmps) (dfs:=dfs) (k:=k) (cs:=aH f p) (w:=w) (ops:=ops) (i:=i) (rest:=Xp (i+1) os.length) (by rw [C];simpa using N)
       rw [C]at c
       obtain⟨r,G,e,g,j,H,I,m⟩:=M (i+1) _ _ _ _ _ _ _ _ _ _ y (s.put o.dst (v':=undef) (.tuple rfl (by intro i v v' S;simp at S))) d
       refine⟨r,G,e,g,j,H,I,?_⟩
       cases x with
       |normal=>exact .head c m
       |exit id=>obtain⟨t,a,b⟩:=m;exact⟨t,a,.head c b⟩
       |ret=>obtain⟨t,b⟩:=m;exact⟨t,.head c b⟩
       |pan v=>obtain⟨v',J,a,b⟩:=m;exact⟨v',J,a,.head c b⟩
     | true=>
       simp only []at d
       cases K:dG E R cx o l h with
       |none=>rw [K]at d;cases d
       | some q=>
         obtain⟨T,V,W⟩:=q
         rw [K]at d
         obtain⟨L,U,u,z,A,O,Q,n⟩:=Bb ok hc hcode s (k:=k) (rest:=Xp (i+1) os.length) C N K
         cases T with
         | normal=>
           simp only []at d n
           obtain⟨r,G,e,g,j,H,I,m⟩:=M (i+1) _ _ _ _ _ _ _ _ _ _ y O d
           refine⟨r,G,e,g,j,H,Ext.trans Q I,?_⟩
           cases x with
           |normal=>exact Steps.trans n m
           |exit id=>obtain⟨t,a,b⟩:=m;exact⟨t,a,Steps.trans n b⟩
           |ret=>obtain⟨t,b⟩:=m;exact⟨t,Steps.trans n b⟩
           |pan v=>obtain⟨v',J,a,b⟩:=m;exact⟨v',J,a,Steps.trans n b⟩
         |exit id=>exact n.elim
         |ret=>exact n.elim
         | pan v=>
           cases d
           exact⟨L,U,u,z,A,O,Q,n⟩
end
end Go.Ab

namespace Go.Ab

theorem Reach.pre{P:Program}{F:FC}{f:List Frame}{m m1:Machine}{k:List Item}{g:Mu}{w':World}{c:Array Value}{d:List Deferred}{e:Option (Value×Bool)}{x:Ex}
 (h:Steps P m m1) (r:Reach P F f m1 k g w' c d e x):Reach P F f m k g w' c d e x:=by
 cases x with
 |normal=>exact Steps.trans h r
 |exit id=>obtain⟨i,a,b⟩:=r;exact⟨i,a,Steps.trans h b⟩
 |ret=>obtain⟨i,b⟩:=r;exact⟨i,Steps.trans h b⟩
 |pan v=>obtain⟨j,l,a,b⟩:=r;exact⟨j,l,a,Steps.trans h b⟩
theorem Sim.pre{P:Program}{cx:Cx}{h t:Hp}{mu m:Mu}{w q:World}{F:FC}{g:List Frame}{tmps d:Array Value}{dfs i:List Deferred}{n j:Option (Value×Bool)}{todo f k:List Item}{x:Ex}{l':Loc}{h':Hp}
 (u:Steps P (lone (F.mk' tmps dfs todo) (aH n g) w) (lone (F.mk' d i f) (aH j g) q)) (e:Ext mu h w m t q)
 (s:Sim P cx t m q F g d i j f k x l' h'):Sim P cx h mu w F g tmps dfs n todo k x l' h':=by
 obtain⟨r,v,l,o,p,a,b,c⟩:=s
 exact⟨r,v,l,o,p,a,Ext.trans e b,c.pre u⟩
theorem Reach.out{P:Program}{F:FC}{f:List Frame}{m:Machine}{k k2:List Item}{g:Mu}{w':World}{c:Array Value}{d:List Deferred}{e:Option (Value×Bool)}{x:Ex}
 (h: ∀id,x=.exit id->exitTo id k=exitTo id k2) (i:x≠ .normal) (r:Reach P F f m k g w' c d e x):Reach P F f m k2 g w' c d e x:=by
 cases x with
 |normal=>exact absurd rfl i
 |exit id=>obtain⟨j,a,b⟩:=r;exact⟨j,a.trans (h id rfl),b⟩
 |ret=>exact r
 |pan v=>exact r

def DrawOk(E:Env)(P:Program)(R:Rec):Prop:=
 ∀ f id a l h g i q j m,iS E (bC a.toList)=some (q,j)->a8 E R (bC a.toList) q (bC a.toList) 0 l h []=some (g,i,m)->cg m j=true-> ∀n w F c b d e k,SR P f l h n w F c b d e->
   Sim P f h n w F c b d e (.code (.region id a true)::k) k .normal g i
def tz(E:Env)(P:Program)(R:Rec):Prop:=
 ∀ f id (b:Array Oper) l h g i x,cutD E R f b.toList l h=some (x,g,i)-> ∀j w F c a d e k,SR P f l h j w F c a d e->
   Sim P f h j w F c a d e (.code (.region id b true)::k) k x g i

section
variable{E:Env}{P:Program}(ok:EOk E P){R:Rec}(hc:fW E P R.call)(hcode:iO P R.code)

theorem dead_at{mu:Mu}{h:Hp}{w:World}(e:aJ mu h w){b c:Nat}(a:dp mu b c)(f:h.get b=some .dfr): ∃top,mu b=.blk c 0 top/\w.heap[c]? =some (.deferred (some [])):=by
 unfold dp at a
 cases d:mu b with
 |none=>rw [d]at a;exact a.elim
 |dead=>have:=e.dead _ d;rw [f]at this;cases this
 | blk l g top=>
   rw [d]at a
   obtain⟨rfl,rfl⟩:=a
   obtain⟨y,o,i,j,k⟩:=e.blk _ c 0 top d
   rw [f]at i;cases i
   obtain⟨_,rfl⟩:=k
   exact⟨top,rfl,j⟩

theorem uu(w:World)(o:Obj):WNew w (kc w o) o:=⟨rfl,rfl,rfl,rfl⟩
theorem za{mu:Mu}{h:Hp}{w:World}(b:aJ mu h w){r:gW}{a:Loop}(c:lg mu r a):
 aJ (upd mu h.n (.blk w.heap.size 0 0)) (h.new (.loop r)) (kc w (.loop a))/\Ext mu h w (upd mu h.n (.blk w.heap.size 0 0)) (h.new (.loop r)) (kc w (.loop a)):=
 lW b (uu w _) ⟨rfl,a,rfl,c⟩
theorem dfr_new{mu:Mu}{h:Hp}{w:World}(a:aJ mu h w):
 aJ (upd mu h.n (.blk w.heap.size 0 0)) (h.new .dfr) (kc w (.deferred (some [])))/\Ext mu h w (upd mu h.n (.blk w.heap.size 0 0)) (h.new .dfr) (kc w (.deferred (some []))):=
 lW a (uu w _) ⟨rfl,rfl⟩

theorem zQ{cx:Cx}{params:Array Tmp}{assign body:Code}{l:Loc}{h n:Hp}{d:Nat}{e:List Deferred}
 (b:(match cx.round with
   |none=>some (h.new .dfr,h.n,({target:=.collected h.n,args:=#[]}:Deferred)::l.dfs)
   | some r=>match h.get r with
     |some (.loop x)=>some (h,x.defers,l.dfs)
     |_=>none)=some (n,d,e))
 {mu:Mu} {w:World} {F:FC} {g:List Frame} {tmps:Array Value} {dfs:List Deferred} {i:Option (Value×Bool)} (s:SR P cx l h mu w F g tmps dfs i):
 ∃ f o c mark,(Instr.enterLoop F.fn tmps params assign body F.round).run P w=.ok (c,mark) o/\dp f n.n c/\
   SR P cx {l with dfs:=e} (n.new (.loop {fn:=cx.fn,regs:=l.regs,nr:=cx.nr,params,assign,body,st:=0,pending:=none,defers:=d})) f o F g tmps (mark++dfs) i/\
   Ext mu h w f (n.new (.loop {fn:=cx.fn,regs:=l.regs,nr:=cx.nr,params,assign,body,st:=0,pending:=none,defers:=d})) o:=by
 cases j:cx.round with
 | none=>
   rw [j]at b
   cases b
   have v:F.round=none:=by
    have:=s.rd;rw [j]at this
    cases hf:F.round with
    |none=>rfl
    |some c=>rw [hf]at this;exact this.elim
   obtain⟨p,u⟩:=dfr_new s.hr
   have k:=s.step p (u.le s.hr)
   have q:lg (upd mu h.n (.blk w.heap.size 0 0)) {fn:=cx.fn,regs:=l.regs,nr:=cx.nr,params,assign,body,st:=0,pending:=none,defers:=h.n}
    {state:=.ready,pending:=none,fn:=F.fn,tmps,params,assign,body,defers:=w.heap.size}:=⟨s.fn,k.regs,rfl,rfl,rfl,rfl,rfl⟩
   obtain⟨t,m⟩:=za p q
   have a:=k.step t (m.le p)
   refine⟨_,_,_,_,by rw [v];exact xn,?_,?_,Ext.trans u m⟩
   . show dp (upd _ (h.n+1) _) (h.n+1) (w.heap.size+1)
     unfold dp
     rw [upd_same]
     exact⟨by simp [kc],rfl⟩
   . refine⟨a.hr,a.glob,a.regs,LR.cons ⟨w.heap.size,rfl,?_⟩ a.dfs,a.rc,a.ko,a.fn,a.rd,a.rn,a.fs⟩
     show dp (upd (upd mu h.n (.blk w.heap.size 0 0)) (h.n+1) _) h.n w.heap.size
     unfold dp
     rw [aI _ _ (by omega),upd_same]
     exact⟨rfl,rfl⟩
 | some r=>
   rw [j]at b
   simp only []at b
   split at b
   next x y=>
    cases b
    cases hf:F.round with
    |none=>have:=s.rd;rw [j,hf]at this;exact this.elim
    | some c=>
      have z:dp mu r c:=by have:=s.rd;rw [j,hf]at this;exact this
      obtain⟨A,B,D,C,G⟩:=pS s.hr z y
      have q:lg mu {fn:=cx.fn,regs:=l.regs,nr:=cx.nr,params,assign,body,st:=0,pending:=none,defers:=x.defers}
       {state:=.ready,pending:=none,fn:=F.fn,tmps,params,assign,body,defers:=B.defers}:=⟨s.fn,s.regs,rfl,rfl,rfl,rfl,rfl⟩
      obtain⟨t,m⟩:=za s.hr q
      have a:=s.step t (m.le s.hr)
      refine⟨_,_,_,[],uL C,?_,a,m⟩
      unfold dp
      rw [upd_same]
      exact⟨rfl,rfl⟩
   next=>cases b

include ok hc in
theorem wY {cx:Cx} {f:Operand} {params:Array Tmp} {assign body:Code} {l l':Loc} {h h':Hp} {x:Ex} (m:ie R cx (l.ev f) params assign body l h=some (x,l',h'))
 {mu:Mu} {w:World} {F:FC} {j:List Frame} {tmps:Array Value} {dfs:List Deferred} {i:Option (Value×Bool)} {k:List Item} (s:SR P cx l h mu w F j tmps dfs i):
 Sim P cx h mu w F j tmps dfs i (.code (.rangeFunc f params assign body)::k) k x l' h':=by
 unfold ie at m
 have hf:=ev_rel s.regs f s.glob
 split at m
 next fv g a b U=>
  rw [U]at hf
  cases D:dg tmps f<;>rw [D]at hf<;>cases hf
  rename_i a' b' f1 f2 f3 f4
  split at m
  next=>cases m
  next O d al G=>
   obtain⟨H,w2,c,mark,h0,hp,u,V⟩:=zQ (params:=params) (assign:=assign) (body:=body) G s
   cases n:R.call g (a.toList++[.func (.yield O.n) #[] #[]]++b.toList) none (O.new (.loop {fn:=cx.fn,regs:=l.regs,nr:=cx.nr,params,assign,body,st:=0,pending:=none,defers:=d}))with
   |none=>rw [n]at m;cases m
   | some q=>
     obtain⟨W,aL,h2⟩:=q
     rw [n]at m
     obtain⟨⟨fn,X,z⟩,hs⟩:=hc _ _ _ _ _ _ _ n
     have I:=st_range (P:=P) (F:=F) (dfs:=dfs) (k:=k) (cs:=aH i j) D (fun J w=>ok.call g fn J w X z) h0
     have A:VL H (a.toList++[.func (.yield O.n) #[] #[]]++b.toList) (a'++#[Value.func (.yield c) #[] #[]]++b').toList:=by
      simp only [Xn]
      have le:=V.le s.hr
      exact LR.append (LR.append (VL.mono le ⟨f1,f2⟩) (LR.cons (.yield hp) LR.nil)) (VL.mono le ⟨f3,f4⟩)
     obtain⟨K,Q,ax,fr,S,Y,k3,k4,k5,k6,_⟩:=hs H w2 (a'++#[.func (.yield c) #[] #[]]++b') none (F.mk' tmps (mark++dfs) (.inRangeFunc c::k)::aH i j) .normal u.hr u.glob A trivial (.inl rfl)
     have:=k4.normal
     subst this
     have L:=Y.le u.hr
     have M:=u.step S L
     cases W with
     | pan v=>
       cases m
       obtain⟨v',Z,l2⟩:=k6
       exact⟨K,Q,tmps,mark++dfs,i,M,Ext.trans V Y,v',.inRangeFunc c::k,l2,Steps.trans (.one I) (Steps.trans k5 (.one (lO Z (c:=F.mk' tmps (mark++dfs) (.inRangeFunc c::k)) (cs:=aH i j))))⟩
     | ret v=>
       obtain⟨v',Z,l2⟩:=k6
       simp only []at m
       split at m
       next x1 N=>
        have ad:dp K O.n c:=hp.mono L
        obtain⟨ay,y,g1,g2,T⟩:=pS S ad N
        have p:Steps P (lone (F.mk' tmps dfs (.code (.rangeFunc f params assign body)::k)) (aH i j) w) (lone (F.mk' tmps (mark++dfs) (.endRangeFunc c::k)) (aH i j) Q):=
         Steps.trans (.one I) (Steps.trans k5 (.one (xS Z (c:=F.mk' tmps (mark++dfs) (.inRangeFunc c::k)) (cs:=aH i j))))
        split at m
        next=>cases m
        next af=>
         have ai:y.state≠ .busy:=by
          intro e
          have:=T.st
          rw [e]at this
          exact af this.symm
         have ak:=zW (P:=P) (F:=F) (tmps:=tmps) (dfs:=mark++dfs) (k:=k) (cs:=aH i j) g2 ai
         obtain⟨a1,a2⟩:=ng S g1 (by intro t sz el e;rw [N]at e;cases e) (rH (o:=.loop {y with state:=.exhausted}) g2)
         have B:=M.step a1 (a2.le S)
         have e4:=Ext.trans V (Ext.trans Y a2)
         have C: ∀td,(y.pending.map Item.code).toList++k=td->step P (lone (F.mk' tmps (mark++dfs) (.endRangeFunc c::k)) (aH i j) Q)=
          .next (lone (F.mk' tmps (mark++dfs) td) (aH i j) (setW Q c (.loop {y with state:=.exhausted}))):=by
          intro td e;rw [<-e];exact ak
         split at m
         next r=>
          cases m
          exact⟨_,_,tmps,mark++dfs,i,B,e4,Steps.trans p (.one (C _ (by rw [T.pending,r];rfl)))⟩
         next id r=>
          cases m
          exact⟨_,_,tmps,mark++dfs,i,B,e4,k,rfl,Steps.trans p (.one (C _ (by rw [T.pending,r];rfl)))⟩
         next r=>
          cases m
          exact⟨_,_,tmps,mark++dfs,i,B,e4,k,Steps.trans p (.one (C _ (by rw [T.pending,r];rfl)))⟩
         next=>cases m
       next=>cases m
 next=>cases m

include ok hc hcode in
theorem yo (U:DrawOk E P R) (N:tz E P R):iO P (aE E R):=by
 intro X c
 induction c with
 | skip=>
   intro l h x K L j C w F u g dfs p k B s D
   rcases D with rfl|⟨b,G,_⟩
   . cases j;exact⟨C,w,g,dfs,p,s,Ext.refl C _ w s.hr,.one st_skip⟩
   . cases G
 | label n=>
   intro l h x K L j C w F u g dfs p k B s D
   rcases D with rfl|⟨b,G,_⟩
   . cases j;exact⟨C,w,g,dfs,p,s,Ext.refl C _ w s.hr,.one st_label⟩
   . cases G
 | region id ops Y=>
   intro l h x K L j C w F u g dfs p k B s D
   rcases D with rfl|⟨b,G,_⟩
   . simp only [aE]at j
     cases Y with
     | false=>
       simp only [cond_false]at j
       have r:=wl ok hc hcode (ops:=ops) (k:=k) ops.toList 0 _ _ _ _ _ _ _ _ _ _ rfl s j
       rw [Array.length_toList,<-List.range_eq_range']at r
       exact r.pre (.one st_region) (Ext.refl C h w s.hr)
     | true=>
       simp only [cond_true]at j
       cases T:E.cut X.fn with
       | true=>
         rw [T]at j
         exact N X id ops l h _ _ _ j C w F u g dfs p k s
       | false =>
         rw [T]at j
         simp only [cond_false]at j
         cases hp:iS E (bC ops.toList)with
         |none=>rw [hp]at j;cases j
         | some q=>
           obtain⟨q,ps⟩:=q
           rw [hp]at j
           simp only []at j
           cases he:a8 E R (bC ops.toList) q (bC ops.toList) 0 l h []with
           |none=>rw [he]at j;cases j
           | some q3=>
             obtain⟨l1,h1,tr⟩:=q3
             rw [he]at j
             simp only []at j
             cases V:cg tr ps with
             |false=>rw [V]at j;cases j
             | true=>
               rw [V]at j
               cases j
               exact U X id ops l h _ _ q ps tr hp he V C w F u g dfs p k s
   . cases G
 | seq a b O Q=>
   intro l h x K L j C w F u g dfs p k B s D
   rcases D with rfl|⟨b,G,_⟩
   . simp only [aE]at j
     cases M:aE E R X a l h with
     |none=>rw [M]at j;cases j
     | some q=>
       obtain⟨Z,l1,h1⟩:=q
       rw [M]at j
       obtain⟨y,H,d,o,z,I,J,W⟩:=O _ _ _ _ _ M C w F u g dfs p (.code b::k) _ s (.inl rfl)
       have A:=Reach.pre (.one st_seq) W
       cases Z with
       | normal=>
         exact Sim.pre A J (Q _ _ _ _ _ j y H F u d o z k _ I (.inl rfl))
       |exit id=>cases j;exact⟨y,H,d,o,z,I,J,A.out (fun id _=>rfl) (by simp)⟩
       |ret=>cases j;exact⟨y,H,d,o,z,I,J,A.out (fun id _=>rfl) (by simp)⟩
       |pan v=>cases j;exact⟨y,H,d,o,z,I,J,A.out (fun id _=>rfl) (by simp)⟩
   . cases G
 | cond c a b O Q=>
   intro l h x K L j C w F u g dfs p k B s D
   rcases D with rfl|⟨b,G,_⟩
   . simp only [aE]at j
     have hv:=ev_rel s.regs c s.glob
     split at j
     next t al=>
      rw [al]at hv
      cases ad:dg g c<;>rw [ad]at hv<;>cases hv
      have S:=st_cond (P:=P) (F:=F) (dfs:=dfs) (k:=k) (cs:=aH p u) (w:=w) (a:=a) (b:=b) ad
      cases t with
      |true=>exact Sim.pre (.one S) (Ext.refl C h w s.hr) (O _ _ _ _ _ j C w F u g dfs p k _ s (.inl rfl))
      |false=>exact Sim.pre (.one S) (Ext.refl C h w s.hr) (Q _ _ _ _ _ j C w F u g dfs p k _ s (.inl rfl))
     next=>cases j
   . cases G
 | block id b ih=>
   intro l h x K L j C w F u g dfs p k B s D
   rcases D with rfl|⟨b,G,_⟩
   . simp only [aE]at j
     cases M:aE E R X b l h with
     |none=>rw [M]at j;cases j
     | some q=>
       obtain⟨Z,l1,h1⟩:=q
       rw [M]at j
       obtain⟨y,H,d,o,z,I,J,W⟩:=ih _ _ _ _ _ M C w F u g dfs p (.inBlock id::k) _ s (.inl rfl)
       have A:=Reach.pre (.one st_block) W
       cases Z with
       |normal=>cases j;exact⟨y,H,d,o,z,I,J,Steps.trans A (.one AI)⟩
       | exit i=>
         simp only []at j
         obtain⟨k0,af,r2⟩:=A
         cases hi:zM i id with
         | true=>
           have:i=id:=Nat.eq_of_beq_eq_true hi
           subst this
           rw [hi]at j
           cases j
           exact⟨y,H,d,o,z,I,J,Steps.trans r2 (.one (st_exit (k':=k) (by rw [af];simp [exitTo])))⟩
         | false=>
           have ax:id≠i:=by intro e;subst e;rw [Nat.beq_refl]at hi;cases hi
           rw [hi]at j
           cases j
           exact⟨y,H,d,o,z,I,J,k0,by rw [af];simp [exitTo,ax],r2⟩
       |ret=>cases j;exact⟨y,H,d,o,z,I,J,A⟩
       |pan v=>cases j;exact⟨y,H,d,o,z,I,J,A⟩
   . cases G
 | loop b ih=>
   intro l h x K L j C w F u g dfs p k B s D
   have S:step P (lone (F.mk' g dfs B) (aH p u) w)=.next (lone (F.mk' g dfs (.code b:: .inLoop b::k)) (aH p u) w):=by
    rcases D with rfl|⟨b2,G,rfl⟩
    . exact st_loop
    . cases G;exact st_inLoop
   simp only [aE]at j
   cases M:aE E R X b l h with
   |none=>rw [M]at j;cases j
   | some q=>
     obtain⟨Z,l1,h1⟩:=q
     rw [M]at j
     obtain⟨y,H,d,o,z,I,J,W⟩:=ih _ _ _ _ _ M C w F u g dfs p (.inLoop b::k) _ s (.inl rfl)
     have A:=Reach.pre (.one S) W
     cases Z with
     |normal=>exact Sim.pre A J (hcode _ _ _ _ _ _ _ j y H F u d o z k _ I (.inr ⟨b,rfl,rfl⟩))
     |exit id=>cases j;exact⟨y,H,d,o,z,I,J,A.out (fun id _=>rfl) (by simp)⟩
     |ret=>cases j;exact⟨y,H,d,o,z,I,J,A.out (fun id _=>rfl) (by simp)⟩
     |pan v=>cases j;exact⟨y,H,d,o,z,I,J,A.out (fun id _=>rfl) (by simp)⟩
 | rangeFunc f ai ak ay O Q=>
   intro l h x K L j C w F u g dfs p k B s D
   rcases D with rfl|⟨b,G,_⟩
   . exact wY ok hc j s
   . cases G
 | exit id=>
   intro l h x K L j C w F u g dfs p k B s D
   rcases D with rfl|⟨b,G,_⟩
   . cases j;exact⟨C,w,g,dfs,p,s,Ext.refl C _ w s.hr,k,rfl,Steps.refl _ _⟩
   . cases G
 | scope b ih=>
   intro l h x K L j C w F u g dfs p k B s D
   rcases D with rfl|⟨b,G,_⟩
   . obtain⟨y,H,d,o,z,I,J,W⟩:=ih _ _ _ _ _ j C w F u g dfs p (.inScope b::k) _ s (.inl rfl)
     have A:=Reach.pre (.one st_scope) W
     cases x with
     |normal=>exact⟨y,H,d,o,z,I,J,Steps.trans A (.one AY)⟩
     |exit id=>exact⟨y,H,d,o,z,I,J,A.out (fun id _=>rfl) (by simp)⟩
     |ret=>exact⟨y,H,d,o,z,I,J,A.out (fun id _=>rfl) (by simp)⟩
     |pan v=>exact⟨y,H,d,o,z,I,J,A.out (fun id _=>rfl) (by simp)⟩
   . cases G
 |goto n=>intro l h x K L j;cases j
 | ret=>
   intro l h x K L j C w F u g dfs p k B s D
   rcases D with rfl|⟨b,G,_⟩
   . cases j;exact⟨C,w,g,dfs,p,s,Ext.refl C _ w s.hr,k,Steps.refl _ _⟩
   . cases G
 |refuse m=>intro l h x K L j;cases j
end
end Go.Ab

namespace Go.Ab

theorem rC.hrel{w w':World}(k:rC w w'){mu:Mu}{h:Hp}(a:aJ mu h w):aJ mu h w':=
 ⟨a.sized,fun b c d e i=>by
  obtain⟨x,o,j,f,l⟩:=a.blk b c d e i
  refine⟨x,o,j,?_,l⟩
  rw [k.heap c (by
   rcases Xf c w.heap.size with g|g
   . exact g
   . rw [Xb g]at f;cases f)]
  exact f,a.dead,a.inj,a.lt⟩
theorem rC.ext{w w':World}(k:rC w w'){mu:Mu}{h:Hp}(hh:aJ mu h w):Ext mu h w mu h w' where
 n:=Xh _
 old:=fun _ _=>.inl rfl
 fresh:=fun b c base top hb hm=>absurd (hh.lt b (by rw [hm];simp)) (by omega)
 lo:=Xh _
 same:=fun _ _ _=>rfl
 frame:=fun c hc _=>k.heap c hc
 ro:=fun b c base top t sz el hm hg=>by
  obtain⟨x,o,h1,h2,h3⟩:=hh.blk b c base top hm
  refine⟨k.heap c ?_,rfl,rfl⟩
  rcases Xf c w.heap.size with hc|hc
  . exact hc
  . rw [Xb hc]at h2;cases h2
 wsize:=k.size
 os:=k.os
 tape:=k.tape
 output:=k.output
 cover:=fun _ h1 h2=>absurd h2 (by omega)

def pL(mu:Mu):Option Value->FrameMode->Prop
 |none,M=>M=.returning
 |some v,M=> ∃a,M=.panicking [{v:=a,recovered:=false}]/\ao mu v a
theorem pL.mono{mu c:Mu}(h:Le mu c){m:Option Value}{M:FrameMode}(k:pL mu m M):pL c m M:=by
 cases m with
 |none=>exact k
 |some v=>obtain⟨d,a,b⟩:=k;exact⟨d,a,b.mono h⟩
def FC.un(F:FC)(tmps:Array Value)(dfs:List Deferred)(todo:List Item)(M:FrameMode):Frame:={F.mk' tmps dfs todo with mode:=M}

section
variable{P:Program}{F:FC}{tmps:Array Value}{dfs:List Deferred}{todo:List Item}{cs:List Frame}{w:World}
theorem yR{M:FrameMode}(d:M≠ .run){c:Nat}{args:Array Value}{a:List Deferred}(e:w.heap[c]? =some (.deferred (some a))):
 step P (lone (F.un tmps ({target:=.collected c,args}::dfs) todo M) cs w)=.next (lone (F.un tmps (a++dfs) todo M) cs (setW w c (.deferred none))):=by
 refine step_lone_go ?_
 have b:=tH (P:=P) e
 cases M with
 |run=>exact absurd rfl d
 |returning=>simp [stepG,unwind,FC.un,FC.mk',b]
 |panicking f=>simp [stepG,unwind,FC.un,FC.mk',b]
theorem oX{M:FrameMode}(b:M≠ .run){f:FuncId}{cap args:Array Value}(hf: ∀a w,(callFunc f a).run P w=.ok (.enter f a) w):
 step P (lone (F.un tmps ({target:=.fn (.func f) cap,args}::dfs) todo M) cs w)=.next (lone (Frame.enter P f (args++cap) .deferred) (F.un tmps dfs todo M::cs) w):=by
 refine step_lone_go ?_
 cases M with
 |run=>exact absurd rfl b
 |returning=>simp [stepG,unwind,callDeferred,FC.un,FC.mk',invoke,hf]
 |panicking c=>simp [stepG,unwind,callDeferred,FC.un,FC.mk',invoke,hf]
theorem nw{b c:Frame}{v:Value}(h:pX P b w .deferred v)(a:c.mode=.returning\/ ∃v',c.mode=.panicking [{v:=v',recovered:=false}]):
 step P (lone b (c::cs) w)=.next (lone c cs w):=by
 obtain⟨e,hf,d⟩:=h.res
 refine step_lone_go ?_
 rcases a with a|⟨v',a⟩<;>simp [stepG,unwind,doReturn,h.mode,h.defers,h.kind,hf,d,a]
theorem rf{a c:Frame}{v v':Value}(h:pX P a w .deferred v)(b:c.mode=.panicking [{v:=v',recovered:=true}]):
 step P (lone a (c::cs) w)=.next (lone {c with mode:=.returning} cs w):=by
 obtain⟨e,hf,d⟩:=h.res
 exact step_lone_go (by simp [stepG,unwind,doReturn,h.mode,h.defers,h.kind,hf,d,b])
end

section
variable{E:Env}{P:Program}(ok:EOk E P){R:Rec}(hc:fW E P R.call)(hcode:iO P R.code)

include ok hc in
theorem jO {F : FC} {tmps:Array Value} {todo:List Item} {cs:List Frame}: ∀(J:List Deferred) (m D:Option Value) (h h':Hp),bR R J m h=some (D,h')->
 ∀ (mu:Mu) (w:World) (dfs:List Deferred) (M:FrameMode),aJ mu h w->kI mu->DL mu J dfs->pL mu m M->
   ∃k w' M',aJ k h' w'/\Ext mu h w k h' w'/\pL k D M'/\Steps P (lone (F.un tmps dfs todo M) cs w) (lone (F.un tmps [] todo M') cs w')
 | [],m,D,h,h',i,mu,w,dfs,M,A,K,hd,L=>by
   cases i
   rw [hd.nil_left]
   exact⟨mu,w,M,A,Ext.refl mu h w A,L,Steps.refl _ _⟩
 | d :: J, m,D,h,h',i,mu,w,dfs,M,A,K,hd,L=>by
   obtain⟨d',j,rfl,T,h2⟩:=hd.cons_left
   have hM:M≠ .run:=by
    intro e;subst e
    cases m with
    |none=>cases L
    |some v=>obtain⟨_,a,_⟩:=L;cases a
   obtain⟨al,l⟩:=d'
   unfold bR at i
   split at i
   next b hb=>
    split at i
    next G=>
     unfold kX at T
     rw [hb]at T
     obtain⟨c,r,hp⟩:=T
     simp only []at r
     subst r
     obtain⟨ax,N,H⟩:=dead_at A hp G
     obtain⟨a1,a2⟩:=ng A N (by intro t sz el e;rw [G]at e;cases e) (rH (o:=.deferred none) H)
     have s:=a2.le A
     obtain⟨k,w',M',U,I,V,k4⟩:=jO J m D _ h' i _ _ j M a1 (K.mono s) (LR.mono h2 fun _ _=>kX.mono s) (L.mono s)
     exact⟨k,w',M',U,Ext.trans a2 I,V,.head (yR hM H) k4⟩
    next=>cases i
   next f cap hb=>
    unfold kX at T
    rw [hb]at T
    obtain⟨n,r,W,u⟩:=T
    simp only []at r u
    subst r
    have va:VL mu (d.args.toList++cap.toList) (l++n).toList:=by
     rw [Xn];exact LR.append u W
    cases m with
    | none=>
      have ad:M=.returning:=L
      subst ad
      simp only []at i
      cases g:R.call f (d.args.toList++cap.toList) none h with
      |none=>rw [g]at i;cases i
      | some q=>
        obtain⟨O,rc,af⟩:=q
        rw [g]at i
        obtain⟨⟨fn,Q,p⟩,hs⟩:=hc _ _ _ _ _ _ _ g
        have B:=oX (P:=P) (F:=F) (tmps:=tmps) (dfs:=j) (todo:=todo) (cs:=cs) (w:=w) hM (cap:=n) (args:=l) (fun a w=>ok.call f fn a w Q p)
        obtain⟨C,w1,x,fr,U,I,V,k4,k5,k6,_⟩:=hs mu w (l++n) none (F.un tmps j todo .returning::cs) .deferred A K va trivial (.inr ⟨rfl,_,_,rfl,rfl⟩)
        cases O with
        |pan v=>cases i
        | ret v=>
          obtain⟨v',l1,l2⟩:=k6
          simp only []at i
          cases rc with
          |some y=>cases i
          | none=>
            cases x with
            |some y=>exact V.elim
            | none=>
              simp only []at i
              have s:=I.le A
              obtain⟨k,w',M',N,H,X,Y⟩:=jO J none D _ h' i C w1 j .returning U (K.mono s) (LR.mono h2 fun _ _=>kX.mono s) rfl
              exact⟨k,w',M',N,Ext.trans I H,X,Steps.trans (.one B) (Steps.trans k5 (.head (nw l1 (.inl rfl)) Y))⟩
    | some pv =>
      obtain⟨Z,rfl,ai⟩:=L
      simp only []at i
      cases g:R.call f (d.args.toList++cap.toList) (some (pv,false)) h with
      |none=>rw [g]at i;cases i
      | some q=>
        obtain⟨O,rc,af⟩:=q
        rw [g]at i
        obtain⟨⟨fn,Q,p⟩,hs⟩:=hc _ _ _ _ _ _ _ g
        have B:=oX (P:=P) (F:=F) (tmps:=tmps) (dfs:=j) (todo:=todo) (cs:=cs) (w:=w) hM (cap:=n) (args:=l) (fun a w=>ok.call f fn a w Q p)
        obtain⟨C,w1,x,fr,U,I,V,k4,k5,k6,_⟩:=hs mu w (l++n) (some (Z,false)) (F.un tmps j todo (.panicking [{v:=Z,recovered:=false}])::cs) .deferred A K va ⟨rfl,ai⟩ ⟨rfl,by simp⟩
        cases O with
        |pan v=>cases i
        | ret v =>
          obtain⟨v',l1,l2⟩:=k6
          simp only []at i
          have s:=I.le A
          cases rc with
          |none=>cases i
          | some y=>
            obtain⟨v0,b⟩:=y
            cases x with
            |none=>exact V.elim
            | some z=>
              obtain⟨S,b'⟩:=z
              obtain⟨rfl,ak⟩:=V
              cases b with
              | true=>
                simp only []at i
                obtain⟨k,w',M',N,H,X,Y⟩:=jO J none D _ h' i C w1 j .returning U (K.mono s) (LR.mono h2 fun _ _=>kX.mono s) rfl
                refine⟨k,w',M',N,Ext.trans I H,X,Steps.trans (.one B) (Steps.trans k5 (.head (rf l1 rfl) Y))⟩
              | false=>
                simp only []at i
                obtain⟨k,w',M',N,H,X,Y⟩:=jO J (some v0) D _ h' i C w1 j (.panicking [{v:=S,recovered:=false}]) U (K.mono s) (LR.mono h2 fun _ _=>kX.mono s) ⟨S,rfl,ak⟩
                refine⟨k,w',M',N,Ext.trans I H,X,Steps.trans (.one B) (Steps.trans k5 (.head (nw l1 (.inr ⟨S,rfl⟩)) Y))⟩
   next=>cases i

include ok in
theorem z8 {mu:Mu} {h:Hp} {w:World} (C:aJ mu h w) {t:Tr Value} {n:Nat} {tmps:Array Value} (m:iH mu t n tmps): ∀(rs:List ResultVar) (vs:List Value),aU E t h rs=some vs->
 ∃ c,(rs.mapM (fun
   | .tmp t=>pure (tmps.getD t undef)
   | .cell a t=>do loadVar t (<-asAddr (tmps.getD a undef)):ResultVar->Sem Value)).run P w=.ok c w/\VL mu vs c:=by
 have e: ∀a,ao mu (match t.get a with|some v=>v|none=>.tuple #[]) (tmps.getD a undef):=by
  intro a
  cases d:t.get a with
  | none=>
    have:n<=a:=by
     rcases Xf a n with g|g
     . obtain⟨v,o⟩:=Tr.get_some m.sized g;rw [o]at d;cases d
     . exact g
    rw [zN,Xb (by rw [m.size];exact this)]
    exact .tuple rfl (by intro i v p d;simp at d)
  | some v=>
    obtain⟨p,g,o⟩:=m.get a v d
    rw [zN,g];exact o
 intro rs
 induction rs with
 |nil=>intro vs b;cases b;exact⟨[],by simp,LR.nil⟩
 | cons r rs B=>
   intro vs b
   cases r with
   | tmp a=>
     simp only [aU]at b
     cases f:aU E t h rs with
     |none=>rw [f]at b;cases b
     | some l=>
       rw [f]at b
       cases b
       obtain⟨c,q,s⟩:=B l f
       refine⟨tmps.getD a undef::c,?_,LR.cons (e a) s⟩
       simp only [List.mapM_cons,Sem.run_bind,Sem.run_pure,Result.andThen_ok,q]
   | cell a D=>
     simp only [aU]at b
     split at b
     next=>cases b
     next v d=>
      cases f:aU E t h rs with
      |none=>rw [f]at b;cases b
      | some l=>
        rw [f]at b
        cases b
        obtain⟨c,q,s⟩:=B l f
        obtain⟨p,u,F⟩:=vZ (P:=P) ok C d (e a)
        refine⟨p::c,?_,LR.cons F s⟩
        have k: ∃j,tmps.getD a undef=.pointer (some j):=by
         have z: ∀x y,eJ E h D x=some v->ao mu x y-> ∃j,y=.pointer (some j):=by
          intro x y d G
          unfold eJ at d
          cases G<;>(try simp only []at d)<;>first|(cases d;done)|exact⟨_,rfl⟩
         exact z _ _ d (e a)
        obtain⟨j,k⟩:=k
        have A:(asAddr (tmps.getD a undef)).run P w=.ok j w:=by rw [k];simp [asAddr]
        rw [k]at u
        simp only [Instr.loadAt,Instr.sureAddr,Sem.run_bind,Sem.run_pure,Result.andThen_ok]at u
        simp only [List.mapM_cons,Sem.run_bind,A,Sem.run_pure,Result.andThen_ok,u,q]

include ok in
theorem Ac{mu:Mu}{h:Hp}{w:World}(j:aJ mu h w){t:Tr Value}{n:Nat}{tmps:Array Value}(k:iH mu t n tmps){c:Func}{vs:List Value}(l:aU E t h c.results.toList=some vs):
 ∃v',(results c tmps).run P w=.ok v' w/\ao mu (ac vs) v':=by
 obtain⟨b,m,d⟩:=z8 (P:=P) ok j k _ _ l
 have o:(results c tmps).run P w=.ok (if h:b.toArray.size=1 then b.toArray[0]else .tuple b.toArray) w:=by
  unfold results
  rw [Array.mapM_eq_mapM_toList]
  simp only [map_eq_pure_bind,Sem.run_bind]
  refine(congrArg (fun q:Result (List Value)=>(q.andThen fun a e=>(pure a.toArray:Sem (Array Value)).run P e).andThen
   fun a e=>(pure (if h:a.size=1 then a[0]else .tuple a):Sem Value).run P e) m).trans ?_
  simp
 refine⟨_,o,?_⟩
 cases vs with
 | nil=>
   rw [d.nil_left]
   exact .tuple rfl (by intro i v v' p;simp at p)
 | cons v r=>
   obtain⟨v',C,rfl,s,g⟩:=d.cons_left
   cases r with
   | nil=>
     rw [g.nil_left]
     simpa [ac]using s
   | cons D F=>
     obtain⟨x,y,rfl,G,z⟩:=g.cons_left
     simp only [ac,List.size_toArray,List.length_cons]
     rw [dif_neg (by omega)]
     exact .tuple (by simpa using z.1) (fun i u A B f=>d.2 i u A (by simpa using B) (by simpa using f))

include ok hc hcode in
theorem zg : fW E P (jG E R):=by
 intro g d rc h o X h' c
 unfold jG at c
 cases K:E.fn g with
 |none=>rw [K]at c;cases c
 | some f =>
   rw [K]at c
   simp only []at c
   cases hb:f.body with
   |none=>rw [hb]at c;cases c
   | some p =>
     rw [hb]at c
     simp only []at c
     refine⟨⟨f,rfl,by rw [hb];rfl⟩,?_⟩
     intro mu w b z l j hh hg ha ai L
     have hP:=ok.fn g f K
     cases hle:Xj d.length f.ntmps with
     |false=>rw [hle]at c;cases c
     | true =>
       rw [hle]at c
       simp only [cond_true]at c
       have a0:d.length<=f.ntmps:=Nat.le_of_ble_eq_true hle
       have ak:j=.normal\/j=.deferred:=by
        cases z with
        |none=>rcases L with a|a;exact .inl a;exact .inr a.1
        |some y=>exact .inr L.1
       let F:FC:=⟨g,j,none⟩
       have Y:Frame.enter P g b j=F.mk' (b++Xd (f.ntmps-b.size) undef) [] [.code p]:=by
        simp [Frame.enter,hP,hb,FC.mk',F]
       have al:d.length=b.size:=by rw [ha.1];simp
       have M:iH mu ((Tr.blank (.tuple #[]) f.ntmps f.ntmps).setAll 0 d) f.ntmps (b++Xd (f.ntmps-b.size) undef):=by
        refine⟨by simp [al.symm];omega,Tr.sized_setAll 0 d (Tr.sized_blank _ _ _ (Xh _)),fun i v A=>?_⟩
        rw [Tr.get_setAll _ 0 d f.ntmps (Tr.sized_blank _ _ _ (Xh _)) (by omega)]at A
        by_cases hi:i<d.length
        . rw [if_pos ⟨Nat.zero_le _,by omega⟩]at A
          obtain⟨u,g1,g2⟩:=ha.get (i:=i) (by simpa using A)
          exact⟨u,by rw [Array.getElem?_append_left (by omega)];simpa using g1,g2⟩
        . rw [if_neg (by omega),Tr.get_blank _ _ _ (Xh _)]at A
          split at A
          . cases A
            refine⟨undef,?_,.tuple rfl (by intro i v u A;simp at A)⟩
            rw [Array.getElem?_append_right (by omega)]
            rw [Array.getElem?_replicate,if_pos (by omega)]
          . cases A
       have sr:SR P ⟨g,f.ntmps,none⟩ ⟨(Tr.blank (.tuple #[]) f.ntmps f.ntmps).setAll 0 d,[],rc⟩ h mu w F l (b++Xd (f.ntmps-b.size) undef) [] z:=
        ⟨hh,hg,M,LR.nil,ai,L,rfl,trivial,fun e=>absurd rfl e,by show(P.funcs[g]?).isSome=true;rw [hP];rfl⟩
       rw [Y]
       cases N:R.code ⟨g,f.ntmps,none⟩ p ⟨(Tr.blank (.tuple #[]) f.ntmps f.ntmps).setAll 0 d,[],rc⟩ h with
       |none=>rw [N]at c;cases c
       | some q =>
         obtain⟨x,G,h1⟩:=q
         rw [N]at c
         obtain⟨Z,w1,r,B,k,t,e1,r1⟩:=hcode _ _ _ _ _ _ _ N mu w F l _ [] z [] [.code p] sr (.inl rfl)
         have ad: ∀{s:Array Value} {todo:List Item} {m:Mu} {O:Hp} {I:World} {Q:List Value},aJ m O I->iH m G.regs f.ntmps s->aU E G.regs O f.results.toList=some Q->
          ∃u,pX P (F.un s [] todo .returning) I j u/\ao m (ac Q) u:=by
          intro s todo m O I Q ax ay n
          obtain⟨u,g1,g2⟩:=Ac (P:=P) ok ax ay n
          exact⟨u,⟨rfl,rfl,rfl,f,hP,g1⟩,g2⟩
         have C: ∀{todo:List Item},Steps P (lone (F.mk' (b++Xd (f.ntmps-b.size) undef) [] [.code p]) (aH z l) w) (lone (F.mk' r B todo) (aH k l) w1)->(todo=[]\/ ∃k0,todo=.code .ret::k0)->
          (match bR R G.dfs none h1 with
            | some (none,af)=>match aU E G.regs af f.results.toList with
              |none=>none
              |some Q=>some (Out.ret (ac Q),G.rc,af)
            |_=>none)=some (o,X,h')->
          ∃ H w' D fr,aJ H h' w'/\Ext mu h w H h' w'/\oL H X D/\KOk j l D/\
            Steps P (lone (F.mk' (b++Xd (f.ntmps-b.size) undef) [] [.code p]) (aH z l) w) (lone fr (aH D l) w')/\
            CallEnd P fr w' j H o/\fr.fn=g:=by
          intro todo st ht c
          cases S:bR R G.dfs none h1 with
          |none=>rw [S]at c;cases c
          | some q2=>
            obtain⟨m2,O⟩:=q2
            rw [S]at c
            cases m2 with
            |some v=>cases c
            | none=>
              simp only []at c
              obtain⟨m,I,M2,J,V,k3,k4⟩:=jO ok hc (F:=F) (tmps:=r) (todo:=todo) (cs:=aH k l) _ _ _ _ _ S Z w1 B .returning t.hr t.glob t.dfs rfl
              have T:M2=.returning:=k3
              subst T
              have le:=V.le t.hr
              cases n:aU E G.regs O f.results.toList with
              |none=>rw [n]at c;cases c
              | some Q=>
                rw [n]at c
                cases c
                have W:=t.step J le
                obtain⟨u,f1,f2⟩:=ad (todo:=todo) J W.regs n
                exact⟨m,I,k,_,J,Ext.trans e1 V,W.rc,t.ko,Steps.trans st (.head (AH rfl ht) k4),⟨u,f1,f2⟩,rfl⟩
         cases x with
         |exit id=>cases c
         |normal=>exact C r1 (.inl rfl) c
         |ret=>obtain⟨k0,r2⟩:=r1;exact C r2 (.inr ⟨k0,rfl⟩) c
         | pan v =>
           obtain⟨u,todo,A,r2⟩:=r1
           simp only []at c
           cases S:bR R G.dfs (some v) h1 with
           |none=>rw [S]at c;cases c
           | some q2=>
             obtain⟨m2,O⟩:=q2
             rw [S]at c
             obtain⟨m,I,M2,J,V,k3,k4⟩:=jO ok hc (F:=F) (tmps:=r) (todo:=todo) (cs:=aH k l) _ _ _ _ _ S Z w1 B (.panicking [{v:=u,recovered:=false}]) t.hr t.glob t.dfs ⟨u,rfl,A⟩
             have le:=V.le t.hr
             have W:=t.step J le
             cases m2 with
             | some v2=>
               cases c
               obtain⟨U,rfl,aL⟩:=k3
               exact⟨m,I,k,_,J,Ext.trans e1 V,W.rc,t.ko,Steps.trans r2 k4,⟨U,⟨rfl,rfl,rfl,f,hP⟩,aL⟩,rfl⟩
             | none=>
               have T:M2=.returning:=k3
               subst T
               simp only []at c
               cases n:aU E G.regs O f.results.toList with
               |none=>rw [n]at c;cases c
               | some Q=>
                 rw [n]at c
                 cases c
                 obtain⟨U,f1,f2⟩:=ad (todo:=todo) J W.regs n
                 exact⟨m,I,k,_,J,Ext.trans e1 V,W.rc,t.ko,Steps.trans r2 k4,⟨U,f1,f2⟩,rfl⟩

include ok hc hcode in
theorem xY:fW E P (iq E R):=by
 intro g a u h o m C d
 unfold iq at d
 cases n:E.orc g a with
 |none=>rw [n]at d;exact zg ok hc hcode g a u h o m C d
 | some v =>
   rw [n]at d
   cases u with
   |some x=>cases d
   | none =>
     cases d
     obtain⟨p,D,F,G⟩:=ok.orc g a v n
     refine⟨p,?_⟩
     intro y w b q r e z O s t f
     cases q with
     |some x=>exact t.elim
     | none=>
       have c:b=⟨a⟩:=by
        apply Array.ext'
        refine List.ext_getElem? fun i=>?_
        obtain⟨A,j⟩:=s
        rcases Xf i a.length with k|k
        . have l:i<b.toList.length:=by omega
          have H:=j i a[i] b.toList[i] (Xa k) (Xa l)
          have I:cJ a[i]=true:=List.all_eq_true.1 D _ (List.getElem_mem k)
          rw [Xa l,ao.const_eq I H]
          exact(Xa k).symm
        . rw [Xl k,Xl (by omega)]
       subst c
       obtain⟨J,K,B,L,M,N⟩:=G w r e f
       exact⟨y,J,none,K,B.hrel z,B.ext z,trivial,f,L,⟨v,M,ao.const y F⟩,N⟩
end
end Go.Ab

namespace Go.Ab

theorem run_ok{E:Env}{P:Program}(d:EOk E P)(e: ∀R,fW E P R.call->iO P R.code->DrawOk E P R/\tz E P R): ∀n,fW E P (run E n).call/\iO P (run E n).code
 | 0=>by
   constructor
   . intro g args j h o i h' f;cases f
   . intro cx c l h x l' h' f;cases f
 | n+1=>by
   obtain⟨a,b⟩:=run_ok d e n
   exact⟨xY d a b,yo d a b (e _ a b).1 (e _ a b).2⟩

noncomputable def hp0:Hp:={n:=16,t:=Tr.ofList (Xm 16 .dead),lo:=16}
def mu0:Mu:=fun b=>if b<16 then .dead else .none
theorem hrel0(w:World):aJ mu0 hp0 w:=by
 refine⟨?_,?_,?_,?_,?_⟩
 . have:=Tr.sized_ofList (Xm 16 Blk.dead)
   rwa [List.length_replicate]at this
 . intro b c a d h
   unfold mu0 at h;split at h<;>cases h
 . intro b h
   unfold mu0 at h
   split at h
   next e=>
    show(Tr.ofList (Xm 16 Blk.dead)).get b=_
    rw [Tr.get_ofList,List.getElem?_replicate,if_pos e]
   next=>cases h
 . intro b i c a d f g h
   unfold mu0 at h;split at h<;>cases h
 . intro b h
   unfold mu0 at h
   split at h
   next e=>exact e
   next=>exact absurd rfl h
theorem glob0:kI mu0:=by
 intro g a
 unfold eg mu0
 simp [a]

end Go.Ab

namespace Go.Ab

theorem wS{h a:Hp}{b o n:Nat}(e:a.get b=h.get b):h.load b o n=a.load b o n:=by unfold Hp.load;rw [e]

theorem tF {E : Env} {op:Op} {ρ:Operand->Value} (F:cls E op=0\/cls E op=1):
 ∃f:Hp->Option Value,(∀h,aop E ρ h op=cq h (f h))/\(cls E op=0-> ∀h u,f h=f u)/\(∀h u,(∀b,touch ρ op=some b->u.get b=h.get b)->f h=f u):=by
 have z:(∀h,aop E ρ h op=cq h (pop E ρ op))-> ∃f:Hp->Option Value,(∀h,aop E ρ h op=cq h (f h))/\(cls E op=0-> ∀h u,f h=f u)/\(∀h u,(∀b,touch ρ op=some b->u.get b=h.get b)->f h=f u):=
  fun h=>⟨fun _=>pop E ρ op,h,fun _ _ _=>rfl,fun _ _ _=>rfl⟩
 cases op
 case load t a=>
  refine⟨fun h=>eJ E h t (ρ a),fun _=>rfl,fun g=>by simp [cls]at g,fun h u q=>?_⟩
  show eJ E h t (ρ a)=eJ E u t (ρ a)
  unfold eJ
  unfold touch at q
  simp only []at q
  split at q
  next x I=>
   rw [I];simp only []
   have e: ∀o n,h.load x.block o n=u.load x.block o n:=fun o n=>wS (q _ rfl)
   simp only [e]
  next I=>cases D:ρ a<;>rw [D]at I<;>(try rfl);rename_i p;cases p<;>first|rfl|exact absurd rfl (I _)
 case lookup t m k b=>
  refine⟨fun h=>ce E h t (ρ m) (ρ k) b,fun _=>rfl,fun g=>by simp [cls]at g,fun h u q=>?_⟩
  show ce E h t (ρ m) (ρ k) b=ce E u t (ρ m) (ρ k) b
  unfold touch at q
  unfold ce
  simp only []at q
  cases D:ρ m<;>rw [D]at q<;>(try rfl)
  rename_i r
  cases r with
  |none=>rfl
  |some r=>simp only []at q⊢;rw [q r rfl]
 case convert s j x=>
  have A:cls E (.convert s j x)=0-> ∀p,cv E s j=some p->p.1=0:=by
   intro g p i
   unfold cls at g
   unfold cv at i
   simp only []at g
   cases G:E.und s with
   |none=>rw [G]at i;cases i
   | some d=>
     rw [G]at i g
     cases d<;>(try simp only []at i g)<;>(try (cases i;rfl))<;>(try (cases g;done))
     cases H:E.und j with
     |none=>rw [H]at i;cases i
     |some J=>rw [H]at i g;cases J<;>(try simp only []at i g)<;>(try (cases i;rfl))<;>(try (cases g;done))
  have B:cls E (.convert s j x)=1-> ∀p,cv E s j=some p->p.1=0\/p.1=1:=by
   intro g p i
   unfold cls at g
   unfold cv at i
   simp only []at g
   cases G:E.und s with
   |none=>rw [G]at i;cases i
   | some d=>
     rw [G]at i g
     cases d<;>(try simp only []at i g)<;>(try (cases g;done))<;>(try (cases i;exact .inl rfl))
     . cases H:E.und j with
       |none=>rw [H]at i;cases i
       |some J=>rw [H]at i g;cases J<;>(try simp only []at i g)<;>(try (cases g;done))<;>(try (cases i;exact .inl rfl))
     . split at i
       . split at i
         . cases i;exact .inr rfl
         . cases i
       . cases i
  refine⟨fun h=>match cv E s j with
   |some (0,_)=>jx E j (ρ x)
   |some (1,_)=>strOf h (ρ x)
   |_=>none,fun h=>?_,fun g h u=>?_,fun h u q=>?_⟩
  . show cR (jy E h s j (ρ x))=cq h _
    unfold jy
    cases C:cv E s j with
    |none=>rfl
    | some p=>
      obtain⟨n,e⟩:=p
      have K:n=0\/n=1:=by
       rcases F with g|g
       . exact .inl (A g _ C)
       . exact B g _ C
      rcases K with rfl|rfl
      . simp only [];cases jx E j (ρ x)<;>rfl
      . simp only [];cases strOf h (ρ x)<;>rfl
  . cases C:cv E s j with
    |none=>simp only [C]
    | some p=>
      obtain⟨n,e⟩:=p
      have:n=0:=A g _ C
      subst this
      simp only [C]
  . cases C:cv E s j with
    |none=>simp only [C]
    | some p=>
      obtain⟨n,e⟩:=p
      simp only [C]
      match n with
      |0=>rfl
      | 1=>
        show strOf h (ρ x)=strOf u (ρ x)
        unfold touch at q
        simp only []at q
        unfold strOf
        cases D:ρ x<;>rw [D]at q<;>(try rfl)
        rename_i a l c
        cases a with
        |none=>rfl
        |some a=>simp only []at q⊢;rw [wS (q _ rfl)]
      |n+2=>rfl
 case call c =>
  cases w:c.callee with
  |value f=>simp [cls,w]at F
  |invoke r n=>simp [cls,w]at F
  | builtin b =>
    cases b<;>(try (simp [cls,w]at F;done))
    case len =>
     refine ⟨fun h=>match pop E ρ (.call c)with
      |some v=>some v
      | none => match c.args.toList with
        | x ::_=>match ρ x with
          | .map (some r)=>match h.get r with
            | some (.map M _)=>match c.argTypes.toList with
              | t::_=>match E.und t with
                |some (.map _ _)=>some (.int .i64 (.ofNat M.length))
                |_=>none
              |_=>none
            |_=>none
          |_=>none
        |_=>none,fun h=>?_,fun g=>by simp [cls,w]at g,fun h u q=>?_⟩
     . simp only [aop,w]
       cases pop E ρ (.call c)with
       |some v=>rfl
       | none=>
         simp only []
         cases L:c.args.toList with
         |nil=>rfl
         | cons x N=>
           simp only []
           cases D:ρ x<;>(try rfl)
           rename_i r
           cases r with
           |none=>rfl
           | some r=>
             simp only []
             cases P:h.get r with
             |none=>rfl
             | some y=>
               cases y<;>(try rfl)
               cases O:c.argTypes.toList with
               |nil=>rfl
               | cons t Q=>
                 simp only []
                 cases R:E.und t with
                 |none=>rfl
                 |some d=>cases d<;>rfl
     . show _=_
       cases pop E ρ (.call c)with
       |some v=>rfl
       | none=>
         simp only []
         unfold touch at q
         simp only []at q
         cases L:c.args.toList with
         |nil=>rfl
         | cons x N=>
           rw [L]at q
           simp only []at q⊢
           cases D:ρ x<;>rw [D]at q<;>(try rfl)
           rename_i r
           cases r with
           |none=>rfl
           |some r=>simp only []at q⊢;rw [q r rfl]
    all_goals exact z (fun h=>by simp only [aop,w])
 all_goals first
  |exact z (fun _=>rfl)
  |(exfalso;simp [cls]at F;done)

theorem cd{h:Hp}{b a:Nat}{x:Blk}(c:b≠a):(h.put b x).get a=h.get a:=by
 rw [Hp.get_put,if_neg (fun e=>c e.1)]
theorem p6{h:Hp}{b:Nat}{x:Blk}(a:h.t.Sized h.n)(c:b<h.n):(h.new x).get b=h.get b:=by
 rw [Hp.get_new h x a,if_neg (by omega)]
theorem p7{h e:Hp}{b o:Nat}{l:List Value}(a:h.store b o l=some e){c:Nat}(d:b≠c):e.get c=h.get c:=by
 unfold Hp.store at a
 split at a
 . cases f:(_&&_&&_:Bool)<;>rw [f]at a
   . cases a
   . cases a;exact cd d
 . cases a
end Go.Ab

namespace Go.Ab

theorem m8{E:Env}{h:Hp}{t:TypeId}{m k:Value}{r:Nat}{b:List (Value×Value×Nat)}{c:Nat}{el:TypeId}(a:iv E h t m k=some (r,b,c,el)):
 m=.map (some r)/\h.get r=some (.map b c)/\ ∃kt,E.und t=some (.map kt el)/\aP E kt k=true:=by
 unfold iv at a
 split at a
 next kt d e=>
  cases hf:aP E kt k with
  |false=>rw [hf]at a;cases a
  | true=>
    rw [hf]at a
    simp only [cond_true]at a
    split at a
    next i=>
     split at a
     next f j g=>cases a;exact⟨rfl,g,kt,e,hf⟩
     next=>cases a
    next=>cases a
 next=>cases a

theorem w_only {E : Env} {op:Op} {ρ:Operand->Value} {h G:Hp} {nx:c8} (N:h.t.Sized h.n) (w:cls E op=2\/cls E op=5) (l:aop E ρ h op=some (nx,G)):
 ∀b,b<h.n->touch ρ op≠some b->G.get b=h.get b:=by
 intro b O u
 have P: ∀{r:Option (Hp×Value)},cR r=some (nx,G)-> ∃v,r=some (G,v):=by
  intro r A
  cases r with
  |none=>cases A
  |some q=>obtain⟨a,b⟩:=q;cases A;exact⟨b,rfl⟩
 have L: ∀{r:Option Hp},eQ r=some (nx,G)->r=some G:=by
  intro r A
  cases r with
  |none=>cases A
  |some q=>cases A;rfl
 cases op
 case store t a x=>
  have d:=L l
  unfold ii at d
  unfold touch at u
  simp only []at u
  split at d
  next o W=>
   rw [W]at u
   simp only []at u
   have g:o.block≠b:=fun e=>u (by rw [e])
   split at d
   next=>cases d
   next n X=>
    split at d
    next=>cases d
    next v hv=>
     cases H:zM (ah (ρ x)).length n with
     |false=>rw [H]at d;cases d
     |true=>rw [H]at d;exact p7 d g
  next=>cases d
 case mapUpdate t m k v=>
  have d:=L l
  unfold dH at d
  split at d
  next=>cases d
  next r M c el B=>
   obtain⟨C,_,_⟩:=m8 B
   have g:r≠b:=by intro e;subst e;exact u (by unfold touch;simp only [];rw [C])
   split at d
   next=>cases d
   next=>cases d;exact cd g
   next=>cases d;exact cd g
 case insert t m k v=>
  have d:=L l
  unfold dH at d
  split at d
  next=>cases d
  next r M c el B=>
   obtain⟨C,_,_⟩:=m8 B
   have g:r≠b:=by intro e;subst e;exact u (by unfold touch;simp only [];rw [C])
   split at d
   next=>cases d
   next=>cases d;exact cd g
   next=>cases d;exact cd g
 case mapEntry t m k=>
  obtain⟨v,d⟩:=P l
  unfold ic at d
  split at d
  next=>cases d
  next r M c el B=>
   obtain⟨C,_,_⟩:=m8 B
   have g:r≠b:=by intro e;subst e;exact u (by unfold touch;simp only [];rw [C])
   split at d
   next=>cases d
   next=>cases d;exact cd g
   next=>
    split at d
    next=>cases d
    next=>cases d;exact cd g
 case entryStore t m s v=>
  have d:=L l
  unfold ku at d
  split at d
  next r A=>
   have g:r≠b:=by intro e;subst e;exact u (by unfold touch;simp only [];rw [A])
   split at d
   next M c Y=>
    split at d
    next kd i Z=>
     split at d
     next=>cases d
     next n X=>
      split at d
      next=>cases d
      next=>cases d;exact cd g
    next=>cases d
   next=>cases d
  next=>cases d
 case call c =>
  cases p:c.callee with
  |value f=>simp [cls,p]at w
  |invoke r n=>simp [cls,p]at w
  | builtin bi =>
    cases bi<;>(try (simp [cls,p]at w;done))
    case append =>
     simp only [aop,p]at l
     split at l
     next s x S j =>
      obtain⟨v,d⟩:=P l
      unfold cZ at d
      split at d
      next t tx T =>
       split at d
       next =>
        unfold jg at d
        split at d
        next e hu=>
         split at d
         next=>cases d
         next i Z =>
          split at d
          next a z I D=>
           have g: ∀o,a=some o->o.block≠b:=by
            intro o e Q
            subst e
            exact u (by unfold touch;simp only [];rw [j];simp only [];rw [D];simp only [];rw [Q])
           split at d
           next=>cases d
           next n R U=>
            unfold eZ at d
            cases H:Xj (z+n) I with
            | true=>
              rw [H]at d
              simp only [cond_true]at d
              split at d
              next=>cases d;rfl
              next o=>
               split at d
               next=>cases d;rfl
               next=>
                split at d
                next=>cases d
                next V F=>cases d;exact p7 F (g _ rfl)
            | false =>
              rw [H]at d
              simp only [cond_false]at d
              cases J:(Xj ((z+n)*(i.bytes+1)) 70368744177664&&(Xi 0 i.bytes))with
              |false=>rw [J]at d;cases d
              | true =>
                rw [J]at d
                simp only [cond_true]at d
                split at d
                next=>cases d
                next zs hz=>
                 cases K:zM zs.length i.size with
                 |false=>rw [K]at d;cases d
                 | true=>
                   rw [K]at d
                   simp only [cond_true]at d
                   unfold mD at d
                   split at d
                   next=>
                    cases y:zM z 0 with
                    |false=>rw [y]at d;cases d
                    |true=>rw [y]at d;cases d;exact p6 N O
                   next o=>
                    split at d
                    next tr sz el md Y=>
                     split at d
                     next=>cases d
                     next t2 s2 af=>
                      split at d
                      next k' ai=>
                       cases y:(zM k' i.size&& !Nat.beq md 0&&R.all iU)with
                       |false=>rw [y]at d;cases d
                       | true=>
                         rw [y]at d
                         cases d
                         rw [p6 (h:=h.put o.block .dead) (Tr.sized_set _ _ N) O]
                         exact cd (g _ rfl)
                      next=>cases d;exact p6 N O
                    next=>cases d
          next=>cases d
        next=>cases d
       next=>cases d
      next=>cases d
     next=>cases l
    case copy=>
     simp only [aop,p]at l
     split at l
     next s x S j=>
      obtain⟨v,d⟩:=P l
      unfold copyV at d
      split at d
      next t T=>
       split at d
       next e hu=>
        split at d
        next=>cases d
        next k hk=>
         split at d
         next a z I D=>
          have g: ∀o,a=some o->o.block≠b:=by
           intro o e Q
           subst e
           exact u (by unfold touch;simp only [];rw [j];simp only [];rw [D];simp only [];rw [Q])
          split at d
          next=>cases d;rfl
          next=>
           split at d
           next=>cases d
           next=>cases d;rfl
           next=>
            split at d
            next=>cases d
            next o=>
             split at d
             next=>cases d
             next V F=>cases d;exact p7 F (g _ rfl)
          next=>cases d
         next=>cases d
       next=>cases d
      next=>cases d
     next=>cases l
    case delete=>
     simp only [aop,p]at l
     split at l
     next t T m k S ak j=>
      split at l
      next=>cases l
      next V d=>
       cases l
       unfold lq at d
       split at d
       next=>cases d
       next r M c el B=>
        obtain⟨C,_,_⟩:=m8 B
        have g:r≠b:=by intro e;subst e;exact u (by unfold touch;simp only [];rw [j];simp only [];rw [C])
        split at d
        next=>cases d
        next=>cases d;exact cd g
     next=>cases l
 case convert al ax x=>
  exfalso
  unfold cls at w
  simp only []at w
  split at w<;>omega
 all_goals first
  |(exfalso;simp [cls]at w;done)
  |(exfalso;unfold cls at w;simp only []at w;split at w<;>simp at w;done)
end Go.Ab

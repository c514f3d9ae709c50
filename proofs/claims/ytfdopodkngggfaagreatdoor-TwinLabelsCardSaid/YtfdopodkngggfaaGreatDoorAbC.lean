/- A deterministic evaluator of the model's code, and that the model follows it (part 3). -/
import Derived.Test.YtfdopodkngggfaaGreatDoorAbB
import Derived.Calls
import Derived.RowKit3
open Nat renaming beq->zM,lt_or_ge->zR,lor->zS,le_refl->zT,pow->zU,ble->zV,blt->Xa
open List renaming getElem?_eq_getElem->zN,getElem?_eq_none->zX,replicate->zY,range'->Xb
open Array renaming getD_eq_getD_getElem?->zO,getElem?_eq_none->zP,replicate->zQ,getElem?_toList->zW,toList_append->zZ
set_option maxHeartbeats 400000
set_option linter.defProp false
set_option linter.unusedVariables false
set_option linter.unusedSimpArgs false
namespace Go.Ab
noncomputable section

structure Loc where
 regs:Tr Value
 dfs:List Deferred
 rc:Option (Value×Bool)

def Loc.ev(l:Loc):Operand->Value
 | .tmp t=>match l.regs.get t with
   |some v=>v
   |none=>.tuple #[]
 | .const v=>bif cg v then v else poison
 | .global g=>bif Xa g 16 then .pointer (some ⟨g,0,none⟩)else poison
 | .func f=>.func (.func f) #[] #[]
def Loc.put(l:Loc)(d:Option Tmp)(v:Value):Loc:=match d with
 |none=>l
 |some t=>{l with regs:=l.regs.set t v}

inductive Ex where
 |normal
 |exit (id:Nat)
 |ret
 |pan (v:Value)

inductive Out where
 |ret (v:Value)
 |pan (v:Value)

structure Cx where
 fn:FuncId
 nr:Nat
 round:Option Nat

structure Rec where
 call:FuncId->List Value->Option (Value×Bool)->Hp->Option (Out×Option (Value×Bool)×Hp)
 code:Cx->Code->Loc->Hp->Option (Ex×Loc×Hp)

def me(regs:Tr Value):List Tmp->List Value->Option (Tr Value)
 | [],[]=>some regs
 |t::ts,v::vs=>me (regs.set t v) ts vs
 |_,_=>none
def iE (E:Env) (R:Rec) (b:Nat) (args:List Value) (h:Hp):Option (Out×Hp):=match h.get b with
 | some (.loop r)=>bif (E.fn r.fn).isSome then match r.st with
   | 0 =>match me r.regs r.params.toList args with
     |none=>none
     | some regs=>match R.code ⟨r.fn,r.nr,some b⟩ r.assign ⟨regs,[],none⟩ h with
       | some (.normal,l,h1)=>match h1.get b with
         | some (.loop r1)=>match r1.st with
           | 0 =>match R.code ⟨r.fn,r.nr,some b⟩ r.body l (h1.put b (.loop {r1 with st:=1}))with
             | some (.normal,_,h2)=>match h2.get b with
               |some (.loop r2)=>some (.ret (.bool true),h2.put b (.loop {r2 with st:=0,pending:=none}))
               |_=>none
             | some (.exit id,_,h2)=>match h2.get b with
               |some (.loop r2)=>some (.ret (.bool false),h2.put b (.loop {r2 with st:=2,pending:=some (.exit id)}))
               |_=>none
             | some (.ret,_,h2)=>match h2.get b with
               |some (.loop r2)=>some (.ret (.bool false),h2.put b (.loop {r2 with st:=2,pending:=some .ret}))
               |_=>none
             | some (.pan v,l2,h2)=>match l2.dfs with
               | []=>some (.pan v,h2)
               |_=>none
             |none=>none
           |_=>none
         |_=>none
       |_=>none
   |_=>none
   else none
 |_=>none

def bR (ops:List Oper) (regs:Tr Value) (o:Oper):Option Bool:=match o.guard with
 |none=>some true
 | some (j,want)=>match ops[j]? with
   |none=>some false
   | some o'=>match o'.dst with
     |none=>some false
     | some d=>match regs.get d with
       |some (.bool b)=>some (bif b then want else !want)
       |some (.tuple _)=>some false
       |_=>none

def cG(E:Env)(R:Rec):Option (c9×Hp)->Option (Out×Hp)
 |some (.val v,h')=>some (.ret v,h')
 |some (.skip,h')=>some (.ret (.tuple #[]),h')
 | some (.call f args,h')=>match R.call f args none h' with
   |some (x,_,h'')=>some (x,h'')
   |none=>none
 |some (.yield b args,h')=>iE E R b args h'
 |some (.panic v,h')=>some (.pan v,h')
 |some (.recov,_)=>none
 |some (.defer _,_)=>none
 |none=>none
def mb(o:Oper)(l:Loc):Option (Out×Hp)->Option (Ex×Loc×Hp)
 |some (.ret v,h')=>some (.normal,l.put o.dst v,h')
 |some (.pan v,h')=>some (.pan v,l,h')
 |none=>none
def dz(E:Env)(R:Rec)(cx:Cx)(o:Oper)(l:Loc)(h:Hp):Option (Ex×Loc×Hp):=match aop E l.ev h o.op with
 | some (.recov,h')=>match cx.round with
   |some _=>none
   | none=>match l.rc with
     |some (v,false)=>some (.normal,({l with rc:=some (v,true)}:Loc).put o.dst v,h')
     |_=>some (.normal,l.put o.dst .nilIface,h')
 | some (.defer d,h')=>match cx.round with
   |some _=>none
   |none=>some (.normal,({l with dfs:=d::l.dfs}:Loc).put o.dst (.tuple #[]),h')
 |r=>mb o l (cG E R r)

def iL(E:Env)(R:Rec)(cx:Cx)(ops:List Oper):List Oper->Loc->Hp->Option (Ex×Loc×Hp)
 | [],l,h=>some (.normal,l,h)
 | o ::os,l,h=>match bR ops l.regs o with
   |none=>none
   |some false=>iL E R cx ops os (l.put o.dst (.tuple #[])) h
   | some true=>match dz E R cx o l h with
     |some (.normal,l',h')=>iL E R cx ops os l' h'
     |r=>r

def cls(E:Env):Op->Nat
 | .move _| .assign _| .pick .. | .nilCheck _| .binOp .. | .unOp .. | .makeInterface .. | .makeFunc .. | .slice .. | .fieldAddr .. | .field ..
 | .indexAddr .. | .index .. | .extract .. | .build .. | .typeAssert .. =>0
 | .convert src dst _=>match E.und src,E.und dst with
   |some (.slice _),_=>1
   |some .string,some (.slice _)=>4
   |_,_=>0
 | .load .. | .lookup .. =>1
 | .store .. | .insert .. | .mapUpdate .. | .mapEntry .. | .entryStore .. =>2
 | .alloc _| .box .. | .buildSlice .. | .makeSlice .. | .makeMap .. =>4
 | .call c=>match c.callee with
   | .builtin .min| .builtin .max=>0
   | .builtin .len=>1
   | .builtin .delete| .builtin .copy=>2
   | .builtin .append=>5
   |_=>3
 |_=>3
def touch(ρ:Operand->Value):Op->Option Nat
 | .load _ a| .store _ a _=>match ρ a with
   | .pointer (some a)=>some a.block
   |_=>none
 | .lookup _ m _ _| .insert _ m _ _| .mapUpdate _ m _ _| .mapEntry _ m _| .entryStore _ m _ _=>match ρ m with
   | .map r=>r
   |_=>none
 | .convert _ _ x=>match ρ x with
   | .slice (some a) _ _=>some a.block
   |_=>none
 | .call c=>match c.args.toList with
   | x::_=>match ρ x with
     | .map r=>r
     | .slice (some a) _ _=>some a.block
     |_=>none
   |_=>none
 |_=>none
def befs :List Oper->List Nat->Option (List Nat)
 | [],acc=>some acc
 | o ::os,acc=>match(o.after.toList.foldl (fun s e=>match s with
     |none=>none
     | some s=>match e.ground with
       | .textOnly _=>some s
       | .gcOnly _=>some s
       | _=>match acc[acc.length-1-e.on]? with
         |none=>none
         |some m=>bif Xa e.on acc.length then some (zS (zS s (zU 2 e.on)) m)else none) (some 0))with
   |none=>none
   |some s=>befs os (s::acc)
def jb (ops:List Oper) (o:Oper):List Tmp:=
 o.dst.toList++(o.op.operands.toList.filterMap fun x=>match x with| .tmp t=>some t|_=>none)++
  (match o.guard with
    |none=>[]
    | some (j,_)=>match ops[j]? with
      |none=>[]
      |some o'=>o'.dst.toList)
def memb(t:Nat):List Nat->Bool
 | []=>false
 |x::l=>zM t x||memb t l
def qa(ops:List Oper)(o p:Oper):Bool:=
 (match o.dst with|none=>true|some t=>!memb t (jb ops p))&&(match p.dst with|none=>true|some t=>!memb t (jb ops o))
def jc:Op->Op->Bool
 | .mapEntry t _ _,.lookup t' _ _ ok=>!ok&&zM t t'
 |_,_=>false
def dr:Op->Bool
 | .call c=>match c.callee with
   | .builtin _=>false
   |_=>true
 |_=>false
def d6:Op->Bool
 | .alloc _=>true
 |_=>false
def iO (E:Env) (ops:List Oper) (o:Oper) (m n:Nat):List Oper->Nat->Nat×List (Nat×Nat)->Option (Nat×List (Nat×Nat))
 | [],_,r=>some r
 | p ::ps,i,(q,l)=>bif Nat.testBit m i then iO E ops o m n ps (i+1) (q,l)else
   bif qa ops o p then
    match cls E o.op,cls E p.op with
    |0,_=>iO E ops o m n ps (i+1) (q,l)
    |_,0=>iO E ops o m n ps (i+1) (q,l)
    |1,1=>iO E ops o m n ps (i+1) (q,l)
    |2,1=>iO E ops o m n ps (i+1) (q,bif jc o.op p.op then l else(i,n)::l)
    |1,2=>iO E ops o m n ps (i+1) (q,bif jc p.op o.op then l else(i,n)::l)
    |5,1=>iO E ops o m n ps (i+1) (q,(i,n)::l)
    |1,5=>iO E ops o m n ps (i+1) (q,(i,n)::l)
    |3,1=>bif dr o.op then iO E ops o m n ps (i+1) (q,(i,n)::l)else iO E ops o m n ps (i+1) (zS (zU 2 n) q,l)
    |1,3=>bif dr p.op then iO E ops o m n ps (i+1) (q,(i,n)::l)else iO E ops o m n ps (i+1) (zS (zU 2 i) q,l)
    |3,4=>bif dr o.op&&d6 p.op then iO E ops o m n ps (i+1) (q,(i,n)::l)else iO E ops o m n ps (i+1) (zS (zU 2 n) q,l)
    |2,_=>none
    |_,2=>none
    |c,d=>iO E ops o m n ps (i+1)
     (zS (bif zM d 3||zM d 5 then zU 2 i else 0) (zS (bif zM c 3||zM c 5 then zU 2 n else 0) q),l)
   else none
def qF(E:Env)(ops:List Oper):List Oper->List Nat->Nat->Nat×List (Nat×Nat)->Option (Nat×List (Nat×Nat))
 | [],_,_,r=>some r
 | o::os,m::ms,n,r=>match iO E ops o m n (ops.take n) 0 r with
   |none=>none
   |some (q,l)=>qF E ops os ms (n+1) (bif zM (cls E o.op) 4 then zS (zU 2 n) q else q,l)
 |_,[],_,_=>none
def plan(E:Env)(ops:List Oper):Option (Nat×List (Nat×Nat)):=match befs ops []with
 |none=>none
 |some ms=>qF E ops ops ms.reverse 0 (0,[])

def tmpsOf:List Operand->List Tmp
 | []=>[]
 | .tmp t::l=>t::tmpsOf l
 |_::l=>tmpsOf l
def Loc.evD(l:Loc)(ts:List Tmp):Operand->Value
 | .tmp t=>bif memb t ts then l.ev (.tmp t)else poison
 |x=>l.ev x
def er(E:Env)(q i:Nat)(o:Op):Bool:=Nat.testBit q i&&zV 3 (cls E o)
def ct(E:Env)(R:Rec)(ρ:Operand->Value)(quiet:Bool)(o:Oper)(h:Hp):Option (Value×Hp):=
 bif quiet then
  match cG E R (aop E ρ {h with lo:=h.n} o.op)with
  |some (.ret v,h')=>bif zV h.n h'.lo then some (v,{h' with lo:=h.lo})else none
  |_=>none
 else match cG E R (aop E ρ h o.op)with
  |some (.ret v,h')=>some (v,h')
  |_=>none
inductive Tch where
 |blk (b:Nat)
 |run (h h':Hp)
def iP(ρ:Operand->Value)(op:Op)(h:Hp):Option Nat:=bif d6 op then some h.n else touch ρ op
def cb(ρ:Operand->Value)(quiet:Bool)(op:Op)(h h':Hp):Option Tch:=
 bif dr op then(bif quiet then none else some (.run h h'))else match iP ρ op h with
  |none=>none
  |some b=>some (.blk b)
def gU(i:Nat)(tr:List (Nat×Tch)):Option Tch->List (Nat×Tch)
 |none=>tr
 |some b=>(i,b)::tr
def dO(E:Env)(R:Rec)(ops:List Oper)(q:Nat):List Oper->Nat->Loc->Hp->List (Nat×Tch)->Option (Loc×Hp×List (Nat×Tch))
 | [],_,l,h,tr=>some (l,h,tr)
 | o ::os,i,l,h,tr=>match bR ops l.regs o with
   |none=>none
   |some false=>dO E R ops q os (i+1) (l.put o.dst (.tuple #[])) h tr
   | some true=>match ct E R (l.evD (tmpsOf o.op.operands.toList)) (er E q i o.op) o h with
     |none=>none
     |some (v,h')=>dO E R ops q os (i+1) (l.put o.dst v) h' (gU i tr (cb (l.evD (tmpsOf o.op.operands.toList)) (er E q i o.op) o.op h h'))
def bQ(i:Nat):List (Nat×Tch)->Option Tch
 | []=>none
 |(k,b)::l=>bif zM i k then some b else bQ i l
def sameAddr(a b:Addr):Bool:=zM a.block b.block&&zM a.off b.off&&(match a.spot,b.spot with
 |none,none=>true
 |some i,some j=>zM i j
 |_,_=>false)
def oQ(a b:Value):Bool:=match cq a b with
 |some t=>t
 | none=>match a,b with
   | .pointer none,.pointer none=>true
   | .pointer (some x),.pointer (some y)=>sameAddr x y
   | .slice none n m,.slice none n' m'=>zM n n'&&zM m m'
   | .slice (some x) n m,.slice (some y) n' m'=>sameAddr x y&&(zM n n'&&zM m m')
   | .map none,.map none=>true
   | .map (some x),.map (some y)=>zM x y
   | .nilFunc,.nilFunc=>true
   | .nilIface,.nilIface=>true
   |_,_=>false
def qw:List Value->List Value->Bool
 | [],[]=>true
 |x::l,y::m=>oQ x y&&qw l m
 |_,_=>false
def sq(a b:Value):Bool:=match a,b with
 | .func (.func g) x y,.func (.func g') x' y'=>zM g g'&&(qw x.toList x'.toList&&qw y.toList y'.toList)
 | .iface t x,.iface t' y=>zM t t'&&oQ x y
 |_,_=>oQ a b
def sameT:Tr Value->Tr Value->Bool
 | .nil,.nil=>true
 | .node x l r,.node x' l' r'=>sq x x'&&(sameT l l'&&sameT r r')
 |_,_=>false
def sameE:List (Value×Value×Nat)->List (Value×Value×Nat)->Bool
 | [],[]=>true
 |(k,x,n)::l,(k',y,m)::l'=>oQ k k'&&(sq x y&&(zM n m&&sameE l l'))
 |_,_=>false
def sameB(x y:Blk):Bool:=(match x,y with
 | .cells t n e m,.cells t' n' e' m'=>sameT t t'&&(zM n n'&&(zM e e'&&zM m m'))
 | .map es c,.map es' c'=>zM c c'&&sameE es es'
 |_,_=>false)|| @decide (x=y) (Classical.propDecidable _)
def leaves(h h':Hp)(b:Nat):Bool:=match h.get b,h'.get b with
 |some x,some y=>sameB x y
 |none,none=>true
 |_,_=>false
def iT:Option Tch->Option Tch->Bool
 |some (.blk a),some (.blk b)=>!Nat.beq a b
 |some (.blk a),some (.run h h')=>leaves h h' a
 |some (.run h h'),some (.blk a)=>leaves h h' a
 |some (.run _ _),some (.run _ _)=>false
 |_,_=>true
def d9(tr:List (Nat×Tch)):List (Nat×Nat)->Bool
 | []=>true
 |(i,j)::l=>iT (bQ i tr) (bQ j tr)&&d9 tr l

def qc(o:Oper):Bool:=d6 o.op&&o.guard.isNone
def freeAt(ops:List Oper)(i:Nat):Bool:=match ops[i]? with
 |some o=>qc o
 |none=>false
def ordL(ops:List Oper):List Nat:=(List.range ops.length).filter (freeAt ops)++(List.range ops.length).filter fun i=>!freeAt ops i
def fZ(i:Nat):List Nat->Nat
 | []=>0
 |x::l=>bif zM i x then 0 else fZ i l+1
def reix(ord:List Nat)(o:Oper):Oper:={o with after:=o.after.map fun e=>{e with on:=fZ e.on ord},guard:=match o.guard with
 |none=>none
 |some (j,w)=>some (fZ j ord,w)}
def gk(ops:List Oper)(ord:List Nat):List Nat->List Oper
 | []=>[]
 | i::l=>match ops[i]? with
   |none=>gk ops ord l
   |some o=>reix ord o::gk ops ord l
def oN(n:Nat)(o:Oper):Bool:=match o.guard with
 |none=>true
 |some (j,_)=>Xa j n
def eh(ops:List Oper):List Oper:=bif ops.any qc&&ops.all (oN ops.length)then gk ops (ordL ops) (ordL ops)else ops

def ib (R:Rec) (cx:Cx) (f:Value) (params:Array Tmp) (assign body:Code) (l:Loc) (h:Hp):Option (Ex×Loc×Hp):=
 match f with
 | .func (.func g) a b=>
   match(match cx.round with
    |none=>some (h.new .dfr,h.n,({target:=.collected h.n,args:=#[]}:Deferred)::l.dfs)
    | some r=>match h.get r with
      |some (.loop x)=>some (h,x.defers,l.dfs)
      |_=>none)with
   |none=>none
   | some (h1,d,dfs)=>
     match R.call g (a.toList++[.func (.yield h1.n) #[] #[]]++b.toList) none
      (h1.new (.loop {fn:=cx.fn,regs:=l.regs,nr:=cx.nr,params,assign,body,st:=0,pending:=none,defers:=d}))with
     |none=>none
     |some (.pan v,_,h2)=>some (.pan v,{l with dfs:=dfs},h2)
     | some (.ret _,_,h2)=>match h2.get h1.n with
       | some (.loop x)=>match x.st with
         |1=>none
         | _=>match x.pending with
           |none=>some (.normal,{l with dfs:=dfs},h2.put h1.n .dead)
           |some (.exit id)=>some (.exit id,{l with dfs:=dfs},h2.put h1.n .dead)
           |some .ret=>some (.ret,{l with dfs:=dfs},h2.put h1.n .dead)
           |_=>none
       |_=>none
 |_=>none

def aE (E:Env) (R:Rec) (cx:Cx):Code->Loc->Hp->Option (Ex×Loc×Hp)
 | .skip,l,h=>some (.normal,l,h)
 | .label _,l,h=>some (.normal,l,h)
 | .region _ ops draw,l,h=>bif draw then
  match plan E (eh ops.toList)with
  |none=>none
  | some (q,ps)=>match dO E R (eh ops.toList) q (eh ops.toList) 0 l h []with
    |none=>none
    |some (l',h',tr)=>bif d9 tr ps then some (.normal,l',h')else none
   else iL E R cx ops.toList ops.toList l h
 | .seq a b,l,h=>match aE E R cx a l h with
   |some (.normal,l',h')=>aE E R cx b l' h'
   |r=>r
 | .cond c a b,l,h=>match l.ev c with
   | .bool t=>bif t then aE E R cx a l h else aE E R cx b l h
   |_=>none
 | .block id b,l,h=>match aE E R cx b l h with
   |some (.exit i,l',h')=>bif zM i id then some (.normal,l',h')else some (.exit i,l',h')
   |r=>r
 | .loop b,l,h=>match aE E R cx b l h with
   |some (.normal,l',h')=>R.code cx (.loop b) l' h'
   |r=>r
 | .rangeFunc f params assign body,l,h=>ib R cx (l.ev f) params assign body l h
 | .exit id,l,h=>some (.exit id,l,h)
 | .scope b,l,h=>aE E R cx b l h
 | .goto _,_,_=>none
 | .ret,l,h=>some (.ret,l,h)
 | .refuse _,_,_=>none

def bw (R:Rec):List Deferred->Option Value->Hp->Option (Option Value×Hp)
 | [],m,h=>some (m,h)
 | d ::ds,m,h=>match d.target with
   | .collected b=>match h.get b with
     |some .dfr=>bw R ds m (h.put b .dead)
     |_=>none
   | .fn (.func f) cap=>match R.call f (d.args.toList++cap.toList) (match m with|none=>none|some v=>some (v,false)) h with
     | some (.ret _,rc,h')=>match m,rc with
       |none,none=>bw R ds none h'
       |some _,some (_,true)=>bw R ds none h'
       |some _,some (v,false)=>bw R ds (some v) h'
       |_,_=>none
     |_=>none
   |_=>none
def aT(E:Env)(regs:Tr Value)(h:Hp):List ResultVar->Option (List Value)
 | []=>some []
 | .tmp t::rs=>match aT E regs h rs with
   |none=>none
   |some l=>some ((match regs.get t with|some v=>v|none=>.tuple #[])::l)
 | .cell a t::rs=>match eo E h t (match regs.get a with|some v=>v|none=>.tuple #[])with
   |none=>none
   | some v=>match aT E regs h rs with
     |none=>none
     |some l=>some (v::l)
def ac:List Value->Value
 | [v]=>v
 |l=>.tuple ⟨l⟩
def ju (E:Env) (R:Rec) (f:FuncId) (args:List Value) (rc:Option (Value×Bool)) (h:Hp):Option (Out×Option (Value×Bool)×Hp):=
 match E.fn f with
 |none=>none
 | some fn=>match fn.body with
   |none=>none
   | some body=>
     bif zV args.length fn.ntmps then
     match R.code ⟨f,fn.ntmps,none⟩ body ⟨(Tr.blank (.tuple #[]) fn.ntmps fn.ntmps).setAll 0 args,[],rc⟩ h with
     |none=>none
     |some (.exit _,_,_)=>none
     | some (.pan v,l,h')=>match bw R l.dfs (some v) h' with
       |none=>none
       |some (some v,h'')=>some (.pan v,l.rc,h'')
       | some (none,h'')=>match aT E l.regs h'' fn.results.toList with
         |none=>none
         |some vs=>some (.ret (ac vs),l.rc,h'')
     | some (_,l,h')=>match bw R l.dfs none h' with
       | some (none,h'')=>match aT E l.regs h'' fn.results.toList with
         |none=>none
         |some vs=>some (.ret (ac vs),l.rc,h'')
       |_=>none
     else none

def ig(E:Env)(R:Rec)(f:FuncId)(args:List Value)(rc:Option (Value×Bool))(h:Hp):Option (Out×Option (Value×Bool)×Hp):=
 match E.orc f args with
 |none=>ju E R f args rc h
 | some v=>match rc with
   |none=>some (.ret v,none,h)
   |some _=>none

def next(E:Env)(R:Rec):Rec:={call:=ig E R,code:=aE E R}
def bot:Rec:={call:=fun _ _ _ _=>none,code:=fun _ _ _ _=>none}
def run(E:Env):Nat->Rec
 |0=>bot
 |n+1=>next E (run E n)
end
end Go.Ab

namespace Go.Ab

structure FC where
 fn:FuncId
 kind:CallKind
 round:Option Nat
def FC.mk'(F:FC)(tmps:Array Value)(dfs:List Deferred)(todo:List Item):Frame:=
 {fn:=F.fn,tmps,todo,defers:=dfs,mode:=.run,kind:=F.kind,roundOf:=F.round}

section steps
variable{P:Program}{F:FC}{tmps:Array Value}{dfs:List Deferred}{k:List Item}{cs:List Frame}{w:World}

theorem st_skip:step P (lone (F.mk' tmps dfs (.code .skip::k)) cs w)=.next (lone (F.mk' tmps dfs k) cs w):=step_lone_go (by simp [stepG,stepG.exec,FC.mk'])
theorem st_label{l:Nat}:step P (lone (F.mk' tmps dfs (.code (.label l)::k)) cs w)=.next (lone (F.mk' tmps dfs k) cs w):=step_lone_go (by simp [stepG,stepG.exec,FC.mk'])
theorem yU{id:Nat}:step P (lone (F.mk' tmps dfs (.inBlock id::k)) cs w)=.next (lone (F.mk' tmps dfs k) cs w):=step_lone_go (by simp [stepG,stepG.exec,FC.mk'])
theorem zg{b:Code}:step P (lone (F.mk' tmps dfs (.inScope b::k)) cs w)=.next (lone (F.mk' tmps dfs k) cs w):=step_lone_go (by simp [stepG,stepG.exec,FC.mk'])
theorem st_seq{a b:Code}:step P (lone (F.mk' tmps dfs (.code (.seq a b)::k)) cs w)=.next (lone (F.mk' tmps dfs (.code a:: .code b::k)) cs w):=step_lone_go (by simp [stepG,stepG.exec,FC.mk'])
theorem st_block{id:Nat}{b:Code}:step P (lone (F.mk' tmps dfs (.code (.block id b)::k)) cs w)=.next (lone (F.mk' tmps dfs (.code b:: .inBlock id::k)) cs w):=step_lone_go (by simp [stepG,stepG.exec,FC.mk'])
theorem st_loop{b:Code}:step P (lone (F.mk' tmps dfs (.code (.loop b)::k)) cs w)=.next (lone (F.mk' tmps dfs (.code b:: .inLoop b::k)) cs w):=step_lone_go (by simp [stepG,stepG.exec,FC.mk'])
theorem st_inLoop{b:Code}:step P (lone (F.mk' tmps dfs (.inLoop b::k)) cs w)=.next (lone (F.mk' tmps dfs (.code b:: .inLoop b::k)) cs w):=step_lone_go (by simp [stepG,stepG.exec,FC.mk'])
theorem st_scope{b:Code}:step P (lone (F.mk' tmps dfs (.code (.scope b)::k)) cs w)=.next (lone (F.mk' tmps dfs (.code b:: .inScope b::k)) cs w):=step_lone_go (by simp [stepG,stepG.exec,FC.mk'])
theorem st_exit{id:Nat}{k':List Item}(h:exitTo id k=some k'):step P (lone (F.mk' tmps dfs (.code (.exit id)::k)) cs w)=.next (lone (F.mk' tmps dfs k') cs w):=step_lone_go (by simp [stepG,stepG.exec,FC.mk',h])
theorem st_region{id:Nat}{ops:Array Oper}:step P (lone (F.mk' tmps dfs (.code (.region id ops false)::k)) cs w)=.next (lone (F.mk' tmps dfs (.inRegion ops (List.range ops.size)::k)) cs w):=step_lone_go (by simp [stepG,stepG.exec,FC.mk'])
theorem tI{id:Nat}{ops:Array Oper}:step P (lone (F.mk' tmps dfs (.code (.region id ops true)::k)) cs w)=
 .next (lone (F.mk' tmps dfs (.inRegion ops (Region.schedule (P.follows .mixedOrders) ops (w.tape w.drawn (.order F.fn id)))::k)) cs {w with drawn:=w.drawn+1}):=
 step_lone_go (by simp [stepG,stepG.exec,FC.mk',choose,Sem.run,Question.forced,Question.cut])
theorem pQ{ops:Array Oper}:step P (lone (F.mk' tmps dfs (.inRegion ops []::k)) cs w)=.next (lone (F.mk' tmps dfs k) cs w):=step_lone_go (by simp [stepG,stepG.exec,FC.mk'])

def c7(tmps:Array Value):Operand->Value
 | .tmp t=>tmps.getD t undef
 | .const v=>v
 | .global g=>.pointer (some ⟨g,0,none⟩)
 | .func f=>.func (.func f) #[] #[]
theorem tM(todo:List Item):(F.mk' tmps dfs todo).eval=c7 tmps:=by funext x;cases x<;>rfl
theorem st_cond{c:Operand}{a b:Code}{t:Bool}(h:c7 tmps c=.bool t):step P (lone (F.mk' tmps dfs (.code (.cond c a b)::k)) cs w)=.next (lone (F.mk' tmps dfs (.code (if t then a else b)::k)) cs w):=
 step_lone_go (by
  have:=congrFun (tM (F:=F) (tmps:=tmps) (dfs:=dfs) (.code (.cond c a b)::k)) c
  simp only [FC.mk']at this
  simp [stepG,stepG.exec,FC.mk',this,h])

def eQ(tmps:Array Value)(d:Option Tmp)(v:Value):Array Value:=match d with
 |some d=>tmps.setIfInBounds d v
 |none=>tmps
theorem jt{ops:Array Oper}{i:Nat}{rest:List Nat}(v:Value):(F.mk' tmps dfs (.inRegion ops (i::rest)::k)).finish v=F.mk' (eQ tmps ((ops[i]?).bind (·.dst)) v) dfs (.inRegion ops rest::k):=by
 cases h:(ops[i]?).bind (·.dst)<;>simp [Frame.finish,FC.mk',eQ,h]
theorem sf{ops:Array Oper}{i:Nat}{rest:List Nat}(h:((ops[i]?).map (Region.wanted · (yielded ops tmps))).getD false=false):
 step P (lone (F.mk' tmps dfs (.inRegion ops (i::rest)::k)) cs w)=.next (lone (F.mk' (eQ tmps ((ops[i]?).bind (·.dst)) undef) dfs (.inRegion ops rest::k)) cs w):=by
 rw [<-jt]
 exact step_lone_go (by
  have h':=h
  simp only [FC.mk']at*
  simp [stepG,stepG.exec,h'])
theorem mi{ops:Array Oper}{i:Nat}{rest:List Nat}{o:Oper}(ho:ops[i]? =some o)(hw:Region.wanted o (yielded ops tmps)=true)(hd:F.round=none\/ ∀c,o.op≠ .defer c):
 stepG P true {frame:=F.mk' tmps dfs (.inRegion ops (i::rest)::k),callers:=cs,status:=.running,dying:=none} w=
  stepG.apply P true (F.mk' tmps dfs (.inRegion ops (i::rest)::k)) cs none (execOp (c7 tmps) o) w:=by
 have he:=tM (F:=F) (tmps:=tmps) (dfs:=dfs) (.inRegion ops (i::rest)::k)
 simp only [FC.mk']at he
 rcases hd with hd|hd
 . rw [hd]at he
   simp [stepG,stepG.exec,stepG.oper,Frame.oper?,FC.mk',ho,hw,hd]
   rw [he]
 . simp only [stepG,stepG.exec,stepG.oper,Frame.oper?,FC.mk',ho,hw,Option.map_some,Option.getD_some,if_true,he]
   cases F.round with
   |none=>rfl
   | some l=>
     obtain⟨dst,op,ty,pos,af,g⟩:=o
     cases op<;>first|rfl|exact absurd rfl (hd _)

section op
variable{ops:Array Oper}{i:Nat}{rest:List Nat}{o:Oper}{w':World}
theorem wd(ho:ops[i]? =some o)(hw:Region.wanted o (yielded ops tmps)=true)(hd:F.round=none\/ ∀c,o.op≠ .defer c){v:Value}(hr:(execOp (c7 tmps) o).run P w=.ok (.value v) w'):
 step P (lone (F.mk' tmps dfs (.inRegion ops (i::rest)::k)) cs w)=.next (lone (F.mk' (eQ tmps o.dst v) dfs (.inRegion ops rest::k)) cs w'):=by
 have:F.mk' (eQ tmps o.dst v) dfs (.inRegion ops rest::k)=(F.mk' tmps dfs (.inRegion ops (i::rest)::k)).finish v:=by rw [jt,ho];rfl
 rw [this]
 exact step_lone_go (by rw [mi ho hw hd];simp [stepG.apply,hr])
theorem st_opskip(ho:ops[i]? =some o)(hw:Region.wanted o (yielded ops tmps)=true)(hd:F.round=none\/ ∀c,o.op≠ .defer c)(hr:(execOp (c7 tmps) o).run P w=.ok .skip w'):
 step P (lone (F.mk' tmps dfs (.inRegion ops (i::rest)::k)) cs w)=.next (lone (F.mk' (eQ tmps o.dst undef) dfs (.inRegion ops rest::k)) cs w'):=by
 have:F.mk' (eQ tmps o.dst undef) dfs (.inRegion ops rest::k)=(F.mk' tmps dfs (.inRegion ops (i::rest)::k)).finish undef:=by rw [jt,ho];rfl
 rw [this]
 exact step_lone_go (by rw [mi ho hw hd];simp [stepG.apply,hr])
theorem st_enter(ho:ops[i]? =some o)(hw:Region.wanted o (yielded ops tmps)=true)(hd:F.round=none\/ ∀c,o.op≠ .defer c){f:FuncId}{args:Array Value}(hr:(execOp (c7 tmps) o).run P w=.ok (.enter f args) w'):
 step P (lone (F.mk' tmps dfs (.inRegion ops (i::rest)::k)) cs w)=.next (lone (Frame.enter P f args .normal) (F.mk' tmps dfs (.inRegion ops (i::rest)::k)::cs) w'):=
 step_lone_go (by rw [mi ho hw hd];simp [stepG.apply,hr,FC.mk'])
theorem st_round(ho:ops[i]? =some o)(hw:Region.wanted o (yielded ops tmps)=true)(hd:F.round=none\/ ∀c,o.op≠ .defer c){l:Nat}{f:FuncId}{tm:Array Value}{a b:Code}(hr:(execOp (c7 tmps) o).run P w=.ok (.round l f tm a b) w'):
 step P (lone (F.mk' tmps dfs (.inRegion ops (i::rest)::k)) cs w)=.next (lone (Frame.round l f tm a b .normal) (F.mk' tmps dfs (.inRegion ops (i::rest)::k)::cs) w'):=
 step_lone_go (by rw [mi ho hw hd];simp [stepG.apply,hr,FC.mk'])
theorem st_defer(ho:ops[i]? =some o)(hw:Region.wanted o (yielded ops tmps)=true)(hd:F.round=none){d:Deferred}(hr:(execOp (c7 tmps) o).run P w=.ok (.defer d) w'):
 step P (lone (F.mk' tmps dfs (.inRegion ops (i::rest)::k)) cs w)=.next (lone (F.mk' (eQ tmps o.dst undef) (d::dfs) (.inRegion ops rest::k)) cs w'):=by
 have:F.mk' (eQ tmps o.dst undef) (d::dfs) (.inRegion ops rest::k)=(F.mk' tmps (d::dfs) (.inRegion ops (i::rest)::k)).finish undef:=by rw [jt,ho];rfl
 rw [this]
 exact step_lone_go (by rw [mi ho hw (.inl hd)];simp [stepG.apply,hr,FC.mk'])
theorem st_panic(ho:ops[i]? =some o)(hw:Region.wanted o (yielded ops tmps)=true)(hd:F.round=none\/ ∀c,o.op≠ .defer c){v:Value}(hr:(execOp (c7 tmps) o).run P w=.halt (.panic v) w'):
 step P (lone (F.mk' tmps dfs (.inRegion ops (i::rest)::k)) cs w)=.next (lone {F.mk' tmps dfs (.inRegion ops (i::rest)::k)with mode:=.panicking [{v,recovered:=false}]} cs w'):=
 step_lone_go (by rw [mi ho hw hd];simp [stepG.apply,hr,Frame.raise,FC.mk'])
theorem tB(ho:ops[i]? =some o)(hw:Region.wanted o (yielded ops tmps)=true)(hd:F.round=none)(hr:(execOp (c7 tmps) o).run P w=.ok .recover w')
 (ht:tryRecover (F.mk' tmps dfs (.inRegion ops (i::rest)::k)) cs=none):
 step P (lone (F.mk' tmps dfs (.inRegion ops (i::rest)::k)) cs w)=.next (lone (F.mk' (eQ tmps o.dst .nilIface) dfs (.inRegion ops rest::k)) cs w'):=by
 have:F.mk' (eQ tmps o.dst .nilIface) dfs (.inRegion ops rest::k)=(F.mk' tmps dfs (.inRegion ops (i::rest)::k)).finish .nilIface:=by rw [jt,ho];rfl
 rw [this]
 have hro:(F.mk' tmps dfs (.inRegion ops (i::rest)::k)).roundOf=none:=hd
 exact step_lone_go (by rw [mi ho hw (.inl hd)];simp [stepG.apply,hr,hro,ht])
theorem sJ(ho:ops[i]? =some o)(hw:Region.wanted o (yielded ops tmps)=true)(hd:F.round=none)(hr:(execOp (c7 tmps) o).run P w=.ok .recover w'){v:Value}{cs':List Frame}
 (ht:tryRecover (F.mk' tmps dfs (.inRegion ops (i::rest)::k)) cs=some (v,cs')):
 step P (lone (F.mk' tmps dfs (.inRegion ops (i::rest)::k)) cs w)=.next (lone (F.mk' (eQ tmps o.dst v) dfs (.inRegion ops rest::k)) cs' w'):=by
 have:F.mk' (eQ tmps o.dst v) dfs (.inRegion ops rest::k)=(F.mk' tmps dfs (.inRegion ops (i::rest)::k)).finish v:=by rw [jt,ho];rfl
 rw [this]
 have hro:(F.mk' tmps dfs (.inRegion ops (i::rest)::k)).roundOf=none:=hd
 exact step_lone_go (by rw [mi ho hw (.inl hd)];simp [stepG.apply,hr,hro,ht])
end op

structure LeaveP(P:Program)(fr:Frame)(kind:CallKind)(v:Value):Prop where
 mode:fr.mode=.panicking [{v,recovered:=false}]
 defers:fr.defers=[]
 kind:fr.kind=kind
 fn: ∃fn,P.funcs[fr.fn]? =some fn
theorem vu{fr c:Frame}{v:Value}(h:oH P fr w .normal v):step P (lone fr (c::cs) w)=.next (lone (c.finish v) cs w):=by
 obtain⟨fn,hf,hr⟩:=h.res
 exact step_lone_go (by simp [stepG,unwind,doReturn,h.mode,h.defers,h.kind,hf,hr])
theorem lg{fr c:Frame}{kind:CallKind}{v:Value}(h:LeaveP P fr kind v):step P (lone fr (c::cs) w)=.next (lone (c.raise [{v,recovered:=false}]) cs w):=by
 obtain⟨fn,hf⟩:=h.fn
 exact step_lone_go (by simp [stepG,unwind,Frame.catches,h.mode,h.defers,hf])
end steps
end Go.Ab

namespace Go.Ab
section
variable{P:Program}{F:FC}{tmps:Array Value}{dfs:List Deferred}{k:List Item}{cs:List Frame}{w:World}

def setW(w:World)(c:Nat)(o:Obj):World:={w with heap:=w.heap.setIfInBounds c o}
def Plain:Obj->Prop
 | .cells .. =>False
 |_=>True
theorem mL{c:Nat}{o q:Obj}(hw:w.heap[c]? =some q)(hq:Plain q):(setObj c o).run P w=.ok () (setW w c o):=by
 cases q<;>first|exact hq.elim|simp [setObj,Sem.run,hw,setW]
theorem te{c:Nat}{q:Obj}(hw:w.heap[c]? =some q)(hq:Plain q):(getObj c).run P w=.ok q w:=by
 cases q<;>first|exact hq.elim|simp [getObj,Sem.run,hw]
theorem jQ{c:Nat}{r:Loop}(hw:w.heap[c]? =some (.loop r)):(Instr.getLoop c).run P w=.ok r w:=by
 unfold Instr.getLoop
 simp only [Sem.run_bind,te hw trivial,Result.andThen_ok,Sem.run_pure]
theorem ub{c:Nat}{r:Loop}(hw:w.heap[c]? =some (.loop r))(hs:r.state=.ready):
 (Instr.beginRound c).run P w=.ok () (setW w c (.loop {r with state:=.busy})):=by
 unfold Instr.beginRound
 simp only [Sem.run_bind,jQ hw,Result.andThen_ok,mL hw trivial,hs,Sem.run_pure]
theorem wR{c:Nat}{r:Loop}(hw:w.heap[c]? =some (.loop r))(jump:Option Code):
 (Instr.endRound c jump).run P w=.ok (.bool jump.isNone) (setW w c (.loop {r with state:=if jump.isNone then .ready else .done,pending:=jump})):=by
 unfold Instr.endRound
 simp only [Sem.run_bind,jQ hw,Result.andThen_ok,mL hw trivial,Sem.run_pure]
theorem xK{c:Nat}{r:Loop}(hw:w.heap[c]? =some (.loop r))(hs:r.state≠ .busy):
 (Instr.endLoop c).run P w=.ok r.pending (setW w c (.loop {r with state:=.exhausted})):=by
 unfold Instr.endLoop
 have:(r.state==LoopState.busy)=false:=by cases h:r.state<;>simp_all<;>rfl
 simp only [Sem.run_bind,jQ hw,Result.andThen_ok,this,Bool.false_eq_true,if_false,mL hw trivial,Sem.run_pure]
theorem rK{c:Nat}{ds:List Deferred}(hw:w.heap[c]? =some (.deferred (some ds))):
 (Instr.takeDeferred c).run P w=.ok ds (setW w c (.deferred none)):=by
 unfold Instr.takeDeferred
 simp only [Sem.run_bind,te hw trivial,Result.andThen_ok,mL hw trivial,Sem.run_pure]

theorem uR{c:Nat}(hF:F.round=some c){r:Loop}(hw:w.heap[c]? =some (.loop r))(hs:r.state=.ready):
 step P (lone (F.mk' tmps dfs (.beginRound::k)) cs w)=.next (lone (F.mk' tmps dfs k) cs (setW w c (.loop {r with state:=.busy}))):=by
 refine step_lone_go ?_
 have h1:=ub (P:=P) hw hs
 simp [stepG,stepG.exec,stepG.apply,FC.mk',hF,h1,Frame.finish]
def wl(todo:List Item)(jump:Option Code):Prop:=
 (todo=[]/\jump=none)\/(∃k0,todo=.code .ret::k0/\jump=some .ret)\/(∃id k0,todo=.code (.exit id)::k0/\exitTo id k0=none/\jump=some (.exit id))
theorem uX{c:Nat}(hF:F.round=some c)(hk:F.kind=.normal){r:Loop}(hw:w.heap[c]? =some (.loop r)){todo:List Item}{jump:Option Code}(ht:wl todo jump){c0:Frame}:
 step P (lone (F.mk' tmps dfs todo) (c0::cs) w)=
  .next (lone (c0.finish (.bool jump.isNone)) cs (setW w c (.loop {r with state:=if jump.isNone then .ready else .done,pending:=jump}))):=by
 refine step_lone_go ?_
 have h1:=wR (P:=P) hw jump
 rcases ht with⟨rfl,rfl⟩|⟨k0,rfl,rfl⟩|⟨id,k0,rfl,he,rfl⟩
 . simp [stepG,stepG.exec,FC.mk',hF,h1,doReturn,hk]
 . simp [stepG,stepG.exec,FC.mk',hF,h1,doReturn,hk]
 . simp [stepG,stepG.exec,FC.mk',hF,h1,doReturn,hk,he]
theorem zo(hF:F.round=none){todo:List Item}(ht:todo=[]\/ ∃k0,todo=.code .ret::k0):
 step P (lone (F.mk' tmps dfs todo) cs w)=.next (lone {F.mk' tmps dfs todo with mode:=.returning} cs w):=by
 refine step_lone_go ?_
 rcases ht with rfl|⟨k0,rfl⟩
 . simp [stepG,stepG.exec,FC.mk',hF]
 . simp [stepG,stepG.exec,FC.mk',hF]
theorem yv{c:Nat}{r:Loop}(hw:w.heap[c]? =some (.loop r))(hs:r.state≠ .busy):
 step P (lone (F.mk' tmps dfs (.endRangeFunc c::k)) cs w)=.next (lone (F.mk' tmps dfs ((r.pending.map Item.code).toList++k)) cs (setW w c (.loop {r with state:=.exhausted}))):=by
 refine step_lone_go ?_
 have h1:=xK (P:=P) hw hs
 simp [stepG,stepG.exec,FC.mk',h1]

def jU(w:World)(o:Obj):World:={w with heap:=w.heap.push o}
theorem sh{o:Obj}:(newObj o).run P w=.ok w.heap.size (jU w o):=by simp [newObj,Sem.run,jU]
theorem xd{params:Array Tmp}{assign body:Code}:
 (Instr.enterLoop F.fn tmps params assign body none).run P w=.ok (w.heap.size+1,[{target:=.collected w.heap.size,args:=#[]}])
  (jU (jU w (.deferred (some []))) (.loop {state:=.ready,pending:=none,fn:=F.fn,tmps,params,assign,body,defers:=w.heap.size})):=by
 unfold Instr.enterLoop
 simp only [Sem.run_bind,sh,Result.andThen_ok,Sem.run_pure]
 simp [jU]
theorem tC{c:Nat}{r:Loop}(hw:w.heap[c]? =some (.loop r)){params:Array Tmp}{assign body:Code}:
 (Instr.enterLoop F.fn tmps params assign body (some c)).run P w=.ok (w.heap.size,[])
  (jU w (.loop {state:=.ready,pending:=none,fn:=F.fn,tmps,params,assign,body,defers:=r.defers})):=by
 unfold Instr.enterLoop
 simp only [Sem.run_bind,sh,Result.andThen_ok,Sem.run_pure,jQ hw]
theorem st_range{f:Operand}{params:Array Tmp}{assign body:Code}{g:FuncId}{x y:Array Value}(hf:c7 tmps f=.func (.func g) x y)
 (hg: ∀args w,(callFunc g args).run P w=.ok (.enter g args) w) {c:Nat} {mark:List Deferred} {w2:World}
 (h0:(Instr.enterLoop F.fn tmps params assign body F.round).run P w=.ok (c,mark) w2):
 step P (lone (F.mk' tmps dfs (.code (.rangeFunc f params assign body)::k)) cs w)=
  .next (lone (Frame.enter P g (x++#[.func (.yield c) #[] #[]]++y) .normal) (F.mk' tmps (mark++dfs) (.inRangeFunc c::k)::cs) w2):=by
 refine step_lone_go ?_
 have he:=tM (F:=F) (tmps:=tmps) (dfs:=mark++dfs) (.inRangeFunc c::k)
 simp only [FC.mk']at he
 have hr: ∀w',(do let d<-resolve (c7 tmps) {callee:=.value f,args:=#[.const (.func (.yield c) #[] #[])],argTypes:=#[]} 0;invoke d.target d.args).run P w'=
  .ok (.enter g (x++#[.func (.yield c) #[] #[]]++y)) w':=by
  intro w'
  simp [resolve,hf,Deferred.ofValue,invoke,hg,show∀v,c7 tmps (.const v)=v from fun _=>rfl]
 simp only [stepG,stepG.exec,FC.mk']
 simp [h0]
 rw [he]
 simp [stepG.apply,hr]
end
end Go.Ab

namespace Go.Ab

def nK(mu:Mu):Option (Value×Bool)->Option (Value×Bool)->Prop
 |none,none=>True
 |some (v,b),some (v',b')=>b=b'/\ao mu v v'
 |_,_=>False
theorem nK.mono{mu mu':Mu}(h:Le mu mu'){a b:Option (Value×Bool)}(k:nK mu a b):nK mu' a b:=by
 cases a<;>cases b<;>simp only [nK]at*
 exact⟨k.1,k.2.mono h⟩
theorem kK.mono{mu mu':Mu}(h:Le mu mu'){a b:Deferred}(k:kK mu a b):kK mu' a b:=by
 unfold kK at*
 split
 . rename_i f cap e;rw [e]at k;obtain⟨c,k1,k2,k3⟩:=k;exact⟨c,k1,VL.mono h k2,VL.mono h k3⟩
 . rename_i b e;rw [e]at k;obtain⟨c,k1,k2⟩:=k;exact⟨c,k1,k2.mono h⟩
 . rename_i h1 h2;split at k<;>first|(rename_i e;exact absurd e (by first|exact h1 _ _|exact h2 _))|exact k
abbrev DL(mu:Mu):=LR (kK mu)

def aN:Option (Value×Bool)->List Frame->List Frame
 |none,cs=>cs
 |some (v,b),c::r=>{c with mode:=.panicking [{v,recovered:=b}]}::r
 |some _,[]=>[]
def KOk(kind:CallKind)(cs0:List Frame):Option (Value×Bool)->Prop
 |none=>kind=.normal\/(kind=.deferred/\ ∃c r,cs0=c::r/\c.mode=.returning)
 |some _=>kind=.deferred/\cs0≠ []
def RdRel(mu:Mu):Option Nat->Option Nat->Prop
 |none,none=>True
 |some b,some c=>di mu b c
 |_,_=>False
theorem RdRel.mono{mu mu':Mu}(h:Le mu mu'){a b:Option Nat}(k:RdRel mu a b):RdRel mu' a b:=by
 cases a<;>cases b<;>simp only [RdRel]at*
 exact k.mono h

theorem ev_rel{mu:Mu}{l:Loc}{n:Nat}{tmps:Array Value}(hr:iu mu l.regs n tmps)(x:Operand)
 (hglob: ∀g,g<16->dM mu ⟨g,0,none⟩ ⟨g,0,none⟩):ao mu (l.ev x) (c7 tmps x):=by
 cases x with
 | tmp t=>
   simp only [Loc.ev,c7]
   cases hv:l.regs.get t with
   | none=>
     have:n<=t:=by
      rcases zR t n with h1|h1
      . obtain⟨v,h2⟩:=Tr.get_some hr.sized h1;rw [h2]at hv;cases hv
      . exact h1
     rw [zO,zP (by rw [hr.size];exact this)]
     exact .tuple rfl (by intro i v v' hv;simp at hv)
   | some v=>
     obtain⟨v',h1,h2⟩:=hr.get t v hv
     rw [zO,h1];exact h2
 | const v=>
   simp only [Loc.ev,c7]
   cases hc:cg v with
   |true=>simp only [cond_true];exact ao.const mu hc
   |false=>simp only [cond_false];exact .poison v
 | global g=>
   simp only [Loc.ev,c7]
   cases hg:Xa g 16 with
   |true=>simp only [cond_true];exact .ptr (hglob g (by simpa [Nat.blt_eq]using hg))
   |false=>simp only [cond_false];exact .poison _
 |func f=>exact .fn rfl (by intro i v v' hv;simp at hv) rfl (by intro i v v' hv;simp at hv)

theorem qW{mu:Mu}{t:Tr Value}{n:Nat}{tmps:Array Value}(hr:iu mu t n tmps)(d:Option Tmp){v v':Value}(hv:ao mu v v'):
 iu mu (match d with|none=>t|some d=>t.set d v) n (eQ tmps d v'):=by
 cases d with
 |none=>exact hr
 | some d=>
   refine⟨by simp [eQ,hr.size],Tr.sized_set d v hr.sized,fun i u hu=>?_⟩
   rw [Tr.get_set]at hu
   simp only [eQ]
   by_cases hc:d=i/\(t.get i).isSome
   . rw [if_pos hc]at hu
     cases hu
     obtain⟨rfl,hs⟩:=hc
     have:d<tmps.size:=by rw [hr.size];exact(hr.sized d).1 hs
     exact⟨v',by simp [this],hv⟩
   . rw [if_neg hc]at hu
     obtain⟨u',h1,h2⟩:=hr.get i u hu
     have hne:d≠i:=by intro e;exact hc ⟨e,by rw [hu];rfl⟩
     exact⟨u',by rw [Array.getElem?_setIfInBounds,if_neg hne];exact h1,h2⟩
end Go.Ab

namespace Go.Ab

abbrev j8(mu:Mu):Prop:= ∀g,g<16->dM mu ⟨g,0,none⟩ ⟨g,0,none⟩
theorem j8.mono{mu mu':Mu}(h:Le mu mu')(k:j8 mu):j8 mu':=fun g hg=>(k g hg).mono h

structure SR(P:Program)(cx:Cx)(l:Loc)(h:Hp)(mu:Mu)(w:World)(F:FC)(cs0:List Frame)(tmps:Array Value)(dfs:List Deferred)(rcC:Option (Value×Bool)):Prop where
 hr:aJ mu h w
 glob:j8 mu
 regs:iu mu l.regs cx.nr tmps
 dfs:DL mu l.dfs dfs
 rc:nK mu l.rc rcC
 ko:KOk F.kind cs0 rcC
 fn:F.fn=cx.fn
 rd:RdRel mu cx.round F.round
 rn:F.round≠none->F.kind=.normal
 fs:(P.funcs[F.fn]?).isSome=true

theorem SR.step{P:Program}{cx:Cx}{l:Loc}{h h':Hp}{mu mu':Mu}{w w':World}{F:FC}{cs0:List Frame}{tmps:Array Value}{dfs:List Deferred}{rcC:Option (Value×Bool)}
 (s:SR P cx l h mu w F cs0 tmps dfs rcC) (hh:aJ mu' h' w') (le:Le mu mu'):SR P cx l h' mu' w' F cs0 tmps dfs rcC:=
 ⟨hh,s.glob.mono le,s.regs.mono le,LR.mono s.dfs fun _ _=>kK.mono le,s.rc.mono le,s.ko,s.fn,s.rd.mono le,s.rn,s.fs⟩
theorem SR.put{P:Program}{cx:Cx}{l:Loc}{h:Hp}{mu:Mu}{w:World}{F:FC}{cs0:List Frame}{tmps:Array Value}{dfs:List Deferred}{rcC:Option (Value×Bool)}
 (s:SR P cx l h mu w F cs0 tmps dfs rcC) (d:Option Tmp) {v v':Value} (hv:ao mu v v'):SR P cx (l.put d v) h mu w F cs0 (eQ tmps d v') dfs rcC:=by
 cases d with
 |none=>exact s
 |some d=>exact⟨s.hr,s.glob,qW s.regs (some d) hv,s.dfs,s.rc,s.ko,s.fn,s.rd,s.rn,s.fs⟩

def Reach(P:Program)(F:FC)(cs0:List Frame)(m:Machine)(k:List Item)(mu':Mu)(w':World)(tmps':Array Value)(dfs':List Deferred)(rcC':Option (Value×Bool)):Ex->Prop
 | .normal=>Steps P m (lone (F.mk' tmps' dfs' k) (aN rcC' cs0) w')
 | .exit id=> ∃k0,exitTo id k0=exitTo id k/\Steps P m (lone (F.mk' tmps' dfs' (.code (.exit id)::k0)) (aN rcC' cs0) w')
 | .ret=> ∃k0,Steps P m (lone (F.mk' tmps' dfs' (.code .ret::k0)) (aN rcC' cs0) w')
 | .pan v=> ∃v' todo,ao mu' v v'/\Steps P m (lone {F.mk' tmps' dfs' todo with mode:=.panicking [{v:=v',recovered:=false}]} (aN rcC' cs0) w')
def Sim(P:Program)(cx:Cx)(h:Hp)(mu:Mu)(w:World)(F:FC)(cs0:List Frame)(tmps:Array Value)(dfs:List Deferred)(rcC:Option (Value×Bool))(todo k:List Item)(x:Ex)(l':Loc)(h':Hp):Prop:=
 ∃ mu' w' tmps' dfs' rcC',SR P cx l' h' mu' w' F cs0 tmps' dfs' rcC'/\Ext mu h w mu' h' w'/\
   Reach P F cs0 (lone (F.mk' tmps dfs todo) (aN rcC cs0) w) k mu' w' tmps' dfs' rcC' x
def iU(P:Program)(f:Cx->Code->Loc->Hp->Option (Ex×Loc×Hp)):Prop:=
 ∀ cx c l h x l' h',f cx c l h=some (x,l',h')-> ∀mu w F cs0 tmps dfs rcC k todo,SR P cx l h mu w F cs0 tmps dfs rcC->
   (todo=.code c::k\/ ∃b,c=.loop b/\todo=.inLoop b::k)->Sim P cx h mu w F cs0 tmps dfs rcC todo k x l' h'
def CallEnd(P:Program)(fr:Frame)(w':World)(kind:CallKind)(mu':Mu):Out->Prop
 | .ret v=> ∃v',oH P fr w' kind v'/\ao mu' v v'
 | .pan v=> ∃v',LeaveP P fr kind v'/\ao mu' v v'
def gQ (E:Env) (P:Program) (f:FuncId->List Value->Option (Value×Bool)->Hp->Option (Out×Option (Value×Bool)×Hp)):Prop:=
 ∀ g args rc h o rc' h',f g args rc h=some (o,rc',h')->(∃fn,E.fn g=some fn/\fn.body.isSome=true)/\
   ∀ mu w args' rcC cs0 kind,aJ mu h w->j8 mu->VL mu args args'.toList->nK mu rc rcC->KOk kind cs0 rcC->
     ∃ mu' w' rcC' fr,aJ mu' h' w'/\Ext mu h w mu' h' w'/\nK mu' rc' rcC'/\KOk kind cs0 rcC'/\
       Steps P (lone (Frame.enter P g args' kind) (aN rcC cs0) w) (lone fr (aN rcC' cs0) w')/\
       CallEnd P fr w' kind mu' o/\fr.fn=g

def OutTo(P:Program)(mu':Mu)(m:Machine)(good bad:Value->Machine):Out->Prop
 | .ret v=> ∃v',ao mu' v v'/\Steps P m (good v')
 | .pan v=> ∃v',ao mu' v v'/\Steps P m (bad v')
def wO(P:Program)(F:FC)(cs0:List Frame)(m:Machine)(ops:Array Oper)(rest:List Nat)(k:List Item)(mu':Mu)(w':World)(tmps':Array Value)(dfs':List Deferred)(rcC':Option (Value×Bool)):Ex->Prop
 | .normal=>Steps P m (lone (F.mk' tmps' dfs' (.inRegion ops rest::k)) (aN rcC' cs0) w')
 | .pan v=>Reach P F cs0 m k mu' w' tmps' dfs' rcC' (.pan v)
 |_=>False

theorem KOk.normal{cs0:List Frame}{rcC:Option (Value×Bool)}(h:KOk .normal cs0 rcC):rcC=none:=by
 cases rcC with
 |none=>rfl
 |some x=>exact absurd h.1 (by simp)

theorem oK{mu:Mu}{h:Hp}{w:World}(hh:aJ mu h w){b c:Nat}(hp:di mu b c){r:fF}(hg:h.get b=some (.loop r)):
 ∃top r',mu b=.blk c 0 top/\w.heap[c]? =some (.loop r')/\kR mu r r':=by
 unfold di at hp
 cases hm:mu b with
 |none=>rw [hm]at hp;exact hp.elim
 |dead=>have:=hh.dead _ hm;rw [hg]at this;cases this
 | blk c' base top=>
   rw [hm]at hp
   obtain⟨rfl,rfl⟩:=hp
   obtain⟨y,o,h1,h2,h3⟩:=hh.blk _ c 0 top hm
   rw [hg]at h1;cases h1
   obtain⟨_,r',rfl,h4⟩:=h3
   exact⟨top,r',rfl,h2,h4⟩
theorem qi{w:World}{c:Nat}{o q:Obj}(h:w.heap[c]? =some q):WSet w (setW w c o) c o:=xz ⟨_,h⟩
theorem wJ{mu:Mu}{h:Hp}{w:World}(hh:aJ mu h w){b c top:Nat}(hm:mu b=.blk c 0 top){r r2:fF}(hg:h.get b=some (.loop r)){r' r2':Loop}(hw:w.heap[c]? =some (.loop r'))(hl:kR mu r2 r2'):
 aJ mu (h.put b (.loop r2)) (setW w c (.loop r2'))/\Ext mu h w mu (h.put b (.loop r2)) (setW w c (.loop r2')):=
 rE hh hm (by intro t sz el e;rw [hg]at e;cases e) (qi hw) ⟨rfl,r2',rfl,hl⟩

theorem pS{mu:Mu}{n:Nat}: ∀(ps:List Tmp) (args args':List Value) (regs:Tr Value) (tmps:Array Value) (r2:Tr Value),me regs ps args=some r2->iu mu regs n tmps->VL mu args args'->
 ps.length=args'.length/\iu mu r2 n ((ps.zip args').foldl (fun tmps (x:Tmp×Value)=>tmps.setIfInBounds x.1 x.2) tmps)
 | [],[],args',regs,tmps,r2,h,hr,ha=>by
   rw [ha.nil_left];cases h;exact⟨rfl,hr⟩
 | [],_::_,_,_,_,_,h,_,_=>by cases h
 |_::_,[],_,_,_,_,h,_,_=>by cases h
 | t::ts,v::vs,args',regs,tmps,r2,h,hr,ha=>by
   obtain⟨v',vs',rfl,h1,h2⟩:=ha.cons_left
   have h3:=qW hr (some t) h1
   obtain⟨i1,i2⟩:=pS ts vs vs' (regs.set t v) (tmps.setIfInBounds t v') r2 h h3 h2
   exact⟨by simp [i1],i2⟩

section
variable{E:Env}{P:Program}(ok:EOk E P){R:Rec}(hc:gQ E P R.call)(hcode:iU P R.code)

theorem yield_run{w:World}{c:Nat}{r:Loop}(hw:w.heap[c]? =some (.loop r)){args:Array Value}(hs:r.params.toList.length=args.toList.length):
 (Instr.yield c args).run P w=.ok (.round c r.fn ((r.params.toList.zip args.toList).foldl (fun tmps (x:Tmp×Value)=>tmps.setIfInBounds x.1 x.2) r.tmps) r.assign r.body) w:=by
 unfold Instr.yield
 have h1:args.size=r.params.size:=by simpa using hs.symm
 simp only [Sem.run_bind,jQ hw,Result.andThen_ok,h1,ne_eq,not_true_eq_false,if_false,Sem.run_pure]
 rw [<-Array.foldl_toList,Array.toList_zip]

include ok hcode in
theorem round_sim {mu:Mu} {h h':Hp} {w:World} (hh:aJ mu h w) (hg:j8 mu) {b c:Nat} (hp:di mu b c) {args:List Value} {args':Array Value} (ha:VL mu args args'.toList) {out:Out}
 (hl:iE E R b args h=some (out,h')) (c0:Frame) (cs:List Frame):
 ∃ f tm x y,(Instr.yield c args').run P w=.ok (.round c f tm x y) w/\ ∃mu' w',aJ mu' h' w'/\Ext mu h w mu' h' w'/\
   OutTo P mu' (lone (Frame.round c f tm x y .normal) (c0::cs) w) (fun v'=>lone (c0.finish v') cs w') (fun v'=>lone (c0.raise [{v:=v',recovered:=false}]) cs w') out:=by
 unfold iE at hl
 split at hl
 next r hget=>
  obtain⟨top,r',hm,hw,hlp⟩:=oK hh hp hget
  cases hfn:(E.fn r.fn).isSome with
  |false=>rw [hfn]at hl;cases hl
  |true=>
  rw [hfn]at hl
  simp only [cond_true]at hl
  split at hl
  next hst=>
   split at hl
   next=>cases hl
   next regs hregs=>
    obtain⟨hpl,hrr⟩:=pS r.params.toList args args'.toList r.regs r'.tmps regs hregs hlp.regs ha
    have hy:=yield_run (P:=P) hw (args:=args') (by rw [hlp.params];exact hpl)
    refine⟨_,_,_,_,hy,?_⟩
    let F:FC:=⟨r'.fn,.normal,some c⟩
    have hfs:(P.funcs[r'.fn]?).isSome=true:=by
     rw [hlp.fn]
     cases he:E.fn r.fn with
     |none=>rw [he]at hfn;cases hfn
     |some fn=>rw [ok.fn _ _ he];rfl
    have sr:SR P ⟨r.fn,r.nr,some b⟩ ⟨regs,[],none⟩ h mu w F (c0::cs) ((r'.params.toList.zip args'.toList).foldl (fun tmps (x:Tmp×Value)=>tmps.setIfInBounds x.1 x.2) r'.tmps) [] none:=
     ⟨hh,hg,by rw [hlp.params];exact hrr,LR.nil,trivial,.inl rfl,hlp.fn,hp,fun _=>rfl,hfs⟩
    split at hl
    next l1 h1 hcode1=>
     obtain⟨mu1,w1,tmps1,dfs1,rc1,sr1,e1,s1⟩:=hcode _ _ _ _ _ _ _ hcode1 mu w F (c0::cs) _ [] none [.beginRound,.code r'.body] [.code r'.assign,.beginRound,.code r'.body] sr (.inl (by rw [hlp.assign]))
     have hrc1:=sr1.ko.normal
     subst hrc1
     split at hl
     next r1 hget1=>
      obtain⟨top1,r1',hm1,hw1,hlp1⟩:=oK sr1.hr (show di mu1 b c from sr1.rd) hget1
      split at hl
      next hst1=>
       have hready:r1'.state=.ready:=by
        have:=hlp1.st;rw [hst1]at this
        cases hs:r1'.state<;>rw [hs]at this<;>first|rfl|cases this
       have b1:=uR (P:=P) (F:=F) (tmps:=tmps1) (dfs:=dfs1) (k:=[.code r'.body]) (cs:=c0::cs) (c:=c) rfl hw1 hready
       have lp2:kR mu1 {r1 with st:=1} {r1' with state:=.busy}:=⟨hlp1.fn,hlp1.regs,hlp1.params,hlp1.assign,hlp1.body,rfl,hlp1.pending⟩
       obtain⟨hh2,e2⟩:=wJ sr1.hr hm1 hget1 hw1 lp2
       have sr2:=sr1.step hh2 (Le.refl _)
       have e12:=Ext.trans e1 e2
       have s12:Steps P (lone (Frame.round c r'.fn ((r'.params.toList.zip args'.toList).foldl (fun tmps (x:Tmp×Value)=>tmps.setIfInBounds x.1 x.2) r'.tmps) r'.assign r'.body .normal) (c0::cs) w)
        (lone (F.mk' tmps1 dfs1 [.code r'.body]) (c0::cs) (setW w1 c (.loop {r1' with state:=.busy}))):=Steps.trans s1 (.one b1)
       have leave: ∀{h3:Hp} {mu3:Mu} {w3:World} {tmps3:Array Value} {dfs3:List Deferred} {todo:List Item} {jump:Option Code} {r2:fF} {pe:Option Code} {st:Nat},aJ mu3 h3 w3->di mu3 b c->h3.get b=some (.loop r2)->
        Ext mu1 (h1.put b (.loop {r1 with st:=1})) (setW w1 c (.loop {r1' with state:=.busy})) mu3 h3 w3->
        Steps P (lone (F.mk' tmps1 dfs1 [.code r'.body]) (c0::cs) (setW w1 c (.loop {r1' with state:=.busy}))) (lone (F.mk' tmps3 dfs3 todo) (c0::cs) w3)->
        wl todo jump->pe=jump->st=(if jump.isNone then 0 else 2)->
        ∃ mu' w',aJ mu' (h3.put b (.loop {r2 with st:=st,pending:=pe})) w'/\Ext mu h w mu' (h3.put b (.loop {r2 with st:=st,pending:=pe})) w'/\
          ∃v',ao mu' (.bool jump.isNone) v'/\Steps P (lone (Frame.round c r'.fn ((r'.params.toList.zip args'.toList).foldl (fun tmps (x:Tmp×Value)=>tmps.setIfInBounds x.1 x.2) r'.tmps) r'.assign r'.body .normal) (c0::cs) w) (lone (c0.finish v') cs w'):=by
        intro h3 mu3 w3 tmps3 dfs3 todo jump r2 pe st hh3 hp3 hget3 e3 s3 hlv hpe hst
        obtain⟨top3,r2',hm3,hw3,hlp3⟩:=oK hh3 hp3 hget3
        have b3:=uX (P:=P) (F:=F) (tmps:=tmps3) (dfs:=dfs3) (cs:=cs) (c:=c) rfl rfl hw3 hlv (c0:=c0)
        have lp4:kR mu3 {r2 with st:=st,pending:=pe} {r2' with state:=if jump.isNone then .ready else .done,pending:=jump}:=
         ⟨hlp3.fn,hlp3.regs,hlp3.params,hlp3.assign,hlp3.body,by subst hst;cases jump<;>rfl,hpe.symm⟩
        obtain⟨hh4,e4⟩:=wJ hh3 hm3 hget3 hw3 lp4
        exact⟨mu3,_,hh4,Ext.trans e12 (Ext.trans e3 e4),_,.bool _,Steps.trans s12 (Steps.trans s3 (.one b3))⟩
       split at hl
       next l3 h3 hcode3=>
        obtain⟨mu3,w3,tmps3,dfs3,rc3,sr3,e3,s3⟩:=hcode _ _ _ _ _ _ _ hcode3 mu1 _ F (c0::cs) _ _ none [] [.code r'.body] sr2 (.inl (by rw [hlp.body]))
        have hrc3:=sr3.ko.normal
        subst hrc3
        split at hl
        next r2 hget2=>
         cases hl
         exact leave sr3.hr (show di mu3 b c from sr3.rd) hget2 e3 s3 (.inl ⟨rfl,rfl⟩) rfl rfl
        next=>cases hl
       next id l3 h3 hcode3=>
        obtain⟨mu3,w3,tmps3,dfs3,rc3,sr3,e3,k0,hk0,s3⟩:=hcode _ _ _ _ _ _ _ hcode3 mu1 _ F (c0::cs) _ _ none [] [.code r'.body] sr2 (.inl (by rw [hlp.body]))
        have hrc3:=sr3.ko.normal
        subst hrc3
        split at hl
        next r2 hget2=>
         cases hl
         exact leave sr3.hr (show di mu3 b c from sr3.rd) hget2 e3 s3 (.inr (.inr ⟨id,k0,rfl,hk0.trans rfl,rfl⟩)) rfl rfl
        next=>cases hl
       next l3 h3 hcode3=>
        obtain⟨mu3,w3,tmps3,dfs3,rc3,sr3,e3,k0,s3⟩:=hcode _ _ _ _ _ _ _ hcode3 mu1 _ F (c0::cs) _ _ none [] [.code r'.body] sr2 (.inl (by rw [hlp.body]))
        have hrc3:=sr3.ko.normal
        subst hrc3
        split at hl
        next r2 hget2=>
         cases hl
         exact leave sr3.hr (show di mu3 b c from sr3.rd) hget2 e3 s3 (.inr (.inl ⟨k0,rfl,rfl⟩)) rfl rfl
        next=>cases hl
       next v l3 h3 hcode3=>
        obtain⟨mu3,w3,tmps3,dfs3,rc3,sr3,e3,v',todo,hv,s3⟩:=hcode _ _ _ _ _ _ _ hcode3 mu1 _ F (c0::cs) _ _ none [] [.code r'.body] sr2 (.inl (by rw [hlp.body]))
        have hrc3:=sr3.ko.normal
        subst hrc3
        split at hl
        next hd=>
         cases hl
         have hd3:=sr3.dfs
         rw [hd]at hd3
         have:=LR.nil_left hd3
         subst this
         have lv:LeaveP P {F.mk' tmps3 [] todo with mode:=.panicking [{v:=v',recovered:=false}]} .normal v':=⟨rfl,rfl,rfl,by
          obtain⟨fn,h⟩:=Option.isSome_iff_exists.1 hfs;exact⟨fn,h⟩⟩
         exact⟨mu3,w3,sr3.hr,Ext.trans e12 e3,v',hv,Steps.trans s12 (Steps.trans s3 (.one (lg lv)))⟩
        next=>cases hl
       next=>cases hl
      next=>cases hl
     next=>cases hl
    next=>cases hl
  next=>cases hl
 next=>cases hl
end
end Go.Ab

namespace Go.Ab
section
variable{E:Env}{P:Program}(ok:EOk E P){R:Rec}(hc:gQ E P R.call)(hcode:iU P R.code)

include ok hc hcode in
theorem pX {mu:Mu} {h h':Hp} {w:World} (hh:aJ mu h w) (hg:j8 mu) {ρ:Operand->Value} {tmps:Array Value} (hρ: ∀x,ao mu (ρ x) (c7 tmps x)) {F:FC} {dfs:List Deferred} {k:List Item} {cs:List Frame}
 {ops:Array Oper} {i:Nat} {rest:List Nat} {o:Oper} (ho:ops[i]? =some o) (hw:Region.wanted o (yielded ops tmps)=true) {out:Out} (hl:cG E R (aop E ρ h o.op)=some (out,h')):
 ∃ mu' w',aJ mu' h' w'/\Ext mu h w mu' h' w'/\
   OutTo P mu' (lone (F.mk' tmps dfs (.inRegion ops (i::rest)::k)) cs w) (fun v'=>lone (F.mk' (eQ tmps o.dst v') dfs (.inRegion ops rest::k)) cs w')
    (fun v'=>lone {F.mk' tmps dfs (.inRegion ops (i::rest)::k)with mode:=.panicking [{v:=v',recovered:=false}]} cs w') out:=by
 have hd:F.round=none\/ ∀c,o.op≠ .defer c:=by
  right
  intro c hcc
  rw [hcc]at hl
  simp only [aop]at hl
  split at hl
  . split at hl<;>cases hl
  . cases hl
 have hfin: ∀v,(F.mk' tmps dfs (.inRegion ops (i::rest)::k)).finish v=F.mk' (eQ tmps o.dst v) dfs (.inRegion ops rest::k):=by
  intro v;rw [jt,ho];rfl
 cases ha:aop E ρ h o.op with
 |none=>rw [ha]at hl;cases hl
 | some q=>
   obtain⟨nx,h1⟩:=q
   rw [ha]at hl
   have hres:=aop_run (P:=P) ok hh hρ (o:=o) ha
   cases nx with
   | val v=>
     cases hl
     obtain⟨v',mu',w',g1,g2,g3,g4⟩:=hres
     exact⟨mu',w',g2,g3,v',g4,.one (wd ho hw hd g1)⟩
   | skip=>
     cases hl
     obtain⟨mu',w',g1,g2,g3⟩:=hres
     exact⟨mu',w',g2,g3,undef,.tuple rfl (by intro i v v' hv;simp at hv),.one (st_opskip ho hw hd g1)⟩
   | call f args=>
     obtain⟨rfl,args',g1,g2⟩:=hres
     simp only [cG]at hl
     split at hl
     next x rc' h2 hcall=>
      cases hl
      obtain⟨⟨fn,hfn,hbody⟩,hs⟩:=hc _ _ _ _ _ _ _ hcall
      obtain⟨mu',w',rcC',fr,k1,k2,k3,k4,k5,k6,_⟩:=hs mu w args' none (F.mk' tmps dfs (.inRegion ops (i::rest)::k)::cs) .normal hh hg g2 trivial (.inl rfl)
      have:=k4.normal
      subst this
      have hen:=st_enter (P:=P) (F:=F) (dfs:=dfs) (k:=k) (cs:=cs) (rest:=rest) ho hw hd (g1.trans (ok.call f fn args' w hfn hbody))
      refine⟨mu',w',k1,k2,?_⟩
      cases out with
      | ret v=>
        obtain⟨v',l1,l2⟩:=k6
        refine⟨v',l2,Steps.trans (.one hen) (Steps.trans k5 (.one ?_))⟩
        show step P _=.next (lone (F.mk' (eQ tmps o.dst v') dfs (.inRegion ops rest::k)) cs w')
        rw [<-hfin];exact vu l1
      | pan v=>
        obtain⟨v',l1,l2⟩:=k6
        exact⟨v',l2,Steps.trans (.one hen) (Steps.trans k5 (.one (lg l1)))⟩
     next=>cases hl
   | yield b args=>
     obtain⟨rfl,c,args',g1,g2,g3⟩:=hres
     simp only [cG]at hl
     obtain⟨f,tm,x,y,y1,mu',w',k1,k2,k3⟩:=round_sim ok hcode hh hg g2 g3 hl (F.mk' tmps dfs (.inRegion ops (i::rest)::k)) cs
     have hen:=st_round (P:=P) (F:=F) (dfs:=dfs) (k:=k) (cs:=cs) (rest:=rest) ho hw hd (g1.trans y1)
     refine⟨mu',w',k1,k2,?_⟩
     cases out with
     | ret v=>
       obtain⟨v',l2,l1⟩:=k3
       refine⟨v',l2,Steps.trans (.one hen) ?_⟩
       show Steps P _ (lone (F.mk' (eQ tmps o.dst v') dfs (.inRegion ops rest::k)) cs w')
       rw [<-hfin];exact l1
     | pan v=>
       obtain⟨v',l2,l1⟩:=k3
       exact⟨v',l2,Steps.trans (.one hen) l1⟩
   | panic v=>
     cases hl
     obtain⟨rfl,v',g1,g2⟩:=hres
     exact⟨mu,w,hh,Ext.refl mu _ w hh,v',g2,.one (st_panic ho hw hd g1)⟩
   |recov=>cases hl
   |defer d=>cases hl

include ok hc hcode in
theorem zh {cx :Cx} {l l':Loc} {h h':Hp} {mu:Mu} {w:World} {F:FC} {cs0:List Frame} {tmps:Array Value} {dfs:List Deferred} {rcC:Option (Value×Bool)} (s:SR P cx l h mu w F cs0 tmps dfs rcC)
 {k:List Item} {ops:Array Oper} {i:Nat} {rest:List Nat} {o:Oper} (ho:ops[i]? =some o) (hw:Region.wanted o (yielded ops tmps)=true) {x:Ex} (hl:dz E R cx o l h=some (x,l',h')):
 ∃ mu' w' tmps' dfs' rcC',SR P cx l' h' mu' w' F cs0 tmps' dfs' rcC'/\Ext mu h w mu' h' w'/\
   wO P F cs0 (lone (F.mk' tmps dfs (.inRegion ops (i::rest)::k)) (aN rcC cs0) w) ops rest k mu' w' tmps' dfs' rcC' x:=by
 have hρ: ∀x,ao mu (l.ev x) (c7 tmps x):=fun x=>ev_rel s.regs x s.glob
 unfold dz at hl
 have plain: ∀{r:Option (c9×Hp)},aop E l.ev h o.op=r->mb o l (cG E R r)=some (x,l',h')-> ∃mu' w' tmps' dfs' rcC',SR P cx l' h' mu' w' F cs0 tmps' dfs' rcC'/\Ext mu h w mu' h' w'/\
  wO P F cs0 (lone (F.mk' tmps dfs (.inRegion ops (i::rest)::k)) (aN rcC cs0) w) ops rest k mu' w' tmps' dfs' rcC' x:=by
  intro r hr hl
  cases hv:cG E R r with
  |none=>rw [hv]at hl;cases hl
  | some q=>
    obtain⟨out,h1⟩:=q
    rw [hv]at hl
    rw [<-hr]at hv
    obtain⟨mu',w',g1,g2,g3⟩:=pX ok hc hcode s.hr s.glob hρ (F:=F) (dfs:=dfs) (k:=k) (cs:=aN rcC cs0) (rest:=rest) ho hw hv
    have s':=s.step g1 (g2.le s.hr)
    cases out with
    | ret v=>
      cases hl
      obtain⟨v',k1,k2⟩:=g3
      exact⟨mu',w',_,dfs,rcC,s'.put o.dst k1,g2,k2⟩
    | pan v=>
      cases hl
      obtain⟨v',k1,k2⟩:=g3
      exact⟨mu',w',tmps,dfs,rcC,s',g2,v',_,k1,k2⟩
 cases ha:aop E l.ev h o.op with
 |none=>rw [ha]at hl;exact plain ha hl
 | some q =>
   obtain⟨nx,h1⟩:=q
   rw [ha]at hl
   have hres:=aop_run (P:=P) ok s.hr hρ (o:=o) ha
   cases nx with
   |val v=>exact plain ha hl
   |skip=>exact plain ha hl
   |call f args=>exact plain ha hl
   |yield b args=>exact plain ha hl
   |panic v=>exact plain ha hl
   | recov =>
     obtain⟨rfl,g1⟩:=hres
     simp only []at hl
     cases hr:cx.round with
     |some r=>rw [hr]at hl;cases hl
     | none=>
       rw [hr]at hl
       simp only []at hl
       have hF:F.round=none:=by
        have:=s.rd;rw [hr]at this
        cases hf:F.round with
        |none=>rfl
        |some c=>rw [hf]at this;exact this.elim
       have hrc:=s.rc
       have none_case:tryRecover (F.mk' tmps dfs (.inRegion ops (i::rest)::k)) (aN rcC cs0)=none->
        ∃ mu' w' tmps' dfs' rcC',SR P cx (l.put o.dst .nilIface) h1 mu' w' F cs0 tmps' dfs' rcC'/\Ext mu h1 w mu' h1 w'/\
          Steps P (lone (F.mk' tmps dfs (.inRegion ops (i::rest)::k)) (aN rcC cs0) w) (lone (F.mk' tmps' dfs' (.inRegion ops rest::k)) (aN rcC' cs0) w'):=by
        intro ht
        exact⟨mu,w,_,dfs,rcC,s.put o.dst .nili,Ext.refl mu _ w s.hr,.one (tB ho hw hF g1 ht)⟩
       cases hlr:l.rc with
       | none=>
         rw [hlr]at hl hrc
         cases hl
         apply none_case
         cases rcC with
         |some y=>exact hrc.elim
         | none=>
           rcases s.ko with hk|⟨hk,c,r,rfl,hm⟩
           . simp [tryRecover,FC.mk',hk]
           . simp [tryRecover,FC.mk',hk,aN,hm]
       | some y =>
         obtain⟨v,b⟩:=y
         rw [hlr]at hl hrc
         cases rcC with
         |none=>exact hrc.elim
         | some z=>
           obtain⟨v',b'⟩:=z
           obtain⟨rfl,hv⟩:=hrc
           obtain⟨hk,hne⟩:=s.ko
           cases cs0 with
           |nil=>exact absurd rfl hne
           | cons c r=>
             cases b with
             | true=>
               cases hl
               apply none_case
               simp [tryRecover,FC.mk',hk,aN]
             | false=>
               cases hl
               have ht:tryRecover (F.mk' tmps dfs (.inRegion ops (i::rest)::k)) (aN (some (v',false)) (c::r))=some (v',aN (some (v',true)) (c::r)):=by
                simp [tryRecover,FC.mk',hk,aN]
               have s2:SR P cx {l with rc:=some (v,true)} h' mu w F (c::r) tmps dfs (some (v',true)):=
                ⟨s.hr,s.glob,s.regs,s.dfs,⟨rfl,hv⟩,⟨hk,by simp⟩,s.fn,s.rd,s.rn,s.fs⟩
               exact⟨mu,w,_,dfs,_,s2.put o.dst hv,Ext.refl mu _ w s.hr,.one (sJ ho hw hF g1 ht)⟩
   | defer d=>
     obtain⟨rfl,d',g1,g2⟩:=hres
     simp only []at hl
     cases hr:cx.round with
     |some r=>rw [hr]at hl;cases hl
     | none=>
       rw [hr]at hl
       cases hl
       have hF:F.round=none:=by
        have:=s.rd;rw [hr]at this
        cases hf:F.round with
        |none=>rfl
        |some c=>rw [hf]at this;exact this.elim
       have s2:SR P cx {l with dfs:=d::l.dfs} h' mu w F cs0 tmps (d'::dfs) rcC:=
        ⟨s.hr,s.glob,s.regs,LR.cons g2 s.dfs,s.rc,s.ko,s.fn,s.rd,s.rn,s.fs⟩
       exact⟨mu,w,_,_,rcC,s2.put o.dst (v':=undef) (.tuple rfl (by intro i v v' hv;simp at hv)),Ext.refl mu _ w s.hr,.one (st_defer ho hw hF g1)⟩

omit ok in
theorem uf {mu:Mu} {ops:Array Oper} {t:Tr Value} {n:Nat} {tmps:Array Value} (hr:iu mu t n tmps) {o:Oper} {b:Bool} (hg:bR ops.toList t o=some b):Region.wanted o (yielded ops tmps)=b:=by
 unfold bR at hg
 unfold Region.wanted
 cases hgu:o.guard with
 |none=>rw [hgu]at hg;cases hg;rfl
 | some q=>
   obtain⟨j,want⟩:=q
   rw [hgu]at hg
   simp only []at hg⊢
   unfold yielded
   cases hj:ops[j]? with
   |none=>rw [zW,hj]at hg;cases hg;simp [Option.bind]
   | some o'=>
     rw [zW,hj]at hg
     simp only [Option.bind_some]at hg⊢
     cases hd:o'.dst with
     |none=>rw [hd]at hg;cases hg;rfl
     | some d=>
       rw [hd]at hg
       simp only [Option.bind_some]at hg⊢
       split at hg
       next b' hb=>
        obtain⟨v',h1,h2⟩:=hr.get d _ hb
        cases h2
        rw [h1]
        cases hg
        cases b'<;>cases want<;>rfl
       next x hb=>
        obtain⟨v',h1,h2⟩:=hr.get d _ hb
        rw [h1]
        cases hg
        cases h2
        rfl
       next=>cases hg

include ok hc hcode in
theorem evOps_sim{cx:Cx}{ops:Array Oper}{F:FC}{cs0:List Frame}{k:List Item}: ∀(os:List Oper) (i:Nat) (l l':Loc) (h h':Hp) (mu:Mu) (w:World) (tmps:Array Value) (dfs:List Deferred) (rcC:Option (Value×Bool)) (x:Ex),
 ops.toList.drop i=os->SR P cx l h mu w F cs0 tmps dfs rcC->iL E R cx ops.toList os l h=some (x,l',h')->
 Sim P cx h mu w F cs0 tmps dfs rcC (.inRegion ops (Xb i os.length)::k) k x l' h':=by
 intro os
 induction os with
 | nil=>
   intro i l l' h h' mu w tmps dfs rcC x hd s hl
   simp only [iL]at hl
   cases hl
   exact⟨mu,w,tmps,dfs,rcC,s,Ext.refl mu h w s.hr,.one pQ⟩
 | cons o os ih=>
   intro i l l' h h' mu w tmps dfs rcC x hd s hl
   have ho:ops[i]? =some o:=by
    have:=congrArg (·[0]?) hd
    simpa using this
   have hd':ops.toList.drop (i+1)=os:=by
    have:=congrArg (List.drop 1) hd
    simpa [Nat.add_comm]using this
   simp only [iL]at hl
   rw [List.length_cons,List.range'_succ]
   cases hg:bR ops.toList l.regs o with
   |none=>rw [hg]at hl;cases hl
   | some b=>
     have hw:=uf s.regs hg
     rw [hg]at hl
     cases b with
     | false=>
       simp only []at hl
       have hstep:=sf (P:=P) (F:=F) (tmps:=tmps) (dfs:=dfs) (k:=k) (cs:=aN rcC cs0) (w:=w) (ops:=ops) (i:=i) (rest:=Xb (i+1) os.length) (by rw [ho];simpa using hw)
       rw [ho]at hstep
       obtain⟨mu',w',tmps',dfs',rcC',s',e',r'⟩:=ih (i+1) _ _ _ _ _ _ _ _ _ _ hd' (s.put o.dst (v':=undef) (.tuple rfl (by intro i v v' hv;simp at hv))) hl
       refine⟨mu',w',tmps',dfs',rcC',s',e',?_⟩
       cases x with
       |normal=>exact .head hstep r'
       |exit id=>obtain⟨k0,a,b⟩:=r';exact⟨k0,a,.head hstep b⟩
       |ret=>obtain⟨k0,b⟩:=r';exact⟨k0,.head hstep b⟩
       |pan v=>obtain⟨v',td,a,b⟩:=r';exact⟨v',td,a,.head hstep b⟩
     | true=>
       simp only []at hl
       cases hs:dz E R cx o l h with
       |none=>rw [hs]at hl;cases hl
       | some q=>
         obtain⟨x1,l1,h1⟩:=q
         rw [hs]at hl
         obtain⟨mu1,w1,tmps1,dfs1,rcC1,s1,e1,r1⟩:=zh ok hc hcode s (k:=k) (rest:=Xb (i+1) os.length) ho hw hs
         cases x1 with
         | normal=>
           simp only []at hl r1
           obtain⟨mu',w',tmps',dfs',rcC',s',e',r'⟩:=ih (i+1) _ _ _ _ _ _ _ _ _ _ hd' s1 hl
           refine⟨mu',w',tmps',dfs',rcC',s',Ext.trans e1 e',?_⟩
           cases x with
           |normal=>exact Steps.trans r1 r'
           |exit id=>obtain⟨k0,a,b⟩:=r';exact⟨k0,a,Steps.trans r1 b⟩
           |ret=>obtain⟨k0,b⟩:=r';exact⟨k0,Steps.trans r1 b⟩
           |pan v=>obtain⟨v',td,a,b⟩:=r';exact⟨v',td,a,Steps.trans r1 b⟩
         |exit id=>exact r1.elim
         |ret=>exact r1.elim
         | pan v=>
           cases hl
           exact⟨mu1,w1,tmps1,dfs1,rcC1,s1,e1,r1⟩
end
end Go.Ab

namespace Go.Ab

theorem Reach.pre{P:Program}{F:FC}{cs0:List Frame}{m m1:Machine}{k:List Item}{mu':Mu}{w':World}{tmps':Array Value}{dfs':List Deferred}{rcC':Option (Value×Bool)}{x:Ex}
 (h:Steps P m m1) (r:Reach P F cs0 m1 k mu' w' tmps' dfs' rcC' x):Reach P F cs0 m k mu' w' tmps' dfs' rcC' x:=by
 cases x with
 |normal=>exact Steps.trans h r
 |exit id=>obtain⟨k0,a,b⟩:=r;exact⟨k0,a,Steps.trans h b⟩
 |ret=>obtain⟨k0,b⟩:=r;exact⟨k0,Steps.trans h b⟩
 |pan v=>obtain⟨v',td,a,b⟩:=r;exact⟨v',td,a,Steps.trans h b⟩
theorem Sim.pre{P:Program}{cx:Cx}{h h1:Hp}{mu mu1:Mu}{w w1:World}{F:FC}{cs0:List Frame}{tmps tmps1:Array Value}{dfs dfs1:List Deferred}{rcC rcC1:Option (Value×Bool)}{todo todo1 k:List Item}{x:Ex}{l':Loc}{h':Hp}
 (hs:Steps P (lone (F.mk' tmps dfs todo) (aN rcC cs0) w) (lone (F.mk' tmps1 dfs1 todo1) (aN rcC1 cs0) w1)) (e:Ext mu h w mu1 h1 w1)
 (s:Sim P cx h1 mu1 w1 F cs0 tmps1 dfs1 rcC1 todo1 k x l' h'):Sim P cx h mu w F cs0 tmps dfs rcC todo k x l' h':=by
 obtain⟨mu',w',tmps',dfs',rcC',a,b,c⟩:=s
 exact⟨mu',w',tmps',dfs',rcC',a,Ext.trans e b,c.pre hs⟩
theorem Reach.out{P:Program}{F:FC}{cs0:List Frame}{m:Machine}{k k2:List Item}{mu':Mu}{w':World}{tmps':Array Value}{dfs':List Deferred}{rcC':Option (Value×Bool)}{x:Ex}
 (hk: ∀id,x=.exit id->exitTo id k=exitTo id k2) (hn:x≠ .normal) (r:Reach P F cs0 m k mu' w' tmps' dfs' rcC' x):Reach P F cs0 m k2 mu' w' tmps' dfs' rcC' x:=by
 cases x with
 |normal=>exact absurd rfl hn
 |exit id=>obtain⟨k0,a,b⟩:=r;exact⟨k0,a.trans (hk id rfl),b⟩
 |ret=>exact r
 |pan v=>exact r

def DrawOk(E:Env)(P:Program)(R:Rec):Prop:=
 ∀ cx id ops l h l' h' q ps tr,plan E (eh ops.toList)=some (q,ps)->dO E R (eh ops.toList) q (eh ops.toList) 0 l h []=some (l',h',tr)->d9 tr ps=true-> ∀mu w F cs0 tmps dfs rcC k,SR P cx l h mu w F cs0 tmps dfs rcC->
   Sim P cx h mu w F cs0 tmps dfs rcC (.code (.region id ops true)::k) k .normal l' h'

section
variable{E:Env}{P:Program}(ok:EOk E P){R:Rec}(hc:gQ E P R.call)(hcode:iU P R.code)

theorem dead_at{mu:Mu}{h:Hp}{w:World}(hh:aJ mu h w){b c:Nat}(hp:di mu b c)(hg:h.get b=some .dfr): ∃top,mu b=.blk c 0 top/\w.heap[c]? =some (.deferred (some [])):=by
 unfold di at hp
 cases hm:mu b with
 |none=>rw [hm]at hp;exact hp.elim
 |dead=>have:=hh.dead _ hm;rw [hg]at this;cases this
 | blk c' base top=>
   rw [hm]at hp
   obtain⟨rfl,rfl⟩:=hp
   obtain⟨y,o,h1,h2,h3⟩:=hh.blk _ c 0 top hm
   rw [hg]at h1;cases h1
   obtain⟨_,rfl⟩:=h3
   exact⟨top,rfl,h2⟩

theorem sC(w:World)(o:Obj):WNew w (jU w o) o:=⟨rfl,rfl,rfl,rfl⟩
theorem vj{mu:Mu}{h:Hp}{w:World}(hh:aJ mu h w){r:fF}{r':Loop}(hl:kR mu r r'):
 aJ (upd mu h.n (.blk w.heap.size 0 0)) (h.new (.loop r)) (jU w (.loop r'))/\Ext mu h w (upd mu h.n (.blk w.heap.size 0 0)) (h.new (.loop r)) (jU w (.loop r')):=
 li hh (sC w _) ⟨rfl,r',rfl,hl⟩
theorem dfr_new{mu:Mu}{h:Hp}{w:World}(hh:aJ mu h w):
 aJ (upd mu h.n (.blk w.heap.size 0 0)) (h.new .dfr) (jU w (.deferred (some [])))/\Ext mu h w (upd mu h.n (.blk w.heap.size 0 0)) (h.new .dfr) (jU w (.deferred (some []))):=
 li hh (sC w _) ⟨rfl,rfl⟩

theorem yf{cx:Cx}{params:Array Tmp}{assign body:Code}{l:Loc}{h h1:Hp}{d:Nat}{dfsA:List Deferred}
 (hpre:(match cx.round with
   |none=>some (h.new .dfr,h.n,({target:=.collected h.n,args:=#[]}:Deferred)::l.dfs)
   | some r=>match h.get r with
     |some (.loop x)=>some (h,x.defers,l.dfs)
     |_=>none)=some (h1,d,dfsA))
 {mu:Mu} {w:World} {F:FC} {cs0:List Frame} {tmps:Array Value} {dfs:List Deferred} {rcC:Option (Value×Bool)} (s:SR P cx l h mu w F cs0 tmps dfs rcC):
 ∃ mu2 w2 c mark,(Instr.enterLoop F.fn tmps params assign body F.round).run P w=.ok (c,mark) w2/\di mu2 h1.n c/\
   SR P cx {l with dfs:=dfsA} (h1.new (.loop {fn:=cx.fn,regs:=l.regs,nr:=cx.nr,params,assign,body,st:=0,pending:=none,defers:=d})) mu2 w2 F cs0 tmps (mark++dfs) rcC/\
   Ext mu h w mu2 (h1.new (.loop {fn:=cx.fn,regs:=l.regs,nr:=cx.nr,params,assign,body,st:=0,pending:=none,defers:=d})) w2:=by
 cases hr:cx.round with
 | none=>
   rw [hr]at hpre
   cases hpre
   have hF:F.round=none:=by
    have:=s.rd;rw [hr]at this
    cases hf:F.round with
    |none=>rfl
    |some c=>rw [hf]at this;exact this.elim
   obtain⟨a1,a2⟩:=dfr_new s.hr
   have sr1:=s.step a1 (a2.le s.hr)
   have lp:kR (upd mu h.n (.blk w.heap.size 0 0)) {fn:=cx.fn,regs:=l.regs,nr:=cx.nr,params,assign,body,st:=0,pending:=none,defers:=h.n}
    {state:=.ready,pending:=none,fn:=F.fn,tmps,params,assign,body,defers:=w.heap.size}:=⟨s.fn,sr1.regs,rfl,rfl,rfl,rfl,rfl⟩
   obtain⟨b1,b2⟩:=vj a1 lp
   have sr2:=sr1.step b1 (b2.le a1)
   refine⟨_,_,_,_,by rw [hF];exact xd,?_,?_,Ext.trans a2 b2⟩
   . show di (upd _ (h.n+1) _) (h.n+1) (w.heap.size+1)
     unfold di
     rw [upd_same]
     exact⟨by simp [jU],rfl⟩
   . refine⟨sr2.hr,sr2.glob,sr2.regs,LR.cons ⟨w.heap.size,rfl,?_⟩ sr2.dfs,sr2.rc,sr2.ko,sr2.fn,sr2.rd,sr2.rn,sr2.fs⟩
     show di (upd (upd mu h.n (.blk w.heap.size 0 0)) (h.n+1) _) h.n w.heap.size
     unfold di
     rw [aK _ _ (by omega),upd_same]
     exact⟨rfl,rfl⟩
 | some r=>
   rw [hr]at hpre
   simp only []at hpre
   split at hpre
   next x hx=>
    cases hpre
    cases hf:F.round with
    |none=>have:=s.rd;rw [hr,hf]at this;exact this.elim
    | some c=>
      have hp:di mu r c:=by have:=s.rd;rw [hr,hf]at this;exact this
      obtain⟨top,x',g1,g2,g3⟩:=oK s.hr hp hx
      have lp:kR mu {fn:=cx.fn,regs:=l.regs,nr:=cx.nr,params,assign,body,st:=0,pending:=none,defers:=x.defers}
       {state:=.ready,pending:=none,fn:=F.fn,tmps,params,assign,body,defers:=x'.defers}:=⟨s.fn,s.regs,rfl,rfl,rfl,rfl,rfl⟩
      obtain⟨b1,b2⟩:=vj s.hr lp
      have sr2:=s.step b1 (b2.le s.hr)
      refine⟨_,_,_,[],tC g2,?_,sr2,b2⟩
      unfold di
      rw [upd_same]
      exact⟨rfl,rfl⟩
   next=>cases hpre

include ok hc in
theorem uV {cx:Cx} {f:Operand} {params:Array Tmp} {assign body:Code} {l l':Loc} {h h':Hp} {x:Ex} (hl:ib R cx (l.ev f) params assign body l h=some (x,l',h'))
 {mu:Mu} {w:World} {F:FC} {cs0:List Frame} {tmps:Array Value} {dfs:List Deferred} {rcC:Option (Value×Bool)} {k:List Item} (s:SR P cx l h mu w F cs0 tmps dfs rcC):
 Sim P cx h mu w F cs0 tmps dfs rcC (.code (.rangeFunc f params assign body)::k) k x l' h':=by
 unfold ib at hl
 have hf:=ev_rel s.regs f s.glob
 split at hl
 next fv g a b hfv=>
  rw [hfv]at hf
  cases hev:c7 tmps f<;>rw [hev]at hf<;>cases hf
  rename_i a' b' f1 f2 f3 f4
  split at hl
  next=>cases hl
  next h1 d dfsA hpre=>
   obtain⟨mu2,w2,c,mark,h0,hp,sr2,e2⟩:=yf (params:=params) (assign:=assign) (body:=body) hpre s
   cases hcall:R.call g (a.toList++[.func (.yield h1.n) #[] #[]]++b.toList) none (h1.new (.loop {fn:=cx.fn,regs:=l.regs,nr:=cx.nr,params,assign,body,st:=0,pending:=none,defers:=d}))with
   |none=>rw [hcall]at hl;cases hl
   | some q=>
     obtain⟨out,rc',h2⟩:=q
     rw [hcall]at hl
     obtain⟨⟨fn,hfn,hbody⟩,hs⟩:=hc _ _ _ _ _ _ _ hcall
     have st1:=st_range (P:=P) (F:=F) (dfs:=dfs) (k:=k) (cs:=aN rcC cs0) hev (fun args w=>ok.call g fn args w hfn hbody) h0
     have hargs:VL mu2 (a.toList++[.func (.yield h1.n) #[] #[]]++b.toList) (a'++#[Value.func (.yield c) #[] #[]]++b').toList:=by
      simp only [zZ]
      have le:=e2.le s.hr
      exact LR.append (LR.append (VL.mono le ⟨f1,f2⟩) (LR.cons (.yield hp) LR.nil)) (VL.mono le ⟨f3,f4⟩)
     obtain⟨mu3,w3,rcC',fr,k1,k2,k3,k4,k5,k6,_⟩:=hs mu2 w2 (a'++#[.func (.yield c) #[] #[]]++b') none (F.mk' tmps (mark++dfs) (.inRangeFunc c::k)::aN rcC cs0) .normal sr2.hr sr2.glob hargs trivial (.inl rfl)
     have:=k4.normal
     subst this
     have le3:=k2.le sr2.hr
     have sr3:=sr2.step k1 le3
     cases out with
     | pan v=>
       cases hl
       obtain⟨v',l1,l2⟩:=k6
       exact⟨mu3,w3,tmps,mark++dfs,rcC,sr3,Ext.trans e2 k2,v',.inRangeFunc c::k,l2,Steps.trans (.one st1) (Steps.trans k5 (.one (lg l1 (c:=F.mk' tmps (mark++dfs) (.inRangeFunc c::k)) (cs:=aN rcC cs0))))⟩
     | ret v=>
       obtain⟨v',l1,l2⟩:=k6
       simp only []at hl
       split at hl
       next x1 hx1=>
        have hp3:di mu3 h1.n c:=hp.mono le3
        obtain⟨top3,x1',g1,g2,g3⟩:=oK k1 hp3 hx1
        have sfin:Steps P (lone (F.mk' tmps dfs (.code (.rangeFunc f params assign body)::k)) (aN rcC cs0) w) (lone (F.mk' tmps (mark++dfs) (.endRangeFunc c::k)) (aN rcC cs0) w3):=
         Steps.trans (.one st1) (Steps.trans k5 (.one (vu l1 (c:=F.mk' tmps (mark++dfs) (.inRangeFunc c::k)) (cs:=aN rcC cs0))))
        split at hl
        next=>cases hl
        next hst=>
         have hnb:x1'.state≠ .busy:=by
          intro e
          have:=g3.st
          rw [e]at this
          exact hst this.symm
         have st2:=yv (P:=P) (F:=F) (tmps:=tmps) (dfs:=mark++dfs) (k:=k) (cs:=aN rcC cs0) g2 hnb
         obtain⟨a1,a2⟩:=oe k1 g1 (by intro t sz el e;rw [hx1]at e;cases e) (qi (o:=.loop {x1' with state:=.exhausted}) g2)
         have sr4:=sr3.step a1 (a2.le k1)
         have e4:=Ext.trans e2 (Ext.trans k2 a2)
         have st3: ∀td,(x1'.pending.map Item.code).toList++k=td->step P (lone (F.mk' tmps (mark++dfs) (.endRangeFunc c::k)) (aN rcC cs0) w3)=
          .next (lone (F.mk' tmps (mark++dfs) td) (aN rcC cs0) (setW w3 c (.loop {x1' with state:=.exhausted}))):=by
          intro td e;rw [<-e];exact st2
         split at hl
         next hpn=>
          cases hl
          exact⟨_,_,tmps,mark++dfs,rcC,sr4,e4,Steps.trans sfin (.one (st3 _ (by rw [g3.pending,hpn];rfl)))⟩
         next id hpn=>
          cases hl
          exact⟨_,_,tmps,mark++dfs,rcC,sr4,e4,k,rfl,Steps.trans sfin (.one (st3 _ (by rw [g3.pending,hpn];rfl)))⟩
         next hpn=>
          cases hl
          exact⟨_,_,tmps,mark++dfs,rcC,sr4,e4,k,Steps.trans sfin (.one (st3 _ (by rw [g3.pending,hpn];rfl)))⟩
         next=>cases hl
       next=>cases hl
 next=>cases hl

include ok hc hcode in
theorem wD (hdraw:DrawOk E P R):iU P (aE E R):=by
 intro cx c
 induction c with
 | skip=>
   intro l h x l' h' hl mu w F cs0 tmps dfs rcC k todo s ht
   rcases ht with rfl|⟨b,hb,_⟩
   . cases hl;exact⟨mu,w,tmps,dfs,rcC,s,Ext.refl mu _ w s.hr,.one st_skip⟩
   . cases hb
 | label n=>
   intro l h x l' h' hl mu w F cs0 tmps dfs rcC k todo s ht
   rcases ht with rfl|⟨b,hb,_⟩
   . cases hl;exact⟨mu,w,tmps,dfs,rcC,s,Ext.refl mu _ w s.hr,.one st_label⟩
   . cases hb
 | region id ops draw=>
   intro l h x l' h' hl mu w F cs0 tmps dfs rcC k todo s ht
   rcases ht with rfl|⟨b,hb,_⟩
   . simp only [aE]at hl
     cases draw with
     | false=>
       simp only [cond_false]at hl
       have r:=evOps_sim ok hc hcode (ops:=ops) (k:=k) ops.toList 0 _ _ _ _ _ _ _ _ _ _ rfl s hl
       rw [Array.length_toList,<-List.range_eq_range']at r
       exact r.pre (.one st_region) (Ext.refl mu h w s.hr)
     | true=>
       simp only [cond_true]at hl
       cases hp:plan E (eh ops.toList)with
       |none=>rw [hp]at hl;cases hl
       | some q=>
         obtain⟨q,ps⟩:=q
         rw [hp]at hl
         simp only []at hl
         cases he:dO E R (eh ops.toList) q (eh ops.toList) 0 l h []with
         |none=>rw [he]at hl;cases hl
         | some q3=>
           obtain⟨l1,h1,tr⟩:=q3
           rw [he]at hl
           simp only []at hl
           cases hpo:d9 tr ps with
           |false=>rw [hpo]at hl;cases hl
           | true=>
             rw [hpo]at hl
             cases hl
             exact hdraw cx id ops l h _ _ q ps tr hp he hpo mu w F cs0 tmps dfs rcC k s
   . cases hb
 | seq a b iha ihb=>
   intro l h x l' h' hl mu w F cs0 tmps dfs rcC k todo s ht
   rcases ht with rfl|⟨b,hb,_⟩
   . simp only [aE]at hl
     cases ha:aE E R cx a l h with
     |none=>rw [ha]at hl;cases hl
     | some q=>
       obtain⟨x1,l1,h1⟩:=q
       rw [ha]at hl
       obtain⟨mu1,w1,tmps1,dfs1,rc1,s1,e1,r1⟩:=iha _ _ _ _ _ ha mu w F cs0 tmps dfs rcC (.code b::k) _ s (.inl rfl)
       have r1':=Reach.pre (.one st_seq) r1
       cases x1 with
       | normal=>
         exact Sim.pre r1' e1 (ihb _ _ _ _ _ hl mu1 w1 F cs0 tmps1 dfs1 rc1 k _ s1 (.inl rfl))
       |exit id=>cases hl;exact⟨mu1,w1,tmps1,dfs1,rc1,s1,e1,r1'.out (fun id _=>rfl) (by simp)⟩
       |ret=>cases hl;exact⟨mu1,w1,tmps1,dfs1,rc1,s1,e1,r1'.out (fun id _=>rfl) (by simp)⟩
       |pan v=>cases hl;exact⟨mu1,w1,tmps1,dfs1,rc1,s1,e1,r1'.out (fun id _=>rfl) (by simp)⟩
   . cases hb
 | cond c a b iha ihb=>
   intro l h x l' h' hl mu w F cs0 tmps dfs rcC k todo s ht
   rcases ht with rfl|⟨b,hb,_⟩
   . simp only [aE]at hl
     have hv:=ev_rel s.regs c s.glob
     split at hl
     next t hc'=>
      rw [hc']at hv
      cases hev:c7 tmps c<;>rw [hev]at hv<;>cases hv
      have hst:=st_cond (P:=P) (F:=F) (dfs:=dfs) (k:=k) (cs:=aN rcC cs0) (w:=w) (a:=a) (b:=b) hev
      cases t with
      |true=>exact Sim.pre (.one hst) (Ext.refl mu h w s.hr) (iha _ _ _ _ _ hl mu w F cs0 tmps dfs rcC k _ s (.inl rfl))
      |false=>exact Sim.pre (.one hst) (Ext.refl mu h w s.hr) (ihb _ _ _ _ _ hl mu w F cs0 tmps dfs rcC k _ s (.inl rfl))
     next=>cases hl
   . cases hb
 | block id b ih=>
   intro l h x l' h' hl mu w F cs0 tmps dfs rcC k todo s ht
   rcases ht with rfl|⟨b,hb,_⟩
   . simp only [aE]at hl
     cases ha:aE E R cx b l h with
     |none=>rw [ha]at hl;cases hl
     | some q=>
       obtain⟨x1,l1,h1⟩:=q
       rw [ha]at hl
       obtain⟨mu1,w1,tmps1,dfs1,rc1,s1,e1,r1⟩:=ih _ _ _ _ _ ha mu w F cs0 tmps dfs rcC (.inBlock id::k) _ s (.inl rfl)
       have r1':=Reach.pre (.one st_block) r1
       cases x1 with
       |normal=>cases hl;exact⟨mu1,w1,tmps1,dfs1,rc1,s1,e1,Steps.trans r1' (.one yU)⟩
       | exit i=>
         simp only []at hl
         obtain⟨k0,hk0,r2⟩:=r1'
         cases hi:zM i id with
         | true=>
           have:i=id:=Nat.eq_of_beq_eq_true hi
           subst this
           rw [hi]at hl
           cases hl
           exact⟨mu1,w1,tmps1,dfs1,rc1,s1,e1,Steps.trans r2 (.one (st_exit (k':=k) (by rw [hk0];simp [exitTo])))⟩
         | false=>
           have hne:id≠i:=by intro e;subst e;rw [Nat.beq_refl]at hi;cases hi
           rw [hi]at hl
           cases hl
           exact⟨mu1,w1,tmps1,dfs1,rc1,s1,e1,k0,by rw [hk0];simp [exitTo,hne],r2⟩
       |ret=>cases hl;exact⟨mu1,w1,tmps1,dfs1,rc1,s1,e1,r1'⟩
       |pan v=>cases hl;exact⟨mu1,w1,tmps1,dfs1,rc1,s1,e1,r1'⟩
   . cases hb
 | loop b ih=>
   intro l h x l' h' hl mu w F cs0 tmps dfs rcC k todo s ht
   have hst:step P (lone (F.mk' tmps dfs todo) (aN rcC cs0) w)=.next (lone (F.mk' tmps dfs (.code b:: .inLoop b::k)) (aN rcC cs0) w):=by
    rcases ht with rfl|⟨b2,hb,rfl⟩
    . exact st_loop
    . cases hb;exact st_inLoop
   simp only [aE]at hl
   cases ha:aE E R cx b l h with
   |none=>rw [ha]at hl;cases hl
   | some q=>
     obtain⟨x1,l1,h1⟩:=q
     rw [ha]at hl
     obtain⟨mu1,w1,tmps1,dfs1,rc1,s1,e1,r1⟩:=ih _ _ _ _ _ ha mu w F cs0 tmps dfs rcC (.inLoop b::k) _ s (.inl rfl)
     have r1':=Reach.pre (.one hst) r1
     cases x1 with
     |normal=>exact Sim.pre r1' e1 (hcode _ _ _ _ _ _ _ hl mu1 w1 F cs0 tmps1 dfs1 rc1 k _ s1 (.inr ⟨b,rfl,rfl⟩))
     |exit id=>cases hl;exact⟨mu1,w1,tmps1,dfs1,rc1,s1,e1,r1'.out (fun id _=>rfl) (by simp)⟩
     |ret=>cases hl;exact⟨mu1,w1,tmps1,dfs1,rc1,s1,e1,r1'.out (fun id _=>rfl) (by simp)⟩
     |pan v=>cases hl;exact⟨mu1,w1,tmps1,dfs1,rc1,s1,e1,r1'.out (fun id _=>rfl) (by simp)⟩
 | rangeFunc f params assign body iha ihb=>
   intro l h x l' h' hl mu w F cs0 tmps dfs rcC k todo s ht
   rcases ht with rfl|⟨b,hb,_⟩
   . exact uV ok hc hl s
   . cases hb
 | exit id=>
   intro l h x l' h' hl mu w F cs0 tmps dfs rcC k todo s ht
   rcases ht with rfl|⟨b,hb,_⟩
   . cases hl;exact⟨mu,w,tmps,dfs,rcC,s,Ext.refl mu _ w s.hr,k,rfl,Steps.refl _ _⟩
   . cases hb
 | scope b ih=>
   intro l h x l' h' hl mu w F cs0 tmps dfs rcC k todo s ht
   rcases ht with rfl|⟨b,hb,_⟩
   . obtain⟨mu1,w1,tmps1,dfs1,rc1,s1,e1,r1⟩:=ih _ _ _ _ _ hl mu w F cs0 tmps dfs rcC (.inScope b::k) _ s (.inl rfl)
     have r1':=Reach.pre (.one st_scope) r1
     cases x with
     |normal=>exact⟨mu1,w1,tmps1,dfs1,rc1,s1,e1,Steps.trans r1' (.one zg)⟩
     |exit id=>exact⟨mu1,w1,tmps1,dfs1,rc1,s1,e1,r1'.out (fun id _=>rfl) (by simp)⟩
     |ret=>exact⟨mu1,w1,tmps1,dfs1,rc1,s1,e1,r1'.out (fun id _=>rfl) (by simp)⟩
     |pan v=>exact⟨mu1,w1,tmps1,dfs1,rc1,s1,e1,r1'.out (fun id _=>rfl) (by simp)⟩
   . cases hb
 |goto n=>intro l h x l' h' hl;cases hl
 | ret=>
   intro l h x l' h' hl mu w F cs0 tmps dfs rcC k todo s ht
   rcases ht with rfl|⟨b,hb,_⟩
   . cases hl;exact⟨mu,w,tmps,dfs,rcC,s,Ext.refl mu _ w s.hr,k,Steps.refl _ _⟩
   . cases hb
 |refuse m=>intro l h x l' h' hl;cases hl
end
end Go.Ab

namespace Go.Ab

theorem pU.hrel{w w':World}(k:pU w w'){mu:Mu}{h:Hp}(hh:aJ mu h w):aJ mu h w':=
 ⟨hh.sized,fun b c base top hm=>by
  obtain⟨x,o,h1,h2,h3⟩:=hh.blk b c base top hm
  refine⟨x,o,h1,?_,h3⟩
  rw [k.heap c (by
   rcases zR c w.heap.size with hc|hc
   . exact hc
   . rw [zP hc]at h2;cases h2)]
  exact h2,hh.dead,hh.inj,hh.lt⟩
theorem pU.ext{w w':World}(k:pU w w'){mu:Mu}{h:Hp}(hh:aJ mu h w):Ext mu h w mu h w' where
 n:=zT _
 old:=fun _ _=>.inl rfl
 fresh:=fun b c base top hb hm=>absurd (hh.lt b (by rw [hm];simp)) (by omega)
 lo:=zT _
 same:=fun _ _ _=>rfl
 frame:=fun c hc _=>k.heap c hc
 ro:=fun b c base top t sz el hm hg=>by
  obtain⟨x,o,h1,h2,h3⟩:=hh.blk b c base top hm
  refine⟨k.heap c ?_,rfl,rfl⟩
  rcases zR c w.heap.size with hc|hc
  . exact hc
  . rw [zP hc]at h2;cases h2
 wsize:=k.size
 os:=k.os
 tape:=k.tape
 output:=k.output
 cover:=fun _ h1 h2=>absurd h2 (by omega)

def oO(mu:Mu):Option Value->FrameMode->Prop
 |none,M=>M=.returning
 |some v,M=> ∃v',M=.panicking [{v:=v',recovered:=false}]/\ao mu v v'
theorem oO.mono{mu mu':Mu}(h:Le mu mu'){m:Option Value}{M:FrameMode}(k:oO mu m M):oO mu' m M:=by
 cases m with
 |none=>exact k
 |some v=>obtain⟨v',a,b⟩:=k;exact⟨v',a,b.mono h⟩
def FC.un(F:FC)(tmps:Array Value)(dfs:List Deferred)(todo:List Item)(M:FrameMode):Frame:={F.mk' tmps dfs todo with mode:=M}

section
variable{P:Program}{F:FC}{tmps:Array Value}{dfs:List Deferred}{todo:List Item}{cs:List Frame}{w:World}
theorem xI{M:FrameMode}(hM:M≠ .run){c:Nat}{args:Array Value}{ds2:List Deferred}(hw:w.heap[c]? =some (.deferred (some ds2))):
 step P (lone (F.un tmps ({target:=.collected c,args}::dfs) todo M) cs w)=.next (lone (F.un tmps (ds2++dfs) todo M) cs (setW w c (.deferred none))):=by
 refine step_lone_go ?_
 have h1:=rK (P:=P) hw
 cases M with
 |run=>exact absurd rfl hM
 |returning=>simp [stepG,unwind,FC.un,FC.mk',h1]
 |panicking ch=>simp [stepG,unwind,FC.un,FC.mk',h1]
theorem nS{M:FrameMode}(hM:M≠ .run){f:FuncId}{cap args:Array Value}(hf: ∀a w,(callFunc f a).run P w=.ok (.enter f a) w):
 step P (lone (F.un tmps ({target:=.fn (.func f) cap,args}::dfs) todo M) cs w)=.next (lone (Frame.enter P f (args++cap) .deferred) (F.un tmps dfs todo M::cs) w):=by
 refine step_lone_go ?_
 cases M with
 |run=>exact absurd rfl hM
 |returning=>simp [stepG,unwind,callDeferred,FC.un,FC.mk',invoke,hf]
 |panicking ch=>simp [stepG,unwind,callDeferred,FC.un,FC.mk',invoke,hf]
theorem mD{fr c:Frame}{v:Value}(h:oH P fr w .deferred v)(hm:c.mode=.returning\/ ∃v',c.mode=.panicking [{v:=v',recovered:=false}]):
 step P (lone fr (c::cs) w)=.next (lone c cs w):=by
 obtain⟨fn,hf,hr⟩:=h.res
 refine step_lone_go ?_
 rcases hm with hm|⟨v',hm⟩<;>simp [stepG,unwind,doReturn,h.mode,h.defers,h.kind,hf,hr,hm]
theorem qy{fr c:Frame}{v v':Value}(h:oH P fr w .deferred v)(hm:c.mode=.panicking [{v:=v',recovered:=true}]):
 step P (lone fr (c::cs) w)=.next (lone {c with mode:=.returning} cs w):=by
 obtain⟨fn,hf,hr⟩:=h.res
 exact step_lone_go (by simp [stepG,unwind,doReturn,h.mode,h.defers,h.kind,hf,hr,hm])
end

section
variable{E:Env}{P:Program}(ok:EOk E P){R:Rec}(hc:gQ E P R.call)(hcode:iU P R.code)

include ok hc in
theorem jF {F : FC} {tmps:Array Value} {todo:List Item} {cs:List Frame}: ∀(ds:List Deferred) (m m':Option Value) (h h':Hp),bw R ds m h=some (m',h')->
 ∀ (mu:Mu) (w:World) (dfs:List Deferred) (M:FrameMode),aJ mu h w->j8 mu->DL mu ds dfs->oO mu m M->
   ∃mu' w' M',aJ mu' h' w'/\Ext mu h w mu' h' w'/\oO mu' m' M'/\Steps P (lone (F.un tmps dfs todo M) cs w) (lone (F.un tmps [] todo M') cs w')
 | [],m,m',h,h',hl,mu,w,dfs,M,hh,hg,hd,hm=>by
   cases hl
   rw [hd.nil_left]
   exact⟨mu,w,M,hh,Ext.refl mu h w hh,hm,Steps.refl _ _⟩
 | d :: ds, m,m',h,h',hl,mu,w,dfs,M,hh,hg,hd,hm=>by
   obtain⟨d',dfs',rfl,h1,h2⟩:=hd.cons_left
   have hM:M≠ .run:=by
    intro e;subst e
    cases m with
    |none=>cases hm
    |some v=>obtain⟨_,a,_⟩:=hm;cases a
   obtain⟨tg',args'⟩:=d'
   unfold bw at hl
   split at hl
   next b hb=>
    split at hl
    next hget=>
     unfold kK at h1
     rw [hb]at h1
     obtain⟨c,hc1,hp⟩:=h1
     simp only []at hc1
     subst hc1
     obtain⟨top,g1,g2⟩:=dead_at hh hp hget
     obtain⟨a1,a2⟩:=oe hh g1 (by intro t sz el e;rw [hget]at e;cases e) (qi (o:=.deferred none) g2)
     have le:=a2.le hh
     obtain⟨mu',w',M',k1,k2,k3,k4⟩:=jF ds m m' _ h' hl _ _ dfs' M a1 (hg.mono le) (LR.mono h2 fun _ _=>kK.mono le) (hm.mono le)
     exact⟨mu',w',M',k1,Ext.trans a2 k2,k3,.head (xI hM g2) k4⟩
    next=>cases hl
   next f cap hb=>
    unfold kK at h1
    rw [hb]at h1
    obtain⟨cap',hc1,hcap,hargs⟩:=h1
    simp only []at hc1 hargs
    subst hc1
    have va:VL mu (d.args.toList++cap.toList) (args'++cap').toList:=by
     rw [zZ];exact LR.append hargs hcap
    cases m with
    | none=>
      have hMr:M=.returning:=hm
      subst hMr
      simp only []at hl
      cases hcall:R.call f (d.args.toList++cap.toList) none h with
      |none=>rw [hcall]at hl;cases hl
      | some q=>
        obtain⟨out,rc,h2'⟩:=q
        rw [hcall]at hl
        obtain⟨⟨fn,hfn,hbody⟩,hs⟩:=hc _ _ _ _ _ _ _ hcall
        have st1:=nS (P:=P) (F:=F) (tmps:=tmps) (dfs:=dfs') (todo:=todo) (cs:=cs) (w:=w) hM (cap:=cap') (args:=args') (fun a w=>ok.call f fn a w hfn hbody)
        obtain⟨mu1,w1,rcC1,fr,k1,k2,k3,k4,k5,k6,_⟩:=hs mu w (args'++cap') none (F.un tmps dfs' todo .returning::cs) .deferred hh hg va trivial (.inr ⟨rfl,_,_,rfl,rfl⟩)
        cases out with
        |pan v=>cases hl
        | ret v=>
          obtain⟨v',l1,l2⟩:=k6
          simp only []at hl
          cases rc with
          |some y=>cases hl
          | none=>
            cases rcC1 with
            |some y=>exact k3.elim
            | none=>
              simp only []at hl
              have le:=k2.le hh
              obtain⟨mu',w',M',g1,g2,g3,g4⟩:=jF ds none m' _ h' hl mu1 w1 dfs' .returning k1 (hg.mono le) (LR.mono h2 fun _ _=>kK.mono le) rfl
              exact⟨mu',w',M',g1,Ext.trans k2 g2,g3,Steps.trans (.one st1) (Steps.trans k5 (.head (mD l1 (.inl rfl)) g4))⟩
    | some pv =>
      obtain⟨pv',rfl,hpv⟩:=hm
      simp only []at hl
      cases hcall:R.call f (d.args.toList++cap.toList) (some (pv,false)) h with
      |none=>rw [hcall]at hl;cases hl
      | some q=>
        obtain⟨out,rc,h2'⟩:=q
        rw [hcall]at hl
        obtain⟨⟨fn,hfn,hbody⟩,hs⟩:=hc _ _ _ _ _ _ _ hcall
        have st1:=nS (P:=P) (F:=F) (tmps:=tmps) (dfs:=dfs') (todo:=todo) (cs:=cs) (w:=w) hM (cap:=cap') (args:=args') (fun a w=>ok.call f fn a w hfn hbody)
        obtain⟨mu1,w1,rcC1,fr,k1,k2,k3,k4,k5,k6,_⟩:=hs mu w (args'++cap') (some (pv',false)) (F.un tmps dfs' todo (.panicking [{v:=pv',recovered:=false}])::cs) .deferred hh hg va ⟨rfl,hpv⟩ ⟨rfl,by simp⟩
        cases out with
        |pan v=>cases hl
        | ret v =>
          obtain⟨v',l1,l2⟩:=k6
          simp only []at hl
          have le:=k2.le hh
          cases rc with
          |none=>cases hl
          | some y=>
            obtain⟨v0,b⟩:=y
            cases rcC1 with
            |none=>exact k3.elim
            | some z=>
              obtain⟨v0',b'⟩:=z
              obtain⟨rfl,hv0⟩:=k3
              cases b with
              | true=>
                simp only []at hl
                obtain⟨mu',w',M',g1,g2,g3,g4⟩:=jF ds none m' _ h' hl mu1 w1 dfs' .returning k1 (hg.mono le) (LR.mono h2 fun _ _=>kK.mono le) rfl
                refine⟨mu',w',M',g1,Ext.trans k2 g2,g3,Steps.trans (.one st1) (Steps.trans k5 (.head (qy l1 rfl) g4))⟩
              | false=>
                simp only []at hl
                obtain⟨mu',w',M',g1,g2,g3,g4⟩:=jF ds (some v0) m' _ h' hl mu1 w1 dfs' (.panicking [{v:=v0',recovered:=false}]) k1 (hg.mono le) (LR.mono h2 fun _ _=>kK.mono le) ⟨v0',rfl,hv0⟩
                refine⟨mu',w',M',g1,Ext.trans k2 g2,g3,Steps.trans (.one st1) (Steps.trans k5 (.head (mD l1 (.inr ⟨v0',rfl⟩)) g4))⟩
   next=>cases hl

include ok in
theorem xU {mu:Mu} {h:Hp} {w:World} (hh:aJ mu h w) {t:Tr Value} {n:Nat} {tmps:Array Value} (hr:iu mu t n tmps): ∀(rs:List ResultVar) (vs:List Value),aT E t h rs=some vs->
 ∃ vs',(rs.mapM (fun
   | .tmp t=>pure (tmps.getD t undef)
   | .cell a t=>do loadVar t (<-asAddr (tmps.getD a undef)):ResultVar->Sem Value)).run P w=.ok vs' w/\VL mu vs vs':=by
 have hreg: ∀a,ao mu (match t.get a with|some v=>v|none=>.tuple #[]) (tmps.getD a undef):=by
  intro a
  cases hv:t.get a with
  | none=>
    have:n<=a:=by
     rcases zR a n with h1|h1
     . obtain⟨v,h2⟩:=Tr.get_some hr.sized h1;rw [h2]at hv;cases hv
     . exact h1
    rw [zO,zP (by rw [hr.size];exact this)]
    exact .tuple rfl (by intro i v v' hv;simp at hv)
  | some v=>
    obtain⟨v',h1,h2⟩:=hr.get a v hv
    rw [zO,h1];exact h2
 intro rs
 induction rs with
 |nil=>intro vs hl;cases hl;exact⟨[],by simp,LR.nil⟩
 | cons r rs ih=>
   intro vs hl
   cases r with
   | tmp a=>
     simp only [aT]at hl
     cases hq:aT E t h rs with
     |none=>rw [hq]at hl;cases hl
     | some l=>
       rw [hq]at hl
       cases hl
       obtain⟨vs',g1,g2⟩:=ih l hq
       refine⟨tmps.getD a undef::vs',?_,LR.cons (hreg a) g2⟩
       simp only [List.mapM_cons,Sem.run_bind,Sem.run_pure,Result.andThen_ok,g1]
   | cell a ty=>
     simp only [aT]at hl
     split at hl
     next=>cases hl
     next v hv=>
      cases hq:aT E t h rs with
      |none=>rw [hq]at hl;cases hl
      | some l=>
        rw [hq]at hl
        cases hl
        obtain⟨vs',g1,g2⟩:=ih l hq
        obtain⟨v',k1,k2⟩:=ur (P:=P) ok hh hv (hreg a)
        refine⟨v'::vs',?_,LR.cons k2 g2⟩
        have ha: ∃ad,tmps.getD a undef=.pointer (some ad):=by
         have key: ∀x y,eo E h ty x=some v->ao mu x y-> ∃ad,y=.pointer (some ad):=by
          intro x y hv hx
          unfold eo at hv
          cases hx<;>(try simp only []at hv)<;>first|(cases hv;done)|exact⟨_,rfl⟩
         exact key _ _ hv (hreg a)
        obtain⟨ad,ha⟩:=ha
        have ha2:(asAddr (tmps.getD a undef)).run P w=.ok ad w:=by rw [ha];simp [asAddr]
        rw [ha]at k1
        simp only [Instr.loadAt,Instr.sureAddr,Sem.run_bind,Sem.run_pure,Result.andThen_ok]at k1
        simp only [List.mapM_cons,Sem.run_bind,ha2,Sem.run_pure,Result.andThen_ok,k1,g1]

include ok in
theorem yk{mu:Mu}{h:Hp}{w:World}(hh:aJ mu h w){t:Tr Value}{n:Nat}{tmps:Array Value}(hr:iu mu t n tmps){fn:Func}{vs:List Value}(hl:aT E t h fn.results.toList=some vs):
 ∃v',(results fn tmps).run P w=.ok v' w/\ao mu (ac vs) v':=by
 obtain⟨vs',g1,g2⟩:=xU (P:=P) ok hh hr _ _ hl
 have h1:(results fn tmps).run P w=.ok (if h:vs'.toArray.size=1 then vs'.toArray[0]else .tuple vs'.toArray) w:=by
  unfold results
  rw [Array.mapM_eq_mapM_toList]
  simp only [map_eq_pure_bind,Sem.run_bind]
  refine(congrArg (fun q:Result (List Value)=>(q.andThen fun a w'=>(pure a.toArray:Sem (Array Value)).run P w').andThen
   fun a w'=>(pure (if h:a.size=1 then a[0]else .tuple a):Sem Value).run P w') g1).trans ?_
  simp
 refine⟨_,h1,?_⟩
 cases vs with
 | nil=>
   rw [g2.nil_left]
   exact .tuple rfl (by intro i v v' hv;simp at hv)
 | cons v r=>
   obtain⟨v',r',rfl,k1,k2⟩:=g2.cons_left
   cases r with
   | nil=>
     rw [k2.nil_left]
     simpa [ac]using k1
   | cons v2 r2=>
     obtain⟨v2',r2',rfl,k3,k4⟩:=k2.cons_left
     simp only [ac,List.size_toArray,List.length_cons]
     rw [dif_neg (by omega)]
     exact .tuple (by simpa using k4.1) (fun i u u' hu hu'=>g2.2 i u u' (by simpa using hu) (by simpa using hu'))

include ok hc hcode in
theorem xh : gQ E P (ju E R):=by
 intro g args rc h o rc' h' hl
 unfold ju at hl
 cases hfn:E.fn g with
 |none=>rw [hfn]at hl;cases hl
 | some fn =>
   rw [hfn]at hl
   simp only []at hl
   cases hb:fn.body with
   |none=>rw [hb]at hl;cases hl
   | some body =>
     rw [hb]at hl
     simp only []at hl
     refine⟨⟨fn,rfl,by rw [hb];rfl⟩,?_⟩
     intro mu w args' rcC cs0 kind hh hg ha hrc hko
     have hP:=ok.fn g fn hfn
     cases hle:zV args.length fn.ntmps with
     |false=>rw [hle]at hl;cases hl
     | true =>
       rw [hle]at hl
       simp only [cond_true]at hl
       have hle':args.length<=fn.ntmps:=Nat.le_of_ble_eq_true hle
       have hkind:kind=.normal\/kind=.deferred:=by
        cases rcC with
        |none=>rcases hko with a|a;exact .inl a;exact .inr a.1
        |some y=>exact .inr hko.1
       let F:FC:=⟨g,kind,none⟩
       have hent:Frame.enter P g args' kind=F.mk' (args'++zQ (fn.ntmps-args'.size) undef) [] [.code body]:=by
        simp [Frame.enter,hP,hb,FC.mk',F]
       have hsz:args.length=args'.size:=by rw [ha.1];simp
       have hregs:iu mu ((Tr.blank (.tuple #[]) fn.ntmps fn.ntmps).setAll 0 args) fn.ntmps (args'++zQ (fn.ntmps-args'.size) undef):=by
        refine⟨by simp [hsz.symm];omega,Tr.sized_setAll 0 args (Tr.sized_blank _ _ _ (zT _)),fun i v hv=>?_⟩
        rw [Tr.get_setAll _ 0 args fn.ntmps (Tr.sized_blank _ _ _ (zT _)) (by omega)]at hv
        by_cases hi:i<args.length
        . rw [if_pos ⟨Nat.zero_le _,by omega⟩]at hv
          obtain⟨v',g1,g2⟩:=ha.get (i:=i) (by simpa using hv)
          exact⟨v',by rw [Array.getElem?_append_left (by omega)];simpa using g1,g2⟩
        . rw [if_neg (by omega),Tr.get_blank _ _ _ (zT _)]at hv
          split at hv
          . cases hv
            refine⟨undef,?_,.tuple rfl (by intro i v v' hv;simp at hv)⟩
            rw [Array.getElem?_append_right (by omega)]
            rw [Array.getElem?_replicate,if_pos (by omega)]
          . cases hv
       have sr:SR P ⟨g,fn.ntmps,none⟩ ⟨(Tr.blank (.tuple #[]) fn.ntmps fn.ntmps).setAll 0 args,[],rc⟩ h mu w F cs0 (args'++zQ (fn.ntmps-args'.size) undef) [] rcC:=
        ⟨hh,hg,hregs,LR.nil,hrc,hko,rfl,trivial,fun e=>absurd rfl e,by show(P.funcs[g]?).isSome=true;rw [hP];rfl⟩
       rw [hent]
       cases hcd:R.code ⟨g,fn.ntmps,none⟩ body ⟨(Tr.blank (.tuple #[]) fn.ntmps fn.ntmps).setAll 0 args,[],rc⟩ h with
       |none=>rw [hcd]at hl;cases hl
       | some q =>
         obtain⟨x,l1,h1⟩:=q
         rw [hcd]at hl
         obtain⟨mu1,w1,tmps1,dfs1,rcC1,s1,e1,r1⟩:=hcode _ _ _ _ _ _ _ hcd mu w F cs0 _ [] rcC [] [.code body] sr (.inl rfl)
         have fin: ∀{tmps2:Array Value} {todo:List Item} {mu2:Mu} {h2:Hp} {w2:World} {vs:List Value},aJ mu2 h2 w2->iu mu2 l1.regs fn.ntmps tmps2->aT E l1.regs h2 fn.results.toList=some vs->
          ∃v',oH P (F.un tmps2 [] todo .returning) w2 kind v'/\ao mu2 (ac vs) v':=by
          intro tmps2 todo mu2 h2 w2 vs hh2 hr2 hrs
          obtain⟨v',g1,g2⟩:=yk (P:=P) ok hh2 hr2 hrs
          exact⟨v',⟨rfl,rfl,rfl,fn,hP,g1⟩,g2⟩
         have usual: ∀{todo:List Item},Steps P (lone (F.mk' (args'++zQ (fn.ntmps-args'.size) undef) [] [.code body]) (aN rcC cs0) w) (lone (F.mk' tmps1 dfs1 todo) (aN rcC1 cs0) w1)->(todo=[]\/ ∃k0,todo=.code .ret::k0)->
          (match bw R l1.dfs none h1 with
            | some (none,h'')=>match aT E l1.regs h'' fn.results.toList with
              |none=>none
              |some vs=>some (Out.ret (ac vs),l1.rc,h'')
            |_=>none)=some (o,rc',h')->
          ∃ mu' w' rcC' fr,aJ mu' h' w'/\Ext mu h w mu' h' w'/\nK mu' rc' rcC'/\KOk kind cs0 rcC'/\
            Steps P (lone (F.mk' (args'++zQ (fn.ntmps-args'.size) undef) [] [.code body]) (aN rcC cs0) w) (lone fr (aN rcC' cs0) w')/\
            CallEnd P fr w' kind mu' o/\fr.fn=g:=by
          intro todo st ht hl
          cases hu:bw R l1.dfs none h1 with
          |none=>rw [hu]at hl;cases hl
          | some q2=>
            obtain⟨m2,h2⟩:=q2
            rw [hu]at hl
            cases m2 with
            |some v=>cases hl
            | none=>
              simp only []at hl
              obtain⟨mu2,w2,M2,k1,k2,k3,k4⟩:=jF ok hc (F:=F) (tmps:=tmps1) (todo:=todo) (cs:=aN rcC1 cs0) _ _ _ _ _ hu mu1 w1 dfs1 .returning s1.hr s1.glob s1.dfs rfl
              have hM2:M2=.returning:=k3
              subst hM2
              have le:=k2.le s1.hr
              cases hrs:aT E l1.regs h2 fn.results.toList with
              |none=>rw [hrs]at hl;cases hl
              | some vs=>
                rw [hrs]at hl
                cases hl
                have s2:=s1.step k1 le
                obtain⟨v',f1,f2⟩:=fin (todo:=todo) k1 s2.regs hrs
                exact⟨mu2,w2,rcC1,_,k1,Ext.trans e1 k2,s2.rc,s1.ko,Steps.trans st (.head (zo rfl ht) k4),⟨v',f1,f2⟩,rfl⟩
         cases x with
         |exit id=>cases hl
         |normal=>exact usual r1 (.inl rfl) hl
         |ret=>obtain⟨k0,r2⟩:=r1;exact usual r2 (.inr ⟨k0,rfl⟩) hl
         | pan v =>
           obtain⟨v',todo,hv,r2⟩:=r1
           simp only []at hl
           cases hu:bw R l1.dfs (some v) h1 with
           |none=>rw [hu]at hl;cases hl
           | some q2=>
             obtain⟨m2,h2⟩:=q2
             rw [hu]at hl
             obtain⟨mu2,w2,M2,k1,k2,k3,k4⟩:=jF ok hc (F:=F) (tmps:=tmps1) (todo:=todo) (cs:=aN rcC1 cs0) _ _ _ _ _ hu mu1 w1 dfs1 (.panicking [{v:=v',recovered:=false}]) s1.hr s1.glob s1.dfs ⟨v',rfl,hv⟩
             have le:=k2.le s1.hr
             have s2:=s1.step k1 le
             cases m2 with
             | some v2=>
               cases hl
               obtain⟨v2',rfl,hv2⟩:=k3
               exact⟨mu2,w2,rcC1,_,k1,Ext.trans e1 k2,s2.rc,s1.ko,Steps.trans r2 k4,⟨v2',⟨rfl,rfl,rfl,fn,hP⟩,hv2⟩,rfl⟩
             | none=>
               have hM2:M2=.returning:=k3
               subst hM2
               simp only []at hl
               cases hrs:aT E l1.regs h2 fn.results.toList with
               |none=>rw [hrs]at hl;cases hl
               | some vs=>
                 rw [hrs]at hl
                 cases hl
                 obtain⟨v2',f1,f2⟩:=fin (todo:=todo) k1 s2.regs hrs
                 exact⟨mu2,w2,rcC1,_,k1,Ext.trans e1 k2,s2.rc,s1.ko,Steps.trans r2 k4,⟨v2',f1,f2⟩,rfl⟩

include ok hc hcode in
theorem vW:gQ E P (ig E R):=by
 intro g args rc h o rc' h' hl
 unfold ig at hl
 cases ho:E.orc g args with
 |none=>rw [ho]at hl;exact xh ok hc hcode g args rc h o rc' h' hl
 | some v =>
   rw [ho]at hl
   cases rc with
   |some x=>cases hl
   | none =>
     cases hl
     obtain⟨hfn,ha,hv,hs⟩:=ok.orc g args v ho
     refine⟨hfn,?_⟩
     intro mu w args' rcC cs0 kind hh hg hva hrc hko
     cases rcC with
     |some x=>exact hrc.elim
     | none=>
       have hargs:args'=⟨args⟩:=by
        apply Array.ext'
        refine List.ext_getElem? fun i=>?_
        obtain⟨hlen,hget⟩:=hva
        rcases zR i args.length with hi|hi
        . have hi':i<args'.toList.length:=by omega
          have h1:=hget i args[i] args'.toList[i] (zN hi) (zN hi')
          have h2:cg args[i]=true:=List.all_eq_true.1 ha _ (List.getElem_mem hi)
          rw [zN hi',ao.const_eq h2 h1]
          exact(zN hi).symm
        . rw [zX hi,zX (by omega)]
       subst hargs
       obtain⟨w',fr,k1,k2,k3,k4⟩:=hs w cs0 kind hko
       exact⟨mu,w',none,fr,k1.hrel hh,k1.ext hh,trivial,hko,k2,⟨v,k3,ao.const mu hv⟩,k4⟩
end
end Go.Ab

namespace Go.Ab

theorem run_ok{E:Env}{P:Program}(ok:EOk E P)(hd: ∀R,gQ E P R.call->iU P R.code->DrawOk E P R): ∀n,gQ E P (run E n).call/\iU P (run E n).code
 | 0=>by
   constructor
   . intro g args rc h o rc' h' hl;cases hl
   . intro cx c l h x l' h' hl;cases hl
 | n+1=>by
   obtain⟨h1,h2⟩:=run_ok ok hd n
   exact⟨vW ok h1 h2,wD ok h1 h2 (hd _ h1 h2)⟩

noncomputable def hp0:Hp:={n:=16,t:=Tr.ofList (zY 16 .dead),lo:=16}
def mu0:Mu:=fun b=>if b<16 then .dead else .none
theorem hrel0(w:World):aJ mu0 hp0 w:=by
 refine⟨?_,?_,?_,?_,?_⟩
 . have:=Tr.sized_ofList (zY 16 Blk.dead)
   rwa [List.length_replicate]at this
 . intro b c base top h
   unfold mu0 at h;split at h<;>cases h
 . intro b h
   unfold mu0 at h
   split at h
   next hb=>
    show(Tr.ofList (zY 16 Blk.dead)).get b=_
    rw [Tr.get_ofList,List.getElem?_replicate,if_pos hb]
   next=>cases h
 . intro b b' c base top base' top' h
   unfold mu0 at h;split at h<;>cases h
 . intro b h
   unfold mu0 at h
   split at h
   next hb=>exact hb
   next=>exact absurd rfl h
theorem glob0:j8 mu0:=by
 intro g hg
 unfold dM mu0
 simp [hg]

end Go.Ab

namespace Go.Ab

theorem uK{h h2:Hp}{b o n:Nat}(e:h2.get b=h.get b):h.load b o n=h2.load b o n:=by unfold Hp.load;rw [e]

theorem wL {E : Env} {op:Op} {ρ:Operand->Value} (hc:cls E op=0\/cls E op=1):
 ∃f:Hp->Option Value,(∀h,aop E ρ h op=bS h (f h))/\(cls E op=0-> ∀h h2,f h=f h2)/\(∀h h2,(∀b,touch ρ op=some b->h2.get b=h.get b)->f h=f h2):=by
 have pure_:(∀h,aop E ρ h op=bS h (pop E ρ op))-> ∃f:Hp->Option Value,(∀h,aop E ρ h op=bS h (f h))/\(cls E op=0-> ∀h h2,f h=f h2)/\(∀h h2,(∀b,touch ρ op=some b->h2.get b=h.get b)->f h=f h2):=
  fun h=>⟨fun _=>pop E ρ op,h,fun _ _ _=>rfl,fun _ _ _=>rfl⟩
 cases op
 case load t a=>
  refine⟨fun h=>eo E h t (ρ a),fun _=>rfl,fun h0=>by simp [cls]at h0,fun h h2 ht=>?_⟩
  show eo E h t (ρ a)=eo E h2 t (ρ a)
  unfold eo
  unfold touch at ht
  simp only []at ht
  split at ht
  next x hx=>
   rw [hx];simp only []
   have e: ∀o n,h.load x.block o n=h2.load x.block o n:=fun o n=>uK (ht _ rfl)
   simp only [e]
  next hx=>cases hr:ρ a<;>rw [hr]at hx<;>(try rfl);rename_i p;cases p<;>first|rfl|exact absurd rfl (hx _)
 case lookup t m k b=>
  refine⟨fun h=>dq E h t (ρ m) (ρ k) b,fun _=>rfl,fun h0=>by simp [cls]at h0,fun h h2 ht=>?_⟩
  show dq E h t (ρ m) (ρ k) b=dq E h2 t (ρ m) (ρ k) b
  unfold touch at ht
  unfold dq
  simp only []at ht
  cases hr:ρ m<;>rw [hr]at ht<;>(try rfl)
  rename_i r
  cases r with
  |none=>rfl
  |some r=>simp only []at ht⊢;rw [ht r rfl]
 case convert src dst x=>
  have hkind:cls E (.convert src dst x)=0-> ∀p,bW E src dst=some p->p.1=0:=by
   intro h0 p hp
   unfold cls at h0
   unfold bW at hp
   simp only []at h0
   cases hs:E.und src with
   |none=>rw [hs]at hp;cases hp
   | some d=>
     rw [hs]at hp h0
     cases d<;>(try simp only []at hp h0)<;>(try (cases hp;rfl))<;>(try (cases h0;done))
     cases hd:E.und dst with
     |none=>rw [hd]at hp;cases hp
     |some d2=>rw [hd]at hp h0;cases d2<;>(try simp only []at hp h0)<;>(try (cases hp;rfl))<;>(try (cases h0;done))
  have hkind1:cls E (.convert src dst x)=1-> ∀p,bW E src dst=some p->p.1=0\/p.1=1:=by
   intro h0 p hp
   unfold cls at h0
   unfold bW at hp
   simp only []at h0
   cases hs:E.und src with
   |none=>rw [hs]at hp;cases hp
   | some d=>
     rw [hs]at hp h0
     cases d<;>(try simp only []at hp h0)<;>(try (cases h0;done))<;>(try (cases hp;exact .inl rfl))
     . cases hd:E.und dst with
       |none=>rw [hd]at hp;cases hp
       |some d2=>rw [hd]at hp h0;cases d2<;>(try simp only []at hp h0)<;>(try (cases h0;done))<;>(try (cases hp;exact .inl rfl))
     . split at hp
       . split at hp
         . cases hp;exact .inr rfl
         . cases hp
       . cases hp
  refine⟨fun h=>match bW E src dst with
   |some (0,_)=>jz E dst (ρ x)
   |some (1,_)=>strOf h (ρ x)
   |_=>none,fun h=>?_,fun h0 h h2=>?_,fun h h2 ht=>?_⟩
  . show cH (jH E h src dst (ρ x))=bS h _
    unfold jH
    cases hk:bW E src dst with
    |none=>rfl
    | some p=>
      obtain⟨n,e⟩:=p
      have h01:n=0\/n=1:=by
       rcases hc with h0|h0
       . exact .inl (hkind h0 _ hk)
       . exact hkind1 h0 _ hk
      rcases h01 with rfl|rfl
      . simp only [];cases jz E dst (ρ x)<;>rfl
      . simp only [];cases strOf h (ρ x)<;>rfl
  . cases hk:bW E src dst with
    |none=>simp only [hk]
    | some p=>
      obtain⟨n,e⟩:=p
      have:n=0:=hkind h0 _ hk
      subst this
      simp only [hk]
  . cases hk:bW E src dst with
    |none=>simp only [hk]
    | some p=>
      obtain⟨n,e⟩:=p
      simp only [hk]
      match n with
      |0=>rfl
      | 1=>
        show strOf h (ρ x)=strOf h2 (ρ x)
        unfold touch at ht
        simp only []at ht
        unfold strOf
        cases hr:ρ x<;>rw [hr]at ht<;>(try rfl)
        rename_i a l c
        cases a with
        |none=>rfl
        |some a=>simp only []at ht⊢;rw [uK (ht _ rfl)]
      |n+2=>rfl
 case call c =>
  cases hcc:c.callee with
  |value f=>simp [cls,hcc]at hc
  |invoke r n=>simp [cls,hcc]at hc
  | builtin b =>
    cases b<;>(try (simp [cls,hcc]at hc;done))
    case len =>
     refine ⟨fun h=>match pop E ρ (.call c)with
      |some v=>some v
      | none => match c.args.toList with
        | x ::_=>match ρ x with
          | .map (some r)=>match h.get r with
            | some (.map es _)=>match c.argTypes.toList with
              | t::_=>match E.und t with
                |some (.map _ _)=>some (.int .i64 (.ofNat es.length))
                |_=>none
              |_=>none
            |_=>none
          |_=>none
        |_=>none,fun h=>?_,fun h0=>by simp [cls,hcc]at h0,fun h h2 ht=>?_⟩
     . simp only [aop,hcc]
       cases pop E ρ (.call c)with
       |some v=>rfl
       | none=>
         simp only []
         cases ha:c.args.toList with
         |nil=>rfl
         | cons x xs=>
           simp only []
           cases hr:ρ x<;>(try rfl)
           rename_i r
           cases r with
           |none=>rfl
           | some r=>
             simp only []
             cases hg:h.get r with
             |none=>rfl
             | some y=>
               cases y<;>(try rfl)
               cases htt:c.argTypes.toList with
               |nil=>rfl
               | cons t ts=>
                 simp only []
                 cases hu:E.und t with
                 |none=>rfl
                 |some d=>cases d<;>rfl
     . show _=_
       cases pop E ρ (.call c)with
       |some v=>rfl
       | none=>
         simp only []
         unfold touch at ht
         simp only []at ht
         cases ha:c.args.toList with
         |nil=>rfl
         | cons x xs=>
           rw [ha]at ht
           simp only []at ht⊢
           cases hr:ρ x<;>rw [hr]at ht<;>(try rfl)
           rename_i r
           cases r with
           |none=>rfl
           |some r=>simp only []at ht⊢;rw [ht r rfl]
    all_goals exact pure_ (fun h=>by simp only [aop,hcc])
 all_goals first
  |exact pure_ (fun _=>rfl)
  |(exfalso;simp [cls]at hc;done)

theorem bT{h:Hp}{b b':Nat}{x:Blk}(hne:b≠b'):(h.put b x).get b'=h.get b':=by
 rw [Hp.get_put,if_neg (fun e=>hne e.1)]
theorem pg{h:Hp}{b:Nat}{x:Blk}(hs:h.t.Sized h.n)(hb:b<h.n):(h.new x).get b=h.get b:=by
 rw [Hp.get_new h x hs,if_neg (by omega)]
theorem oZ{h h1:Hp}{b o:Nat}{l:List Value}(hl:h.store b o l=some h1){b':Nat}(hne:b≠b'):h1.get b'=h.get b':=by
 unfold Hp.store at hl
 split at hl
 . cases hb:(_&&_&&_:Bool)<;>rw [hb]at hl
   . cases hl
   . cases hl;exact bT hne
 . cases hl
end Go.Ab

namespace Go.Ab

theorem mm{E:Env}{h:Hp}{t:TypeId}{m k:Value}{r:Nat}{es:List (Value×Value×Nat)}{c:Nat}{el:TypeId}(hm:jJ E h t m k=some (r,es,c,el)):
 m=.map (some r)/\h.get r=some (.map es c)/\ ∃kt,E.und t=some (.map kt el)/\aW E kt k=true:=by
 unfold jJ at hm
 split at hm
 next kt el' hu=>
  cases hf:aW E kt k with
  |false=>rw [hf]at hm;cases hm
  | true=>
    rw [hf]at hm
    simp only [cond_true]at hm
    split at hm
    next r'=>
     split at hm
     next es' c' hg=>cases hm;exact⟨rfl,hg,kt,hu,hf⟩
     next=>cases hm
    next=>cases hm
 next=>cases hm

theorem w_only {E : Env} {op:Op} {ρ:Operand->Value} {h h1:Hp} {nx:c9} (hs:h.t.Sized h.n) (hc:cls E op=2\/cls E op=5) (ha:aop E ρ h op=some (nx,h1)):
 ∀b,b<h.n->touch ρ op≠some b->h1.get b=h.get b:=by
 intro b hb ht
 have wv: ∀{r:Option (Hp×Value)},cH r=some (nx,h1)-> ∃v,r=some (h1,v):=by
  intro r hr
  cases r with
  |none=>cases hr
  |some q=>obtain⟨a,b⟩:=q;cases hr;exact⟨b,rfl⟩
 have wu: ∀{r:Option Hp},fb r=some (nx,h1)->r=some h1:=by
  intro r hr
  cases r with
  |none=>cases hr
  |some q=>cases hr;rfl
 cases op
 case store t a x=>
  have hl:=wu ha
  unfold ie at hl
  unfold touch at ht
  simp only []at ht
  split at hl
  next ad hx=>
   rw [hx]at ht
   simp only []at ht
   have hne:ad.block≠b:=fun e=>ht (by rw [e])
   split at hl
   next=>cases hl
   next n hn=>
    split at hl
    next=>cases hl
    next v hv=>
     cases hq:zM (an (ρ x)).length n with
     |false=>rw [hq]at hl;cases hl
     |true=>rw [hq]at hl;exact oZ hl hne
  next=>cases hl
 case mapUpdate t m k v=>
  have hl:=wu ha
  unfold jq at hl
  split at hl
  next=>cases hl
  next r es c el hm=>
   obtain⟨g1,_,_⟩:=mm hm
   have hne:r≠b:=by intro e;subst e;exact ht (by unfold touch;simp only [];rw [g1])
   split at hl
   next=>cases hl
   next=>cases hl;exact bT hne
   next=>cases hl;exact bT hne
 case insert t m k v=>
  have hl:=wu ha
  unfold jq at hl
  split at hl
  next=>cases hl
  next r es c el hm=>
   obtain⟨g1,_,_⟩:=mm hm
   have hne:r≠b:=by intro e;subst e;exact ht (by unfold touch;simp only [];rw [g1])
   split at hl
   next=>cases hl
   next=>cases hl;exact bT hne
   next=>cases hl;exact bT hne
 case mapEntry t m k=>
  obtain⟨v,hl⟩:=wv ha
  unfold iR at hl
  split at hl
  next=>cases hl
  next r es c el hm=>
   obtain⟨g1,_,_⟩:=mm hm
   have hne:r≠b:=by intro e;subst e;exact ht (by unfold touch;simp only [];rw [g1])
   split at hl
   next=>cases hl
   next=>cases hl;exact bT hne
   next=>
    split at hl
    next=>cases hl
    next=>cases hl;exact bT hne
 case entryStore t m s v=>
  have hl:=wu ha
  unfold jW at hl
  split at hl
  next r hr=>
   have hne:r≠b:=by intro e;subst e;exact ht (by unfold touch;simp only [];rw [hr])
   split at hl
   next es c hg=>
    split at hl
    next kd i hi=>
     split at hl
     next=>cases hl
     next n hn=>
      split at hl
      next=>cases hl
      next=>cases hl;exact bT hne
    next=>cases hl
   next=>cases hl
  next=>cases hl
 case call c =>
  cases hcc:c.callee with
  |value f=>simp [cls,hcc]at hc
  |invoke r n=>simp [cls,hcc]at hc
  | builtin bi =>
    cases bi<;>(try (simp [cls,hcc]at hc;done))
    case append =>
     simp only [aop,hcc]at ha
     split at ha
     next s x xs hargs =>
      obtain⟨v,hl⟩:=wv ha
      unfold cL at hl
      split at hl
      next t tx ts =>
       split at hl
       next =>
        unfold iX at hl
        split at hl
        next e hu=>
         split at hl
         next=>cases hl
         next i hi =>
          split at hl
          next a len cap hsv=>
           have hne: ∀ad,a=some ad->ad.block≠b:=by
            intro ad e e2
            subst e
            exact ht (by unfold touch;simp only [];rw [hargs];simp only [];rw [hsv];simp only [];rw [e2])
           split at hl
           next=>cases hl
           next n new hsrc=>
            unfold eJ at hl
            cases hq:zV (len+n) cap with
            | true=>
              rw [hq]at hl
              simp only [cond_true]at hl
              split at hl
              next=>cases hl;rfl
              next ad=>
               split at hl
               next=>cases hl;rfl
               next=>
                split at hl
                next=>cases hl
                next h2 hst=>cases hl;exact oZ hst (hne _ rfl)
            | false =>
              rw [hq]at hl
              simp only [cond_false]at hl
              cases hq2:(zV ((len+n)*(i.bytes+1)) 70368744177664&&(Xa 0 i.bytes))with
              |false=>rw [hq2]at hl;cases hl
              | true =>
                rw [hq2]at hl
                simp only [cond_true]at hl
                split at hl
                next=>cases hl
                next zs hz=>
                 cases hq3:zM zs.length i.size with
                 |false=>rw [hq3]at hl;cases hl
                 | true=>
                   rw [hq3]at hl
                   simp only [cond_true]at hl
                   unfold lZ at hl
                   split at hl
                   next=>
                    cases hq4:zM len 0 with
                    |false=>rw [hq4]at hl;cases hl
                    |true=>rw [hq4]at hl;cases hl;exact pg hs hb
                   next ad=>
                    split at hl
                    next tr sz el md hg=>
                     split at hl
                     next=>cases hl
                     next t2 s2 hgr=>
                      split at hl
                      next k' hk'=>
                       cases hq4:(zM k' i.size&& !Nat.beq md 0&&new.all iM)with
                       |false=>rw [hq4]at hl;cases hl
                       | true=>
                         rw [hq4]at hl
                         cases hl
                         rw [pg (h:=h.put ad.block .dead) (Tr.sized_set _ _ hs) hb]
                         exact bT (hne _ rfl)
                      next=>cases hl;exact pg hs hb
                    next=>cases hl
          next=>cases hl
        next=>cases hl
       next=>cases hl
      next=>cases hl
     next=>cases ha
    case copy=>
     simp only [aop,hcc]at ha
     split at ha
     next s x xs hargs=>
      obtain⟨v,hl⟩:=wv ha
      unfold copyV at hl
      split at hl
      next t ts=>
       split at hl
       next e hu=>
        split at hl
        next=>cases hl
        next k hk=>
         split at hl
         next a len cap hsv=>
          have hne: ∀ad,a=some ad->ad.block≠b:=by
           intro ad e e2
           subst e
           exact ht (by unfold touch;simp only [];rw [hargs];simp only [];rw [hsv];simp only [];rw [e2])
          split at hl
          next=>cases hl;rfl
          next=>
           split at hl
           next=>cases hl
           next=>cases hl;rfl
           next=>
            split at hl
            next=>cases hl
            next ad=>
             split at hl
             next=>cases hl
             next h2 hst=>cases hl;exact oZ hst (hne _ rfl)
          next=>cases hl
         next=>cases hl
       next=>cases hl
      next=>cases hl
     next=>cases ha
    case delete=>
     simp only [aop,hcc]at ha
     split at ha
     next t ts m k xs htt hargs=>
      split at ha
      next=>cases ha
      next h2 hl=>
       cases ha
       unfold kH at hl
       split at hl
       next=>cases hl
       next r es c el hm=>
        obtain⟨g1,_,_⟩:=mm hm
        have hne:r≠b:=by intro e;subst e;exact ht (by unfold touch;simp only [];rw [hargs];simp only [];rw [g1])
        split at hl
        next=>cases hl
        next=>cases hl;exact bT hne
     next=>cases ha
 case convert src dst x=>
  exfalso
  unfold cls at hc
  simp only []at hc
  split at hc<;>omega
 all_goals first
  |(exfalso;simp [cls]at hc;done)
  |(exfalso;unfold cls at hc;simp only []at hc;split at hc<;>simp at hc;done)
end Go.Ab

namespace Go.Ab

theorem tz{a b:Value}(h:cq a b=some true):a=b:=by
 unfold cq at h
 cases a<;>(try (simp at h;done))<;>cases b<;>(try (simp at h;done))
 . rename_i x y
   cases x<;>cases y<;>simp at h<;>rfl
 . rename_i k x k' y
   simp only []at h
   rw [fI,gG]at h
   by_cases hk:k=k'
   . subst hk;simp at h;subst h;rfl
   . simp [hk]at h
 . rename_i s u
   simp only []at h
   rw [iG]at h
   simp at h
   have:s=u:=by cases s;cases u;simp [aH]at h;simp [h]
   subst this;rfl
 . rename_i x y
   simp only []at h
   have:=(oC _ _ h).2.2.2.1 rfl
   cases x;cases y;simp at this;simp [this]
theorem uo{kd:IntKind}: ∀(l m:List Value),(∀v∈l,∃x,v=.int kd x)->(∀v∈m,∃x,v=.int kd x)->l.length=m.length-> ∃r,cP l m=some r
 | [],[],_,_,_=>⟨true,rfl⟩
 | a::l,b::m,h1,h2,h3=>by
   obtain⟨x,rfl⟩:=h1 a (by simp)
   obtain⟨y,rfl⟩:=h2 b (by simp)
   obtain⟨r,hr⟩:=uo l m (fun v h=>h1 v (by simp [h])) (fun v h=>h2 v (by simp [h])) (by simpa using h3)
   refine⟨bif iC x y then r else false,?_⟩
   simp only [cP,hr,fI,decide_true,cond_true]
 | [],_::_,_,_,h=>by simp at h
 |_::_,[],_,_,h=>by simp at h
theorem zc{E:Env}{kt:TypeId}{a b:Value}(ha:aW E kt a=true)(hb:aW E kt b=true): ∃r,cq a b=some r:=by
 unfold aW at ha hb
 cases hu:E.und kt with
 |none=>simp [hu]at ha
 | some d=>
   cases hd:fV d with
   | true=>
     cases d<;>simp only [fV]at hd<;>try (cases hd;done)
     obtain⟨cs,kd,rfl,_,_,l1,k1,v1⟩:=kp (E:=E) (kt:=kt) (k:=a) hu (by unfold aW;exact ha)
     obtain⟨ds,kd',rfl,_,_,l2,k2,v2⟩:=kp (E:=E) (kt:=kt) (k:=b) hu (by unfold aW;exact hb)
     rw [k1]at k2
     cases k2
     exact uo _ _ v1 v2 (by rw [l1,l2])
   |false=>
   simp only [hu]at ha hb
   cases d<;>simp only []at ha hb<;>(try (cases ha;done))<;>(try (cases hd;done))
   . cases a<;>simp only []at ha<;>try (cases ha;done)
     cases b<;>simp only []at hb<;>try (cases hb;done)
     exact⟨_,rfl⟩
   . cases a<;>simp only []at ha<;>try (cases ha;done)
     cases b<;>simp only []at hb<;>try (cases hb;done)
     rw [fI]at ha hb
     simp only [decide_eq_true_eq]at ha hb
     subst ha;subst hb
     rename_i x y
     refine⟨iC x y,?_⟩
     unfold cq
     simp only []
     rw [fI]
     simp
   . cases a<;>simp only []at ha<;>try (cases ha;done)
     cases b<;>simp only []at hb<;>try (cases hb;done)
     exact⟨_,rfl⟩
theorem uO{k v:Value}{n:Nat}: ∀{es:List (Value×Value×Nat)},cd k es=some (some (v,n))->j9 k v es=es
 | [],h=>by cases h
 | (k',v',n')::l,h=>by
   simp only [cd,j9]at h⊢
   cases hk:cq k k' with
   |none=>rw [hk]at h;cases h
   | some b=>
     rw [hk]at h
     cases b with
     |true=>simp only []at h⊢;cases h;rw [tz hk]
     |false=>simp only []at h⊢;rw [uO h]
theorem qp{k k0 z:Value}{c:Nat}: ∀(es:List (Value×Value×Nat)),cd k (es++[(k0,z,c)])=(match cd k es with
 |none=>none
 |some (some x)=>some (some x)
 | some none=>match cq k k0 with
   |none=>none
   |some true=>some (some (z,c))
   |some false=>some none)
 | []=>by
   simp only [List.nil_append,cd]
   cases cq k k0 with
   |none=>rfl
   |some b=>cases b<;>rfl
 | (k',v',n')::l=>by
   simp only [List.cons_append,cd]
   cases hk:cq k k' with
   |none=>rfl
   | some b=>
     cases b with
     |true=>rfl
     |false=>simp only [];exact qp l

theorem look_ent {E:Env} {t:TypeId} {m k:Operand} {ρ:Operand->Value} {h h1:Hp} {nx:c9} (ha:aop E ρ h (.mapEntry t m k)=some (nx,h1)) (mv kv:Value):
 dq E h1 t mv kv false=dq E h t mv kv false:=by
 obtain⟨v,hl⟩: ∃v,iR E h t (ρ m) (ρ k)=some (h1,v):=by
  simp only [aop]at ha
  cases hq:iR E h t (ρ m) (ρ k)with
  |none=>rw [hq]at ha;cases ha
  |some q=>rw [hq]at ha;obtain⟨a,b⟩:=q;cases ha;exact⟨b,rfl⟩
 unfold iR at hl
 split at hl
 next=>cases hl
 next r es c el hm=>
  obtain⟨g1,g2,kt,g3,g4⟩:=mm hm
  have hsome:(h.get r).isSome=true:=by rw [g2];rfl
  unfold dq
  simp only [g3]
  cases hf:aW E kt kv with
  |false=>rfl
  | true =>
    simp only [cond_true,cond_false]
    cases mv<;>(try rfl)
    rename_i r'
    cases r' with
    |none=>rfl
    | some r' =>
      simp only []
      by_cases hr:r=r'
      . subst hr
        split at hl
        next=>cases hl
        next v0 n0 hfd=>
         cases hl
         rw [Hp.get_put,if_pos ⟨rfl,hsome⟩,g2,uO hfd]
        next hfd=>
         split at hl
         next=>cases hl
         next z hz=>
          cases hl
          rw [Hp.get_put,if_pos ⟨rfl,hsome⟩,g2]
          simp only []
          rw [qp]
          cases cd kv es with
          |none=>rfl
          | some y=>
            cases y with
            |some y=>rfl
            | none=>
              simp only []
              obtain⟨b,hb⟩:=zc hf g4
              rw [hb]
              cases b with
              |true=>simp only []
              |false=>rfl
      . have:h1.get r'=h.get r':=by
         split at hl
         next=>cases hl
         next=>cases hl;exact bT hr
         next=>
          split at hl
          next=>cases hl
          next=>cases hl;exact bT hr
        rw [this]

def cut(mu:Mu)(n:Nat):Mu:=fun b=>if b<n then mu b else .none
theorem dJ{mu:Mu}{n b:Nat}(h:b<n):cut mu n b=mu b:=by simp [cut,h]
theorem mg{mu:Mu}{n b:Nat}(h:n<=b):cut mu n b=.none:=by simp [cut,Nat.not_lt.2 h]
theorem dM.in{mu:Mu}{a a':Addr}(h:dM mu a a'):mu a.block≠ .none:=by
 intro e;unfold dM at h;rw [e]at h;exact h
theorem dw.in{mu:Mu}{a a':Addr}{c c':Nat}(h:dw mu a c a' c'):mu a.block≠ .none:=by
 intro e;unfold dw at h;rw [e]at h;exact h
theorem di.in{mu:Mu}{b c:Nat}(h:di mu b c):mu b≠ .none:=by
 intro e;unfold di at h;rw [e]at h;exact h
theorem dM.cut{mu:Mu}{n:Nat}{a a':Addr}(h:dM mu a a')(hn:a.block<n):dM (cut mu n) a a':=by
 unfold dM at*;rw [dJ hn];exact h
theorem dw.cut{mu:Mu}{n:Nat}{a a':Addr}{c c':Nat}(h:dw mu a c a' c')(hn:a.block<n):dw (cut mu n) a c a' c':=by
 unfold dw at*;rw [dJ hn];exact h
theorem di.cut{mu:Mu}{n:Nat}{b c:Nat}(h:di mu b c)(hn:b<n):di (cut mu n) b c:=by
 unfold di at*;rw [dJ hn];exact h
theorem ao.cut{mu muT:Mu}{n:Nat}(hn: ∀b,muT b≠ .none->b<n){v vT:Value}(hT:ao muT v vT): ∀{v':Value},ao mu v v'->ao (cut mu n) v v':=by
 induction hT with
 |poison v=>intro v' _;exact .poison v'
 |bool b=>intro v' h;cases h;exact .bool b
 |int k m=>intro v' h;cases h;exact .int k m
 |string s=>intro v' h;cases h;exact .string s
 |nilp=>intro v' h;cases h;exact .nilp
 |ptr a=>intro v' h;cases h;rename_i h1;exact .ptr (h1.cut (hn _ a.in))
 |nils=>intro v' h;cases h;exact .nils
 |slice l a=>intro v' h;cases h;rename_i h2 h1;exact .slice h1 (h2.cut (hn _ a.in))
 |nilm=>intro v' h;cases h;exact .nilm
 |map a=>intro v' h;cases h;rename_i h1;exact .map (h1.cut (hn _ a.in))
 | fn a1 a2 b1 b2 i1 i2=>
   intro v' h
   cases h
   rename_i h1 h2 h3 h4
   refine .fn h1 (fun i u u' hu hu'=>?_) h3 (fun i u u' hu hu'=>?_)
   . have k1:=zN (l:=_) (i:=i) (by rw [<-a1];exact(List.getElem?_eq_some_iff.1 hu).1)
     exact i1 i u _ hu k1 (h2 i u u' hu hu')
   . have k1:=zN (l:=_) (i:=i) (by rw [<-b1];exact(List.getElem?_eq_some_iff.1 hu).1)
     exact i2 i u _ hu k1 (h4 i u u' hu hu')
 |yield a=>intro v' h;cases h;rename_i h1;exact .yield (h1.cut (hn _ a.in))
 |nilf=>intro v' h;cases h;exact .nilf
 |nili=>intro v' h;cases h;exact .nili
 |iface _ i=>intro v' h;cases h;rename_i h1;exact .iface (i h1)
 | agg a1 a2 i1=>
   intro v' h
   cases h
   rename_i h1 h2
   refine .agg h1 (fun i u u' hu hu'=>?_)
   have k1:=zN (l:=_) (i:=i) (by rw [<-a1];exact(List.getElem?_eq_some_iff.1 hu).1)
   exact i1 i u _ hu k1 (h2 i u u' hu hu')
 | tuple a1 a2 i1=>
   intro v' h
   cases h
   rename_i h1 h2
   refine .tuple h1 (fun i u u' hu hu'=>?_)
   have k1:=zN (l:=_) (i:=i) (by rw [<-a1];exact(List.getElem?_eq_some_iff.1 hu).1)
   exact i1 i u _ hu k1 (h2 i u u' hu hu')
end Go.Ab

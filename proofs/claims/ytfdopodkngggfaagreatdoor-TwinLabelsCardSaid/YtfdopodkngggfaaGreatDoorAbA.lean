/- A deterministic evaluator of the model's code, and that the model follows it (part 1). -/
import Derived.Calls
import Derived.Laws.Sem
open Nat renaming beq->zM,le_refl->zN,blt->zO,ble->zP,mod_eq_of_lt->zS,blt_eq->zT,add_assoc->zV,le_trans->zX,pow->zZ,mul_le_mul_right->Xc
open Int renaming ofNat->zQ,negSucc_eq->zU
open Array renaming getElem?_toList->zR,toList_extract->Xb
open List renaming getElem?_eq_getElem->zW,head?_eq_getElem?->zY,mem_of_getElem?->Xa
open Option renaming isSome_none->Xd
set_option maxHeartbeats 400000
set_option linter.defProp false
set_option linter.unusedVariables false
set_option linter.unusedSimpArgs false
namespace Go.Ab

inductive Tr(α:Type)where
 |nil
 |node (x:α) (l r:Tr α)

noncomputable section
namespace Tr
variable{α:Type}

def get(t:Tr α):Nat->Option α:=Tr.rec (motive:=fun _=>Nat->Option α) (fun _=>none)
 (fun x _ _ gl gr i=>Nat.rec (some x) (fun n _=>Bool.rec (gr (n/2)) (gl (n/2)) (zM (n%2) 0)) i) t

def set(t:Tr α):Nat->α->Tr α:=Tr.rec (motive:=fun _=>Nat->α->Tr α) (fun _ _=>.nil)
 (fun y l r sl sr i x=>Nat.rec (.node x l r) (fun n _=>Bool.rec (.node y l (sr (n/2) x)) (.node y (sl (n/2) x) r) (zM (n%2) 0)) i) t

def push(t:Tr α):Nat->α->Tr α:=Tr.rec (motive:=fun _=>Nat->α->Tr α) (fun _ x=>.node x .nil .nil)
 (fun y l r pl pr i x=>Nat.rec (.node y l r) (fun n _=>Bool.rec (.node y l (pr (n/2) x)) (.node y (pl (n/2) x) r) (zM (n%2) 0)) i) t

def pushAll:Tr α->Nat->List α->Tr α
 |t,_,[]=>t
 |t,n,x::l=>(t.push n x).pushAll (n+1) l

def ofList(l:List α):Tr α:=pushAll .nil 0 l

def slice(t:Tr α):Nat->Nat->Option (List α)
 |_,0=>some []
 | i,n+1=>match t.get i with
   |none=>none
   | some x=>match t.slice (i+1) n with
     |none=>none
     |some l=>some (x::l)

def setAll:Tr α->Nat->List α->Tr α
 |t,_,[]=>t
 |t,i,x::l=>(t.set i x).setAll (i+1) l

def blank(x:α):Nat->Nat->Tr α
 |0,_=>.nil
 | f+1,n=>match n with
   |0=>.nil
   |k+1=>.node x (blank x f ((k+1)/2)) (blank x f (k/2))

def Sized(t:Tr α)(n:Nat):Prop:= ∀i,(t.get i).isSome=true↔i<n

theorem get_nil(i:Nat):(Tr.nil:Tr α).get i=none:=rfl
theorem set_nil(i:Nat)(x:α):(Tr.nil:Tr α).set i x=.nil:=rfl
theorem wE(i:Nat)(x:α):(Tr.nil:Tr α).push i x=.node x .nil .nil:=rfl
theorem get_node(x:α)(l r:Tr α)(i:Nat):(Tr.node x l r).get i=match i with
 |0=>some x
 |n+1=>if n%2=0 then l.get (n/2)else r.get (n/2):=by
 cases i with
 |zero=>rfl
 | succ n=>
   show Bool.rec (motive:=fun _=>Option α) (r.get (n/2)) (l.get (n/2)) (zM (n%2) 0)=_
   by_cases h:n%2=0
   . simp only [h];rfl
   . have:zM (n%2) 0=false:=by rw [show n%2=1 by omega];rfl
     simp only [this];rw [if_neg h]
theorem set_node(x:α)(l r:Tr α)(i:Nat)(y:α):(Tr.node x l r).set i y=match i with
 |0=>.node y l r
 |n+1=>if n%2=0 then .node x (l.set (n/2) y) r else .node x l (r.set (n/2) y):=by
 cases i with
 |zero=>rfl
 | succ n=>
   show Bool.rec (motive:=fun _=>Tr α) (.node x l (r.set (n/2) y)) (.node x (l.set (n/2) y) r) (zM (n%2) 0)=_
   by_cases h:n%2=0
   . simp only [h];rfl
   . have:zM (n%2) 0=false:=by rw [show n%2=1 by omega];rfl
     simp only [this];rw [if_neg h]
theorem push_node(x:α)(l r:Tr α)(i:Nat)(y:α):(Tr.node x l r).push i y=match i with
 |0=>.node x l r
 |n+1=>if n%2=0 then .node x (l.push (n/2) y) r else .node x l (r.push (n/2) y):=by
 cases i with
 |zero=>rfl
 | succ n=>
   show Bool.rec (motive:=fun _=>Tr α) (.node x l (r.push (n/2) y)) (.node x (l.push (n/2) y) r) (zM (n%2) 0)=_
   by_cases h:n%2=0
   . simp only [h];rfl
   . have:zM (n%2) 0=false:=by rw [show n%2=1 by omega];rfl
     simp only [this];rw [if_neg h]

theorem get_set(t:Tr α)(i:Nat)(x:α)(j:Nat):(t.set i x).get j=if i=j/\(t.get j).isSome then some x else t.get j:=by
 induction t generalizing i j with
 |nil=>simp [set_nil,get_nil]
 | node y l r ihl ihr=>
   rw [set_node]
   cases i with
   | zero=>
     cases j with
     |zero=>simp [get_node]
     |succ m=>simp [get_node]
   | succ n=>
     by_cases hn:n%2=0
     . simp only [hn,if_true]
       cases j with
       |zero=>simp [get_node]
       | succ m=>
         simp only [get_node]
         by_cases hm:m%2=0
         . simp only [hm,if_true,ihl]
           have:(n/2=m/2)↔(n+1=m+1):=by omega
           simp [this]
         . have: ¬(n+1=m+1):=by omega
           simp [hm];intro h;omega
     . simp only [hn,if_false]
       cases j with
       |zero=>simp [get_node]
       | succ m=>
         simp only [get_node]
         by_cases hm:m%2=0
         . simp [hm];intro h;omega
         . simp only [hm,if_false,ihr]
           have:(n/2=m/2)↔(n+1=m+1):=by omega
           simp [this]

theorem ou:(Tr.nil:Tr α).Sized 0:=by intro i;simp [get_nil]

theorem zw{x:α}{l r:Tr α}{n:Nat}(h:(Tr.node x l r).Sized n): ∃m,n=m+1/\l.Sized ((m+1)/2)/\r.Sized (m/2):=by
 cases n with
 |zero=>have:=(h 0).1 (by simp [get_node]);omega
 | succ m=>
   refine⟨m,rfl,fun i=>?_,fun i=>?_⟩
   . have:=h (2*i+1)
     simp only [get_node]at this
     rw [if_pos (by omega)]at this
     rw [show 2*i/2=i by omega]at this
     rw [this];omega
   . have:=h (2*i+2)
     simp only [get_node]at this
     rw [if_neg (by omega)]at this
     rw [show(2*i+1)/2=i by omega]at this
     rw [this];omega

theorem get_push(t:Tr α)(n:Nat)(x:α)(hs:t.Sized n)(j:Nat):(t.push n x).get j=if j=n then some x else t.get j:=by
 induction t generalizing n j with
 | nil=>
   have:n=0:=by
    cases n with
    |zero=>rfl
    |succ m=>have:=(hs 0).2 (by omega);simp [get_nil]at this
   subst this
   cases j with
   |zero=>simp [wE,get_node]
   |succ m=>simp [wE,get_node,get_nil]
 | node y l r ihl ihr=>
   obtain⟨m,rfl,hl,hr⟩:=zw hs
   rw [push_node]
   by_cases hm:m%2=0
   . simp only [hm,if_true]
     have hl':l.Sized (m/2):=by rw [show m/2=(m+1)/2 by omega];exact hl
     cases j with
     |zero=>simp [get_node]
     | succ k=>
       simp only [get_node]
       by_cases hk:k%2=0
       . simp only [hk,if_true,ihl _ hl']
         have:(k/2=m/2)↔(k+1=m+1):=by omega
         simp [this]
       . simp [hk];intro h;omega
   . simp only [hm,if_false]
     cases j with
     |zero=>simp [get_node]
     | succ k=>
       simp only [get_node]
       by_cases hk:k%2=0
       . simp [hk];intro h;omega
       . simp only [hk,if_false,ihr _ hr]
         have:(k/2=m/2)↔(k+1=m+1):=by omega
         simp [this]

theorem sized_push{t:Tr α}{n:Nat}(x:α)(hs:t.Sized n):(t.push n x).Sized (n+1):=by
 intro j
 rw [get_push t n x hs]
 by_cases h:j=n
 . simp [h]
 . simp only [h,if_false,hs j];omega

theorem sized_set{t:Tr α}{n:Nat}(i:Nat)(x:α)(hs:t.Sized n):(t.set i x).Sized n:=by
 intro j
 rw [get_set]
 split
 . rename_i h;simp;exact(hs j).1 h.2
 . exact hs j

theorem get_none{t:Tr α}{n j:Nat}(hs:t.Sized n)(h:n<=j):t.get j=none:=by
 cases hg:t.get j with
 |none=>rfl
 |some x=>have:=(hs j).1 (by simp [hg]);omega

theorem get_some{t:Tr α}{n j:Nat}(hs:t.Sized n)(h:j<n): ∃x,t.get j=some x:=by
 have:=(hs j).2 h
 exact Option.isSome_iff_exists.1 this

theorem sized_pushAll{t:Tr α}{n:Nat}(l:List α)(hs:t.Sized n):(t.pushAll n l).Sized (n+l.length):=by
 induction l generalizing t n with
 |nil=>simpa [pushAll]using hs
 |cons x l ih=>simp only [pushAll];have:=ih (sized_push x hs);rw [show n+(x::l).length=n+1+l.length by simp;omega];exact this

theorem get_pushAll(t:Tr α)(n:Nat)(l:List α)(hs:t.Sized n)(j:Nat):(t.pushAll n l).get j=if j<n then t.get j else l[j-n]? :=by
 induction l generalizing t n with
 | nil=>
   simp only [pushAll]
   split
   . rfl
   . rw [get_none hs (by omega)];simp
 | cons x l ih=>
   simp only [pushAll]
   rw [ih _ _ (sized_push x hs),get_push t n x hs]
   by_cases h1:j<n
   . rw [if_pos (by omega),if_neg (by omega),if_pos h1]
   . by_cases h2:j=n
     . subst h2;simp
     . rw [if_neg (by omega),if_neg h1]
       rw [show j-n=(j-(n+1))+1 by omega];simp

theorem sized_ofList(l:List α):(ofList l).Sized l.length:=by
 have:=sized_pushAll l (ou (α:=α));simpa [ofList]using this

theorem get_ofList(l:List α)(j:Nat):(ofList l).get j=l[j]? :=by
 rw [ofList,get_pushAll _ _ _ ou];simp

theorem sized_blank(x:α)(f n:Nat)(h:n<=f):(blank x f n).Sized n:=by
 induction f generalizing n with
 | zero => have:n=0:=by omega
           subst this;simpa [blank]using ou
 | succ f ih=>
   cases n with
   |zero=>simpa [blank]using ou
   | succ k=>
     simp only [blank]
     intro i
     rw [get_node]
     cases i with
     |zero=>simp
     | succ m=>
       simp only []
       by_cases hm:m%2=0
       . simp only [hm,if_true];rw [ih _ (by omega) (m/2)];omega
       . simp only [hm,if_false];rw [ih _ (by omega) (m/2)];omega

theorem get_blank(x:α)(f n:Nat)(h:n<=f)(j:Nat):(blank x f n).get j=if j<n then some x else none:=by
 induction f generalizing n j with
 | zero => have:n=0:=by omega
           subst this;simp [blank,get_nil]
 | succ f ih=>
   cases n with
   |zero=>simp [blank,get_nil]
   | succ k=>
     simp only [blank]
     rw [get_node]
     cases j with
     |zero=>simp
     | succ m=>
       simp only []
       by_cases hm:m%2=0
       . simp only [hm,if_true];rw [ih _ (by omega) (m/2)]
         have:m/2<(k+1)/2↔m+1<k+1:=by omega
         simp [this]
       . simp only [hm,if_false];rw [ih _ (by omega) (m/2)]
         have:m/2<k/2↔m+1<k+1:=by omega
         simp [this]

theorem slice_spec{t:Tr α}{i n:Nat}{l:List α}(h:t.slice i n=some l):l.length=n/\ ∀k,k<n->t.get (i+k)=l[k]? :=by
 induction n generalizing i l with
 |zero=>simp [slice]at h;subst h;simp
 | succ n ih=>
   simp only [slice]at h
   split at h
   . cases h
   . rename_i x hx
     split at h
     . cases h
     . rename_i l' hl
       cases h
       obtain⟨h1,h2⟩:=ih hl
       refine⟨by simp [h1],fun k hk=>?_⟩
       cases k with
       |zero=>simpa using hx
       |succ k=>have:=h2 k (by omega);rw [show i+(k+1)=i+1+k by omega,this];simp

theorem slice_mk{t:Tr α}{i n:Nat}(h: ∀k,k<n->(t.get (i+k)).isSome): ∃l,t.slice i n=some l:=by
 induction n generalizing i with
 |zero=>exact⟨[],by simp [slice]⟩
 | succ n ih=>
   obtain⟨x,hx⟩:=Option.isSome_iff_exists.1 (h 0 (by omega))
   obtain⟨l,hl⟩:=ih (i:=i+1) (fun k hk=>by have:=h (k+1) (by omega);rwa [show i+(k+1)=i+1+k by omega]at this)
   exact⟨x::l,by simp only [slice];rw [show i+0=i by omega]at hx;simp [hx,hl]⟩

theorem sized_setAll{t:Tr α}{n:Nat}(i:Nat)(l:List α)(hs:t.Sized n):(t.setAll i l).Sized n:=by
 induction l generalizing t i with
 |nil=>simpa [setAll]using hs
 |cons x l ih=>simp only [setAll];exact ih _ (sized_set i x hs)

theorem get_setAll(t:Tr α)(i:Nat)(l:List α)(n:Nat)(hs:t.Sized n)(hl:i+l.length<=n)(j:Nat):
 (t.setAll i l).get j=if i<=j/\j<i+l.length then l[j-i]? else t.get j:=by
 induction l generalizing t i with
 |nil=>simp only [setAll];rw [if_neg (by rw [List.length_nil];omega)]
 | cons x l ih=>
   simp only [List.length_cons]at hl
   simp only [setAll]
   rw [ih _ _ (sized_set i x hs) (by omega),get_set]
   simp only [List.length_cons]
   by_cases h1:i=j
   . have hc: ¬(i+1<=j/\j<i+1+l.length):=by omega
     have hc2:i<=j/\j<i+(l.length+1):=by omega
     have hsome:=(hs j).2 (by omega)
     rw [if_neg hc,if_pos hc2,if_pos ⟨h1,hsome⟩]
     simp [h1]
   . by_cases h2:i+1<=j/\j<i+1+l.length
     . have hc2:i<=j/\j<i+(l.length+1):=by omega
       rw [if_pos h2,if_pos hc2,show j-i=(j-(i+1))+1 by omega];simp
     . have hc2: ¬(i<=j/\j<i+(l.length+1)):=by omega
       rw [if_neg h2,if_neg (by simp [h1]),if_neg hc2]

end Tr
end
end Go.Ab

namespace Go.Ab
noncomputable section

def pw:IntKind->Nat
 | .i8| .u8=>256
 | .i16| .u16=>65536
 | .i32| .u32=>4294967296
 | .i64| .u64=>18446744073709551616
def sgn:IntKind->Bool
 | .i8| .i16| .i32| .i64=>true
 |_=>false
def hf:IntKind->Nat
 | .i8=>128| .i16=>32768| .i32=>2147483648| .i64=>9223372036854775808
 | .u8=>256| .u16=>65536| .u32=>4294967296| .u64=>18446744073709551616
def aq(k:IntKind)(n:Int):Int:=match n with
 | .ofNat m=>bif zO m (hf k)then .ofNat m else
  bif sgn k then(bif zO (m%pw k) (hf k)then .ofNat (m%pw k)else .negSucc (pw k-1-m%pw k))else .ofNat (m%pw k)
 | .negSucc m=>bif sgn k then
  (bif zO m (hf k)then .negSucc m else bif zO (pw k-1-m%pw k) (hf k)then .ofNat (pw k-1-m%pw k)else .negSucc (m%pw k))
  else .ofNat (pw k-1-m%pw k)
def kE:Int->Int->Bool
 | .ofNat a,.ofNat b=>zO a b
 | .ofNat _,.negSucc _=>false
 | .negSucc _,.ofNat _=>true
 | .negSucc a,.negSucc b=>zO b a
def iC:Int->Int->Bool
 | .ofNat a,.ofNat b=>zM a b
 | .negSucc a,.negSucc b=>zM a b
 |_,_=>false
def kidx:IntKind->Nat
 | .i8=>0| .i16=>1| .i32=>2| .i64=>3| .u8=>4| .u16=>5| .u32=>6| .u64=>7
def jX(a b:IntKind):Bool:=zM (kidx a) (kidx b)
def fU:Int->Option Nat
 | .ofNat n=>some n
 | .negSucc _=>none
def pL(op:BinOp)(k:IntKind)(x y:Int):Option Int:=match x,y with
 | .ofNat a,.ofNat b=>bif zO a (pw k)&&zO b (pw k)then match op with
  | .and=>some (aq k (.ofNat (Nat.land a b)))
  | .or=>some (aq k (.ofNat (Nat.lor a b)))
  | .xor=>some (aq k (.ofNat (Nat.xor a b)))
  | .andNot=>some (aq k (.ofNat (Nat.xor a (Nat.land a b))))
  |_=>none
   else none
 |_,_=>none
def shrI(x:Int)(n:Nat):Int:=match x with
 | .ofNat m=>.ofNat (m/zZ 2 n)
 | .negSucc m=>.negSucc (m/zZ 2 n)
def bitsOf:IntKind->Nat
 | .i8| .u8=>8
 | .i16| .u16=>16
 | .i32| .u32=>32
 | .i64| .u64=>64
def qv(op:BinOp)(k:IntKind)(x y:Int):Option Int:=match fU y with
 |none=>none
 | some n=>match op with
   | .shl=>some (aq k (x*zQ (zZ 2 (bif zP n (bitsOf k)then n else bitsOf k))))
   | .shr=>some (shrI x (bif zP n (bitsOf k)then n else bitsOf k))
   |_=>none
def gR(op:BinOp)(k:IntKind)(x y:Int):Option Value:=match op with
 | .add=>some (.int k (aq k (x+y)))
 | .sub=>some (.int k (aq k (x-y)))
 | .mul=>some (.int k (aq k (x*y)))
 | .quo=>bif iC y 0 then none else some (.int k (aq k (x.tdiv y)))
 | .rem=>bif iC y 0 then none else some (.int k (x.tmod y))
 | .and| .or| .xor| .andNot=>(pL op k x y).map (.int k ·)
 | .eql=>some (.bool (iC x y))
 | .neq=>some (.bool (!iC x y))
 | .lss=>some (.bool (kE x y))
 | .leq=>some (.bool (!kE y x))
 | .gtr=>some (.bool (kE y x))
 | .geq=>some (.bool (!kE x y))
 |_=>none

def poison:Value:=.chan none
def an:Value->List Value
 | .agg cs=>cs.toList
 |v=>[v]
def cg:Value->Bool
 | .bool _| .int _ _| .string _| .pointer none| .slice none 0 0| .map none| .nilFunc| .nilIface=>true
 |_=>false
def iM:Value->Bool
 | .agg _| .tuple _| .chan _=>false
 |_=>true
def aH(s:ByteArray):List UInt8:=s.data.toList
def gy(l:List UInt8):ByteArray:=⟨⟨l⟩⟩
def gw:List UInt8->List UInt8->Bool
 | [],[]=>true
 |a::x,b::y=>zM a.toNat b.toNat&&gw x y
 |_,_=>false
def iY:List UInt8->List UInt8->Bool
 |_,[]=>false
 | [],_::_=>true
 |a::x,b::y=>zO a.toNat b.toNat||(zM a.toNat b.toNat&&iY x y)

structure fF where
 fn:FuncId
 regs:Tr Value
 nr:Nat
 params:Array Tmp
 assign:Code
 body:Code
 st:Nat
 pending:Option Code
 defers:Nat

inductive Blk where
 |dead
 |cells (t:Tr Value) (sz:Nat) (elem:TypeId) (md:Nat)
 |map (es:List (Value×Value×Nat)) (clock:Nat)
 |loop (l:fF)
 |dfr

structure Hp where
 n:Nat
 t:Tr Blk
 lo:Nat

def Hp.get(h:Hp)(b:Nat):Option Blk:=h.t.get b
def dL(a b:Nat):Nat:=bif zP a b then a else b
def Hp.put(h:Hp)(b:Nat)(x:Blk):Hp:={n:=h.n,t:=h.t.set b x,lo:=dL b h.lo}
def Hp.new(h:Hp)(x:Blk):Hp:={n:=h.n+1,t:=h.t.push h.n x,lo:=h.lo}

def Hp.load(h:Hp)(b o n:Nat):Option (List Value):=match h.get b with
 |some (.cells t sz _ _)=>bif zP (o+n) sz then t.slice o n else none
 |_=>none
def Hp.store(h:Hp)(b o:Nat)(l:List Value):Option Hp:=match h.get b with
 |some (.cells t sz el md)=>bif zP (o+l.length) sz&& !Nat.beq md 0&&l.all iM then some (h.put b (.cells (t.setAll o l) sz el md))else none
 |_=>none

structure Env where
 fn:Nat->Option Func
 ty:Nat->Option TypeInfo
 eqok:Nat->Bool
 orc:Nat->List Value->Option Value:=fun _ _=>none

def Env.und(E:Env)(t:TypeId):Option TypeDesc:=match E.ty t with
 |none=>none
 | some i=>match i.desc with
   | .named _ u=>match E.ty u with
     |none=>none
     |some j=>some j.desc
   |d=>some d
def Env.sz(E:Env)(t:TypeId):Option Nat:=match E.ty t with
 |none=>none
 |some i=>some i.size
def Env.agg(E:Env)(t:TypeId):Option Bool:=match E.und t with
 |none=>none
 |some (.struct _)=>some true
 |some (.array _ _)=>some true
 |some _=>some false
def Env.zero(E:Env)(t:TypeId):Option (List Value):=match E.ty t with
 |none=>none
 | some i=>match i.zero with
   |none=>none
   |some z=>bif (an z).all cg then some (an z)else none
def Env.zeroV(E:Env)(t:TypeId):Option Value:=match E.ty t with
 |none=>none
 | some i=>match i.zero with
   |none=>none
   |some z=>bif (an z).all cg then some z else none

def partOf(E:Env)(t:TypeId)(cs:List Value)(off:Nat):Option Value:=match E.agg t with
 |none=>none
 | some true=>match E.sz t with
   |none=>none
   |some n=>bif zP (off+n) cs.length then some (.agg ⟨(cs.drop off).take n⟩)else none
 |some false=>cs[off]?

def eqFields(E:Env)(rec:TypeId->Value->Value->Option Bool):List Field->List Value->List Value->Option Bool
 | [],_,_=>some true
 | f ::fs,xs,ys=>bif f.name== "_" then none else
   match partOf E f.type xs f.offset with
   |none=>none
   | some x=>match partOf E f.type ys f.offset with
     |none=>none
     | some y=>match rec f.type x y with
       |some true=>eqFields E rec fs xs ys
       |r=>r
def kW (E:Env) (rec:TypeId->Value->Value->Option Bool) (e:TypeId) (k:Nat) (xs ys:List Value):Nat->Nat->Option Bool
 |0,_=>some true
 | n + 1,i=>match partOf E e xs (i*k)with
   |none=>none
   | some x=>match partOf E e ys (i*k)with
     |none=>none
     | some y=>match rec e x y with
       |some true=>kW E rec e k xs ys n (i+1)
       |r=>r
def dE (E:Env):Nat->TypeId->Value->Value->Option Bool
 |0,_,_,_=>none
 | d + 1,t,x,y=>match E.und t with
   | some .bool=>match x,y with
     | .bool a,.bool b=>some (bif a then b else !b)
     |_,_=>none
   | some (.int _)=>match x,y with
     | .int k a,.int k' b=>bif jX k k' then some (iC a b)else none
     |_,_=>none
   | some .string=>match x,y with
     | .string a,.string b=>some (gw (aH a) (aH b))
     |_,_=>none
   | some (.pointer _)=>match x,y with
     | .pointer none,.pointer b=>some b.isNone
     | .pointer (some _),.pointer none=>some false
     |_,_=>none
   | some (.interface _)=>match x,y with
     | .nilIface,.nilIface=>some true
     | .nilIface,.iface _ _=>some false
     | .iface _ _,.nilIface=>some false
     | .iface tx vx,.iface ty vy=>bif zM tx ty then
       match E.ty tx with
       |none=>none
       |some i=>bif i.comparable then dE E d tx vx vy else none
       else some false
     |_,_=>none
   | some (.struct fs)=>match x,y with
     | .agg xs,.agg ys=>bif E.eqok t then eqFields E (dE E d) fs.toList xs.toList ys.toList else none
     |_,_=>none
   | some (.array n e)=>match x,y with
     | .agg xs,.agg ys=>match E.sz e with
       |none=>none
       |some k=>kW E (dE E d) e k xs.toList ys.toList n 0
     |_,_=>none
   | some (.slice _)=>match x,y with
     | .slice none _ _,.slice b _ _=>some b.isNone
     | .slice (some _) _ _,.slice none _ _=>some false
     |_,_=>none
   | some (.map _ _)=>match x,y with
     | .map none,.map b=>some b.isNone
     | .map (some _),.map none=>some false
     |_,_=>none
   | some (.func _ _ _)=>match x,y with
     | .nilFunc,.nilFunc=>some true
     | .nilFunc,.func _ _ _=>some false
     | .func _ _ _,.nilFunc=>some false
     |_,_=>none
   |_=>none
def eZ(E:Env)(t:TypeId)(x y:Operand)(a b:Value):Option Bool:=match a,b with
 | .chan _,_=>none
 |_,.chan _=>none
 | .nilIface,.nilIface=>match x,y with
   | .const _,_=>dE E 40 t .nilIface .nilIface
   |_,.const _=>dE E 40 t .nilIface .nilIface
   |_,_=>none
 | .agg _,.agg _=>bif E.eqok t then dE E 40 t a b else none
 |_,_=>dE E 40 t a b

def bq(E:Env)(op:BinOp)(t:TypeId)(x y:Operand)(a b:Value):Option Value:=match a,b with
 | .int k m,.int k' n=>match op with
   | .shl=>(qv .shl k m n).map (.int k ·)
   | .shr=>(qv .shr k m n).map (.int k ·)
   |op=>bif jX k k' then gR op k m n else none
 | .string s,.string u=>match op with
   | .add=>bif zP (s.size+u.size) 1099511627776 then some (.string (gy (aH s++aH u)))else none
   | .eql=>some (.bool (gw (aH s) (aH u)))
   | .neq=>some (.bool (!gw (aH s) (aH u)))
   | .lss=>some (.bool (iY (aH s) (aH u)))
   | .geq=>some (.bool (!iY (aH s) (aH u)))
   | .leq=>some (.bool (iY (aH s) (aH u)||gw (aH s) (aH u)))
   | .gtr=>some (.bool (!(iY (aH s) (aH u)||gw (aH s) (aH u))))
   |_=>none
 | a,b=>match op with
   | .eql=>(eZ E t x y a b).map (.bool ·)
   | .neq=>(eZ E t x y a b).map fun r=>.bool (!r)
   |_=>none
def unP(op:UnOp)(x:Value):Option Value:=match op,x with
 | .neg,.int k n=>some (.int k (aq k (0-n)))
 | .not,.bool b=>some (.bool (!b))
 | .xor,.int k n=>bif sgn k then none else(pL .xor k (.ofNat (pw k-1)) n).map (.int k ·)
 |_,_=>none
def dW(v:Value)(y:Nat):Option Nat:=match v with
 | .int _ i=>match fU i with
   |some n=>bif zP n y then some n else none
   |none=>none
 |_=>none
def eg(len cap:Nat)(low high mx:Option Value):Option (Nat×Nat×Nat):=
 match(match mx with|some v=>dW v cap|none=>some cap)with
 |none=>none
 | some m=>match(match high with|some v=>dW v m|none=>bif mx.isSome then none else some len)with
   |none=>none
   | some h=>match(match low with|some v=>dW v h|none=>some 0)with
     |none=>none
     |some l=>some (l,h,m)
def eH(a:Addr)(n:Nat):Addr:=⟨a.block,a.off+n,none⟩
def dQ (E:Env) (t:TypeId) (x:Value) (low high mx:Option Value):Option Value:=match E.und t with
 | some .string=>match x with
   | .string s=>bif mx.isSome then none else match eg s.size s.size low high none with
     |none=>none
     |some (l,h,_)=>some (.string (gy (((aH s).drop l).take (h-l))))
   |_=>none
 | some (.slice e)=>match x with
   | .slice a len cap=>match eg len cap low high mx with
     |none=>none
     | some (l,h,m)=>match E.sz e with
       |none=>none
       | some k=>match a with
         |none=>some (.slice none (h-l) (m-l))
         | some a=>match a.spot with
           |none=>some (.slice (some (bif zM m l then a else eH a (l*k))) (h-l) (m-l))
           |some k'=>bif zM k' k then some (.slice (some ⟨a.block,bif zM m l then a.off else a.off+l*k,some k⟩) (h-l) (m-l))else none
   |_=>none
 | some (.array n e)=>match x with
   | .pointer (some a)=>match eg n n low high mx with
     |none=>none
     | some (l,h,m)=>match E.sz e with
       |none=>none
       |some k=>some (.slice (some ⟨a.block,bif zM m l then a.off else a.off+l*k,none⟩) (h-l) (m-l))
   |_=>none
 |_=>none
def ah (E:Env) (s:TypeId) (x:Value) (i:Nat):Option Value:=match E.und s with
 | some (.struct fs)=>match fs.toList[i]? with
   |none=>none
   | some f=>match E.sz f.type with
     | some (_+1)=>match x with
       | .pointer (some a)=>some (.pointer (some (eH a f.offset)))
       |_=>none
     |_=>none
 |_=>none
def ar(E:Env)(t:TypeId)(x:Value)(i:Nat):Option Value:=match E.und t with
 | some (.struct fs)=>match fs.toList[i]? with
   |none=>none
   | some f=>match x with
     | .agg cs=>partOf E f.type cs.toList f.offset
     |_=>none
 |_=>none
def eR(v:Value)(len:Nat):Option Nat:=match v with
 | .int _ i=>match fU i with
   |some n=>bif zO n len then some n else none
   |none=>none
 |_=>none
def dR (E:Env) (t:TypeId) (x ix:Value):Option Value:=match E.und t with
 | some (.slice e)=>match x with
   | .slice (some a) len _=>match eR ix len with
     |none=>none
     | some i=>match E.sz e with
       |none=>none
       |some k=>some (.pointer (some (eH a (i*k))))
   |_=>none
 | some (.array n e)=>match x with
   | .pointer (some a)=>match eR ix n with
     |none=>none
     | some i=>match E.sz e with
       |none=>none
       |some k=>some (.pointer (some (eH a (i*k))))
   |_=>none
 |_=>none
def iS (E:Env) (t:TypeId) (x ix:Value):Option Value:=match E.und t with
 | some (.array n e)=>match x with
   | .agg cs=>match eR ix n with
     |none=>none
     | some i=>match E.sz e with
       |none=>none
       |some k=>partOf E e cs.toList (i*k)
   |_=>none
 | some .string=>match x with
   | .string s=>match eR ix s.size with
     |none=>none
     | some i=>match(aH s)[i]? with
       |none=>none
       |some b=>some (.int .u8 (.ofNat b.toNat))
   |_=>none
 |_=>none
def bM:List Value->Nat->List Value->List Value
 |l,_,[]=>l
 |l,off,v::vs=>bM (l.set off v) (off+1) vs
def im(place:Nat->Option (Nat×Nat)):List Value->List (Nat×Value)->Option (List Value)
 |cells,[]=>some cells
 | cells,(i,v)::rest=>match place i with
   |none=>none
   | some (off,size)=>match v with
     | .chan _=>none
     |v=>bif zM (an v).length size&&zP (off+size) cells.length then im place (bM cells off (an v)) rest else none
def lI(E:Env):List Field->Option (List (Nat×Nat))
 | []=>some []
 | f ::fs=>match E.sz f.type with
   |none=>none
   | some n=>match lI E fs with
     |none=>none
     |some l=>some ((f.offset,n)::l)
def jP (E:Env) (t:TypeId) (parts:List (Nat×Value)):Option Value:=match E.zero t with
 |none=>none
 | some z=>match E.und t with
   | some (.struct fs)=>match lI E fs.toList with
     |none=>none
     | some ps=>match im (fun i=>ps[i]?) z parts with
       |none=>none
       |some cs=>some (.agg ⟨cs⟩)
   | some (.array _ e)=>match E.sz e with
     |none=>none
     | some k=>match im (fun i=>some (i*k,k)) z parts with
       |none=>none
       |some cs=>some (.agg ⟨cs⟩)
   |_=>none
def jz(E:Env)(dst:TypeId)(x:Value):Option Value:=match x with
 | .int _ n=>match E.und dst with
   |some (.int k)=>some (.int k (aq k n))
   |_=>none
 | .string s=>match E.und dst with
   |some .string=>some (.string s)
   |_=>none
 |_=>none
def mC(E:Env)(t:TypeId)(x:Value):Option Value:=match E.und t with
 | some .string=>match x with
   | .string s=>some (.int .i64 (.ofNat s.size))
   |_=>none
 |some (.array n _)=>some (.int .i64 (.ofNat n))
 | some (.slice _)=>match x with
   | .slice _ n _=>some (.int .i64 (.ofNat n))
   |_=>none
 | some (.map _ _)=>match x with
   | .map none=>some (.int .i64 0)
   |_=>none
 |_=>none
def fQ(mx:Bool):Value->List Value->Option Value
 |x,[]=>some x
 | x,y::l=>match x with
   | .int k a=>match y with
     | .int _ b=>fQ mx (.int k (bif mx then(bif kE a b then b else a)else(bif kE b a then b else a))) l
     |_=>none
   |_=>none
def qX(E:Env)(x:Value)(t:TypeId)(ok:Bool):Option Value:=match x with
 | .nilIface=>bif ok then(E.zeroV t).map fun z=>.tuple #[z,.bool false]else none
 | .iface u v=>bif zM u t then some (bif ok then .tuple #[v,.bool true]else v)else bif ok then(E.zeroV t).map fun z=>.tuple #[z,.bool false]else none
 |_=>none
def mV(E:Env)(x:Value)(t:TypeId)(ok:Bool):Option Value:=match E.und t with
 |none=>none
 |some (.interface _)=>none
 |some _=>qX E x t ok

def pop(E:Env)(ρ:Operand->Value):Op->Option Value
 | .move x=>some (ρ x)
 | .assign x=>some (ρ x)
 | .pick c a b=>match ρ c with
   | .bool t=>some (bif t then ρ a else ρ b)
   |_=>none
 | .nilCheck x=>match ρ x with
   | .pointer (some a)=>some (.pointer (some a))
   | .func (.func f) a b=>some (.func (.func f) a b)
   |_=>none
 | .binOp op t x y _=>bq E op t x y (ρ x) (ρ y)
 | .unOp op _ x=>unP op (ρ x)
 | .makeInterface t x=>match E.und t with
   |none=>none
   |some (.interface _)=>none
   |some _=>some (.iface t (ρ x))
 | .makeFunc (.func f) a b=>some (.func (.func f) (a.map ρ) (b.map ρ))
 | .slice t x l h m=>dQ E t (ρ x) (l.map ρ) (h.map ρ) (m.map ρ)
 | .fieldAddr s x i=>ah E s (ρ x) i
 | .field t x i=>ar E t (ρ x) i
 | .indexAddr t x i=>dR E t (ρ x) (ρ i)
 | .index t x i=>iS E t (ρ x) (ρ i)
 | .extract t i=>match ρ t with
   | .tuple vs=>vs.toList[i]?
   |_=>none
 | .build t parts=>jP E t (parts.toList.map fun p=>(p.1,ρ p.2))
 | .typeAssert x _ t ok=>mV E (ρ x) t ok
 | .call c=>match c.callee with
   | .builtin .len=>match c.argTypes.toList,c.args.toList with
     |t::_,x::_=>mC E t (ρ x)
     |_,_=>none
   | .builtin .min=>match c.args.toList.map ρ with
     |x::l=>fQ false x l
     | []=>none
   | .builtin .max=>match c.args.toList.map ρ with
     |x::l=>fQ true x l
     | []=>none
   |_=>none
 |_=>none
end
end Go.Ab

namespace Go.Ab
noncomputable section

inductive c9 where
 |val (v:Value)
 |skip
 |call (f:FuncId) (args:List Value)
 |yield (l:Nat) (args:List Value)
 |recov
 |defer (d:Deferred)
 |panic (v:Value)

def eo (E:Env) (h:Hp) (t:TypeId) (x:Value):Option Value:=match x with
 | .pointer (some a)=>match E.agg t with
   |none=>none
   | some true=>match E.sz t with
     |none=>none
     | some n=>match h.load a.block a.off n with
       |none=>none
       |some l=>some (.agg ⟨l⟩)
   | some false=>match h.load a.block a.off 1 with
     |some [v]=>some v
     |_=>none
 |_=>none
def ie(E:Env)(h:Hp)(t:TypeId)(x v:Value):Option Hp:=match x with
 | .pointer (some a)=>match E.sz t with
   |none=>none
   | some n=>match v with
     | .chan _=>none
     |v=>bif zM (an v).length n then h.store a.block a.off (an v)else none
 |_=>none
def ptrTo(b:Nat):Value:=.pointer (some ⟨b,0,none⟩)
def o7(h:Hp)(l:List Value)(el:TypeId):Hp×Value:=(h.new (.cells (Tr.ofList l) l.length el 1),ptrTo h.n)

def mq:Value->Bool
 | .int _ _=>true
 |_=>false
def qI:Value->Bool
 | .int _ _| .string _| .bool _=>true
 | .agg cs=>cs.toList.all mq
 |_=>false
def cP:List Value->List Value->Option Bool
 | [],[]=>some true
 | .int k x::l,.int k' y::l'=>bif jX k k' then(match cP l l' with
   |none=>none
   |some r=>some (bif iC x y then r else false))else none
 |_,_=>none
def cq(a b:Value):Option Bool:=match a,b with
 | .int k x,.int k' y=>bif jX k k' then some (iC x y)else none
 | .string s,.string u=>some (gw (aH s) (aH u))
 | .bool x,.bool y=>some (bif x then y else !y)
 | .agg x,.agg y=>cP x.toList y.toList
 |_,_=>none
def isKd(kd:IntKind)(v:Value):Bool:=match v with
 | .int kd' _=>jX kd kd'
 |_=>false
def aW (E:Env) (t:TypeId) (k:Value):Bool:=match E.und t with
 | some (.int kd)=>match k with
   | .int kd' _=>jX kd kd'
   |_=>false
 | some .string=>match k with
   | .string _=>true
   |_=>false
 | some .bool=>match k with
   | .bool _=>true
   |_=>false
 | some (.array n e)=>match k with
   | .agg cs=>match E.agg e with
     | some false=>match E.sz e with
       | some s=>match E.und e with
         |some (.int kd)=>bif zM s 1 then(bif zM cs.toList.length n then cs.toList.all (isKd kd)else false)else false
         |_=>false
       |none=>false
     |_=>false
   |_=>false
 |_=>false
def cd(k:Value):List (Value×Value×Nat)->Option (Option (Value×Nat))
 | []=>some none
 | (k',v,n)::l=>match cq k k' with
   |none=>none
   |some true=>some (some (v,n))
   |some false=>cd k l
def j9(k v:Value):List (Value×Value×Nat)->List (Value×Value×Nat)
 | []=>[]
 | (k',v',n)::l=>match cq k k' with
   |some true=>(k,v,n)::l
   |_=>(k',v',n)::j9 k v l
def jr(k:Value):List (Value×Value×Nat)->List (Value×Value×Nat)
 | []=>[]
 | (k',v',n)::l=>match cq k k' with
   |some true=>l
   |_=>(k',v',n)::jr k l
def ic(n:Nat)(v:Value):List (Value×Value×Nat)->Option (List (Value×Value×Nat))
 | []=>none
 | (k',v',n')::l=>bif zM n' n then some ((k',v,n')::l)else match ic n v l with
   |none=>none
   |some l'=>some ((k',v',n')::l')
def jJ(E:Env)(h:Hp)(t:TypeId)(m k:Value):Option (Nat×List (Value×Value×Nat)×Nat×TypeId):=match E.und t with
 | some (.map kt el)=>bif aW E kt k then match m with
   | .map (some r)=>match h.get r with
     |some (.map es c)=>some (r,es,c,el)
     |_=>none
   |_=>none
   else none
 |_=>none
def dq (E:Env) (h:Hp) (t:TypeId) (m k:Value) (ok:Bool):Option Value:=match E.und t with
 | some (.map kt el)=>bif aW E kt k then
  match(match m with
   | .map none=>some none
   | .map (some r)=>match h.get r with
     |some (.map es _)=>cd k es
     |_=>none
   |_=>none)with
  |none=>none
  |some (some (v,_))=>some (bif ok then .tuple #[v,.bool true]else v)
  | some none=>match E.zeroV el with
    |none=>none
    |some z=>some (bif ok then .tuple #[z,.bool false]else z)
   else none
 |_=>none
def jq(E:Env)(h:Hp)(t:TypeId)(m k v:Value):Option Hp:=match jJ E h t m k with
 |none=>none
 | some (r,es,c,_)=>match cd k es with
   |none=>none
   |some (some _)=>some (h.put r (.map (j9 k v es) c))
   |some none=>some (h.put r (.map (es++[(k,v,c)]) (c+1)))
def kH(E:Env)(h:Hp)(t:TypeId)(m k:Value):Option Hp:=match jJ E h t m k with
 |none=>none
 | some (r,es,c,_)=>match cd k es with
   |none=>none
   |some _=>some (h.put r (.map (jr k es) c))
def iR(E:Env)(h:Hp)(t:TypeId)(m k:Value):Option (Hp×Value):=match jJ E h t m k with
 |none=>none
 | some (r,es,c,el)=>match cd k es with
   |none=>none
   |some (some (v,n))=>some (h.put r (.map (j9 k v es) c),.tuple #[v,.int .i64 (.ofNat n)])
   | some none=>match E.zeroV el with
     |none=>none
     |some z=>some (h.put r (.map (es++[(k,z,c)]) (c+1)),.tuple #[z,.int .i64 (.ofNat c)])
def jW (h:Hp) (m s v:Value):Option Hp:=match m with
 | .map (some r)=>match h.get r with
   | some (.map es c)=>match s with
     | .int _ i=>match fU i with
       |none=>none
       | some n=>match ic n v es with
         |none=>none
         |some es'=>some (h.put r (.map es' c))
     |_=>none
   |_=>none
 |_=>none
def aY(zs:List Value):Nat->List Value
 |0=>[]
 |n+1=>zs++aY zs n
def natV(v:Value):Option Nat:=match v with
 | .int _ i=>fU i
 |_=>none
def iI (E :Env) (h:Hp) (t:TypeId) (l c:Value):Option (Hp×Value):=match E.und t with
 | some (.slice e)=>match natV l with
   |none=>none
   | some l=>match natV c with
     |none=>none
     | some c=>match E.ty e with
       |none=>none
       | some i=>bif zP l c&&zP (c*(i.bytes+1)) 70368744177664 then
        match E.zero e with
        |none=>none
        | some zs=>bif zM zs.length i.size then
         match zs with
         | [z]=>some (h.new (.cells (Tr.blank z c c) c e 1),.slice (some ⟨h.n,0,none⟩) l c)
         |zs=>some (h.new (.cells (Tr.ofList (aY zs c)) (c*i.size) e 1),.slice (some ⟨h.n,0,none⟩) l c)
          else none
         else none
 |_=>none
def jd (E:Env) (h:Hp) (t:TypeId) (n:Nat) (parts:List (Nat×Value)):Option (Hp×Value):=match E.und t with
 | some (.slice e)=>match E.sz e with
   |none=>none
   | some k=>bif zP (n*k) 16777216 then
    match E.zero e with
    |none=>none
    | some zs=>bif zM zs.length k then
     match im (fun i=>some (i*k,k)) (aY zs n) parts with
     |none=>none
     |some cs=>some (h.new (.cells (Tr.ofList cs) cs.length e 1),.slice (some ⟨h.n,0,none⟩) n n)
      else none
     else none
 |_=>none
def aO(h:Hp)(k:Nat):Value->Option (Nat×List Value)
 | .slice none 0 _=>some (0,[])
 | .slice (some a) n _=>match h.load a.block a.off (n*k)with
   |none=>none
   |some l=>some (n,l)
 | .string s=>bif zM k 1 then some (s.size,(aH s).map fun b=>.int .u8 (.ofNat b.toNat))else none
 |_=>none
def iQ(tr:Tr Value)(sz off m:Nat)(new:List Value):Option (Tr Value×Nat):=
 bif zM off 0&&zM m sz then some (tr.pushAll sz new,sz+new.length)else
  bif zP (off+m) sz then match tr.slice off m with
   |none=>none
   |some old=>some (Tr.ofList (old++new),(old++new).length)
  else none
def lZ (h:Hp) (e:TypeId) (k:Nat) (a:Option Addr) (len n:Nat) (new:List Value):Option (Hp×Value):=match a with
 |none=>bif zM len 0 then some (h.new (.cells (Tr.ofList new) new.length e 1),.slice (some ⟨h.n,0,some k⟩) n n)else none
 | some a=>match h.get a.block with
   | some (.cells tr sz _ md)=>match iQ tr sz a.off (len*k) new with
     |none=>none
     | some (t2,s2)=>match a.spot with
       | some k'=>bif zM k' k&& !Nat.beq md 0&&new.all iM then
        some ((h.put a.block .dead).new (.cells t2 s2 e 1),.slice (some ⟨h.n,0,some k⟩) (len+n) (len+n))
         else none
       |none=>some (h.new (.cells t2 s2 e 1),.slice (some ⟨h.n,0,some k⟩) (len+n) (len+n))
   |_=>none
def az(E:Env)(t:TypeId):Option Bool:=match E.und t with
 |none=>none
 |some (.int _)=>some true
 |some _=>some false
def eJ (E:Env) (h:Hp) (e:TypeId) (i:TypeInfo) (a:Option Addr) (len cap n:Nat) (new:List Value):Option (Hp×Value):=
 bif zP (len+n) cap then
  match a with
  |none=>some (h,.slice none (len+n) cap)
  | some a=>match new with
    | []=>some (h,.slice (some a) (len+n) cap)
    | new=>match h.store a.block (a.off+len*i.size) new with
      |none=>none
      |some h'=>some (h',.slice (some a) (len+n) cap)
 else bif zP ((len+n)*(i.bytes+1)) 70368744177664&&(zO 0 i.bytes)then
  match E.zero e with
  |none=>none
  |some zs=>bif zM zs.length i.size then lZ h e i.size a len n new else none
 else none
def iX (E:Env) (h:Hp) (t:TypeId) (s x:Value):Option (Hp×Value):=match E.und t with
 | some (.slice e)=>match E.ty e with
   |none=>none
   | some i=>match s with
     | .slice a len cap=>match aO h i.size x with
       |none=>none
       |some (n,new)=>eJ E h e i a len cap n new
     |_=>none
 |_=>none
def cL(E:Env)(h:Hp)(ts:List TypeId)(s x:Value):Option (Hp×Value):=match ts with
 | t::tx::_=>match az E tx with
   |some false=>iX E h t s x
   |_=>none
 |_=>none
def copyV (E : Env) (h:Hp) (ts:List TypeId) (d s:Value):Option (Hp×Value):=match ts with
 | t :: _ => match E.und t with
   | some (.slice e)=>match E.sz e with
     |none=>none
     | some k=>match d with
       | .slice a len _=>match s with
         | .slice none 0 _=>some (h,.int .i64 0)
         | .slice (some b) m _=>match h.load b.block b.off (dL m len*k)with
           |none=>none
           |some []=>some (h,.int .i64 (.ofNat (dL m len)))
           | some (x::xs)=>match a with
             |none=>none
             | some a=>match h.store a.block a.off (x::xs)with
               |none=>none
               |some h'=>some (h',.int .i64 (.ofNat (dL m len)))
         |_=>none
       |_=>none
   |_=>none
 |_=>none
def bytesOf:List Value->Option (List UInt8)
 | []=>some []
 | .int .u8 (.ofNat n)::l=>match bytesOf l with
   |none=>none
   |some r=>some (UInt8.ofNat n::r)
 |_=>none
def strOf(h:Hp):Value->Option Value
 | .slice none _ _=>some (.string (gy []))
 | .slice (some a) n _=>match h.load a.block a.off n with
   |none=>none
   | some l=>match bytesOf l with
     |none=>none
     |some r=>some (.string (gy r))
 |_=>none
def bytesV(h:Hp)(e:TypeId)(s:ByteArray):Hp×Value:=
 (h.new (.cells (Tr.ofList ((aH s).map fun b=>.int .u8 (.ofNat b.toNat))) s.size e 1),.slice (some ⟨h.n,0,some 1⟩) s.size s.size)
def bW(E:Env)(src dst:TypeId):Option (Nat×TypeId):=match E.und src with
 |none=>none
 | some (.slice e)=>match E.und dst with
   | some .string=>match E.und e with
     |some (.int .u8)=>some (1,e)
     |_=>none
   |_=>none
 | some .string=>match E.und dst with
   | some (.slice e)=>match E.und e with
     |some (.int .u8)=>some (2,e)
     |_=>none
   |some _=>some (0,0)
   |none=>none
 |some _=>some (0,0)
def jH(E:Env)(h:Hp)(src dst:TypeId)(x:Value):Option (Hp×Value):=match bW E src dst with
 | some (0,_)=>match jz E dst x with
   |none=>none
   |some v=>some (h,v)
 | some (1,_)=>match strOf h x with
   |none=>none
   |some v=>some (h,v)
 | some (2,e)=>match x with
   | .string s=>bif zP s.size 1099511627776 then some (bytesV h e s)else none
   |_=>none
 |_=>none
def target(f:Value)(args:List Value):Option c9:=match f with
 | .func (.func g) a b=>some (.call g (a.toList++args++b.toList))
 | .func (.yield l) a b=>bif a.toList.isEmpty&&b.toList.isEmpty then some (.yield l args)else none
 |_=>none

def cH(r:Option (Hp×Value)):Option (c9×Hp):=match r with
 |none=>none
 |some (h,v)=>some (.val v,h)
def fb(r:Option Hp):Option (c9×Hp):=match r with
 |none=>none
 |some h=>some (.skip,h)
def bS(h:Hp)(r:Option Value):Option (c9×Hp):=match r with
 |none=>none
 |some v=>some (.val v,h)

def aop (E : Env) (ρ:Operand->Value) (h:Hp):Op->Option (c9×Hp)
 | .load t a=>bS h (eo E h t (ρ a))
 | .convert src dst x=>cH (jH E h src dst (ρ x))
 | .store t a x=>fb (ie E h t (ρ a) (ρ x))
 | .alloc e=>match E.zero e with
   |none=>none
   |some z=>cH (some (o7 h z e))
 | .box e x=>match ρ x with
   | .chan _=>none
   |v=>cH (some (o7 h (an v) e))
 | .buildSlice t n parts=>cH (jd E h t n (parts.toList.map fun p=>(p.1,ρ p.2)))
 | .makeSlice t l c=>cH (iI E h t (ρ l) (ρ c))
 | .makeMap _ none=>some (.val (.map (some h.n)),h.new (.map [] 0))
 | .lookup t m k ok=>bS h (dq E h t (ρ m) (ρ k) ok)
 | .mapUpdate t m k v=>fb (jq E h t (ρ m) (ρ k) (ρ v))
 | .insert t m k v=>fb (jq E h t (ρ m) (ρ k) (ρ v))
 | .mapEntry t m k=>cH (iR E h t (ρ m) (ρ k))
 | .entryStore _ m s v=>fb (jW h (ρ m) (ρ s) (ρ v))
 | .panic x=>match ρ x with
   | .iface t v=>some (.panic (.iface t v),h)
   |_=>none
 | .defer c=>match c.callee with
   | .value f=>match ρ f with
     | .func (.func g) a b=>some (.defer {target:=.fn (.func g) b,args:=⟨a.toList++c.args.toList.map ρ⟩},h)
     |_=>none
   |_=>none
 | .call c =>match c.callee with
   | .value f=>match target (ρ f) (c.args.toList.map ρ)with
     |none=>none
     |some x=>some (x,h)
   | .builtin .append=>match c.args.toList with
     |s::x::_=>cH (cL E h c.argTypes.toList (ρ s) (ρ x))
     |_=>none
   | .builtin .copy=>match c.args.toList with
     |s::x::_=>cH (copyV E h c.argTypes.toList (ρ s) (ρ x))
     |_=>none
   | .builtin .delete=>match c.argTypes.toList,c.args.toList with
     | t::_,m::k::_=>match kH E h t (ρ m) (ρ k)with
       |none=>none
       |some h'=>some (.val (.tuple #[]),h')
     |_,_=>none
   | .builtin .recover=>some (.recov,h)
   | .builtin .len=>match pop E ρ (.call c)with
     |some v=>some (.val v,h)
     | none => match c.args.toList with
       | x ::_=>match ρ x with
         | .map (some r)=>match h.get r with
           | some (.map es _)=>match c.argTypes.toList with
             | t::_=>match E.und t with
               |some (.map _ _)=>some (.val (.int .i64 (.ofNat es.length)),h)
               |_=>none
             |_=>none
           |_=>none
         |_=>none
       |_=>none
   | .builtin _=>bS h (pop E ρ (.call c))
   | .invoke _ _=>none
 |op=>bS h (pop E ρ op)

end
end Go.Ab

namespace Go.Ab

theorem cv(a b:Nat):zM a b=decide (a=b):=by
 by_cases h:a=b
 . subst h;simp [Nat.beq_refl]
 . have:zM a b=false:=by
    cases hb:zM a b with
    |false=>rfl
    |true=>exact absurd (Nat.eq_of_beq_eq_true hb) h
   rw [this];simp [h]
theorem dB(a b:Nat):zP a b=decide (a<=b):=by
 by_cases h:a<=b
 . have:=Nat.ble_eq_true_of_le h;rw [this];simp [h]
 . cases hb:zP a b with
   |false=>simp [h]
   |true=>exact absurd (Nat.le_of_ble_eq_true hb) h
theorem gW(a b:Nat):zO a b=decide (a<b):=by
 show zP (a+1) b=_
 rw [dB];simp [Nat.lt_iff_add_one_le]
theorem bits_pw(k:IntKind):(2:Int) ^k.bits=(pw k:Int):=by cases k<;>rfl
theorem bits_hf(k:IntKind)(h:sgn k=true):(2:Int) ^(k.bits-1)=(hf k:Int):=by cases k<;>first|rfl|(simp [sgn]at h)
theorem sgn_eq(k:IntKind):sgn k=k.signed:=by cases k<;>rfl
theorem gY(k:IntKind)(n:Int):aq k n=k.wrap n:=by
 have wu:k.wrap n=if sgn k=true/\n%(pw k:Int)≥(hf k:Int)then n%(pw k:Int)-(pw k:Int)else n%(pw k:Int):=by
  unfold IntKind.wrap
  rw [bits_pw,<-sgn_eq]
  by_cases hs:sgn k=true
  . rw [bits_hf k hs];simp [hs]
  . simp [hs]
 rw [wu]
 cases n with
 | ofNat m=>
   have e:(zQ m)%(pw k:Int)=((m%pw k:Nat):Int):=rfl
   rw [e]
   simp only [aq]
   by_cases h1:m<hf k
   . have:zO m (hf k)=true:=by simpa [zT]using h1
     rw [this]
     have hp:m%pw k=m:=zS (by cases k<;>simp only [hf,pw]at* <;>omega)
     rw [hp,if_neg (by omega)];rfl
   . have:zO m (hf k)=false:=by rw [gW];simpa using h1
     rw [this]
     simp only [cond_false]
     by_cases hs:sgn k=true
     . rw [hs]
       simp only [cond_true]
       have hlt:m%pw k<pw k:=Nat.mod_lt _ (by cases k<;>simp [pw])
       by_cases h2:m%pw k<hf k
       . have:zO (m%pw k) (hf k)=true:=by simpa [zT]using h2
         rw [this,if_neg (by omega)];rfl
       . have:zO (m%pw k) (hf k)=false:=by rw [gW];simpa using h2
         rw [this,if_pos ⟨by simp,by omega⟩]
         simp only [cond_false,zU];omega
     . have hs':sgn k=false:=by simpa using hs
       rw [hs'];simp
 | negSucc m=>
   have hpos:0<pw k:=by cases k<;>simp [pw]
   have e:(Int.negSucc m)%(pw k:Int)=((pw k-1-m%pw k:Nat):Int):=by
    have hlt:m%pw k<pw k:=Nat.mod_lt _ hpos
    have hd:=Nat.div_add_mod m (pw k)
    have:Int.negSucc m=(pw k:Int)*(-((m/pw k:Nat):Int)-1)+((pw k-1-m%pw k:Nat):Int):=by
     rw [zU]
     have:(m:Int)=(pw k:Int)*((m/pw k:Nat):Int)+((m%pw k:Nat):Int):=by exact_mod_cast hd.symm
     rw [Int.mul_sub,Int.mul_neg,Int.mul_one];omega
    rw [this,Int.add_comm,Int.add_mul_emod_self_left]
    exact Int.emod_eq_of_lt (by omega) (by omega)
   rw [e]
   simp only [aq]
   have hlt:m%pw k<pw k:=Nat.mod_lt _ hpos
   by_cases hs:sgn k=true
   . rw [hs]
     simp only [cond_true]
     have hh:2*hf k=pw k:=by cases k<;>first|rfl|(simp [sgn]at hs)
     by_cases h1:m<hf k
     . have:zO m (hf k)=true:=by simpa [zT]using h1
       rw [this]
       have hp:m%pw k=m:=zS (by omega)
       rw [hp,if_pos ⟨by simp,by omega⟩];simp only [cond_true,zU];omega
     . have:zO m (hf k)=false:=by rw [gW];simpa using h1
       rw [this]
       simp only [cond_false]
       by_cases h2:pw k-1-m%pw k<hf k
       . have:zO (pw k-1-m%pw k) (hf k)=true:=by simpa [zT]using h2
         rw [this,if_neg (by omega)];rfl
       . have:zO (pw k-1-m%pw k) (hf k)=false:=by rw [gW];simpa using h2
         rw [this,if_pos ⟨by simp,by omega⟩]
         simp only [cond_false,zU];omega
   . have hs':sgn k=false:=by simpa using hs
     rw [hs'];simp
theorem gX(a b:Int):kE a b=decide (a<b):=by
 cases a<;>cases b<;>simp only [kE]
 . rename_i m n
   by_cases h:m<n
   . have:zO m n=true:=by simpa [zT]using h
     rw [this];symm;simpa using h
   . have:zO m n=false:=by rw [gW];simpa using h
     rw [this];symm;simpa using h
 . symm;simp;omega
 . symm;simp;omega
 . rename_i m n
   by_cases h:n<m
   . have:zO n m=true:=by simpa [zT]using h
     rw [this];symm;simp;omega
   . have:zO n m=false:=by rw [gW];simpa using h
     rw [this];symm;simp;omega
theorem gG(a b:Int):iC a b=(a==b):=by
 cases a<;>cases b<;>simp only [iC]<;>first|(rw [cv];rename_i m n;by_cases h:m=n<;>simp [h]<;>omega)|(symm;simp)
theorem kidx_inj{a b:IntKind}(h:kidx a=kidx b):a=b:=by cases a<;>cases b<;>first|rfl|(simp [kidx]at h)
theorem fI(a b:IntKind):jX a b=decide (a=b):=by
 unfold jX;rw [cv]
 by_cases h:a=b
 . simp [h]
 . have:kidx a≠kidx b:=fun e=>h (kidx_inj e)
   simp [h,this]
theorem nj{i:Int}{n:Nat}(h:fU i=some n):i=n:=by cases i<;>simp [fU]at h;subst h;rfl
theorem bitsOf_eq(k:IntKind):bitsOf k=k.bits:=by cases k<;>rfl
theorem pw_bits(k:IntKind):pw k=2 ^k.bits:=by cases k<;>rfl

theorem ni (P:Program) (w:World) {op:BinOp} {k:IntKind} {x y:Int} {z:Int} (h:pL op k x y=some z):
 (Op.intBits op k x y).run P w=.ok (.int k z) w:=by
 unfold pL at h
 cases x with
 |negSucc a=>cases y<;>simp at h
 | ofNat a=>
   cases y with
   |negSucc b=>simp at h
   | ofNat b=>
     simp only []at h
     rw [gW,gW,pw_bits]at h
     by_cases hc:a<2 ^k.bits/\b<2 ^k.bits
     . simp only [hc.1,hc.2,decide_true,Bool.and_self,cond_true]at h
       have ea:(BitVec.ofInt k.bits (zQ a)).toNat=a:=by
        rw [BitVec.toNat_ofInt,show((zQ a)%((2 ^k.bits:Nat):Int))=((a%2 ^k.bits:Nat):Int)from rfl,zS hc.1];rfl
       have eb:(BitVec.ofInt k.bits (zQ b)).toNat=b:=by
        rw [BitVec.toNat_ofInt,show((zQ b)%((2 ^k.bits:Nat):Int))=((b%2 ^k.bits:Nat):Int)from rfl,zS hc.2];rfl
       cases op<;>simp only []at h<;>first|(cases h;done)|skip
       . cases h;simp only [Op.intBits];rw [BitVec.toNat_and,ea,eb,gY];rfl
       . cases h;simp only [Op.intBits];rw [BitVec.toNat_or,ea,eb,gY];rfl
       . cases h;simp only [Op.intBits];rw [BitVec.toNat_xor,ea,eb,gY];rfl
       . cases h;simp only [Op.intBits]
         have:BitVec.ofInt k.bits (zQ a)&&& ~~~ BitVec.ofInt k.bits (zQ b)=BitVec.ofInt k.bits (zQ a) ^^^(BitVec.ofInt k.bits (zQ a)&&& BitVec.ofInt k.bits (zQ b)):=by
          apply BitVec.eq_of_getLsbD_eq
          intro i hi
          simp only [BitVec.getLsbD_and,BitVec.getLsbD_not,BitVec.getLsbD_xor,hi,decide_true,Bool.true_and]
          cases(BitVec.ofInt k.bits (zQ a)).getLsbD i<;>cases(BitVec.ofInt k.bits (zQ b)).getLsbD i<;>rfl
         rw [this,BitVec.toNat_xor,BitVec.toNat_and,ea,eb,gY];rfl
     . have:(decide (a<2 ^k.bits)&&decide (b<2 ^k.bits))=false:=by
        rw [<-Bool.not_eq_true];simpa using hc
       rw [this]at h;simp at h

theorem shift_run (P:Program) (w:World) {op:BinOp} {k k':IntKind} {x y:Int} {z:Int} (h:qv op k x y=some z):
 (Op.shift op k x k' y).run P w=.ok (.int k z) w:=by
 unfold qv at h
 cases hy:fU y with
 |none=>simp [hy]at h
 | some n=>
   have:=nj hy
   subst this
   simp only [hy]at h
   have hmin:(bif zP n (bitsOf k)then n else bitsOf k)=min (n:Int).toNat k.bits:=by
    rw [dB,bitsOf_eq];simp only [Int.toNat_natCast]
    by_cases hc:n<=k.bits
    . simp [hc,Nat.min_eq_left]
    . simp [hc];omega
   rw [hmin]at h
   unfold Op.shift
   rw [if_neg (by omega)]
   cases op<;>simp only []at h<;>first|(cases h;done)|skip
   . cases h;simp only [];rw [gY]
     have:(zQ (zZ 2 (min (n:Int).toNat k.bits)):Int)=2 ^(min (n:Int).toNat k.bits):=by
      rw [show zZ 2 (min (n:Int).toNat k.bits)=2 ^(min (n:Int).toNat k.bits)from rfl]
      simp
     rw [this];rfl
   . cases h;simp only []
     have:shrI x (min (n:Int).toNat k.bits)=x.fdiv (2 ^(min (n:Int).toNat k.bits)):=by
      generalize min (n:Int).toNat k.bits=j
      have hp:((2:Int) ^j)=((2 ^j:Nat):Int):=by simp
      rw [hp]
      have hpos:0<2 ^j:=Nat.pow_pos (by omega)
      rw [Int.fdiv_eq_ediv_of_nonneg _ (by omega)]
      cases x with
      |ofNat m=>rfl
      | negSucc m=>
        simp only [shrI]
        obtain⟨p,hp⟩: ∃p,2 ^j=p+1:=⟨2 ^j-1,by omega⟩
        rw [show zZ 2 j=2 ^j from rfl,hp];rfl
     rw [this];rfl

theorem arith_run(P:Program)(w:World){op:BinOp}{k:IntKind}{x y:Int}{v:Value}(h:gR op k x y=some v):
 (match op with
   | .add| .sub| .mul=>Op.intArith op k x y
   | .quo| .rem=>Op.intDiv op k x y
   | .and| .or| .xor| .andNot=>Op.intBits op k x y
   |_=>Op.intCmp op x y).run P w=.ok v w:=by
 cases op<;>simp only [gR]at h⊢
 case add=>cases h;rw [gY];rfl
 case sub=>cases h;rw [gY];rfl
 case mul=>cases h;rw [gY];rfl
 case quo=>
  rw [gG]at h
  by_cases hy:y=0
  . simp [hy]at h
  . have:(y==0)=false:=by simpa using hy
    rw [this]at h;simp only [cond_false]at h;cases h
    unfold Op.intDiv;rw [if_neg hy,gY];rfl
 case rem=>
  rw [gG]at h
  by_cases hy:y=0
  . simp [hy]at h
  . have:(y==0)=false:=by simpa using hy
    rw [this]at h;simp only [cond_false]at h;cases h
    unfold Op.intDiv;rw [if_neg hy];rfl
 case and=>obtain⟨z,hz,rfl⟩:=Option.map_eq_some_iff.1 h;exact ni P w hz
 case or=>obtain⟨z,hz,rfl⟩:=Option.map_eq_some_iff.1 h;exact ni P w hz
 case xor=>obtain⟨z,hz,rfl⟩:=Option.map_eq_some_iff.1 h;exact ni P w hz
 case andNot=>obtain⟨z,hz,rfl⟩:=Option.map_eq_some_iff.1 h;exact ni P w hz
 case shl=>cases h
 case shr=>cases h
 case eql=>cases h;rw [gG];rfl
 case neq=>cases h;rw [gG];rfl
 case lss=>cases h;rw [gX];rfl
 case leq=>cases h;rw [gX];simp [Op.intCmp];by_cases hc:y<x<;>simp [hc]<;>omega
 case gtr=>cases h;rw [gX];rfl
 case geq=>cases h;rw [gX];simp [Op.intCmp];by_cases hc:x<y<;>simp [hc]<;>omega

theorem iG (x y:List UInt8):gw x y=(x==y):=by
 induction x generalizing y with
 |nil=>cases y<;>simp [gw]
 | cons a x ih=>
   cases y with
   |nil=>simp [gw]
   | cons b y=>
     simp only [gw,ih,cv]
     have:(a==b)=decide (a.toNat=b.toNat):=by
      by_cases h:a=b
      . simp [h]
      . have:a.toNat≠b.toNat:=fun e=>h (UInt8.toNat_inj.1 e)
        simp [h,this]
     rw [<-this];rfl
theorem yG (x y:List UInt8):iY x y=Op.bytesLess x y:=by
 induction x generalizing y with
 |nil=>cases y<;>simp [iY,Op.bytesLess]
 | cons a x ih=>
   cases y with
   |nil=>simp [iY,Op.bytesLess]
   | cons b y=>
     simp only [iY,Op.bytesLess,ih,cv,gW]
     have h1:(a==b)=decide (a.toNat=b.toNat):=by
      by_cases h:a=b
      . simp [h]
      . have:a.toNat≠b.toNat:=fun e=>h (UInt8.toNat_inj.1 e)
        simp [h,this]
     have h2:decide (a<b)=decide (a.toNat<b.toNat):=by
      by_cases h:a<b
      . have:=UInt8.lt_iff_toNat_lt.1 h;simp [h,this]
      . have: ¬a.toNat<b.toNat:=fun e=>h (UInt8.lt_iff_toNat_lt.2 e)
        simp [h,this]
     rw [h1,h2]
end Go.Ab

namespace Go.Ab

inductive Pt where
 |none
 |dead
 |blk (c base top:Nat)
abbrev Mu:=Nat->Pt

def dM(mu:Mu)(a a':Addr):Prop:=match mu a.block with
 | .none=>False
 | .dead=>True
 | .blk c base _=>a'=⟨c,base+a.off,none⟩
def dw(mu:Mu)(a:Addr)(cap:Nat)(a':Addr)(cap':Nat):Prop:=match mu a.block with
 | .none=>False
 | .dead=>cap<=cap'
 | .blk c base top=>match a.spot with
   |none=>cap'=cap/\a'=⟨c,base+a.off,none⟩
   |some k=>cap<=cap'/\a'.block=c/\a'.spot=none/\a'.off+cap'*k<=top/\(cap=0\/a'.off=base+a.off)
def di(mu:Mu)(b c:Nat):Prop:=match mu b with
 | .none=>False
 | .dead=>True
 | .blk c' base _=>c=c'/\base=0

inductive ao(mu:Mu):Value->Value->Prop
 |poison (v:Value):ao mu (.chan none) v
 |bool (b:Bool):ao mu (.bool b) (.bool b)
 |int (k:IntKind) (n:Int):ao mu (.int k n) (.int k n)
 |string (s:ByteArray):ao mu (.string s) (.string s)
 |nilp:ao mu (.pointer none) (.pointer none)
 |ptr {a a':Addr}:dM mu a a'->ao mu (.pointer (some a)) (.pointer (some a'))
 |nils:ao mu (.slice none 0 0) (.slice none 0 0)
 |slice {a a':Addr} {len cap cap':Nat}:len<=cap->dw mu a cap a' cap'->ao mu (.slice (some a) len cap) (.slice (some a') len cap')
 |nilm:ao mu (.map none) (.map none)
 |map {b c:Nat}:di mu b c->ao mu (.map (some b)) (.map (some c))
 |fn {f:FuncId} {x x' y y':Array Value}:x.toList.length=x'.toList.length->(∀(i:Nat) v v',x.toList[i]? =some v->x'.toList[i]? =some v'->ao mu v v')->
  y.toList.length=y'.toList.length->(∀(i:Nat) v v',y.toList[i]? =some v->y'.toList[i]? =some v'->ao mu v v')->ao mu (.func (.func f) x y) (.func (.func f) x' y')
 |yield {b c:Nat}:di mu b c->ao mu (.func (.yield b) #[] #[]) (.func (.yield c) #[] #[])
 |nilf:ao mu .nilFunc .nilFunc
 |nili:ao mu .nilIface .nilIface
 |iface {t:TypeId} {v v':Value}:ao mu v v'->ao mu (.iface t v) (.iface t v')
 |agg {x x':Array Value}:x.toList.length=x'.toList.length->(∀(i:Nat) v v',x.toList[i]? =some v->x'.toList[i]? =some v'->ao mu v v')->ao mu (.agg x) (.agg x')
 |tuple {x x':Array Value}:x.toList.length=x'.toList.length->(∀(i:Nat) v v',x.toList[i]? =some v->x'.toList[i]? =some v'->ao mu v v')->ao mu (.tuple x) (.tuple x')

def LR{α β:Type}(R:α->β->Prop)(l:List α)(l':List β):Prop:=l.length=l'.length/\ ∀(i:Nat) v v',l[i]? =some v->l'[i]? =some v'->R v v'

section lists
variable{α β:Type}{R:α->β->Prop}
theorem LR.nil:LR R [] []:=⟨rfl,by simp⟩
theorem LR.cons{a:α}{b:β}{l:List α}{l':List β}(h:R a b)(t:LR R l l'):LR R (a::l) (b::l'):=by
 refine⟨by simp [t.1],fun i v v' hv hv'=>?_⟩
 cases i with
 |zero=>simp at hv hv';subst hv;subst hv';exact h
 |succ i=>simp at hv hv';exact t.2 i v v' hv hv'
theorem LR.head{a:α}{b:β}{l:List α}{l':List β}(h:LR R (a::l) (b::l')):R a b:=h.2 0 a b (by simp) (by simp)
theorem LR.tail{a:α}{b:β}{l:List α}{l':List β}(h:LR R (a::l) (b::l')):LR R l l':=
 ⟨by have:=h.1;simpa using this,fun i v v' hv hv'=>h.2 (i+1) v v' (by simpa using hv) (by simpa using hv')⟩
theorem LR.nil_left{l':List β}(h:LR R [] l'):l'=[]:=by have:=h.1;cases l'<;>simp_all
theorem LR.cons_left{a:α}{l:List α}{l':List β}(h:LR R (a::l) l'): ∃b r,l'=b::r/\R a b/\LR R l r:=by
 cases l' with
 |nil=>have:=h.1;simp at this
 |cons b r=>exact⟨b,r,rfl,h.head,h.tail⟩
theorem LR.append{l r:List α}{l' r':List β}(h:LR R l l')(k:LR R r r'):LR R (l++r) (l'++r'):=by
 induction l generalizing l' with
 |nil=>rw [h.nil_left];exact k
 | cons a l ih=>
   obtain⟨b,r2,rfl,h1,h2⟩:=h.cons_left
   exact LR.cons h1 (ih h2)
theorem LR.mono{S:α->β->Prop}{l:List α}{l':List β}(h:LR R l l')(k: ∀a b,R a b->S a b):LR S l l':=⟨h.1,fun i v v' a b=>k _ _ (h.2 i v v' a b)⟩
theorem LR.get{l:List α}{l':List β}(h:LR R l l'){i:Nat}{v:α}(hv:l[i]? =some v): ∃v',l'[i]? =some v'/\R v v':=by
 have hi:i<l'.length:=by rw [<-h.1];exact(List.getElem?_eq_some_iff.1 hv).1
 exact⟨l'[i],zW hi,h.2 i v _ hv (zW hi)⟩
theorem LR.drop{l:List α}{l':List β}(h:LR R l l')(n:Nat):LR R (l.drop n) (l'.drop n):=
 ⟨by simp [h.1],fun i v v' a b=>h.2 (n+i) v v' (by simpa using a) (by simpa using b)⟩
theorem LR.take{l:List α}{l':List β}(h:LR R l l')(n:Nat):LR R (l.take n) (l'.take n):=by
 refine⟨by simp [h.1],fun i v v' a b=>?_⟩
 rw [List.getElem?_take]at a b
 split at a
 . rename_i hc;rw [if_pos hc]at b;exact h.2 i v v' a b
 . cases a
theorem LR.set{l:List α}{l':List β}(h:LR R l l')(n:Nat){a:α}{b:β}(hab:R a b):LR R (l.set n a) (l'.set n b):=by
 refine⟨by simp [h.1],fun i v v' hv hv'=>?_⟩
 rw [List.getElem?_set]at hv hv'
 split at hv
 . rename_i hc
   rw [if_pos hc]at hv'
   split at hv
   . rename_i h1
     rw [if_pos (by rw [<-h.1];exact h1)]at hv'
     cases hv;cases hv';exact hab
   . cases hv
 . rename_i hc;rw [if_neg hc]at hv';exact h.2 i v v' hv hv'
theorem LR.map{γ δ:Type}{f:γ->α}{g:δ->β}{S:γ->δ->Prop}{l:List γ}{l':List δ}(h:LR S l l')(k: ∀a b,S a b->R (f a) (g b)):LR R (l.map f) (l'.map g):=by
 refine⟨by simp [h.1],fun i v v' hv hv'=>?_⟩
 simp only [List.getElem?_map,Option.map_eq_some_iff]at hv hv'
 obtain⟨a,ha,rfl⟩:=hv
 obtain⟨b,hb,rfl⟩:=hv'
 exact k _ _ (h.2 i a b ha hb)
theorem LR.mapSame{γ:Type}{f:γ->α}{g:γ->β}(l:List γ)(k: ∀a,R (f a) (g a)):LR R (l.map f) (l.map g):=by
 induction l with
 |nil=>exact LR.nil
 |cons a l ih=>exact LR.cons (k a) ih
theorem LR.replicate{a:α}{b:β}(h:R a b)(n:Nat):LR R (List.replicate n a) (List.replicate n b):=by
 induction n with
 |zero=>exact LR.nil
 |succ n ih=>exact LR.cons h ih
theorem LR.refl{S:α->α->Prop}{l:List α}(h: ∀a∈l,S a a):LR S l l:=by
 refine⟨rfl,fun i v v' hv hv'=>?_⟩
 rw [hv]at hv';cases hv';exact h v (Xa hv)
end lists

def Le(mu mu':Mu):Prop:= ∀b,mu b≠ .none->mu' b=mu b\/mu' b=.dead
theorem Le.refl(mu:Mu):Le mu mu:=fun _ _=>.inl rfl
theorem Le.trans{a b c:Mu}(h:Le a b)(k:Le b c):Le a c:=by
 intro x hx
 rcases h x hx with e|e
 . rcases k x (by rw [e];exact hx)with e2|e2
   . exact .inl (e2.trans e)
   . exact .inr e2
 . rcases k x (by rw [e];simp)with e2|e2
   . exact .inr (e2.trans e)
   . exact .inr e2

theorem dM.mono{mu mu':Mu}(h:Le mu mu'){a a':Addr}(k:dM mu a a'):dM mu' a a':=by
 unfold dM at*
 cases hm:mu a.block with
 |none=>rw [hm]at k;exact k.elim
 |dead=>rcases h a.block (by rw [hm];simp)with e|e<;>(try rw [e,hm])<;>(try rw [e])<;>trivial
 | blk c base top=>
   rw [hm]at k
   rcases h a.block (by rw [hm];simp)with e|e
   . rw [e,hm];exact k
   . rw [e];trivial
theorem dw.caps{mu:Mu}{a a':Addr}{cap cap':Nat}(k:dw mu a cap a' cap'):cap<=cap':=by
 unfold dw at k
 cases hm:mu a.block with
 |none=>rw [hm]at k;exact k.elim
 |dead=>rw [hm]at k;exact k
 | blk c base top=>
   rw [hm]at k
   cases hs:a.spot with
   |none=>rw [hs]at k;simp only []at k;omega
   |some j=>rw [hs]at k;simp only []at k;omega
theorem dw.mono{mu mu':Mu}(h:Le mu mu'){a a':Addr}{cap cap':Nat}(k:dw mu a cap a' cap'):dw mu' a cap a' cap':=by
 have hc:=k.caps
 unfold dw at*
 cases hm:mu a.block with
 |none=>rw [hm]at k;exact k.elim
 |dead=>rcases h a.block (by rw [hm];simp)with e|e<;>(try rw [e,hm])<;>(try rw [e])<;>exact hc
 | blk c base top=>
   rw [hm]at k
   rcases h a.block (by rw [hm];simp)with e|e
   . rw [e,hm];exact k
   . rw [e];exact hc
theorem di.mono{mu mu':Mu}(h:Le mu mu'){b c:Nat}(k:di mu b c):di mu' b c:=by
 unfold di at*
 cases hm:mu b with
 |none=>rw [hm]at k;exact k.elim
 |dead=>rcases h b (by rw [hm];simp)with e|e<;>(try rw [e,hm])<;>(try rw [e])<;>trivial
 | blk c base top=>
   rw [hm]at k
   rcases h b (by rw [hm];simp)with e|e
   . rw [e,hm];exact k
   . rw [e];trivial
theorem ao.mono{mu mu':Mu}(h:Le mu mu'){v v':Value}(k:ao mu v v'):ao mu' v v':=by
 induction k with
 |poison v=>exact .poison v
 |bool b=>exact .bool b
 |int k n=>exact .int k n
 |string s=>exact .string s
 |nilp=>exact .nilp
 |ptr a=>exact .ptr (a.mono h)
 |nils=>exact .nils
 |slice l a=>exact .slice l (a.mono h)
 |nilm=>exact .nilm
 |map a=>exact .map (a.mono h)
 |fn a _ b _ i1 i2=>exact .fn a i1 b i2
 |yield a=>exact .yield (a.mono h)
 |nilf=>exact .nilf
 |nili=>exact .nili
 |iface _ i=>exact .iface i
 |agg a _ i=>exact .agg a i
 |tuple a _ i=>exact .tuple a i
abbrev VL(mu:Mu):=LR (ao mu)
theorem VL.mono{mu mu':Mu}(h:Le mu mu'){l l':List Value}(k:VL mu l l'):VL mu' l l':=LR.mono k fun _ _=>ao.mono h

theorem ao.const(mu:Mu){v:Value}(h:cg v=true):ao mu v v:=by
 unfold cg at h
 split at h<;>first|exact .bool _|exact .int _ _|exact .string _|exact .nilp|exact .nils|exact .nilm|exact .nilf|exact .nili|(cases h)
theorem ao.const_eq{mu:Mu}{v v':Value}(h:cg v=true)(k:ao mu v v'):v'=v:=by
 cases k<;>first|rfl|(simp [cg]at h)
theorem ao.cells{mu:Mu}{v v':Value}(h:ao mu v v')(hp: ∀x,v≠ .chan x):VL mu (an v) v'.cells.toList:=by
 cases h<;>first
  |exact absurd rfl (hp _)
  |(rename_i a b;exact⟨a,b⟩)
  |(exact LR.cons (by first|assumption|(constructor<;>assumption)|constructor) LR.nil)
theorem ao.flat{mu:Mu}{v v':Value}(h:ao mu v v')(hf:iM v=true):v'.oneCell'=true:=by
 cases h<;>first|rfl|(simp [iM]at hf)

def kj(mu:Mu):List (Value×Value×Nat)->List MapEntry->Prop:=LR fun x e=>e.key=x.1/\qI x.1=true/\ao mu x.2.1 e.val/\e.born=x.2.2
structure iu(mu:Mu)(t:Tr Value)(n:Nat)(tmps:Array Value):Prop where
 size:tmps.size=n
 sized:t.Sized n
 get: ∀i v,t.get i=some v-> ∃v',tmps[i]? =some v'/\ao mu v v'
def stOf:LoopState->Nat
 | .ready=>0
 | .busy=>1
 | .done=>2
 | .exhausted=>3
structure kR(mu:Mu)(l:fF)(l':Loop):Prop where
 fn:l'.fn=l.fn
 regs:iu mu l.regs l.nr l'.tmps
 params:l'.params=l.params
 assign:l'.assign=l.assign
 body:l'.body=l.body
 st:stOf l'.state=l.st
 pending:l'.pending=l.pending
structure CRel(mu:Mu)(t:Tr Value)(sz md base top:Nat)(cs:Array Value)(fz:Nat×Nat):Prop where
 whole:cs.size=top
 fits:base+sz<=top
 sized:t.Sized sz
 get: ∀i v,t.get i=some v-> ∃v',cs[base+i]? =some v'/\ao mu v v'
 free:md≠0-> ∀i,i<cs.size-> ¬(fz.1<=i/\i<fz.2)
def kc(mu:Mu)(x:Blk)(base top:Nat)(o:Obj):Prop:=match x with
 | .dead=>False
 | .cells t sz _ md=> ∃cs el fz,o=.cells cs el fz/\CRel mu t sz md base top cs fz
 | .map es clock=>base=0/\ ∃es',o=.map es' clock/\kj mu es es'.toList
 | .loop l=>base=0/\ ∃l',o=.loop l'/\kR mu l l'
 | .dfr=>base=0/\o=.deferred (some [])

theorem iu.mono{mu mu':Mu}(h:Le mu mu'){t:Tr Value}{n:Nat}{tmps:Array Value}(k:iu mu t n tmps):iu mu' t n tmps:=
 ⟨k.size,k.sized,fun i v hv=>let⟨v',a,b⟩:=k.get i v hv;⟨v',a,b.mono h⟩⟩
theorem kR.mono{mu mu':Mu}(h:Le mu mu'){l:fF}{l':Loop}(k:kR mu l l'):kR mu' l l':=
 ⟨k.fn,k.regs.mono h,k.params,k.assign,k.body,k.st,k.pending⟩
theorem CRel.mono{mu mu':Mu}(h:Le mu mu'){t:Tr Value}{sz md base top:Nat}{cs:Array Value}{fz:Nat×Nat}(k:CRel mu t sz md base top cs fz):CRel mu' t sz md base top cs fz:=
 ⟨k.whole,k.fits,k.sized,fun i v hv=>let⟨v',a,b⟩:=k.get i v hv;⟨v',a,b.mono h⟩,k.free⟩
theorem kc.mono{mu mu':Mu}(h:Le mu mu'){x:Blk}{base top:Nat}{o:Obj}(k:kc mu x base top o):kc mu' x base top o:=by
 cases x with
 |dead=>exact k
 |cells t sz el md=>obtain⟨cs,el',fz,e,r⟩:=k;exact⟨cs,el',fz,e,r.mono h⟩
 |map es c=>obtain⟨e0,es',e,r⟩:=k;exact⟨e0,es',e,LR.mono r fun a b x=>⟨x.1,x.2.1,x.2.2.1.mono h,x.2.2.2⟩⟩
 |loop l=>obtain⟨e0,l',e,r⟩:=k;exact⟨e0,l',e,r.mono h⟩
 |dfr=>exact k

structure aJ(mu:Mu)(h:Hp)(w:World):Prop where
 sized:h.t.Sized h.n
 blk: ∀b c base top,mu b=.blk c base top-> ∃x o,h.get b=some x/\w.heap[c]? =some o/\kc mu x base top o
 dead: ∀b,mu b=.dead->h.get b=some .dead
 inj: ∀b b' c base top base' top',mu b=.blk c base top->mu b'=.blk c base' top'->b=b'
 lt: ∀b,mu b≠ .none->b<h.n

structure Ext(mu:Mu)(h:Hp)(w:World)(mu':Mu)(h':Hp)(w':World):Prop where
 n:h.n<=h'.n
 old: ∀b,b<h.n->mu' b=mu b\/(mu b≠ .none/\mu' b=.dead)
 fresh: ∀b c base top,h.n<=b->mu' b=.blk c base top->w.heap.size<=c\/ ∃b0 base0 top0,b0<h.n/\mu b0=.blk c base0 top0/\mu' b0=.dead
 lo:h'.lo<=h.lo
 same: ∀b,b<h.n->b<h'.lo->h'.get b=h.get b
 frame: ∀c,c<w.heap.size->(∀b base top,mu b≠ .blk c base top)->w'.heap[c]? =w.heap[c]?
 ro: ∀b c base top t sz el,mu b=.blk c base top->h.get b=some (.cells t sz el 0)->w'.heap[c]? =w.heap[c]? /\h'.get b=h.get b/\mu' b=mu b
 wsize:w.heap.size<=w'.heap.size
 os:w'.os=w.os
 tape:w'.tape=w.tape
 output:w'.output=w.output
 cover: ∀b,h.n<=b->b<h'.n->mu' b≠ .none

theorem Ext.refl(mu:Mu)(h:Hp)(w:World)(hh:aJ mu h w):Ext mu h w mu h w where
 n:=zN _
 old:=fun _ _=>.inl rfl
 fresh:=fun b c base top hb hm=>absurd (hh.lt b (by rw [hm];simp)) (by omega)
 lo:=zN _
 same:=fun _ _ _=>rfl
 frame:=fun _ _ _=>rfl
 ro:=fun _ _ _ _ _ _ _ _ _=>⟨rfl,rfl,rfl⟩
 wsize:=zN _
 os:=rfl
 tape:=rfl
 output:=rfl
 cover:=fun _ h1 h2=>absurd h2 (by omega)

theorem Ext.le{mu mu':Mu}{h h':Hp}{w w':World}(e:Ext mu h w mu' h' w')(hh:aJ mu h w):Le mu mu':=by
 intro b hb
 rcases e.old b (hh.lt b hb)with x|x
 . exact .inl x
 . exact .inr x.2

theorem Ext.trans {mu mu1 mu2:Mu} {h h1 h2:Hp} {w w1 w2:World} (a:Ext mu h w mu1 h1 w1) (b:Ext mu1 h1 w1 mu2 h2 w2):Ext mu h w mu2 h2 w2 where
 n:=zX a.n b.n
 old:=by
  intro x hx
  rcases a.old x hx with e|⟨e,f⟩
  . rcases b.old x (by have:=a.n;omega)with e2|⟨e2,f2⟩
    . exact .inl (e2.trans e)
    . exact .inr ⟨by rw [<-e];exact e2,f2⟩
  . rcases b.old x (by have:=a.n;omega)with e2|⟨e2,f2⟩
    . exact .inr ⟨e,e2.trans f⟩
    . exact .inr ⟨e,f2⟩
 fresh:=by
  intro x c base top hx hm
  have dd: ∀b0,b0<h.n->mu1 b0=.dead->mu2 b0=.dead:=by
   intro b0 hb0 hd
   rcases b.old b0 (by have:=a.n;omega)with e|⟨_,f⟩
   . exact e.trans hd
   . exact f
  by_cases hx1:h1.n<=x
  . rcases b.fresh x c base top hx1 hm with hc|⟨b0,base0,top0,hb0,hm0,hd0⟩
    . exact .inl (zX a.wsize hc)
    . by_cases hb1:b0<h.n
      . rcases a.old b0 hb1 with e|⟨_,f⟩
        . exact .inr ⟨b0,base0,top0,hb1,by rw [<-e];exact hm0,hd0⟩
        . rw [f]at hm0;cases hm0
      . rcases a.fresh b0 c base0 top0 (by omega) hm0 with hc|⟨b2,base2,top2,hb2,hm2,hd2⟩
        . exact .inl hc
        . exact .inr ⟨b2,base2,top2,hb2,hm2,dd b2 hb2 hd2⟩
  . rcases b.old x (by omega)with e|⟨_,f⟩
    . rcases a.fresh x c base top hx (by rw [<-e];exact hm)with hc|⟨b2,base2,top2,hb2,hm2,hd2⟩
      . exact .inl hc
      . exact .inr ⟨b2,base2,top2,hb2,hm2,dd b2 hb2 hd2⟩
    . rw [f]at hm;cases hm
 lo:=zX b.lo a.lo
 same:=fun x hx hl=>(b.same x (by have:=a.n;omega) hl).trans (a.same x hx (by have:=b.lo;omega))
 frame:=by
  intro c hc hn
  have h1:=a.frame c hc hn
  rw [<-h1]
  refine b.frame c (by have:=a.wsize;omega) ?_
  intro x base top hm
  by_cases hx:x<h.n
  . rcases a.old x hx with e|⟨_,f⟩
    . exact hn x base top (by rw [<-e];exact hm)
    . rw [f]at hm;cases hm
  . rcases a.fresh x c base top (by omega) hm with hc2|⟨b2,base2,top2,_,hm2,_⟩
    . omega
    . exact hn b2 base2 top2 hm2
 ro:=by
  intro x c base top t sz el hm hg
  obtain⟨h1,h2,h3⟩:=a.ro x c base top t sz el hm hg
  obtain⟨k1,k2,k3⟩:=b.ro x c base top t sz el (h3.trans hm) (h2.trans hg)
  exact⟨k1.trans h1,k2.trans h2,k3.trans h3⟩
 wsize:=zX a.wsize b.wsize
 os:=b.os.trans a.os
 tape:=b.tape.trans a.tape
 output:=b.output.trans a.output
 cover:=by
  intro x h1' h2'
  by_cases hx:x<h1.n
  . have:=a.cover x h1' hx
    rcases b.old x hx with e|⟨_,e⟩
    . rw [e];exact this
    . rw [e];simp
  . exact b.cover x (by omega) h2'

def upd(mu:Mu)(b:Nat)(p:Pt):Mu:=fun x=>if x=b then p else mu x
theorem upd_same(mu:Mu)(b:Nat)(p:Pt):upd mu b p b=p:=by simp [upd]
theorem aK(mu:Mu){b x:Nat}(p:Pt)(h:x≠b):upd mu b p x=mu x:=by simp [upd,h]
theorem aJ.none_ge{mu:Mu}{h:Hp}{w:World}(hh:aJ mu h w){b:Nat}(hb:h.n<=b):mu b=.none:=by
 cases hm:mu b with
 |none=>rfl
 |dead=>exact absurd (hh.lt b (by rw [hm];simp)) (by omega)
 |blk c base top=>exact absurd (hh.lt b (by rw [hm];simp)) (by omega)
theorem aJ.clt{mu:Mu}{h:Hp}{w:World}(hh:aJ mu h w){b c base top:Nat}(hm:mu b=.blk c base top):c<w.heap.size:=by
 obtain⟨x,o,_,h2,_⟩:=hh.blk b c base top hm
 exact(Array.getElem?_eq_some_iff.1 h2).1
theorem Hp.get_new(h:Hp)(x:Blk)(hs:h.t.Sized h.n)(b:Nat):(h.new x).get b=if b=h.n then some x else h.get b:=Tr.get_push h.t h.n x hs b
theorem Hp.get_put(h:Hp)(b:Nat)(x:Blk)(b':Nat):(h.put b x).get b'=if b=b'/\(h.get b').isSome then some x else h.get b':=Tr.get_set h.t b x b'
theorem Hp.put_lo(h:Hp)(b:Nat)(x:Blk):(h.put b x).lo<=h.lo/\(h.put b x).lo<=b:=by
 show dL b h.lo<=h.lo/\dL b h.lo<=b
 unfold dL
 rw [dB]
 by_cases hc:b<=h.lo
 . simp [hc]
 . simp [hc];omega

structure WNew(w w':World)(o:Obj):Prop where
 heap:w'.heap=w.heap.push o
 os:w'.os=w.os
 tape:w'.tape=w.tape
 output:w'.output=w.output
structure WSet(w w':World)(c:Nat)(o:Obj):Prop where
 size:w'.heap.size=w.heap.size
 at_:w'.heap[c]? =some o
 other: ∀j,j≠c->w'.heap[j]? =w.heap[j]?
 os:w'.os=w.os
 tape:w'.tape=w.tape
 output:w'.output=w.output

theorem li{mu:Mu}{h:Hp}{w w':World}(hh:aJ mu h w){x:Blk}{base top:Nat}{o:Obj}(hw:WNew w w' o)(hb:kc mu x base top o):
 aJ (upd mu h.n (.blk w.heap.size base top)) (h.new x) w'/\Ext mu h w (upd mu h.n (.blk w.heap.size base top)) (h.new x) w':=by
 have hget: ∀j,w'.heap[j]? =if j=w.heap.size then some o else w.heap[j]? :=by
  intro j;rw [hw.heap,Array.getElem?_push]
 have hle:Le mu (upd mu h.n (.blk w.heap.size base top)):=by
  intro b hb;left;exact aK _ _ (by have:=hh.lt b hb;omega)
 have hgn:=h.get_new x hh.sized
 refine⟨⟨Tr.sized_push x hh.sized,?_,?_,?_,?_⟩,?_⟩
 . intro b c base' top' hm
   by_cases hbn:b=h.n
   . subst hbn
     rw [upd_same]at hm
     cases hm
     exact⟨x,o,by rw [hgn];simp,by rw [hget];simp,hb.mono hle⟩
   . rw [aK _ _ hbn]at hm
     obtain⟨y,o',h1,h2,h3⟩:=hh.blk b c base' top' hm
     have:=hh.clt hm
     exact⟨y,o',by rw [hgn,if_neg hbn];exact h1,by rw [hget,if_neg (by omega)];exact h2,h3.mono hle⟩
 . intro b hm
   by_cases hbn:b=h.n
   . subst hbn;rw [upd_same]at hm;cases hm
   . rw [aK _ _ hbn]at hm;rw [hgn,if_neg hbn];exact hh.dead b hm
 . intro b b' c base1 top1 base2 top2 h1 h2
   by_cases hb1:b=h.n
   . by_cases hb2:b'=h.n
     . rw [hb1,hb2]
     . subst hb1;rw [upd_same]at h1;rw [aK _ _ hb2]at h2
       cases h1;have:=hh.clt h2;omega
   . rw [aK _ _ hb1]at h1
     by_cases hb2:b'=h.n
     . subst hb2;rw [upd_same]at h2;cases h2;have:=hh.clt h1;omega
     . rw [aK _ _ hb2]at h2;exact hh.inj b b' c _ _ _ _ h1 h2
 . intro b hm
   show b<h.n+1
   by_cases hbn:b=h.n
   . omega
   . rw [aK _ _ hbn]at hm;have:=hh.lt b hm;omega
 . refine⟨Nat.le_succ _,?_,?_,zN _,?_,?_,?_,?_,hw.os,hw.tape,hw.output,?_⟩
   . intro b hb;left;exact aK _ _ (by omega)
   . intro b c base' top' hb hm
     by_cases hbn:b=h.n
     . subst hbn;rw [upd_same]at hm;cases hm;exact .inl (zN _)
     . rw [aK _ _ hbn]at hm;exact absurd (hh.lt b (by rw [hm];simp)) (by omega)
   . intro b hb _;rw [hgn,if_neg (by omega)]
   . intro c hc _;rw [hget,if_neg (by omega)]
   . intro b c base' top' t sz el hm hg
     have:=hh.clt hm
     have hbl:=hh.lt b (by rw [hm];simp)
     exact⟨by rw [hget,if_neg (by omega)],by rw [hgn,if_neg (by omega)],aK _ _ (by omega)⟩
   . rw [hw.heap];simp
   . intro b h1 h2
     have h2':b<h.n+1:=h2
     have:b=h.n:=by omega
     subst this
     rw [upd_same];simp

theorem rE{mu:Mu}{h:Hp}{w w':World}(hh:aJ mu h w){b c base top:Nat}{x:Blk}{o:Obj}(hm:mu b=.blk c base top)
 (hro: ∀t sz el,h.get b≠some (.cells t sz el 0)) (hw:WSet w w' c o) (hb:kc mu x base top o):
 aJ mu (h.put b x) w'/\Ext mu h w mu (h.put b x) w':=by
 have hgp:=h.get_put b x
 have hbl:=hh.lt b (by rw [hm];simp)
 have hsome:(h.get b).isSome=true:=by obtain⟨y,_,h1,_⟩:=hh.blk b c base top hm;rw [h1];rfl
 refine⟨⟨Tr.sized_set b x hh.sized,?_,?_,hh.inj,hh.lt⟩,?_⟩
 . intro b' c' base' top' hm'
   by_cases hbb:b=b'
   . subst hbb
     rw [hm]at hm';cases hm'
     exact⟨x,o,by rw [hgp,if_pos ⟨rfl,hsome⟩],hw.at_,hb⟩
   . obtain⟨y,o',h1,h2,h3⟩:=hh.blk b' c' base' top' hm'
     have hcc:c'≠c:=fun e=>hbb (hh.inj b b' c _ _ _ _ hm (by rw [<-e];exact hm'))
     exact⟨y,o',by rw [hgp,if_neg (fun e=>hbb e.1)];exact h1,by rw [hw.other _ hcc];exact h2,h3⟩
 . intro b' hm'
   have hbb:b≠b':=by intro e;subst e;rw [hm]at hm';cases hm'
   rw [hgp,if_neg (fun e=>hbb e.1)];exact hh.dead b' hm'
 . have hlo:=h.put_lo b x
   refine⟨zN _,fun _ _=>.inl rfl,?_,hlo.1,?_,?_,?_,by rw [hw.size];exact zN _,hw.os,hw.tape,hw.output,fun b h1 h2=>absurd (show b<h.n from h2) (by omega)⟩
   . intro b' c' base' top' hb' hm'
     exact absurd (hh.lt b' (by rw [hm'];simp)) (by omega)
   . intro b' _ hb'
     rw [hgp,if_neg (by intro e;have:=hlo.2;omega)]
   . intro c' _ hn
     exact hw.other _ (fun e=>hn b base top (by rw [e];exact hm))
   . intro b' c' base' top' t sz el hm' hg'
     have hbb:b≠b':=by intro e;subst e;exact hro t sz el hg'
     have hcc:c'≠c:=fun e=>hbb (hh.inj b b' c _ _ _ _ hm (by rw [<-e];exact hm'))
     exact⟨hw.other _ hcc,by rw [hgp,if_neg (fun e=>hbb e.1)],rfl⟩

theorem oe{mu:Mu}{h:Hp}{w w':World}(hh:aJ mu h w){b c base top:Nat}{o:Obj}(hm:mu b=.blk c base top)
 (hro: ∀t sz el,h.get b≠some (.cells t sz el 0)) (hw:WSet w w' c o):
 aJ (upd mu b .dead) (h.put b .dead) w'/\Ext mu h w (upd mu b .dead) (h.put b .dead) w':=by
 have hgp:=h.get_put b .dead
 have hbl:=hh.lt b (by rw [hm];simp)
 have hsome:(h.get b).isSome=true:=by obtain⟨y,_,h1,_⟩:=hh.blk b c base top hm;rw [h1];rfl
 have hle:Le mu (upd mu b .dead):=by
  intro b' _
  by_cases hbb:b'=b
  . subst hbb;right;exact upd_same _ _ _
  . left;exact aK _ _ hbb
 refine⟨⟨Tr.sized_set b _ hh.sized,?_,?_,?_,?_⟩,?_⟩
 . intro b' c' base' top' hm'
   by_cases hbb:b'=b
   . subst hbb;rw [upd_same]at hm';cases hm'
   . rw [aK _ _ hbb]at hm'
     obtain⟨y,o',h1,h2,h3⟩:=hh.blk b' c' base' top' hm'
     have hcc:c'≠c:=fun e=>hbb (hh.inj b' b c _ _ _ _ (by rw [<-e];exact hm') hm)
     exact⟨y,o',by rw [hgp,if_neg (fun e=>hbb e.1.symm)];exact h1,by rw [hw.other _ hcc];exact h2,h3.mono hle⟩
 . intro b' hm'
   by_cases hbb:b'=b
   . subst hbb;rw [hgp,if_pos ⟨rfl,hsome⟩]
   . rw [aK _ _ hbb]at hm';rw [hgp,if_neg (fun e=>hbb e.1.symm)];exact hh.dead b' hm'
 . intro b1 b2 c' base1 top1 base2 top2 h1 h2
   have n1:b1≠b:=by intro e;subst e;rw [upd_same]at h1;cases h1
   have n2:b2≠b:=by intro e;subst e;rw [upd_same]at h2;cases h2
   rw [aK _ _ n1]at h1;rw [aK _ _ n2]at h2
   exact hh.inj b1 b2 c' _ _ _ _ h1 h2
 . intro b' hm'
   by_cases hbb:b'=b
   . subst hbb;exact hbl
   . rw [aK _ _ hbb]at hm';exact hh.lt b' hm'
 . have hlo:=h.put_lo b .dead
   refine⟨zN _,?_,?_,hlo.1,?_,?_,?_,by rw [hw.size];exact zN _,hw.os,hw.tape,hw.output,fun b h1 h2=>absurd (show b<h.n from h2) (by omega)⟩
   . intro b' _
     by_cases hbb:b'=b
     . subst hbb;right;exact⟨by rw [hm];simp,upd_same _ _ _⟩
     . left;exact aK _ _ hbb
   . intro b' c' base' top' hb' hm'
     have hbb:b'≠b:=by omega
     rw [aK _ _ hbb]at hm'
     exact absurd (hh.lt b' (by rw [hm'];simp)) (by omega)
   . intro b' _ hb'
     rw [hgp,if_neg (by intro e;have:=hlo.2;omega)]
   . intro c' _ hn
     exact hw.other _ (fun e=>hn b base top (by rw [e];exact hm))
   . intro b' c' base' top' t sz el hm' hg'
     have hbb:b≠b':=by intro e;subst e;exact hro t sz el hg'
     have hcc:c'≠c:=fun e=>hbb (hh.inj b b' c _ _ _ _ hm (by rw [<-e];exact hm'))
     exact⟨hw.other _ hcc,by rw [hgp,if_neg (fun e=>hbb e.1)],aK _ _ (Ne.symm hbb)⟩

theorem qq{mu:Mu}{h:Hp}{w w':World}(hh:aJ mu h w)(e:w'.heap=w.heap):aJ mu h w':=
 ⟨hh.sized,fun b c base top hm=>let⟨x,o,a,b',c'⟩:=hh.blk b c base top hm;⟨x,o,a,by rw [e];exact b',c'⟩,hh.dead,hh.inj,hh.lt⟩
theorem rB{mu:Mu}{h:Hp}{w w':World}(hh:aJ mu h w)(e:w'.heap=w.heap)(e1:w'.os=w.os)(e2:w'.tape=w.tape)(e3:w'.output=w.output):Ext mu h w mu h w' where
 n:=zN _
 old:=fun _ _=>.inl rfl
 fresh:=fun b c base top hb hm=>absurd (hh.lt b (by rw [hm];simp)) (by omega)
 lo:=zN _
 same:=fun _ _ _=>rfl
 frame:=fun _ _ _=>by rw [e]
 ro:=fun _ _ _ _ _ _ _ _ _=>⟨by rw [e],rfl,rfl⟩
 wsize:=by rw [e];exact zN _
 os:=e1
 tape:=e2
 output:=e3
 cover:=fun _ h1 h2=>absurd h2 (by omega)
end Go.Ab

namespace Go.Ab

structure oH(P:Program)(fr:Frame)(w:World)(kind:CallKind)(v:Value):Prop where
 mode:fr.mode=.returning
 defers:fr.defers=[]
 kind:fr.kind=kind
 res: ∃fn,P.funcs[fr.fn]? =some fn/\(results fn fr.tmps).run P w=.ok v w
structure pU(w w':World):Prop where
 heap: ∀c,c<w.heap.size->w'.heap[c]? =w.heap[c]?
 size:w.heap.size<=w'.heap.size
 os:w'.os=w.os
 tape:w'.tape=w.tape
 output:w'.output=w.output
def OrcAt(P:Program)(g:FuncId)(args:List Value)(v:Value):Prop:=
 args.all cg=true/\cg v=true/\ ∀(w:World) (cs0:List Frame) (kind:CallKind),(kind=.normal\/(kind=.deferred/\ ∃c r,cs0=c::r/\c.mode=.returning))->
  ∃w' fr,pU w w'/\Steps P (lone (Frame.enter P g ⟨args⟩ kind) cs0 w) (lone fr cs0 w')/\oH P fr w' kind v/\fr.fn=g
structure EOk(E:Env)(P:Program):Prop where
 fn: ∀f fn,E.fn f=some fn->P.funcs[f]? =some fn
 call: ∀f fn args w,E.fn f=some fn->fn.body.isSome=true->(callFunc f args).run P w=.ok (.enter f args) w
 ty: ∀t i,E.ty t=some i->P.info? t=some i
 eq: ∀t,E.eqok t=true->P.stoodInHeld t=false/\P.eqGuardType P.depth t=false
 mixed:P.follows .mixedOrders=true
 orc: ∀g args v,E.orc g args=some v->(∃fn,E.fn g=some fn/\fn.body.isSome=true)/\OrcAt P g args v

section
variable{E:Env}{P:Program}(ok:EOk E P)
include ok

theorem und_eq{t:TypeId}{d:TypeDesc}(h:E.und t=some d):P.underlying t=some d:=by
 unfold Env.und at h
 cases ht:E.ty t with
 |none=>simp [ht]at h
 | some i=>
   simp only [ht]at h
   have hp:=ok.ty t i ht
   obtain⟨desc,_,_,_,_,_,_,_,_,_⟩:=i
   unfold Program.underlying
   rw [hp]
   cases desc<;>simp only []at h⊢ <;>try exact h
   rename_i nm u
   cases hu:E.ty u with
   |none=>simp [hu]at h
   |some j=>simp only [hu]at h;rw [ok.ty u j hu];exact h
theorem aR{t:TypeId}{d:TypeDesc}(h:E.und t=some d)(w:World):(underlying t).run P w=.ok d w:=by
 unfold underlying;simp [und_eq ok h]
theorem lK{t:TypeId}{i:TypeInfo}(h:E.ty t=some i)(w:World):(typeInfo t).run P w=.ok i w:=by
 unfold typeInfo;simp [ok.ty t i h]
theorem dI{t:TypeId}{n:Nat}(h:E.sz t=some n)(w:World):(sizeOf t).run P w=.ok n w:=by
 unfold Env.sz at h
 cases ht:E.ty t with
 |none=>simp [ht]at h
 |some i=>simp only [ht]at h;cases h;unfold sizeOf;simp [lK ok ht]
theorem qH{t:TypeId}{b:Bool}(h:E.agg t=some b)(w:World):(isAgg t).run P w=.ok b w:=by
 unfold Env.agg at h
 cases ht:E.und t with
 |none=>simp [ht]at h
 | some d=>
   simp only [ht]at h
   unfold isAgg
   simp only [Sem.run_bind,aR ok ht,Result.andThen_ok]
   cases d<;>simp only []at h<;>cases h<;>rfl
theorem lh{t:TypeId}{z:List Value}(h:E.zero t=some z)(w:World):
 ∃v,(zeroValue t).run P w=.ok v w/\v.cells.toList=z/\an v=z/\z.all cg=true:=by
 unfold Env.zero at h
 cases ht:E.ty t with
 |none=>simp [ht]at h
 | some i=>
   simp only [ht]at h
   cases hz:i.zero with
   |none=>simp [hz]at h
   | some v=>
     simp only [hz]at h
     cases hc:(an v).all cg with
     |false=>simp [hc]at h
     | true=>
       simp only [hc,cond_true]at h
       cases h
       refine⟨v,?_,?_,rfl,hc⟩
       . unfold zeroValue;simp [lK ok ht,hz]
       . cases v<;>rfl
theorem oh{t:TypeId}{z:Value}(h:E.zeroV t=some z)(w:World)(mu:Mu):(zeroValue t).run P w=.ok z w/\ao mu z z:=by
 unfold Env.zeroV at h
 cases ht:E.ty t with
 |none=>simp [ht]at h
 | some i=>
   simp only [ht]at h
   cases hz:i.zero with
   |none=>simp [hz]at h
   | some v=>
     simp only [hz]at h
     cases hc:(an v).all cg with
     |false=>simp [hc]at h
     | true=>
       simp only [hc,cond_true]at h
       cases h
       refine⟨by unfold zeroValue;simp [lK ok ht,hz],?_⟩
       have hall: ∀x∈an z,cg x=true:=by simpa using hc
       cases z with
       | agg cs=>
         refine .agg rfl fun i x x' hx hx'=>?_
         rw [hx]at hx';cases hx'
         exact ao.const mu (hall x (Xa hx))
       |_=>exact ao.const mu (hall _ (by simp [an]))

theorem lE{mu:Mu}{t:TypeId}{cs:List Value}{cs':Array Value}{off:Nat}{v:Value}(h:partOf E t cs off=some v)(hr:VL mu cs cs'.toList)(w:World):
 ∃v',(part t cs' off).run P w=.ok v' w/\ao mu v v':=by
 unfold partOf at h
 cases ha:E.agg t with
 |none=>simp [ha]at h
 | some b =>
   unfold part
   cases b with
   | true =>
     simp only [ha]at h
     cases hs:E.sz t with
     |none=>simp [hs]at h
     | some n=>
       simp only [hs,dB]at h
       by_cases hc:off+n<=cs.length
       . simp only [hc,decide_true,cond_true]at h
         cases h
         refine⟨.agg (cs'.extract off (off+n)),by simp [qH ok ha,dI ok hs],?_⟩
         have:=(hr.drop off).take n
         have e:(cs'.extract off (off+n)).toList=(cs'.toList.drop off).take n:=by
          rw [Xb];simp [List.extract,Nat.add_sub_cancel_left]
         exact .agg (by rw [e];exact this.1) (by rw [e];exact this.2)
       . simp [hc]at h
   | false=>
     simp only [ha]at h
     obtain⟨v',h1,h2⟩:=hr.get h
     have:cs'[off]? =some v':=by rw [<-zR];exact h1
     exact⟨v',by simp [qH ok ha,this],h2⟩

theorem wU {mu : Mu} (d D:Nat) (hD:d<=D) {t:TypeId} {x y x' y':Value} {b:Bool} (h:dE E d t x y=some b) (hx:ao mu x x') (hy:ao mu y y') (w:World):
 (Op.equalIn D t x' y').run P w=.ok b w:=by
 induction d generalizing D t x y x' y' b with
 |zero=>simp [dE]at h
 | succ d ih =>
   obtain⟨D,rfl⟩: ∃k,D=k+1:=⟨D-1,by omega⟩
   have hD':d<=D:=by omega
   unfold dE at h
   unfold Op.equalIn
   cases hu:E.und t with
   |none=>simp [hu]at h
   | some desc =>
     simp only [hu]at h
     simp only [Sem.run_bind,aR ok hu,Result.andThen_ok]
     cases desc<;>simp only []at h<;>try (cases h;done)
     case bool=>
      cases hx<;>cases hy<;>simp only []at h<;>try (cases h;done)
      cases h;rename_i a c;cases a<;>cases c<;>rfl
     case int k=>
      cases hx<;>cases hy<;>simp only []at h<;>try (cases h;done)
      rename_i k1 a k2 c
      rw [fI,gG]at h
      by_cases hk:k1=k2
      . subst hk;simp at h;simp [h]
      . simp [hk]at h
     case string=>
      cases hx<;>cases hy<;>simp only []at h<;>try (cases h;done)
      rename_i a c
      cases h
      rw [iG]
      simp only [aH,Sem.run_pure]
      congr 1
      rw [show(a==c)=(a.data==c.data)from rfl,<-Array.beq_toList]
     case pointer e=>
      cases hx<;>cases hy<;>simp only []at h<;>try (cases h;done)
      all_goals (cases h;rfl)
     case slice e=>
      cases hx<;>cases hy<;>simp only []at h<;>try (cases h;done)
      all_goals (cases h;rfl)
     case map k e=>
      cases hx<;>cases hy<;>simp only []at h<;>try (cases h;done)
      all_goals (cases h;rfl)
     case func a c e=>
      cases hx<;>cases hy<;>simp only []at h<;>try (cases h;done)
      all_goals (cases h;rfl)
     case interface ms=>
      cases hx<;>cases hy<;>simp only []at h<;>try (cases h;done)
      . cases h;rfl
      . cases h;rfl
      . cases h;rfl
      . rename_i tx vx vx' hvx ty vy vy' hvy
        rw [cv]at h
        by_cases htt:tx=ty
        . subst htt
          simp only [decide_true,cond_true]at h
          cases hi:E.ty tx with
          |none=>simp [hi]at h
          | some i=>
            simp only [hi]at h
            cases hcm:i.comparable with
            |false=>simp [hcm]at h
            | true=>
              simp only [hcm,cond_true]at h
              simp [lK ok hi,hcm]
              exact ih D hD' h hvx hvy
        . simp only [htt,decide_false,cond_false]at h
          cases h;simp [htt]
     case struct fs=>
      cases hx<;>cases hy<;>simp only []at h<;>try (cases h;done)
      rename_i xs xs' hxl hxg ys ys' hyl hyg
      cases hq:E.eqok t with
      |false=>simp [hq]at h
      | true =>
        simp only [hq,cond_true]at h
        have hst:=(ok.eq t hq).1
        have hX:VL mu xs.toList xs'.toList:=⟨hxl,hxg⟩
        have hY:VL mu ys.toList ys'.toList:=⟨hyl,hyg⟩
        simp only [Sem.run_bind,run_program,Result.andThen_ok,hst,Bool.false_eq_true,if_false]
        have key : ∀(l:List Field),eqFields E (dE E d) l xs.toList ys.toList=some b->
         (forIn l ((none,()):Option Bool×Unit) (fun f __s=>
           if f.name≠ "_" then do
            let a<-part f.type xs' f.offset
            let c<-part f.type ys' f.offset
            let q<-Op.equalIn D f.type a c
            if(!q)=true then pure (ForInStep.done (some false,()))else pure (ForInStep.yield (none,()))
           else pure (ForInStep.yield (none,()))):Sem _).run P w=.ok (if b then(none,())else(some false,())) w:=by
         intro l
         induction l with
         |nil=>intro hl;simp only [eqFields]at hl;cases hl;simp
         | cons f l ihl=>
           intro hl
           simp only [eqFields]at hl
           cases hn:(f.name== "_")with
           |true=>simp [hn]at hl
           | false =>
             simp only [hn,cond_false]at hl
             have hn':f.name≠ "_" :=by simpa using hn
             cases h1:partOf E f.type xs.toList f.offset with
             |none=>simp [h1]at hl
             | some a=>
               simp only [h1]at hl
               cases h2:partOf E f.type ys.toList f.offset with
               |none=>simp [h2]at hl
               | some c=>
                 simp only [h2]at hl
                 obtain⟨a',ha1,ha2⟩:=lE ok h1 hX w
                 obtain⟨c',hc1,hc2⟩:=lE ok h2 hY w
                 cases h3:dE E d f.type a c with
                 |none=>simp [h3]at hl
                 | some q=>
                   have hq':=ih D hD' h3 ha2 hc2
                   simp only [List.forIn_cons,if_pos hn',Sem.run_bind,ha1,hc1,hq',Result.andThen_ok]
                   cases q with
                   |false=>simp only [h3]at hl;cases hl;simp
                   |true=>simp only [h3]at hl;simpa using ihl hl
        have:=key fs.toList h
        simp only [Array.forIn_toList]at this
        rw [this]
        cases b<;>simp
     case array n e=>
      cases hx<;>cases hy<;>simp only []at h<;>try (cases h;done)
      rename_i xs xs' hxl hxg ys ys' hyl hyg
      have hX:VL mu xs.toList xs'.toList:=⟨hxl,hxg⟩
      have hY:VL mu ys.toList ys'.toList:=⟨hyl,hyg⟩
      cases hs:E.sz e with
      |none=>simp [hs]at h
      | some k =>
        simp only [hs]at h
        simp only [Sem.run_bind,dI ok hs,Result.andThen_ok]
        have key : ∀(m i:Nat),kW E (dE E d) e k xs.toList ys.toList m i=some b->
         (forIn (List.range' i m) ((none,()):Option Bool×Unit) (fun i __s=>do
           let a<-part e xs' (i*k)
           let c<-part e ys' (i*k)
           let q<-Op.equalIn D e a c
           if(!q)=true then pure (ForInStep.done (some false,()))else pure (ForInStep.yield (none,()))):Sem _).run P w=.ok (if b then(none,())else(some false,())) w:=by
         intro m
         induction m with
         |zero=>intro i hl;simp only [kW]at hl;cases hl;simp
         | succ m ihm=>
           intro i hl
           simp only [kW]at hl
           cases h1:partOf E e xs.toList (i*k)with
           |none=>simp [h1]at hl
           | some a=>
             simp only [h1]at hl
             cases h2:partOf E e ys.toList (i*k)with
             |none=>simp [h2]at hl
             | some c=>
               simp only [h2]at hl
               obtain⟨a',ha1,ha2⟩:=lE ok h1 hX w
               obtain⟨c',hc1,hc2⟩:=lE ok h2 hY w
               cases h3:dE E d e a c with
               |none=>simp [h3]at hl
               | some q=>
                 have hq':=ih D hD' h3 ha2 hc2
                 simp only [List.range'_succ,List.forIn_cons,Sem.run_bind,ha1,hc1,hq',Result.andThen_ok]
                 cases q with
                 |false=>simp only [h3]at hl;cases hl;simp
                 |true=>simp only [h3]at hl;simpa using ihm (i+1) hl
        have:=key n 0 h
        simp only [Std.Legacy.Range.forIn_eq_forIn_range',Std.Legacy.Range.size]
        rw [show(n-0+1-1)/1=n by omega,this]
        cases b<;>simp
end
end Go.Ab

namespace Go.Ab
theorem xZ(bs:ByteArray)(n i:Nat)(r:List UInt8)(h:bs.size-i=n):ByteArray.toList.loop bs i r=r.reverse++bs.data.toList.drop i:=by
 induction n generalizing i r with
 | zero=>
   unfold ByteArray.toList.loop
   rw [if_neg (by omega),List.drop_of_length_le (by have:bs.size=bs.data.toList.length:=rfl;omega)];simp
 | succ n ih=>
   have hs:bs.size=bs.data.toList.length:=rfl
   unfold ByteArray.toList.loop
   rw [if_pos (by omega),ih _ _ (by omega)]
   have hi:i<bs.data.toList.length:=by omega
   rw [List.drop_eq_getElem_cons hi]
   have e:bs.get! i=bs.data.toList[i]:=by
    have hi':i<bs.data.size:=hi
    show bs.data[i]! =_
    rw [getElem!_pos bs.data i hi'];rfl
   rw [e]
   simp only [List.reverse_cons,List.append_assoc,List.singleton_append]
theorem jj(s:ByteArray):s.toList=aH s:=by
 unfold ByteArray.toList aH
 rw [xZ s _ 0 [] rfl];simp
theorem wh(s u:ByteArray):s++u=gy (aH s++aH u):=by
 apply ByteArray.ext
 simp [gy,aH]
section
variable{E:Env}{P:Program}(ok:EOk E P)
include ok

theorem guard_run{op:BinOp}{t:TypeId}{x y:Operand}{a b a' b':Value}{mu:Mu}{r:Bool}(h:eZ E t x y a b=some r)(ha:ao mu a a')(hb:ao mu b b')(w:World):
 (eqGuard op t x y a' b').run P w=.ok () w:=by
 unfold eqGuard
 cases hop:(!(match op with| .eql| .neq=>true|_=>false):Bool)with
 |true=>cases op<;>simp at hop<;>simp
 | false=>
   unfold eZ at h
   cases ha<;>cases hb<;>simp only []at h<;>try (cases h;done)
   all_goals first
    |(cases op<;>simp at hop<;>simp;done)
    |skip
   . cases op<;>simp at hop<;>(cases x<;>cases y<;>simp only []at h<;>first|(cases h;done)|simp)
   . cases hq:E.eqok t with
     |false=>simp [hq]at h
     | true=>
       have:=(ok.eq t hq).2
       cases op<;>simp at hop<;>simp [this]

omit ok in
theorem sD{t:TypeId}{x y:Operand}{a b:Value}{r:Bool}(h:eZ E t x y a b=some r):dE E 40 t a b=some r:=by
 unfold eZ at h
 split at h
 . cases h
 . cases h
 . split at h
   . exact h
   . exact h
   . cases h
 . cases hq:E.eqok t with
   |false=>simp [hq]at h
   |true=>simpa [hq]using h
 . exact h
theorem equal_run{t:TypeId}{x y:Operand}{a b a' b':Value}{mu:Mu}{r:Bool}(h:eZ E t x y a b=some r)(ha:ao mu a a')(hb:ao mu b b')(w:World):
 (Op.equal t a' b').run P w=.ok r w:=wU ok 40 Op.maxDepth (by decide) (sD h) ha hb w

theorem binP_run {op:BinOp} {t:TypeId} {x y:Operand} {a b a' b' v:Value} {mu:Mu} (h:bq E op t x y a b=some v) (ha:ao mu a a') (hb:ao mu b b') (w:World):
 (eqGuard op t x y a' b').run P w=.ok () w/\(binOp op t a' b').run P w=.ok v w/\ao mu v v:=by
 have gen: ∀(r:Bool),eZ E t x y a b=some r->(eqGuard op t x y a' b').run P w=.ok () w/\(Op.equal t a' b').run P w=.ok r w:=
  fun r hr=>⟨guard_run ok hr ha hb w,equal_run ok hr ha hb w⟩
 cases ha <;> cases hb<;>simp only [bq]at h<;>first
  | (rename_i k m k' n
     have hg: ∀op,(eqGuard op t x y (Value.int k m) (Value.int k' n)).run P w=.ok () w:=by
      intro op;cases op<;>simp [eqGuard]
     refine⟨hg op,?_⟩
     cases op <;>simp only []at h<;>first
      | (obtain⟨z,hz,rfl⟩:=Option.map_eq_some_iff.1 h
         refine⟨?_,.int _ _⟩
         simp only [binOp]
         exact shift_run P w hz)
      | (rw [fI] at h
         by_cases hk:k=k'
         . subst hk
           simp only [decide_true,cond_true]at h
           refine⟨?_,?_⟩
           . have:=arith_run P w h
             simpa [binOp]using this
           . unfold gR at h
             simp only []at h
             first
              |(cases h;constructor)
              |(obtain⟨z,_,rfl⟩:=Option.map_eq_some_iff.1 h;exact .int _ _)
              | (split at h<;>first|(cases h;done)|skip
                 cases hc:iC n 0<;>simp [hc]at h;subst h;exact .int _ _)
              |(cases hc:iC n 0<;>simp [hc]at h;subst h;exact .int _ _)
         . simp [hk]at h))
  |skip
 all_goals first
  | (rename_i s u
     have hg: ∀op,(eqGuard op t x y (Value.string s) (Value.string u)).run P w=.ok () w:=by
      intro op;cases op<;>simp [eqGuard]
     refine⟨hg op,?_⟩
     have e1:(s.toList==u.toList)=gw (aH s) (aH u):=by
      rw [iG];rw [jj,jj]
     have e2:Op.bytesLess s.toList u.toList=iY (aH s) (aH u):=by
      rw [yG];rw [jj,jj]
     cases op<;>simp only []at h<;>first
      |(cases h;done)
      | (rw [dB]at h
         by_cases hc:s.size+u.size<=1099511627776
         . simp only [hc,decide_true,cond_true]at h
           cases h
           refine⟨?_,.string _⟩
           have e3:s++u=gy (aH s++aH u):=wh s u
           have e4: ¬(((s.size+u.size:Nat):Int)>IntKind.i64.max):=by
            rw [show IntKind.i64.max=9223372036854775807 from rfl];omega
           simp only [binOp,Op.stringOp,if_neg e4,e3,Sem.run_pure]
         . simp [hc]at h)
      | (cases h
         refine⟨?_,.bool _⟩
         simp only [binOp,Op.stringOp,e1,e2,Sem.run_pure]))
  |(cases op<;>simp only []at h<;>first
      |(cases h;done)
      | (obtain⟨r,hr,rfl⟩:=Option.map_eq_some_iff.1 h
         obtain⟨g1,g2⟩:=gen r hr
         refine⟨g1,?_,.bool _⟩
         simp only [binOp,Sem.run_bind,g2,Result.andThen_ok,Sem.run_pure])
      | (obtain⟨r,hr,rfl⟩:=Option.map_eq_some_iff.1 h
         have:=sD hr
         exfalso;revert hr;simp [eZ];done)
      |done)
end
end Go.Ab

namespace Go.Ab
def OR{α β:Type}(R:α->β->Prop):Option α->Option β->Prop
 |none,none=>True
 |some a,some b=>R a b
 |_,_=>False
theorem OR.map{γ:Type}{ρ:γ->Value}{ρ':γ->Value}{mu:Mu}(h: ∀x,ao mu (ρ x) (ρ' x))(o:Option γ):OR (ao mu) (o.map ρ) (o.map ρ'):=by
 cases o<;>simp [OR,h]
section
variable{E:Env}{P:Program}(ok:EOk E P)

theorem iH{mu:Mu}{v v':Value}{y y' n:Nat}{code:BoundsCode}(h:dW v y=some n)(hv:ao mu v v')(hy:y<=y')(w:World):
 (Instr.sliceBound v' y' code).run P w=.ok n w/\n<=y:=by
 unfold dW at h
 cases hv<;>simp only []at h<;>try (cases h;done)
 rename_i k i
 cases hi:fU i with
 |none=>simp [hi]at h
 | some m=>
   have:=nj hi
   subst this
   simp only [hi,dB]at h
   by_cases hc:m<=y
   . simp only [hc,decide_true,cond_true]at h
     cases h
     refine⟨?_,hc⟩
     have:(0:Int)<=(n:Int)/\(n:Int)<=(y':Int):=by omega
     simp only [Instr.sliceBound,asIntOf,Sem.run_bind,Sem.run_pure,Result.andThen_ok,if_pos this]
     simp
   . simp [hc]at h

theorem lV {mu : Mu} {len cap cap' l h m:Nat} {low high mx low' high' mx':Option Value} {b:Bool}
 (e:eg len cap low high mx=some (l,h,m)) (hl:OR (ao mu) low low') (hh:OR (ao mu) high high') (hm:OR (ao mu) mx mx')
 (hcap:cap<=cap') (hlen:len<=cap) (w:World):
 (Instr.sliceBounds b len cap' low' high' mx').run P w=.ok (l,h,if mx.isSome then m else cap') w/\l<=h/\h<=m/\m<=cap/\(mx.isSome=false->m=cap):=by
 unfold eg at e
 unfold Instr.sliceBounds
 cases mx with
 | some v=>
   cases mx' with
   |none=>exact hm.elim
   | some v' =>
     simp only []at e
     cases hb:dW v cap with
     |none=>simp [hb]at e
     | some m1 =>
       simp only [hb]at e
       obtain⟨r1,b1⟩:=iH (P:=P) (code:=(if b then .slice3Acap else .slice3Alen)) hb hm hcap w
       cases high with
       |none=>simp at e
       | some u=>
         cases high' with
         |none=>exact hh.elim
         | some u' =>
           simp only []at e
           cases hb2:dW u m1 with
           |none=>simp [hb2]at e
           | some h1=>
             simp only [hb2]at e
             obtain⟨r2,b2⟩:=iH (P:=P) (code:=.slice3B) hb2 hh (zN _) w
             cases low with
             | none=>
               cases low' with
               |some _=>exact hl.elim
               |none=>simp only []at e;cases e;simp [r1,r2];omega
             | some t=>
               cases low' with
               |none=>exact hl.elim
               | some t'=>
                 simp only []at e
                 cases hb3:dW t h1 with
                 |none=>simp [hb3]at e
                 | some l1=>
                   simp only [hb3]at e
                   obtain⟨r3,b3⟩:=iH (P:=P) (code:=.slice3C) hb3 hl (zN _) w
                   cases e;simp [r1,r2,r3];omega
 | none=>
   cases mx' with
   |some _=>exact hm.elim
   | none=>
     simp only [Xd,cond_false]at e
     cases low with
     | none=>
       cases low' with
       |some _=>exact hl.elim
       | none=>
         cases high with
         | none=>
           cases high' with
           |some _=>exact hh.elim
           |none=>simp only []at e;cases e;simp;omega
         | some u=>
           cases high' with
           |none=>exact hh.elim
           | some u'=>
             simp only []at e
             cases hb2:dW u cap with
             |none=>simp [hb2]at e
             | some h1=>
               simp only [hb2]at e
               obtain⟨r2,b2⟩:=iH (P:=P) (code:=(if b then .sliceAcap else .sliceAlen)) hb2 hh hcap w
               cases e;simp [r2];omega
     | some t=>
       cases low' with
       |none=>exact hl.elim
       | some t' =>
         cases high with
         | none=>
           cases high' with
           |some _=>exact hh.elim
           | none=>
             simp only []at e
             cases hb3:dW t len with
             |none=>simp [hb3]at e
             | some l1=>
               simp only [hb3]at e
               obtain⟨r3,b3⟩:=iH (P:=P) (code:=.sliceB) hb3 hl (zN _) w
               cases e;simp [r3];omega
         | some u=>
           cases high' with
           |none=>exact hh.elim
           | some u'=>
             simp only []at e
             cases hb2:dW u cap with
             |none=>simp [hb2]at e
             | some h1=>
               simp only [hb2]at e
               obtain⟨r2,b2⟩:=iH (P:=P) (code:=(if b then .sliceAcap else .sliceAlen)) hb2 hh hcap w
               cases hb3:dW t h1 with
               |none=>simp [hb3]at e
               | some l1=>
                 simp only [hb3]at e
                 obtain⟨r3,b3⟩:=iH (P:=P) (code:=.sliceB) hb3 hl (zN _) w
                 cases e;simp [r2,r3];omega

theorem kX(a:Addr)(n:Nat)(h:a.spot=none):a.add n=⟨a.block,a.off+n,none⟩:=by
 unfold Addr.add
 by_cases hn:n=0
 . subst hn;cases a;simp at h;subst h;simp
 . simp [hn]
theorem l8{mu:Mu}{a a':Addr}(h:dM mu a a')(n:Nat):dM mu (eH a n) (a'.add n):=by
 unfold dM at*
 show match mu a.block with| .none=>False| .dead=>True| .blk c base _=>a'.add n=⟨c,base+(a.off+n),none⟩
 cases hm:mu a.block with
 |none=>rw [hm]at h;exact h.elim
 |dead=>trivial
 | blk c base top=>
   rw [hm]at h
   simp only []at h⊢
   subst h
   rw [kX _ _ rfl,zV]

include ok
theorem zi {mu :Mu} {t:TypeId} {x x' v:Value} {low high mx low' high' mx':Option Value} (h:dQ E t x low high mx=some v) (hx:ao mu x x')
 (hl:OR (ao mu) low low') (hh:OR (ao mu) high high') (hm:OR (ao mu) mx mx') (w:World):
 ∃v',(Instr.sliceAt t x' low' high' mx').run P w=.ok v' w/\ao mu v v':=by
 unfold dQ at h
 cases hu:E.und t with
 |none=>simp [hu]at h
 | some d =>
   simp only [hu]at h
   unfold Instr.sliceAt
   simp only [Sem.run_bind,aR ok hu,Result.andThen_ok]
   cases d<;>simp only []at h<;>try (cases h;done)
   case string=>
    unfold Instr.slice
    simp only [Sem.run_bind,aR ok hu,Result.andThen_ok]
    cases hx<;>simp only []at h<;>try (cases h;done)
    rename_i s
    cases mx with
    |some _=>simp at h
    | none =>
      cases mx' with
      |some _=>exact hm.elim
      | none=>
        simp only [Xd,cond_false]at h
        cases hb:eg s.size s.size low high none with
        |none=>simp [hb]at h
        | some r=>
          obtain⟨l,h1,m⟩:=r
          simp only [hb]at h
          cases h
          obtain⟨r1,r2,r3,_,_⟩:=lV (P:=P) (b:=false) hb hl hh (mu:=mu) (mx':=none) trivial (zN _) (zN _) w
          have e:s.extract l h1=gy (((aH s).drop l).take (h1-l)):=by
           apply ByteArray.ext
           simp [gy,aH,ByteArray.data_extract]
           apply Array.ext'
           simp [Xb,List.extract]
          refine⟨.string (s.extract l h1),by simp [r1],by rw [e];exact .string _⟩
   case slice e =>
    unfold Instr.slice
    simp only [Sem.run_bind,aR ok hu,Result.andThen_ok]
    cases hx<;>simp only []at h<;>try (cases h;done)
    . cases hb:eg 0 0 low high mx with
      |none=>simp [hb]at h
      | some r=>
        obtain⟨l,h1,m⟩:=r
        simp only [hb]at h
        cases hs:E.sz e with
        |none=>simp [hs]at h
        | some k=>
          simp only [hs]at h
          cases h
          obtain⟨r1,r2,r3,r4,r5⟩:=lV (P:=P) (b:=true) hb hl hh hm (zN _) (zN _) w
          have hm0:m=0:=by omega
          subst hm0
          have:h1=0:=by omega
          subst this
          have:l=0:=by omega
          subst this
          refine⟨.slice none 0 0,?_,.nils⟩
          simp [r1,dI ok hs]
    . rename_i a a' len cap cap' hlc hsr
      cases hb:eg len cap low high mx with
      |none=>simp [hb]at h
      | some r =>
        obtain⟨l,h1,m⟩:=r
        simp only [hb]at h
        cases hs:E.sz e with
        |none=>simp [hs]at h
        | some k=>
          simp only [hs]at h
          obtain⟨r1,r2,r3,r4,r5⟩:=lV (P:=P) (b:=true) hb hl hh hm hsr.caps hlc w
          have hmm:m<=(if mx.isSome then m else cap'):=by
           have:=hsr.caps
           cases hi:mx.isSome with
           |true=>simp
           |false=>simp;omega
          have hmle:(if mx.isSome then m else cap')<=cap':=by
           have:=hsr.caps
           cases hi:mx.isSome with
           |true=>simp;omega
           |false=>simp
          generalize hM:(if mx.isSome then m else cap')=M at*
          have hrun: ∀q,(Instr.sliceBounds true len cap' low' high' mx').run P w=.ok q w->q=(l,h1,M):=by
           intro q hq;rw [hq]at r1;cases r1;rfl
          refine⟨.slice (if M=l then some a' else(some a').map (·.add (l*k))) (h1-l) (M-l),by simp [r1,dI ok hs],?_⟩
          unfold dw at hsr
          cases hmu:mu a.block with
          |none=>rw [hmu]at hsr;exact hsr.elim
          | dead=>
            have hv: ∃q,q.block=a.block/\v=.slice (some q) (h1-l) (m-l):=by
             cases hsp:a.spot with
             |none=>simp only [hsp]at h;cases h;refine⟨_,?_,rfl⟩;cases zM m l<;>rfl
             | some k'=>
               simp only [hsp,cv]at h
               by_cases hk:k'=k
               . simp only [hk,decide_true,cond_true]at h;cases h;exact⟨⟨a.block,bif decide (m=l)then a.off else a.off+l*k,some k⟩,rfl,rfl⟩
               . simp [hk]at h
            obtain⟨q,hq1,rfl⟩:=hv
            by_cases hml:M=l
            . rw [if_pos hml];exact .slice (by omega) (by unfold dw;rw [hq1,hmu];simp only [];omega)
            . rw [if_neg hml];exact .slice (by omega) (by unfold dw;rw [hq1,hmu];simp only [];omega)
          | blk c base top=>
            rw [hmu]at hsr
            cases hsp:a.spot with
            | none=>
              rw [hsp]at hsr
              simp only []at hsr
              obtain⟨rfl,rfl⟩:=hsr
              have hMm:M=m:=by
               rw [<-hM]
               cases hi:mx.isSome with
               |true=>simp
               |false=>simp [r5 hi]
              subst hMm
              simp only [hsp]at h
              cases h
              rw [cv]
              by_cases hml:M=l
              . simp only [hml,decide_true,cond_true,if_true]
                refine .slice (by omega) ?_
                unfold dw;rw [hmu];simp [hsp]
              . simp only [hml,decide_false,cond_false,if_false,Option.map_some]
                refine .slice (by omega) ?_
                unfold dw;simp only [eH,hmu];exact⟨trivial,by rw [kX _ _ rfl,zV]⟩
            | some k' =>
              rw [hsp]at hsr
              simp only []at hsr
              obtain⟨s1,s2,s3,s4,s5⟩:=hsr
              simp only [hsp,cv]at h
              by_cases hk:k'=k
              . subst hk
                simp only [decide_true,cond_true]at h
                cases h
                have hroom:a'.off+M*k'<=top:=by have:=Xc k' hmle;omega
                by_cases hml:M=l
                . have hml2:m=l:=by omega
                  simp only [hml,hml2,decide_true,cond_true,if_true]
                  refine .slice (by omega) ?_
                  unfold dw;simp only [hmu]
                  exact⟨by omega,s2,s3,by simp;omega,by left;omega⟩
                . simp only [hml,if_false,Option.map_some]
                  refine .slice (by omega) ?_
                  unfold dw;simp only [hmu]
                  rw [kX _ _ s3]
                  refine⟨by omega,s2,rfl,?_,?_⟩
                  . simp only [];rw [Nat.sub_mul];have:=Xc k' (show l<=M by omega);omega
                  . by_cases hml2:m=l
                    . left;omega
                    . right
                      simp only [hml2,decide_false,cond_false]
                      rcases s5 with s5|s5
                      . omega
                      . omega
              . simp [hk]at h
   case array n e=>
    cases hx<;>simp only []at h<;>try (cases h;done)
    rename_i a a' har
    cases hb:eg n n low high mx with
    |none=>simp [hb]at h
    | some r=>
      obtain⟨l,h1,m⟩:=r
      simp only [hb]at h
      cases hs:E.sz e with
      |none=>simp [hs]at h
      | some k=>
        simp only [hs]at h
        cases h
        obtain⟨r1,r2,r3,r4,r5⟩:=lV (P:=P) (b:=false) hb hl hh hm (zN _) (zN _) w
        have em:(if mx.isSome=true then m else n)=m:=by
         cases hi:mx.isSome with
         |true=>simp
         |false=>simp [r5 hi]
        rw [em]at r1
        refine⟨.slice (some (if m=l then a' else a'.add (l*k))) (h1-l) (m-l),by simp [Instr.sureAddr,r1,dI ok hs],?_⟩
        rw [cv]
        refine .slice (by omega) ?_
        unfold dM at har
        unfold dw
        simp only []
        cases hmu:mu a.block with
        |none=>rw [hmu]at har;exact har.elim
        |dead=>exact zN _
        | blk c base top=>
          rw [hmu]at har
          simp only []at har⊢
          subst har
          refine⟨trivial,?_⟩
          by_cases hml:m=l
          . simp [hml]
          . simp only [hml,if_false,decide_false,cond_false]
            rw [kX _ _ rfl,zV]

theorem ua{mu:Mu}{s:TypeId}{x x' v:Value}{i:Nat}(h:ah E s x i=some v)(hx:ao mu x x')(w:World):
 ∃v',(Instr.fieldAt s x' i).run P w=.ok v' w/\ao mu v v':=by
 unfold ah at h
 cases hu:E.und s with
 |none=>simp [hu]at h
 | some d=>
   simp only [hu]at h
   cases d<;>simp only []at h<;>try (cases h;done)
   rename_i fs
   cases hf:fs.toList[i]? with
   |none=>simp [hf]at h
   | some f=>
     simp only [hf]at h
     have hf':fs[i]? =some f:=by rw [<-zR];exact hf
     cases hs:E.sz f.type with
     |none=>simp [hs]at h
     | some n=>
       cases n with
       |zero=>simp [hs]at h
       | succ n=>
         simp only [hs]at h
         cases hx<;>simp only []at h<;>try (cases h;done)
         rename_i a a' har
         cases h
         refine⟨.pointer (some (a'.add f.offset)),?_,.ptr (l8 har _)⟩
         unfold Instr.fieldAt
         simp [aR ok hu,hf',Instr.sureAddr,fieldPlace,dI ok hs]

theorem zd{mu:Mu}{t:TypeId}{x x' v:Value}{i:Nat}(h:ar E t x i=some v)(hx:ao mu x x')(w:World):
 ∃v',(Instr.field t x' i).run P w=.ok v' w/\ao mu v v':=by
 unfold ar at h
 cases hu:E.und t with
 |none=>simp [hu]at h
 | some d=>
   simp only [hu]at h
   cases d<;>simp only []at h<;>try (cases h;done)
   rename_i fs
   cases hf:fs.toList[i]? with
   |none=>simp [hf]at h
   | some f=>
     simp only [hf]at h
     have hf':fs[i]? =some f:=by rw [<-zR];exact hf
     cases hx<;>simp only []at h<;>try (cases h;done)
     rename_i cs cs' h1 h2
     obtain⟨v',r1,r2⟩:=lE ok h (⟨h1,h2⟩:VL mu cs.toList cs'.toList) w
     refine⟨v',?_,r2⟩
     unfold Instr.field
     simp [aR ok hu,hf',asAgg,r1]

omit ok in
theorem px{mu:Mu}{v v':Value}{len i:Nat}(h:eR v len=some i)(hv:ao mu v v'): ∃k,v'=.int k (i:Int)/\i<len:=by
 unfold eR at h
 cases hv<;>simp only []at h<;>try (cases h;done)
 rename_i k n
 cases hi:fU n with
 |none=>simp [hi]at h
 | some m=>
   have:=nj hi
   subst this
   simp only [hi,gW]at h
   by_cases hc:m<len
   . simp only [hc,decide_true,cond_true]at h
     cases h
     exact⟨k,rfl,hc⟩
   . simp [hc]at h

theorem tJ {mu:Mu} {t:TypeId} {x x' ix ix' v:Value} (h:dR E t x ix=some v) (hx:ao mu x x') (hi:ao mu ix ix') (w:World):
 ∃v',(Instr.indexAt t x' ix').run P w=.ok v' w/\ao mu v v':=by
 unfold dR at h
 cases hu:E.und t with
 |none=>simp [hu]at h
 | some d=>
   simp only [hu]at h
   cases d<;>simp only []at h<;>try (cases h;done)
   case array n e=>
    cases hx<;>simp only []at h<;>try (cases h;done)
    rename_i a a' har
    cases hix:eR ix n with
    |none=>simp [hix]at h
    | some i=>
      obtain⟨k,rfl,hlt⟩:=px hix hi
      simp only [hix]at h
      cases hs:E.sz e with
      |none=>simp [hs]at h
      | some m=>
        simp only [hs]at h
        cases h
        refine⟨.pointer (some (a'.add (i*m))),?_,.ptr (l8 har _)⟩
        have hc:(0:Int)<=(i:Int)/\(i:Int)<(n:Int):=by omega
        unfold Instr.indexAt
        simp [asIntOf,aR ok hu,Instr.sureAddr,hc,dI ok hs]
        omega
   case slice e=>
    cases hx<;>simp only []at h<;>try (cases h;done)
    rename_i a a' len cap cap' hlc hsr
    cases hix:eR ix len with
    |none=>simp [hix]at h
    | some i =>
      obtain⟨k,rfl,hlt⟩:=px hix hi
      simp only [hix]at h
      cases hs:E.sz e with
      |none=>simp [hs]at h
      | some m=>
        simp only [hs]at h
        cases h
        have har:dM mu a a':=by
         unfold dw at hsr
         unfold dM
         cases hmu:mu a.block with
         |none=>rw [hmu]at hsr;exact hsr.elim
         |dead=>trivial
         | blk c base top=>
           rw [hmu]at hsr
           cases hsp:a.spot with
           |none=>rw [hsp]at hsr;exact hsr.2
           | some q=>
             rw [hsp]at hsr
             simp only []at hsr⊢
             obtain⟨_,s2,s3,_,s5⟩:=hsr
             have:a'.off=base+a.off:=by rcases s5 with s5|s5<;>omega
             cases a';simp at s2 s3 this;simp [s2,s3,this]
        refine⟨.pointer (some (a'.add (i*m))),?_,.ptr (l8 har _)⟩
        have hc:(0:Int)<=(i:Int)/\(i:Int)<(len:Int):=by omega
        unfold Instr.indexAt
        simp [asIntOf,aR ok hu,hc,dI ok hs]
        omega

theorem zC {mu:Mu} {t:TypeId} {x x' ix ix' v:Value} (h:iS E t x ix=some v) (hx:ao mu x x') (hi:ao mu ix ix') (w:World):
 ∃v',(Instr.index t x' ix').run P w=.ok v' w/\ao mu v v':=by
 unfold iS at h
 cases hu:E.und t with
 |none=>simp [hu]at h
 | some d=>
   simp only [hu]at h
   cases d<;>simp only []at h<;>try (cases h;done)
   case array n e=>
    cases hx<;>simp only []at h<;>try (cases h;done)
    rename_i cs cs' h1 h2
    cases hix:eR ix n with
    |none=>simp [hix]at h
    | some i=>
      obtain⟨k,rfl,hlt⟩:=px hix hi
      simp only [hix]at h
      cases hs:E.sz e with
      |none=>simp [hs]at h
      | some m=>
        simp only [hs]at h
        obtain⟨v',r1,r2⟩:=lE ok h (⟨h1,h2⟩:VL mu cs.toList cs'.toList) w
        refine⟨v',?_,r2⟩
        have hc:(0:Int)<=(i:Int)/\(i:Int)<(n:Int):=by omega
        unfold Instr.index
        simp [asIntOf,aR ok hu,dI ok hs,r1]
        omega
   case string=>
    cases hx<;>simp only []at h<;>try (cases h;done)
    rename_i s
    cases hix:eR ix s.size with
    |none=>simp [hix]at h
    | some i=>
      obtain⟨k,rfl,hlt⟩:=px hix hi
      simp only [hix]at h
      cases hb:(aH s)[i]? with
      |none=>simp [hb]at h
      | some b=>
        simp only [hb]at h
        cases h
        refine⟨.int .u8 b.toNat,?_,.int _ _⟩
        have e:s[i]? =some b:=by
         have h1:i<s.data.toList.length:=(List.getElem?_eq_some_iff.1 hb).1
         have h2:=(List.getElem?_eq_some_iff.1 hb).2
         rw [getElem?_pos s i hlt]
         congr 1
        unfold Instr.index
        simp [asIntOf,aR ok hu,e]
end
end Go.Ab

namespace Go.Ab
theorem foldl_set(off:Nat)(vs:List Value)(j:Nat)(a:Array Value):
 ((vs.zipIdx j).foldl (fun cs (x:Value×Nat)=>cs.setIfInBounds (off+x.2) x.1) a).toList=bM a.toList (off+j) vs:=by
 induction vs generalizing j a with
 |nil=>simp [bM]
 | cons v vs ih=>
   simp only [List.zipIdx_cons,List.foldl_cons,bM]
   rw [ih]
   simp [Array.toList_setIfInBounds,zV]
theorem oA(l:List Value)(off:Nat)(vs:List Value):(bM l off vs).length=l.length:=by
 induction vs generalizing l off with
 |nil=>rfl
 |cons v vs ih=>simp [bM,ih]
theorem setL_rel{mu:Mu}{l l':List Value}(h:VL mu l l')(off:Nat){vs vs':List Value}(k:VL mu vs vs'):VL mu (bM l off vs) (bM l' off vs'):=by
 induction vs generalizing l l' off vs' with
 |nil=>rw [k.nil_left];exact h
 | cons v vs ih=>
   obtain⟨v',r,rfl,h1,h2⟩:=k.cons_left
   simp only [bM]
   exact ih (LR.set h off h1) _ h2
abbrev PL(mu:Mu):=LR (fun(a b:Nat×Value)=>a.1=b.1/\ao mu a.2 b.2)
theorem pV {mu:Mu} {place place':Nat->Option (Nat×Nat)} (hp: ∀i r,place i=some r->place' i=some r) {cells:List Value} {cells':Array Value} {parts parts':List (Nat×Value)} {r:List Value}
 (h:im place cells parts=some r) (hc:VL mu cells cells'.toList) (hq:PL mu parts parts'):
 ∃r',Instr.fill place' cells' parts'=some r'/\VL mu r r'.toList:=by
 induction parts generalizing cells cells' parts' with
 | nil=>
   rw [hq.nil_left]
   simp only [im]at h
   cases h
   exact⟨cells',rfl,hc⟩
 | cons p parts ih=>
   obtain⟨p',q,rfl,h1,h2⟩:=hq.cons_left
   obtain⟨i,v⟩:=p
   obtain⟨i',v'⟩:=p'
   obtain⟨rfl,hv⟩:=h1
   simp only [im]at h
   cases hpl:place i with
   |none=>simp [hpl]at h
   | some os=>
     obtain⟨off,size⟩:=os
     simp only [hpl]at h
     have hne: ∀x,v≠ .chan x:=by intro x e;subst e;simp at h
     have h':(bif zM (an v).length size&&zP (off+size) cells.length then im place (bM cells off (an v)) parts else none)=some r:=by
      cases v<;>first|exact h|exact absurd rfl (hne _)
     rw [cv,dB]at h'
     by_cases hcond:(an v).length=size/\off+size<=cells.length
     . simp only [hcond.1,hcond.2,decide_true,Bool.and_self,cond_true]at h'
       have hvc:VL mu (an v) v'.cells.toList:=hv.cells hne
       have hlen:v'.cells.size=size:=by rw [<-hcond.1];exact hvc.1.symm
       have hsz:cells.length=cells'.size:=hc.1
       have hc2:=hcond.2
       obtain⟨r',e1,e2⟩:=ih (cells':=v'.cells.zipIdx.foldl (fun cs (x:Value×Nat)=>cs.setIfInBounds (off+x.2) x.1) cells') h' (by
        rw [<-Array.foldl_toList,Array.toList_zipIdx,foldl_set]
        exact setL_rel hc _ hvc) h2
       refine⟨r',?_,e2⟩
       simp only [Instr.fill,hp i _ hpl]
       rw [if_neg (by simp [hlen];omega)]
       exact e1
     . have:(decide ((an v).length=size)&&decide (off+size<=cells.length))=false:=by
        rw [<-Bool.not_eq_true];simpa using hcond
       rw [this]at h';simp at h'
section
variable{E:Env}{P:Program}(ok:EOk E P)

theorem unP_run{mu:Mu}{op:UnOp}{x x' v:Value}(h:unP op x=some v)(hx:ao mu x x')(w:World):(Op.unary op x').run P w=.ok v w/\ao mu v v:=by
 unfold unP at h
 cases op<;>cases hx<;>simp only []at h<;>try (cases h;done)
 . cases h;refine⟨?_,.int _ _⟩;rw [gY];rfl
 . rename_i k n
   cases hs:sgn k with
   |true=>simp [hs]at h
   | false=>
     simp only [hs,cond_false]at h
     obtain⟨z,hz,rfl⟩:=Option.map_eq_some_iff.1 h
     refine⟨?_,.int _ _⟩
     have hk:k.signed=false:=by rw [<-sgn_eq];exact hs
     have hm:k.max=zQ (pw k-1):=by cases k<;>first|rfl|(simp [sgn]at hs)
     have:=ni P w hz
     simp only [Op.unary,hk,hm]
     simpa using this
 . cases h;exact⟨rfl,.bool _⟩

include ok
theorem zf {mu:Mu} {t:TypeId} {parts parts':List (Nat×Value)} {v:Value} (h:jP E t parts=some v) (hq:PL mu parts parts') (w:World):
 ∃v',(Instr.build t parts'.toArray).run P w=.ok v' w/\ao mu v v':=by
 unfold jP at h
 cases hz:E.zero t with
 |none=>simp [hz]at h
 | some z =>
   simp only [hz]at h
   obtain⟨zv,z1,z2,z3,z4⟩:=lh ok hz w
   have hzr:VL mu z zv.cells.toList:=by
    rw [z2];exact LR.refl fun a ha=>ao.const mu (by simp only [List.all_eq_true]at z4;exact z4 a ha)
   cases hu:E.und t with
   |none=>simp [hu]at h
   | some d =>
     simp only [hu]at h
     unfold Instr.build
     simp only [Sem.run_bind,z1,Result.andThen_ok,aR ok hu]
     cases d<;>simp only []at h<;>try (cases h;done)
     case struct fs=>
      cases hpl:lI E fs.toList with
      |none=>simp [hpl]at h
      | some ps =>
        have hmap:(fs.mapM (fun f=>do let n<-sizeOf f.type;pure (f.offset,n)):Sem _).run P w=.ok ps.toArray w:=by
         rw [Array.mapM_eq_mapM_toList]
         simp only [Sem.run_map]
         have : (fs.toList.mapM (fun f=>do let n<-sizeOf f.type;pure (f.offset,n)):Sem _).run P w=.ok ps w:=by
          revert hpl
          generalize fs.toList=l
          intro hpl
          induction l generalizing ps with
          |nil=>simp only [lI]at hpl;cases hpl;simp
          | cons f l ih=>
            simp only [lI]at hpl
            cases hs:E.sz f.type with
            |none=>simp [hs]at hpl
            | some n=>
              simp only [hs]at hpl
              cases hl:lI E l with
              |none=>simp [hl]at hpl
              | some r=>
                simp only [hl]at hpl
                cases hpl
                simp only [List.mapM_cons,Sem.run_bind,dI ok hs,Result.andThen_ok,Sem.run_pure,ih r hl]
         simp only [this,Result.andThen_ok]
        simp only [hpl]at h
        cases hf:im (fun i=>ps[i]?) z parts with
        |none=>simp only [hf]at h;cases h
        | some cs=>
          simp only [hf]at h
          cases h
          obtain⟨r',e1,e2⟩:=pV (place':=fun i=>ps.toArray[i]?) (fun i r hr=>by simpa using hr) hf hzr hq
          refine⟨.agg r',?_,.agg e2.1 e2.2⟩
          simp only [Sem.run_bind,hmap,Result.andThen_ok,e1]
          rfl
     case array n e=>
      cases hs:E.sz e with
      |none=>simp [hs]at h
      | some k=>
        simp only [hs]at h
        cases hf:im (fun i=>some (i*k,k)) z parts with
        |none=>simp only [hf]at h;cases h
        | some cs=>
          simp only [hf]at h
          cases h
          obtain⟨r',e1,e2⟩:=pV (place':=fun i=>some (i*k,k)) (fun i r hr=>hr) hf hzr hq
          refine⟨.agg r',?_,.agg e2.1 e2.2⟩
          simp only [Sem.run_bind,dI ok hs,Result.andThen_ok,e1]
          rfl
theorem convP_run{mu:Mu}{src dst:TypeId}{x x' v:Value}{d:TypeDesc}(hu:E.und src=some d)(hd: ∀e,d≠ .slice e)(h:jz E dst x=some v)(hx:ao mu x x')(w:World):
 (convert src dst x').run P w=.ok v w/\ao mu v v:=by
 unfold jz at h
 cases hx<;>simp only []at h<;>try (cases h;done)
 . rename_i k n
   cases hdst:E.und dst with
   |none=>simp [hdst]at h
   | some dd=>
     simp only [hdst]at h
     cases dd<;>simp only []at h<;>try (cases h;done)
     rename_i k2
     cases h
     refine⟨?_,.int _ _⟩
     unfold convert
     simp only [Sem.run_bind,aR ok hu,aR ok hdst,Result.andThen_ok]
     rw [gY]
     cases d<;>first|rfl|exact absurd rfl (hd _)
 . rename_i s
   cases hdst:E.und dst with
   |none=>simp [hdst]at h
   | some dd=>
     simp only [hdst]at h
     cases dd<;>simp only []at h<;>try (cases h;done)
     cases h
     refine⟨?_,.string _⟩
     unfold convert
     simp only [Sem.run_bind,aR ok hu,aR ok hdst,Result.andThen_ok]
     cases d<;>first|rfl|exact absurd rfl (hd _)
theorem lenP_run{mu:Mu}{t ty:TypeId}{ts:Array TypeId}{x x' v:Value}{xs:Array Value}(ht:ts.toList.head?=some t)(hxs:xs.toList.head?=some x')(h:mC E t x=some v)(hx:ao mu x x')(w:World):
 (Builtin.len_ ts ty xs).run P w=.ok v w/\ao mu v v:=by
 have e1:ts[0]? =some t:=by rw [<-zR];simpa [zY]using ht
 have e2:xs[0]? =some x':=by rw [<-zR];simpa [zY]using hxs
 unfold Builtin.len_
 simp only [e1,e2]
 unfold mC at h
 cases hu:E.und t with
 |none=>simp [hu]at h
 | some d=>
   simp only [hu]at h
   simp only [Sem.run_bind,aR ok hu,Result.andThen_ok]
   cases d<;>simp only []at h<;>try (cases h;done)
   case string => cases hx<;>simp only []at h<;>try (cases h;done)
                  cases h;exact⟨rfl,.int _ _⟩
   case array n e=>cases h;exact⟨rfl,.int _ _⟩
   case slice e => cases hx<;>simp only []at h<;>try (cases h;done)
                   all_goals (cases h;exact⟨rfl,.int _ _⟩)
   case map k e => cases hx<;>simp only []at h<;>try (cases h;done)
                   cases h;exact⟨rfl,.int _ _⟩
omit ok in
theorem sS{mu:Mu}(mx:Bool){x x' v:Value}{l l':List Value}(h:fQ mx x l=some v)(hx:ao mu x x')(hl:VL mu l l')(hc: ∀y,x≠ .chan y)(w:World):
 ∃v',(l'.foldlM (if mx then Builtin.max2 else Builtin.min2) x').run P w=.ok v' w/\ao mu v v':=by
 induction l generalizing x x' l' with
 | nil=>
   rw [hl.nil_left]
   simp only [fQ]at h
   cases h
   exact⟨x',by simp,hx⟩
 | cons y l ih=>
   obtain⟨y',r,rfl,h1,h2⟩:=hl.cons_left
   cases hx<;>simp only [fQ]at h<;>try (cases h;done)
   cases h1<;>simp only []at h<;>try (cases h;done)
   rename_i k a k2 b
   obtain⟨v',e1,e2⟩:=ih h (.int _ _) h2 (by intro y e;cases e)
   refine⟨v',?_,e2⟩
   simp only [List.foldlM_cons,Sem.run_bind]
   have:((if mx then Builtin.max2 else Builtin.min2) (.int k a) (.int k2 b)).run P w=.ok (.int k (bif mx then(bif kE a b then b else a)else(bif kE b a then b else a))) w:=by
    cases mx
    . simp only [Bool.false_eq_true,if_false,Builtin.min2,cond_false,gX,Sem.run_pure]
      by_cases hlt:b<a<;>simp [hlt]
    . simp only [if_true,Builtin.max2,cond_true,gX,Sem.run_pure]
      by_cases hlt:a<b
      . simp [hlt]
      . simp [hlt]
   rw [this]
   exact e1
theorem xM{mu:Mu}{x x' v:Value}{s t:TypeId}{q:Bool}(h:mV E x t q=some v)(hx:ao mu x x')(w:World):
 ∃v',(Instr.typeAssert x' s t q).run P w=.ok v' w/\ao mu v v':=by
 unfold mV at h
 cases hu:E.und t with
 |none=>simp [hu]at h
 | some d=>
   simp only [hu]at h
   have hd: ∀ms,d≠ .interface ms:=by intro ms e;subst e;simp at h
   have two: ∀{z y:Value},ao mu z y-> ∀b,ao mu (.tuple #[z,.bool b]) (.tuple #[y,.bool b]):=by
    intro z y hz b
    have:VL mu [z,.bool b] [y,.bool b]:=LR.cons hz (LR.cons (.bool b) LR.nil)
    exact .tuple this.1 this.2
   unfold Instr.typeAssert
   simp only [Sem.run_bind,aR ok hu,Result.andThen_ok]
   have h':qX E x t q=some v:=by
    cases d<;>first|exact h|exact absurd rfl (hd _)
   clear h
   unfold qX at h'
   cases hx<;>simp only []at h'<;>try (cases h';done)
   . cases q with
     |false=>simp at h'
     | true=>
       simp only [cond_true]at h'
       obtain⟨z,hz,rfl⟩:=Option.map_eq_some_iff.1 h'
       obtain⟨z1,z2⟩:=oh ok hz w mu
       refine⟨.tuple #[z,.bool false],?_,two z2 false⟩
       cases d<;>first|(simp [z1];done)|exact absurd rfl (hd _)
   . rename_i u a a' ha
     rw [cv]at h'
     by_cases hut:u=t
     . subst hut
       simp only [decide_true,cond_true]at h'
       cases h'
       cases q with
       |false=>refine⟨a',?_,ha⟩;cases d<;>first|(simp;done)|exact absurd rfl (hd _)
       |true=>refine⟨.tuple #[a',.bool true],?_,two ha true⟩;cases d<;>first|(simp;done)|exact absurd rfl (hd _)
     . simp only [hut,decide_false,cond_false]at h'
       cases q with
       |false=>simp at h'
       | true=>
         simp only [cond_true]at h'
         obtain⟨z,hz,rfl⟩:=Option.map_eq_some_iff.1 h'
         obtain⟨z1,z2⟩:=oh ok hz w mu
         refine⟨.tuple #[z,.bool false],?_,two z2 false⟩
         cases d<;>first|(simp [z1,hut];done)|exact absurd rfl (hd _)
end
end Go.Ab

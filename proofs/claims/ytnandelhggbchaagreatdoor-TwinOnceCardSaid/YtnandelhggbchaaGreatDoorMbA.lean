/- A deterministic evaluator of the model's code, and that the model follows it (part 1). -/
import Derived.Calls
import Derived.Laws.Sem
open Nat renaming beq->zM,le_refl->zN,blt->Xa,ble->Xc,mod_eq_of_lt->Xf,blt_eq->Xg,add_assoc->Xi,le_trans->Xk,pow->Xm,mul_le_mul_right->Xp
open Int renaming ofNat->Xb,negSucc->Xe,negSucc_eq->Xh
open Array renaming getElem?_toList->Xd,toList_extract->Xo
open List renaming getElem?_eq_getElem->Xj,head?_eq_getElem?->Xl,mem_of_getElem?->Xn
open Option renaming isSome_none->Xq
set_option maxHeartbeats 400000
set_option linter.defProp false
set_option linter.unusedVariables false
set_option linter.unusedSimpArgs false
namespace Go.Ab

inductive Tr(α:Type)where
 |nil
 |node (x:α) (l r:Tr α)

noncomputable section
namespace Tr
variable{α:Type}

def get(t:Tr α):Nat->Option α:=Tr.rec (motive:=fun _=>Nat->Option α) (fun _=>none)
 (fun x _ _ a b i=>Nat.rec (some x) (fun n _=>Bool.rec (b (n/2)) (a (n/2)) (zM (n%2) 0)) i) t

def set(t:Tr α):Nat->α->Tr α:=Tr.rec (motive:=fun _=>Nat->α->Tr α) (fun _ _=>.nil)
 (fun y l r a b i x=>Nat.rec (.node x l r) (fun n _=>Bool.rec (.node y l (b (n/2) x)) (.node y (a (n/2) x) r) (zM (n%2) 0)) i) t

def push(t:Tr α):Nat->α->Tr α:=Tr.rec (motive:=fun _=>Nat->α->Tr α) (fun _ x=>.node x .nil .nil)
 (fun y l r a b i x=>Nat.rec (.node y l r) (fun n _=>Bool.rec (.node y l (b (n/2) x)) (.node y (a (n/2) x) r) (zM (n%2) 0)) i) t

def pushAll:Tr α->Nat->List α->Tr α
 |t,_,[]=>t
 |t,n,x::l=>(t.push n x).pushAll (n+1) l

def ofList(l:List α):Tr α:=pushAll .nil 0 l

def slice(t:Tr α):Nat->Nat->Option (List α)
 |_,0=>some []
 | i,n+1=>match t.get i with
   |none=>none
   | some x=>match t.slice (i+1) n with
     |none=>none
     |some l=>some (x::l)

def setAll:Tr α->Nat->List α->Tr α
 |t,_,[]=>t
 |t,i,x::l=>(t.set i x).setAll (i+1) l

def blank(x:α):Nat->Nat->Tr α
 |0,_=>.nil
 | f+1,n=>match n with
   |0=>.nil
   |k+1=>.node x (blank x f ((k+1)/2)) (blank x f (k/2))

def Sized(t:Tr α)(n:Nat):Prop:= ∀i,(t.get i).isSome=true↔i<n

theorem get_nil(i:Nat):(Tr.nil:Tr α).get i=none:=rfl
theorem set_nil(i:Nat)(x:α):(Tr.nil:Tr α).set i x=.nil:=rfl
theorem yZ(i:Nat)(x:α):(Tr.nil:Tr α).push i x=.node x .nil .nil:=rfl
theorem get_node(x:α)(l r:Tr α)(i:Nat):(Tr.node x l r).get i=match i with
 |0=>some x
 |n+1=>if n%2=0 then l.get (n/2)else r.get (n/2):=by
 cases i with
 |zero=>rfl
 | succ n=>
   show Bool.rec (motive:=fun _=>Option α) (r.get (n/2)) (l.get (n/2)) (zM (n%2) 0)=_
   by_cases h:n%2=0
   . simp only [h];rfl
   . have:zM (n%2) 0=false:=by rw [show n%2=1 by omega];rfl
     simp only [this];rw [if_neg h]
theorem set_node(x:α)(l r:Tr α)(i:Nat)(y:α):(Tr.node x l r).set i y=match i with
 |0=>.node y l r
 |n+1=>if n%2=0 then .node x (l.set (n/2) y) r else .node x l (r.set (n/2) y):=by
 cases i with
 |zero=>rfl
 | succ n=>
   show Bool.rec (motive:=fun _=>Tr α) (.node x l (r.set (n/2) y)) (.node x (l.set (n/2) y) r) (zM (n%2) 0)=_
   by_cases h:n%2=0
   . simp only [h];rfl
   . have:zM (n%2) 0=false:=by rw [show n%2=1 by omega];rfl
     simp only [this];rw [if_neg h]
theorem push_node(x:α)(l r:Tr α)(i:Nat)(y:α):(Tr.node x l r).push i y=match i with
 |0=>.node x l r
 |n+1=>if n%2=0 then .node x (l.push (n/2) y) r else .node x l (r.push (n/2) y):=by
 cases i with
 |zero=>rfl
 | succ n=>
   show Bool.rec (motive:=fun _=>Tr α) (.node x l (r.push (n/2) y)) (.node x (l.push (n/2) y) r) (zM (n%2) 0)=_
   by_cases h:n%2=0
   . simp only [h];rfl
   . have:zM (n%2) 0=false:=by rw [show n%2=1 by omega];rfl
     simp only [this];rw [if_neg h]

theorem get_set(t:Tr α)(i:Nat)(x:α)(j:Nat):(t.set i x).get j=if i=j/\(t.get j).isSome then some x else t.get j:=by
 induction t generalizing i j with
 |nil=>simp [set_nil,get_nil]
 | node y l r b c=>
   rw [set_node]
   cases i with
   | zero=>
     cases j with
     |zero=>simp [get_node]
     |succ m=>simp [get_node]
   | succ n=>
     by_cases d:n%2=0
     . simp only [d,if_true]
       cases j with
       |zero=>simp [get_node]
       | succ m=>
         simp only [get_node]
         by_cases a:m%2=0
         . simp only [a,if_true,b]
           have:(n/2=m/2)↔(n+1=m+1):=by omega
           simp [this]
         . have: ¬(n+1=m+1):=by omega
           simp [a];intro h;omega
     . simp only [d,if_false]
       cases j with
       |zero=>simp [get_node]
       | succ m=>
         simp only [get_node]
         by_cases a:m%2=0
         . simp [a];intro h;omega
         . simp only [a,if_false,c]
           have:(n/2=m/2)↔(n+1=m+1):=by omega
           simp [this]

theorem pz:(Tr.nil:Tr α).Sized 0:=by intro i;simp [get_nil]

theorem AS{x:α}{l r:Tr α}{n:Nat}(h:(Tr.node x l r).Sized n): ∃m,n=m+1/\l.Sized ((m+1)/2)/\r.Sized (m/2):=by
 cases n with
 |zero=>have:=(h 0).1 (by simp [get_node]);omega
 | succ m=>
   refine⟨m,rfl,fun i=>?_,fun i=>?_⟩
   . have:=h (2*i+1)
     simp only [get_node]at this
     rw [if_pos (by omega)]at this
     rw [show 2*i/2=i by omega]at this
     rw [this];omega
   . have:=h (2*i+2)
     simp only [get_node]at this
     rw [if_neg (by omega)]at this
     rw [show(2*i+1)/2=i by omega]at this
     rw [this];omega

theorem get_push(t:Tr α)(n:Nat)(x:α)(e:t.Sized n)(j:Nat):(t.push n x).get j=if j=n then some x else t.get j:=by
 induction t generalizing n j with
 | nil=>
   have:n=0:=by
    cases n with
    |zero=>rfl
    |succ m=>have:=(e 0).2 (by omega);simp [get_nil]at this
   subst this
   cases j with
   |zero=>simp [yZ,get_node]
   |succ m=>simp [yZ,get_node,get_nil]
 | node y l r b c=>
   obtain⟨m,rfl,g,i⟩:=AS e
   rw [push_node]
   by_cases f:m%2=0
   . simp only [f,if_true]
     have d:l.Sized (m/2):=by rw [show m/2=(m+1)/2 by omega];exact g
     cases j with
     |zero=>simp [get_node]
     | succ k=>
       simp only [get_node]
       by_cases a:k%2=0
       . simp only [a,if_true,b _ d]
         have:(k/2=m/2)↔(k+1=m+1):=by omega
         simp [this]
       . simp [a];intro h;omega
   . simp only [f,if_false]
     cases j with
     |zero=>simp [get_node]
     | succ k=>
       simp only [get_node]
       by_cases a:k%2=0
       . simp [a];intro h;omega
       . simp only [a,if_false,c _ i]
         have:(k/2=m/2)↔(k+1=m+1):=by omega
         simp [this]

theorem sized_push{t:Tr α}{n:Nat}(x:α)(a:t.Sized n):(t.push n x).Sized (n+1):=by
 intro j
 rw [get_push t n x a]
 by_cases h:j=n
 . simp [h]
 . simp only [h,if_false,a j];omega

theorem sized_set{t:Tr α}{n:Nat}(i:Nat)(x:α)(a:t.Sized n):(t.set i x).Sized n:=by
 intro j
 rw [get_set]
 split
 . rename_i h;simp;exact(a j).1 h.2
 . exact a j

theorem get_none{t:Tr α}{n j:Nat}(a:t.Sized n)(h:n<=j):t.get j=none:=by
 cases b:t.get j with
 |none=>rfl
 |some x=>have:=(a j).1 (by simp [b]);omega

theorem get_some{t:Tr α}{n j:Nat}(a:t.Sized n)(h:j<n): ∃x,t.get j=some x:=by
 have:=(a j).2 h
 exact Option.isSome_iff_exists.1 this

theorem sized_pushAll{t:Tr α}{n:Nat}(l:List α)(a:t.Sized n):(t.pushAll n l).Sized (n+l.length):=by
 induction l generalizing t n with
 |nil=>simpa [pushAll]using a
 |cons x l b=>simp only [pushAll];have:=b (sized_push x a);rw [show n+(x::l).length=n+1+l.length by simp;omega];exact this

theorem get_pushAll(t:Tr α)(n:Nat)(l:List α)(a:t.Sized n)(j:Nat):(t.pushAll n l).get j=if j<n then t.get j else l[j-n]? :=by
 induction l generalizing t n with
 | nil=>
   simp only [pushAll]
   split
   . rfl
   . rw [get_none a (by omega)];simp
 | cons x l c=>
   simp only [pushAll]
   rw [c _ _ (sized_push x a),get_push t n x a]
   by_cases b:j<n
   . rw [if_pos (by omega),if_neg (by omega),if_pos b]
   . by_cases d:j=n
     . subst d;simp
     . rw [if_neg (by omega),if_neg b]
       rw [show j-n=(j-(n+1))+1 by omega];simp

theorem sized_ofList(l:List α):(ofList l).Sized l.length:=by
 have:=sized_pushAll l (pz (α:=α));simpa [ofList]using this

theorem get_ofList(l:List α)(j:Nat):(ofList l).get j=l[j]? :=by
 rw [ofList,get_pushAll _ _ _ pz];simp

theorem sized_blank(x:α)(f n:Nat)(h:n<=f):(blank x f n).Sized n:=by
 induction f generalizing n with
 | zero => have:n=0:=by omega
           subst this;simpa [blank]using pz
 | succ f a=>
   cases n with
   |zero=>simpa [blank]using pz
   | succ k=>
     simp only [blank]
     intro i
     rw [get_node]
     cases i with
     |zero=>simp
     | succ m=>
       simp only []
       by_cases b:m%2=0
       . simp only [b,if_true];rw [a _ (by omega) (m/2)];omega
       . simp only [b,if_false];rw [a _ (by omega) (m/2)];omega

theorem get_blank(x:α)(f n:Nat)(h:n<=f)(j:Nat):(blank x f n).get j=if j<n then some x else none:=by
 induction f generalizing n j with
 | zero => have:n=0:=by omega
           subst this;simp [blank,get_nil]
 | succ f a=>
   cases n with
   |zero=>simp [blank,get_nil]
   | succ k=>
     simp only [blank]
     rw [get_node]
     cases j with
     |zero=>simp
     | succ m=>
       simp only []
       by_cases b:m%2=0
       . simp only [b,if_true];rw [a _ (by omega) (m/2)]
         have:m/2<(k+1)/2↔m+1<k+1:=by omega
         simp [this]
       . simp only [b,if_false];rw [a _ (by omega) (m/2)]
         have:m/2<k/2↔m+1<k+1:=by omega
         simp [this]

theorem slice_spec{t:Tr α}{i n:Nat}{l:List α}(h:t.slice i n=some l):l.length=n/\ ∀k,k<n->t.get (i+k)=l[k]? :=by
 induction n generalizing i l with
 |zero=>simp [slice]at h;subst h;simp
 | succ n a=>
   simp only [slice]at h
   split at h
   . cases h
   . rename_i x b
     split at h
     . cases h
     . rename_i f c
       cases h
       obtain⟨d,e⟩:=a c
       refine⟨by simp [d],fun k g=>?_⟩
       cases k with
       |zero=>simpa using b
       |succ k=>have:=e k (by omega);rw [show i+(k+1)=i+1+k by omega,this];simp

theorem slice_mk{t:Tr α}{i n:Nat}(h: ∀k,k<n->(t.get (i+k)).isSome): ∃l,t.slice i n=some l:=by
 induction n generalizing i with
 |zero=>exact⟨[],by simp [slice]⟩
 | succ n b=>
   obtain⟨x,a⟩:=Option.isSome_iff_exists.1 (h 0 (by omega))
   obtain⟨l,c⟩:=b (i:=i+1) (fun k d=>by have:=h (k+1) (by omega);rwa [show i+(k+1)=i+1+k by omega]at this)
   exact⟨x::l,by simp only [slice];rw [show i+0=i by omega]at a;simp [a,c]⟩

theorem sized_setAll{t:Tr α}{n:Nat}(i:Nat)(l:List α)(a:t.Sized n):(t.setAll i l).Sized n:=by
 induction l generalizing t i with
 |nil=>simpa [setAll]using a
 |cons x l b=>simp only [setAll];exact b _ (sized_set i x a)

theorem get_setAll(t:Tr α)(i:Nat)(l:List α)(n:Nat)(d:t.Sized n)(f:i+l.length<=n)(j:Nat):
 (t.setAll i l).get j=if i<=j/\j<i+l.length then l[j-i]? else t.get j:=by
 induction l generalizing t i with
 |nil=>simp only [setAll];rw [if_neg (by rw [List.length_nil];omega)]
 | cons x l g=>
   simp only [List.length_cons]at f
   simp only [setAll]
   rw [g _ _ (sized_set i x d) (by omega),get_set]
   simp only [List.length_cons]
   by_cases c:i=j
   . have h: ¬(i+1<=j/\j<i+1+l.length):=by omega
     have a:i<=j/\j<i+(l.length+1):=by omega
     have b:=(d j).2 (by omega)
     rw [if_neg h,if_pos a,if_pos ⟨c,b⟩]
     simp [c]
   . by_cases e:i+1<=j/\j<i+1+l.length
     . have a:i<=j/\j<i+(l.length+1):=by omega
       rw [if_pos e,if_pos a,show j-i=(j-(i+1))+1 by omega];simp
     . have a: ¬(i<=j/\j<i+(l.length+1)):=by omega
       rw [if_neg e,if_neg (by simp [c]),if_neg a]

end Tr
end
end Go.Ab

namespace Go.Ab
noncomputable section

def pw:IntKind->Nat
 | .i8| .u8=>256
 | .i16| .u16=>65536
 | .i32| .u32=>4294967296
 | .i64| .u64=>18446744073709551616
def sgn:IntKind->Bool
 | .i8| .i16| .i32| .i64=>true
 |_=>false
def hf:IntKind->Nat
 | .i8=>128| .i16=>32768| .i32=>2147483648| .i64=>9223372036854775808
 | .u8=>256| .u16=>65536| .u32=>4294967296| .u64=>18446744073709551616
def an(k:IntKind)(n:Int):Int:=match n with
 | .ofNat m=>bif Xa m (hf k)then .ofNat m else
  bif sgn k then(bif Xa (m%pw k) (hf k)then .ofNat (m%pw k)else .negSucc (pw k-1-m%pw k))else .ofNat (m%pw k)
 | .negSucc m=>bif sgn k then
  (bif Xa m (hf k)then .negSucc m else bif Xa (pw k-1-m%pw k) (hf k)then .ofNat (pw k-1-m%pw k)else .negSucc (m%pw k))
  else .ofNat (pw k-1-m%pw k)
def lG:Int->Int->Bool
 | .ofNat a,.ofNat b=>Xa a b
 | .ofNat _,.negSucc _=>false
 | .negSucc _,.ofNat _=>true
 | .negSucc a,.negSucc b=>Xa b a
def gX:Int->Int->Bool
 | .ofNat a,.ofNat b=>zM a b
 | .negSucc a,.negSucc b=>zM a b
 |_,_=>false
def kidx:IntKind->Nat
 | .i8=>0| .i16=>1| .i32=>2| .i64=>3| .u8=>4| .u16=>5| .u32=>6| .u64=>7
def jS(a b:IntKind):Bool:=zM (kidx a) (kidx b)
def gf:Int->Option Nat
 | .ofNat n=>some n
 | .negSucc _=>none
def qy(op:BinOp)(k:IntKind)(x y:Int):Option Int:=match x,y with
 | .ofNat a,.ofNat b=>bif Xa a (pw k)&&Xa b (pw k)then match op with
  | .and=>some (an k (.ofNat (Nat.land a b)))
  | .or=>some (an k (.ofNat (Nat.lor a b)))
  | .xor=>some (an k (.ofNat (Nat.xor a b)))
  | .andNot=>some (an k (.ofNat (Nat.xor a (Nat.land a b))))
  |_=>none
   else none
 | .negSucc a,.ofNat b=>bif zM b 1 then match op with
  | .and=>some (.ofNat ((a+1)%2))
  |_=>none
   else none
 |_,_=>none
def shrI(x:Int)(n:Nat):Int:=match x with
 | .ofNat m=>.ofNat (m/Xm 2 n)
 | .negSucc m=>.negSucc (m/Xm 2 n)
def bitsOf:IntKind->Nat
 | .i8| .u8=>8
 | .i16| .u16=>16
 | .i32| .u32=>32
 | .i64| .u64=>64
def rx(op:BinOp)(k:IntKind)(x y:Int):Option Int:=match gf y with
 |none=>none
 | some n=>match op with
   | .shl=>some (an k (x*Xb (Xm 2 (bif Xc n (bitsOf k)then n else bitsOf k))))
   | .shr=>some (shrI x (bif Xc n (bitsOf k)then n else bitsOf k))
   |_=>none
def gR(op:BinOp)(k:IntKind)(x y:Int):Option Value:=match op with
 | .add=>some (.int k (an k (x+y)))
 | .sub=>some (.int k (an k (x-y)))
 | .mul=>some (.int k (an k (x*y)))
 | .quo=>bif gX y 0 then none else some (.int k (an k (x.tdiv y)))
 | .rem=>bif gX y 0 then none else some (.int k (x.tmod y))
 | .and| .or| .xor| .andNot=>(qy op k x y).map (.int k ·)
 | .eql=>some (.bool (gX x y))
 | .neq=>some (.bool (!gX x y))
 | .lss=>some (.bool (lG x y))
 | .leq=>some (.bool (!lG y x))
 | .gtr=>some (.bool (lG y x))
 | .geq=>some (.bool (!lG x y))
 |_=>none

def poison:Value:=.chan none
def ah:Value->List Value
 | .agg a=>a.toList
 |v=>[v]
def cJ:Value->Bool
 | .bool _| .int _ _| .string _| .pointer none| .slice none 0 0| .map none| .nilFunc| .nilIface=>true
 |_=>false
def iU:Value->Bool
 | .agg _| .tuple _| .chan _=>false
 |_=>true
def aF(s:ByteArray):List UInt8:=s.data.toList
def gG(l:List UInt8):ByteArray:=⟨⟨l⟩⟩
def gH:List UInt8->List UInt8->Bool
 | [],[]=>true
 |a::x,b::y=>zM a.toNat b.toNat&&gH x y
 |_,_=>false
def ja:List UInt8->List UInt8->Bool
 |_,[]=>false
 | [],_::_=>true
 |a::x,b::y=>Xa a.toNat b.toNat||(zM a.toNat b.toNat&&ja x y)

structure gW where
 fn:FuncId
 regs:Tr Value
 nr:Nat
 params:Array Tmp
 assign:Code
 body:Code
 st:Nat
 pending:Option Code
 defers:Nat

inductive Blk where
 |dead
 |cells (t:Tr Value) (sz:Nat) (elem:TypeId) (md:Nat)
 |map (es:List (Value×Value×Nat)) (clock:Nat)
 |loop (l:gW)
 |dfr

structure Hp where
 n:Nat
 t:Tr Blk
 lo:Nat

def Hp.get(h:Hp)(b:Nat):Option Blk:=h.t.get b
def dO(a b:Nat):Nat:=bif Xc a b then a else b
def Hp.put(h:Hp)(b:Nat)(x:Blk):Hp:={n:=h.n,t:=h.t.set b x,lo:=dO b h.lo}
def Hp.new(h:Hp)(x:Blk):Hp:={n:=h.n+1,t:=h.t.push h.n x,lo:=h.lo}

def Hp.load(h:Hp)(b o n:Nat):Option (List Value):=match h.get b with
 |some (.cells t a _ _)=>bif Xc (o+n) a then t.slice o n else none
 |_=>none
def Hp.store(h:Hp)(b o:Nat)(l:List Value):Option Hp:=match h.get b with
 |some (.cells t a el c)=>bif Xc (o+l.length) a&& !Nat.beq c 0&&l.all iU then some (h.put b (.cells (t.setAll o l) a el c))else none
 |_=>none

structure Env where
 fn:Nat->Option Func
 ty:Nat->Option TypeInfo
 eqok:Nat->Bool
 orc:Nat->List Value->Option Value:=fun _ _=>none
 cut:Nat->Bool:=fun _=>false

def Env.und(E:Env)(t:TypeId):Option TypeDesc:=match E.ty t with
 |none=>none
 | some i=>match i.desc with
   | .named _ u=>match E.ty u with
     |none=>none
     |some j=>some j.desc
   |d=>some d
def Env.sz(E:Env)(t:TypeId):Option Nat:=match E.ty t with
 |none=>none
 |some i=>some i.size
def Env.agg(E:Env)(t:TypeId):Option Bool:=match E.und t with
 |none=>none
 |some (.struct _)=>some true
 |some (.array _ _)=>some true
 |some _=>some false
def Env.zero(E:Env)(t:TypeId):Option (List Value):=match E.ty t with
 |none=>none
 | some i=>match i.zero with
   |none=>none
   |some z=>bif (ah z).all cJ then some (ah z)else none
def Env.zeroV(E:Env)(t:TypeId):Option Value:=match E.ty t with
 |none=>none
 | some i=>match i.zero with
   |none=>none
   |some z=>bif (ah z).all cJ then some z else none

def partOf(E:Env)(t:TypeId)(cs:List Value)(off:Nat):Option Value:=match E.agg t with
 |none=>none
 | some true=>match E.sz t with
   |none=>none
   |some n=>bif Xc (off+n) cs.length then some (.agg ⟨(cs.drop off).take n⟩)else none
 |some false=>cs[off]?

def eqFields(E:Env)(a:TypeId->Value->Value->Option Bool):List Field->List Value->List Value->Option Bool
 | [],_,_=>some true
 | f ::d,b,c=>bif f.name== "_" then none else
   match partOf E f.type b f.offset with
   |none=>none
   | some x=>match partOf E f.type c f.offset with
     |none=>none
     | some y=>match a f.type x y with
       |some true=>eqFields E a d b c
       |r=>r
def lV (E:Env) (a:TypeId->Value->Value->Option Bool) (e:TypeId) (k:Nat) (xs ys:List Value):Nat->Nat->Option Bool
 |0,_=>some true
 | n + 1,i=>match partOf E e xs (i*k)with
   |none=>none
   | some x=>match partOf E e ys (i*k)with
     |none=>none
     | some y=>match a e x y with
       |some true=>lV E a e k xs ys n (i+1)
       |r=>r
def dN (E:Env):Nat->TypeId->Value->Value->Option Bool
 |0,_,_,_=>none
 | d + 1,t,x,y=>match E.und t with
   | some .bool=>match x,y with
     | .bool a,.bool b=>some (bif a then b else !b)
     |_,_=>none
   | some (.int _)=>match x,y with
     | .int k a,.int h b=>bif jS k h then some (gX a b)else none
     |_,_=>none
   | some .string=>match x,y with
     | .string a,.string b=>some (gH (aF a) (aF b))
     |_,_=>none
   | some (.pointer _)=>match x,y with
     | .pointer none,.pointer b=>some b.isNone
     | .pointer (some _),.pointer none=>some false
     |_,_=>none
   | some (.interface _)=>match x,y with
     | .nilIface,.nilIface=>some true
     | .nilIface,.iface _ _=>some false
     | .iface _ _,.nilIface=>some false
     | .iface c j,.iface l m=>bif zM c l then
       match E.ty c with
       |none=>none
       |some i=>bif i.comparable then dN E d c j m else none
       else some false
     |_,_=>none
   | some (.struct o)=>match x,y with
     | .agg f,.agg g=>bif E.eqok t then eqFields E (dN E d) o.toList f.toList g.toList else none
     |_,_=>none
   | some (.array n e)=>match x,y with
     | .agg f,.agg g=>match E.sz e with
       |none=>none
       |some k=>lV E (dN E d) e k f.toList g.toList n 0
     |_,_=>none
   | some (.slice _)=>match x,y with
     | .slice none _ _,.slice b _ _=>some b.isNone
     | .slice (some _) _ _,.slice none _ _=>some false
     |_,_=>none
   | some (.map _ _)=>match x,y with
     | .map none,.map b=>some b.isNone
     | .map (some _),.map none=>some false
     |_,_=>none
   | some (.func _ _ _)=>match x,y with
     | .nilFunc,.nilFunc=>some true
     | .nilFunc,.func _ _ _=>some false
     | .func _ _ _,.nilFunc=>some false
     |_,_=>none
   |_=>none
def fm(E:Env)(t:TypeId)(x y:Operand)(a b:Value):Option Bool:=match a,b with
 | .chan _,_=>none
 |_,.chan _=>none
 | .nilIface,.nilIface=>match x,y with
   | .const _,_=>dN E 40 t .nilIface .nilIface
   |_,.const _=>dN E 40 t .nilIface .nilIface
   |_,_=>none
 | .agg _,.agg _=>bif E.eqok t then dN E 40 t a b else none
 |_,_=>dN E 40 t a b

def bQ(E:Env)(op:BinOp)(t:TypeId)(x y:Operand)(a b:Value):Option Value:=match a,b with
 | .int k m,.int c n=>match op with
   | .shl=>(rx .shl k m n).map (.int k ·)
   | .shr=>(rx .shr k m n).map (.int k ·)
   |op=>bif jS k c then gR op k m n else none
 | .string s,.string u=>match op with
   | .add=>bif Xc (s.size+u.size) 1099511627776 then some (.string (gG (aF s++aF u)))else none
   | .eql=>some (.bool (gH (aF s) (aF u)))
   | .neq=>some (.bool (!gH (aF s) (aF u)))
   | .lss=>some (.bool (ja (aF s) (aF u)))
   | .geq=>some (.bool (!ja (aF s) (aF u)))
   | .leq=>some (.bool (ja (aF s) (aF u)||gH (aF s) (aF u)))
   | .gtr=>some (.bool (!(ja (aF s) (aF u)||gH (aF s) (aF u))))
   |_=>none
 | a,b=>match op with
   | .eql=>(fm E t x y a b).map (.bool ·)
   | .neq=>(fm E t x y a b).map fun r=>.bool (!r)
   |_=>none
def unP(op:UnOp)(x:Value):Option Value:=match op,x with
 | .neg,.int k n=>some (.int k (an k (0-n)))
 | .not,.bool b=>some (.bool (!b))
 | .xor,.int k n=>bif sgn k then none else(qy .xor k (.ofNat (pw k-1)) n).map (.int k ·)
 |_,_=>none
def eC(v:Value)(y:Nat):Option Nat:=match v with
 | .int _ i=>match gf i with
   |some n=>bif Xc n y then some n else none
   |none=>none
 |_=>none
def ez(len cap:Nat)(b a c:Option Value):Option (Nat×Nat×Nat):=
 match(match c with|some v=>eC v cap|none=>some cap)with
 |none=>none
 | some m=>match(match a with|some v=>eC v m|none=>bif c.isSome then none else some len)with
   |none=>none
   | some h=>match(match b with|some v=>eC v h|none=>some 0)with
     |none=>none
     |some l=>some (l,h,m)
def eH(a:Addr)(n:Nat):Addr:=⟨a.block,a.off+n,none⟩
def dZ (E:Env) (t:TypeId) (x:Value) (c b d:Option Value):Option Value:=match E.und t with
 | some .string=>match x with
   | .string s=>bif d.isSome then none else match ez s.size s.size c b none with
     |none=>none
     |some (l,h,_)=>some (.string (gG (((aF s).drop l).take (h-l))))
   |_=>none
 | some (.slice e)=>match x with
   | .slice a f g=>match ez f g c b d with
     |none=>none
     | some (l,h,m)=>match E.sz e with
       |none=>none
       | some k=>match a with
         |none=>some (.slice none (h-l) (m-l))
         | some a=>match a.spot with
           |none=>some (.slice (some (bif zM m l then a else eH a (l*k))) (h-l) (m-l))
           |some i=>bif zM i k then some (.slice (some ⟨a.block,bif zM m l then a.off else a.off+l*k,some k⟩) (h-l) (m-l))else none
   |_=>none
 | some (.array n e)=>match x with
   | .pointer (some a)=>match ez n n c b d with
     |none=>none
     | some (l,h,m)=>match E.sz e with
       |none=>none
       |some k=>some (.slice (some ⟨a.block,bif zM m l then a.off else a.off+l*k,none⟩) (h-l) (m-l))
   |_=>none
 |_=>none
def aw (E:Env) (s:TypeId) (x:Value) (i:Nat):Option Value:=match E.und s with
 | some (.struct b)=>match b.toList[i]? with
   |none=>none
   | some f=>match E.sz f.type with
     | some (_+1)=>match x with
       | .pointer (some a)=>some (.pointer (some (eH a f.offset)))
       |_=>none
     |_=>none
 |_=>none
def aQ(E:Env)(t:TypeId)(x:Value)(i:Nat):Option Value:=match E.und t with
 | some (.struct a)=>match a.toList[i]? with
   |none=>none
   | some f=>match x with
     | .agg b=>partOf E f.type b.toList f.offset
     |_=>none
 |_=>none
def fU(v:Value)(len:Nat):Option Nat:=match v with
 | .int _ i=>match gf i with
   |some n=>bif Xa n len then some n else none
   |none=>none
 |_=>none
def er (E:Env) (t:TypeId) (x c:Value):Option Value:=match E.und t with
 | some (.slice e)=>match x with
   | .slice (some a) b _=>match fU c b with
     |none=>none
     | some i=>match E.sz e with
       |none=>none
       |some k=>some (.pointer (some (eH a (i*k))))
   |_=>none
 | some (.array n e)=>match x with
   | .pointer (some a)=>match fU c n with
     |none=>none
     | some i=>match E.sz e with
       |none=>none
       |some k=>some (.pointer (some (eH a (i*k))))
   |_=>none
 |_=>none
def iP (E:Env) (t:TypeId) (x a:Value):Option Value:=match E.und t with
 | some (.array n e)=>match x with
   | .agg c=>match fU a n with
     |none=>none
     | some i=>match E.sz e with
       |none=>none
       |some k=>partOf E e c.toList (i*k)
   |_=>none
 | some .string=>match x with
   | .string s=>match fU a s.size with
     |none=>none
     | some i=>match(aF s)[i]? with
       |none=>none
       |some b=>some (.int .u8 (.ofNat b.toNat))
   |_=>none
 |_=>none
def bS:List Value->Nat->List Value->List Value
 |l,_,[]=>l
 |l,a,v::b=>bS (l.set a v) (a+1) b
def iz(a:Nat->Option (Nat×Nat)):List Value->List (Nat×Value)->Option (List Value)
 |cells,[]=>some cells
 | cells,(i,v)::c=>match a i with
   |none=>none
   | some (d,b)=>match v with
     | .chan _=>none
     |v=>bif zM (ah v).length b&&Xc (d+b) cells.length then iz a (bS cells d (ah v)) c else none
def mC(E:Env):List Field->Option (List (Nat×Nat))
 | []=>some []
 | f ::a=>match E.sz f.type with
   |none=>none
   | some n=>match mC E a with
     |none=>none
     |some l=>some ((f.offset,n)::l)
def iK (E:Env) (t:TypeId) (a:List (Nat×Value)):Option Value:=match E.zero t with
 |none=>none
 | some z=>match E.und t with
   | some (.struct c)=>match mC E c.toList with
     |none=>none
     | some d=>match iz (fun i=>d[i]?) z a with
       |none=>none
       |some b=>some (.agg ⟨b⟩)
   | some (.array _ e)=>match E.sz e with
     |none=>none
     | some k=>match iz (fun i=>some (i*k,k)) z a with
       |none=>none
       |some b=>some (.agg ⟨b⟩)
   |_=>none
def jx(E:Env)(a:TypeId)(x:Value):Option Value:=match x with
 | .int _ n=>match E.und a with
   |some (.int k)=>some (.int k (an k n))
   |_=>none
 | .string s=>match E.und a with
   |some .string=>some (.string s)
   |_=>none
 |_=>none
def ns(E:Env)(t:TypeId)(x:Value):Option Value:=match E.und t with
 | some .string=>match x with
   | .string s=>some (.int .i64 (.ofNat s.size))
   |_=>none
 |some (.array n _)=>some (.int .i64 (.ofNat n))
 | some (.slice _)=>match x with
   | .slice _ n _=>some (.int .i64 (.ofNat n))
   |_=>none
 | some (.map _ _)=>match x with
   | .map none=>some (.int .i64 0)
   |_=>none
 |_=>none
def fZ(c:Bool):Value->List Value->Option Value
 |x,[]=>some x
 | x,y::l=>match x with
   | .int k a=>match y with
     | .int _ b=>fZ c (.int k (bif c then(bif lG a b then b else a)else(bif lG b a then b else a))) l
     |_=>none
   |_=>none
def sg(E:Env)(x:Value)(t:TypeId)(a:Bool):Option Value:=match x with
 | .nilIface=>bif a then(E.zeroV t).map fun z=>.tuple #[z,.bool false]else none
 | .iface u v=>bif zM u t then some (bif a then .tuple #[v,.bool true]else v)else bif a then(E.zeroV t).map fun z=>.tuple #[z,.bool false]else none
 |_=>none
def ol(E:Env)(x:Value)(t:TypeId)(a:Bool):Option Value:=match E.und t with
 |none=>none
 |some (.interface _)=>none
 |some _=>sg E x t a

def pop(E:Env)(ρ:Operand->Value):Op->Option Value
 | .move x=>some (ρ x)
 | .assign x=>some (ρ x)
 | .pick c a b=>match ρ c with
   | .bool t=>some (bif t then ρ a else ρ b)
   |_=>none
 | .nilCheck x=>match ρ x with
   | .pointer (some a)=>some (.pointer (some a))
   | .func (.func f) a b=>some (.func (.func f) a b)
   |_=>none
 | .binOp e t x y _=>bQ E e t x y (ρ x) (ρ y)
 | .unOp e _ x=>unP e (ρ x)
 | .makeInterface t x=>match E.und t with
   |none=>none
   |some (.interface _)=>none
   |some _=>some (.iface t (ρ x))
 | .makeFunc (.func f) a b=>some (.func (.func f) (a.map ρ) (b.map ρ))
 | .slice t x l h m=>dZ E t (ρ x) (l.map ρ) (h.map ρ) (m.map ρ)
 | .fieldAddr s x i=>aw E s (ρ x) i
 | .field t x i=>aQ E t (ρ x) i
 | .indexAddr t x i=>er E t (ρ x) (ρ i)
 | .index t x i=>iP E t (ρ x) (ρ i)
 | .extract t i=>match ρ t with
   | .tuple g=>g.toList[i]?
   |_=>none
 | .build t d=>iK E t (d.toList.map fun p=>(p.1,ρ p.2))
 | .typeAssert x _ t j=>ol E (ρ x) t j
 | .call c=>match c.callee with
   | .builtin .len=>match c.argTypes.toList,c.args.toList with
     |t::_,x::_=>ns E t (ρ x)
     |_,_=>none
   | .builtin .min=>match c.args.toList.map ρ with
     |x::l=>fZ false x l
     | []=>none
   | .builtin .max=>match c.args.toList.map ρ with
     |x::l=>fZ true x l
     | []=>none
   |_=>none
 |_=>none
end
end Go.Ab

namespace Go.Ab
noncomputable section

inductive c8 where
 |val (v:Value)
 |skip
 |call (f:FuncId) (args:List Value)
 |yield (l:Nat) (args:List Value)
 |recov
 |defer (d:Deferred)
 |panic (v:Value)

def eJ (E:Env) (h:Hp) (t:TypeId) (x:Value):Option Value:=match x with
 | .pointer (some a)=>match E.agg t with
   |none=>none
   | some true=>match E.sz t with
     |none=>none
     | some n=>match h.load a.block a.off n with
       |none=>none
       |some l=>some (.agg ⟨l⟩)
   | some false=>match h.load a.block a.off 1 with
     |some [v]=>some v
     |_=>none
 |_=>none
def ii(E:Env)(h:Hp)(t:TypeId)(x v:Value):Option Hp:=match x with
 | .pointer (some a)=>match E.sz t with
   |none=>none
   | some n=>match v with
     | .chan _=>none
     |v=>bif zM (ah v).length n then h.store a.block a.off (ah v)else none
 |_=>none
def ptrTo(b:Nat):Value:=.pointer (some ⟨b,0,none⟩)
def qq(h:Hp)(l:List Value)(el:TypeId):Hp×Value:=(h.new (.cells (Tr.ofList l) l.length el 1),ptrTo h.n)

def mR:Value->Bool
 | .int _ _=>true
 |_=>false
def rY:Value->Bool
 | .int _ _| .string _| .bool _=>true
 | .agg a=>a.toList.all mR
 |_=>false
def cS:List Value->List Value->Option Bool
 | [],[]=>some true
 | .int k x::l,.int a y::b=>bif jS k a then(match cS l b with
   |none=>none
   |some r=>some (bif gX x y then r else false))else none
 |_,_=>none
def bH(a b:Value):Option Bool:=match a,b with
 | .int k x,.int c y=>bif jS k c then some (gX x y)else none
 | .string s,.string u=>some (gH (aF s) (aF u))
 | .bool x,.bool y=>some (bif x then y else !y)
 | .agg x,.agg y=>cS x.toList y.toList
 |_,_=>none
def isKd(kd:IntKind)(v:Value):Bool:=match v with
 | .int a _=>jS kd a
 |_=>false
def aP (E:Env) (t:TypeId) (k:Value):Bool:=match E.und t with
 | some (.int a)=>match k with
   | .int b _=>jS a b
   |_=>false
 | some .string=>match k with
   | .string _=>true
   |_=>false
 | some .bool=>match k with
   | .bool _=>true
   |_=>false
 | some (.array n e)=>match k with
   | .agg c=>match E.agg e with
     | some false=>match E.sz e with
       | some s=>match E.und e with
         |some (.int a)=>bif zM s 1 then(bif zM c.toList.length n then c.toList.all (isKd a)else false)else false
         |_=>false
       |none=>false
     |_=>false
   |_=>false
 |_=>false
def aN(k:Value):List (Value×Value×Nat)->Option (Option (Value×Nat))
 | []=>some none
 | (a,v,n)::l=>match bH k a with
   |none=>none
   |some true=>some (some (v,n))
   |some false=>aN k l
def iE(k v:Value):List (Value×Value×Nat)->List (Value×Value×Nat)
 | []=>[]
 | (a,b,n)::l=>match bH k a with
   |some true=>(k,v,n)::l
   |_=>(a,b,n)::iE k v l
def jE(k:Value):List (Value×Value×Nat)->List (Value×Value×Nat)
 | []=>[]
 | (a,b,n)::l=>match bH k a with
   |some true=>l
   |_=>(a,b,n)::jE k l
def fK(n:Nat)(v:Value):List (Value×Value×Nat)->Option (List (Value×Value×Nat))
 | []=>none
 | (b,c,a)::l=>bif zM a n then some ((b,v,a)::l)else match fK n v l with
   |none=>none
   |some d=>some ((b,c,a)::d)
def iv(E:Env)(h:Hp)(t:TypeId)(m k:Value):Option (Nat×List (Value×Value×Nat)×Nat×TypeId):=match E.und t with
 | some (.map a el)=>bif aP E a k then match m with
   | .map (some r)=>match h.get r with
     |some (.map b c)=>some (r,b,c,el)
     |_=>none
   |_=>none
   else none
 |_=>none
def ce (E:Env) (h:Hp) (t:TypeId) (m k:Value) (a:Bool):Option Value:=match E.und t with
 | some (.map b el)=>bif aP E b k then
  match(match m with
   | .map none=>some none
   | .map (some r)=>match h.get r with
     |some (.map c _)=>aN k c
     |_=>none
   |_=>none)with
  |none=>none
  |some (some (v,_))=>some (bif a then .tuple #[v,.bool true]else v)
  | some none=>match E.zeroV el with
    |none=>none
    |some z=>some (bif a then .tuple #[z,.bool false]else z)
   else none
 |_=>none
def dH(E:Env)(h:Hp)(t:TypeId)(m k v:Value):Option Hp:=match iv E h t m k with
 |none=>none
 | some (r,a,c,_)=>match aN k a with
   |none=>none
   |some (some _)=>some (h.put r (.map (iE k v a) c))
   |some none=>some (h.put r (.map (a++[(k,v,c)]) (c+1)))
def lq(E:Env)(h:Hp)(t:TypeId)(m k:Value):Option Hp:=match iv E h t m k with
 |none=>none
 | some (r,a,c,_)=>match aN k a with
   |none=>none
   |some _=>some (h.put r (.map (jE k a) c))
def ic(E:Env)(h:Hp)(t:TypeId)(m k:Value):Option (Hp×Value):=match iv E h t m k with
 |none=>none
 | some (r,a,c,el)=>match aN k a with
   |none=>none
   |some (some (v,n))=>some (h.put r (.map (iE k v a) c),.tuple #[v,.int .i64 (.ofNat n)])
   | some none=>match E.zeroV el with
     |none=>none
     |some z=>some (h.put r (.map (a++[(k,z,c)]) (c+1)),.tuple #[z,.int .i64 (.ofNat c)])
def ku (h:Hp) (m s v:Value):Option Hp:=match m with
 | .map (some r)=>match h.get r with
   | some (.map b c)=>match s with
     | .int _ i=>match gf i with
       |none=>none
       | some n=>match fK n v b with
         |none=>none
         |some a=>some (h.put r (.map a c))
     |_=>none
   |_=>none
 |_=>none
def bA(a:List Value):Nat->List Value
 |0=>[]
 |n+1=>a++bA a n
def natV(v:Value):Option Nat:=match v with
 | .int _ i=>gf i
 |_=>none
def iZ (E :Env) (h:Hp) (t:TypeId) (l c:Value):Option (Hp×Value):=match E.und t with
 | some (.slice e)=>match natV l with
   |none=>none
   | some l=>match natV c with
     |none=>none
     | some c=>match E.ty e with
       |none=>none
       | some i=>bif Xc l c&&Xc (c*(i.bytes+1)) 70368744177664 then
        match E.zero e with
        |none=>none
        | some a=>bif zM a.length i.size then
         match a with
         | [z]=>some (h.new (.cells (Tr.blank z c c) c e 1),.slice (some ⟨h.n,0,none⟩) l c)
         |a=>some (h.new (.cells (Tr.ofList (bA a c)) (c*i.size) e 1),.slice (some ⟨h.n,0,none⟩) l c)
          else none
         else none
 |_=>none
def je (E:Env) (h:Hp) (t:TypeId) (n:Nat) (a:List (Nat×Value)):Option (Hp×Value):=match E.und t with
 | some (.slice e)=>match E.sz e with
   |none=>none
   | some k=>bif Xc (n*k) 16777216 then
    match E.zero e with
    |none=>none
    | some b=>bif zM b.length k then
     match iz (fun i=>some (i*k,k)) (bA b n) a with
     |none=>none
     |some c=>some (h.new (.cells (Tr.ofList c) c.length e 1),.slice (some ⟨h.n,0,none⟩) n n)
      else none
     else none
 |_=>none
def aM(h:Hp)(k:Nat):Value->Option (Nat×List Value)
 | .slice none 0 _=>some (0,[])
 | .slice (some a) n _=>match h.load a.block a.off (n*k)with
   |none=>none
   |some l=>some (n,l)
 | .string s=>bif zM k 1 then some (s.size,(aF s).map fun b=>.int .u8 (.ofNat b.toNat))else none
 |_=>none
def i6(c:Tr Value)(b off m:Nat)(new:List Value):Option (Tr Value×Nat):=
 bif zM off 0&&zM m b then some (c.pushAll b new,b+new.length)else
  bif Xc (off+m) b then match c.slice off m with
   |none=>none
   |some a=>some (Tr.ofList (a++new),(a++new).length)
  else none
def mD (h:Hp) (e:TypeId) (k:Nat) (a:Option Addr) (len n:Nat) (new:List Value):Option (Hp×Value):=match a with
 |none=>bif zM len 0 then some (h.new (.cells (Tr.ofList new) new.length e 1),.slice (some ⟨h.n,0,some k⟩) n n)else none
 | some a=>match h.get a.block with
   | some (.cells c d _ f)=>match i6 c d a.off (len*k) new with
     |none=>none
     | some (t2,b)=>match a.spot with
       | some g=>bif zM g k&& !Nat.beq f 0&&new.all iU then
        some ((h.put a.block .dead).new (.cells t2 b e 1),.slice (some ⟨h.n,0,some k⟩) (len+n) (len+n))
         else none
       |none=>some (h.new (.cells t2 b e 1),.slice (some ⟨h.n,0,some k⟩) (len+n) (len+n))
   |_=>none
def dD(E:Env)(t:TypeId):Option Bool:=match E.und t with
 |none=>none
 |some (.int _)=>some true
 |some _=>some false
def eZ (E:Env) (h:Hp) (e:TypeId) (i:TypeInfo) (a:Option Addr) (len cap n:Nat) (new:List Value):Option (Hp×Value):=
 bif Xc (len+n) cap then
  match a with
  |none=>some (h,.slice none (len+n) cap)
  | some a=>match new with
    | []=>some (h,.slice (some a) (len+n) cap)
    | new=>match h.store a.block (a.off+len*i.size) new with
      |none=>none
      |some b=>some (b,.slice (some a) (len+n) cap)
 else bif Xc ((len+n)*(i.bytes+1)) 70368744177664&&(Xa 0 i.bytes)then
  match E.zero e with
  |none=>none
  |some c=>bif zM c.length i.size then mD h e i.size a len n new else none
 else none
def jg (E:Env) (h:Hp) (t:TypeId) (s x:Value):Option (Hp×Value):=match E.und t with
 | some (.slice e)=>match E.ty e with
   |none=>none
   | some i=>match s with
     | .slice a b c=>match aM h i.size x with
       |none=>none
       |some (n,d)=>eZ E h e i a b c n d
     |_=>none
 |_=>none
def cZ(E:Env)(h:Hp)(ts:List TypeId)(s x:Value):Option (Hp×Value):=match ts with
 | t::a::_=>match dD E a with
   |some false=>jg E h t s x
   |_=>none
 |_=>none
def copyV (E : Env) (h:Hp) (ts:List TypeId) (d s:Value):Option (Hp×Value):=match ts with
 | t :: _ => match E.und t with
   | some (.slice e)=>match E.sz e with
     |none=>none
     | some k=>match d with
       | .slice a c _=>match s with
         | .slice none 0 _=>some (h,.int .i64 0)
         | .slice (some b) m _=>match h.load b.block b.off (dO m c*k)with
           |none=>none
           |some []=>some (h,.int .i64 (.ofNat (dO m c)))
           | some (x::f)=>match a with
             |none=>none
             | some a=>match h.store a.block a.off (x::f)with
               |none=>none
               |some g=>some (g,.int .i64 (.ofNat (dO m c)))
         |_=>none
       |_=>none
   |_=>none
 |_=>none
def bytesOf:List Value->Option (List UInt8)
 | []=>some []
 | .int .u8 (.ofNat n)::l=>match bytesOf l with
   |none=>none
   |some r=>some (UInt8.ofNat n::r)
 |_=>none
def strOf(h:Hp):Value->Option Value
 | .slice none _ _=>some (.string (gG []))
 | .slice (some a) n _=>match h.load a.block a.off n with
   |none=>none
   | some l=>match bytesOf l with
     |none=>none
     |some r=>some (.string (gG r))
 |_=>none
def bytesV(h:Hp)(e:TypeId)(s:ByteArray):Hp×Value:=
 (h.new (.cells (Tr.ofList ((aF s).map fun b=>.int .u8 (.ofNat b.toNat))) s.size e 1),.slice (some ⟨h.n,0,some 1⟩) s.size s.size)
def cv(E:Env)(b a:TypeId):Option (Nat×TypeId):=match E.und b with
 |none=>none
 | some (.slice e)=>match E.und a with
   | some .string=>match E.und e with
     |some (.int .u8)=>some (1,e)
     |_=>none
   |_=>none
 | some .string=>match E.und a with
   | some (.slice e)=>match E.und e with
     |some (.int .u8)=>some (2,e)
     |_=>none
   |some _=>some (0,0)
   |none=>none
 |some _=>some (0,0)
def jy(E:Env)(h:Hp)(b a:TypeId)(x:Value):Option (Hp×Value):=match cv E b a with
 | some (0,_)=>match jx E a x with
   |none=>none
   |some v=>some (h,v)
 | some (1,_)=>match strOf h x with
   |none=>none
   |some v=>some (h,v)
 | some (2,e)=>match x with
   | .string s=>bif Xc s.size 1099511627776 then some (bytesV h e s)else none
   |_=>none
 |_=>none
def target(f:Value)(args:List Value):Option c8:=match f with
 | .func (.func g) a b=>some (.call g (a.toList++args++b.toList))
 | .func (.yield l) a b=>bif a.toList.isEmpty&&b.toList.isEmpty then some (.yield l args)else none
 |_=>none

def cR(r:Option (Hp×Value)):Option (c8×Hp):=match r with
 |none=>none
 |some (h,v)=>some (.val v,h)
def eQ(r:Option Hp):Option (c8×Hp):=match r with
 |none=>none
 |some h=>some (.skip,h)
def cq(h:Hp)(r:Option Value):Option (c8×Hp):=match r with
 |none=>none
 |some v=>some (.val v,h)

def aop (E : Env) (ρ:Operand->Value) (h:Hp):Op->Option (c8×Hp)
 | .load t a=>cq h (eJ E h t (ρ a))
 | .convert i j x=>cR (jy E h i j (ρ x))
 | .store t a x=>eQ (ii E h t (ρ a) (ρ x))
 | .alloc e=>match E.zero e with
   |none=>none
   |some z=>cR (some (qq h z e))
 | .box e x=>match ρ x with
   | .chan _=>none
   |v=>cR (some (qq h (ah v) e))
 | .buildSlice t n d=>cR (je E h t n (d.toList.map fun p=>(p.1,ρ p.2)))
 | .makeSlice t l c=>cR (iZ E h t (ρ l) (ρ c))
 | .makeMap _ none=>some (.val (.map (some h.n)),h.new (.map [] 0))
 | .lookup t m k o=>cq h (ce E h t (ρ m) (ρ k) o)
 | .mapUpdate t m k v=>eQ (dH E h t (ρ m) (ρ k) (ρ v))
 | .insert t m k v=>eQ (dH E h t (ρ m) (ρ k) (ρ v))
 | .mapEntry t m k=>cR (ic E h t (ρ m) (ρ k))
 | .entryStore _ m s v=>eQ (ku h (ρ m) (ρ s) (ρ v))
 | .panic x=>match ρ x with
   | .iface t v=>some (.panic (.iface t v),h)
   |_=>none
 | .defer c=>match c.callee with
   | .value f=>match ρ f with
     | .func (.func g) a b=>some (.defer {target:=.fn (.func g) b,args:=⟨a.toList++c.args.toList.map ρ⟩},h)
     |_=>none
   |_=>none
 | .call c =>match c.callee with
   | .value f=>match target (ρ f) (c.args.toList.map ρ)with
     |none=>none
     |some x=>some (x,h)
   | .builtin .append=>match c.args.toList with
     |s::x::_=>cR (cZ E h c.argTypes.toList (ρ s) (ρ x))
     |_=>none
   | .builtin .copy=>match c.args.toList with
     |s::x::_=>cR (copyV E h c.argTypes.toList (ρ s) (ρ x))
     |_=>none
   | .builtin .delete=>match c.argTypes.toList,c.args.toList with
     | t::_,m::k::_=>match lq E h t (ρ m) (ρ k)with
       |none=>none
       |some q=>some (.val (.tuple #[]),q)
     |_,_=>none
   | .builtin .recover=>some (.recov,h)
   | .builtin .len=>match pop E ρ (.call c)with
     |some v=>some (.val v,h)
     | none => match c.args.toList with
       | x ::_=>match ρ x with
         | .map (some r)=>match h.get r with
           | some (.map u _)=>match c.argTypes.toList with
             | t::_=>match E.und t with
               |some (.map _ _)=>some (.val (.int .i64 (.ofNat u.length)),h)
               |_=>none
             |_=>none
           |_=>none
         |_=>none
       |_=>none
   | .builtin _=>cq h (pop E ρ (.call c))
   | .invoke _ _=>none
 |op=>cq h (pop E ρ op)

end
end Go.Ab

namespace Go.Ab

theorem bN(a b:Nat):zM a b=decide (a=b):=by
 by_cases h:a=b
 . subst h;simp [Nat.beq_refl]
 . have:zM a b=false:=by
    cases c:zM a b with
    |false=>rfl
    |true=>exact absurd (Nat.eq_of_beq_eq_true c) h
   rw [this];simp [h]
theorem dK(a b:Nat):Xc a b=decide (a<=b):=by
 by_cases h:a<=b
 . have:=Nat.ble_eq_true_of_le h;rw [this];simp [h]
 . cases c:Xc a b with
   |false=>simp [h]
   |true=>exact absurd (Nat.le_of_ble_eq_true c) h
theorem gY(a b:Nat):Xa a b=decide (a<b):=by
 show Xc (a+1) b=_
 rw [dK];simp [Nat.lt_iff_add_one_le]
theorem bits_pw(k:IntKind):(2:Int) ^k.bits=(pw k:Int):=by cases k<;>rfl
theorem bits_hf(k:IntKind)(h:sgn k=true):(2:Int) ^(k.bits-1)=(hf k:Int):=by cases k<;>first|rfl|(simp [sgn]at h)
theorem sgn_eq(k:IntKind):sgn k=k.signed:=by cases k<;>rfl
theorem hZ(k:IntKind)(n:Int):an k n=k.wrap n:=by
 have h:k.wrap n=if sgn k=true/\n%(pw k:Int)≥(hf k:Int)then n%(pw k:Int)-(pw k:Int)else n%(pw k:Int):=by
  unfold IntKind.wrap
  rw [bits_pw,<-sgn_eq]
  by_cases a:sgn k=true
  . rw [bits_hf k a];simp [a]
  . simp [a]
 rw [h]
 cases n with
 | ofNat m=>
   have e:(Xb m)%(pw k:Int)=((m%pw k:Nat):Int):=rfl
   rw [e]
   simp only [an]
   by_cases d:m<hf k
   . have:Xa m (hf k)=true:=by simpa [Xg]using d
     rw [this]
     have g:m%pw k=m:=Xf (by cases k<;>simp only [hf,pw]at* <;>omega)
     rw [g,if_neg (by omega)];rfl
   . have:Xa m (hf k)=false:=by rw [gY];simpa using d
     rw [this]
     simp only [cond_false]
     by_cases a:sgn k=true
     . rw [a]
       simp only [cond_true]
       have hlt:m%pw k<pw k:=Nat.mod_lt _ (by cases k<;>simp [pw])
       by_cases f:m%pw k<hf k
       . have:Xa (m%pw k) (hf k)=true:=by simpa [Xg]using f
         rw [this,if_neg (by omega)];rfl
       . have:Xa (m%pw k) (hf k)=false:=by rw [gY];simpa using f
         rw [this,if_pos ⟨by simp,by omega⟩]
         simp only [cond_false,Xh];omega
     . have c:sgn k=false:=by simpa using a
       rw [c];simp
 | negSucc m=>
   have b:0<pw k:=by cases k<;>simp [pw]
   have e:(Xe m)%(pw k:Int)=((pw k-1-m%pw k:Nat):Int):=by
    have hlt:m%pw k<pw k:=Nat.mod_lt _ b
    have i:=Nat.div_add_mod m (pw k)
    have:Xe m=(pw k:Int)*(-((m/pw k:Nat):Int)-1)+((pw k-1-m%pw k:Nat):Int):=by
     rw [Xh]
     have:(m:Int)=(pw k:Int)*((m/pw k:Nat):Int)+((m%pw k:Nat):Int):=by exact_mod_cast i.symm
     rw [Int.mul_sub,Int.mul_neg,Int.mul_one];omega
    rw [this,Int.add_comm,Int.add_mul_emod_self_left]
    exact Int.emod_eq_of_lt (by omega) (by omega)
   rw [e]
   simp only [an]
   have hlt:m%pw k<pw k:=Nat.mod_lt _ b
   by_cases a:sgn k=true
   . rw [a]
     simp only [cond_true]
     have j:2*hf k=pw k:=by cases k<;>first|rfl|(simp [sgn]at a)
     by_cases d:m<hf k
     . have:Xa m (hf k)=true:=by simpa [Xg]using d
       rw [this]
       have g:m%pw k=m:=Xf (by omega)
       rw [g,if_pos ⟨by simp,by omega⟩];simp only [cond_true,Xh];omega
     . have:Xa m (hf k)=false:=by rw [gY];simpa using d
       rw [this]
       simp only [cond_false]
       by_cases f:pw k-1-m%pw k<hf k
       . have:Xa (pw k-1-m%pw k) (hf k)=true:=by simpa [Xg]using f
         rw [this,if_neg (by omega)];rfl
       . have:Xa (pw k-1-m%pw k) (hf k)=false:=by rw [gY];simpa using f
         rw [this,if_pos ⟨by simp,by omega⟩]
         simp only [cond_false,Xh];omega
   . have c:sgn k=false:=by simpa using a
     rw [c];simp
theorem ia(a b:Int):lG a b=decide (a<b):=by
 cases a<;>cases b<;>simp only [lG]
 . rename_i m n
   by_cases h:m<n
   . have:Xa m n=true:=by simpa [Xg]using h
     rw [this];symm;simpa using h
   . have:Xa m n=false:=by rw [gY];simpa using h
     rw [this];symm;simpa using h
 . symm;simp;omega
 . symm;simp;omega
 . rename_i m n
   by_cases h:n<m
   . have:Xa n m=true:=by simpa [Xg]using h
     rw [this];symm;simp;omega
   . have:Xa n m=false:=by rw [gY];simpa using h
     rw [this];symm;simp;omega
theorem gI(a b:Int):gX a b=(a==b):=by
 cases a<;>cases b<;>simp only [gX]<;>first|(rw [bN];rename_i m n;by_cases h:m=n<;>simp [h]<;>omega)|(symm;simp)
theorem kidx_inj{a b:IntKind}(h:kidx a=kidx b):a=b:=by cases a<;>cases b<;>first|rfl|(simp [kidx]at h)
theorem fQ(a b:IntKind):jS a b=decide (a=b):=by
 unfold jS;rw [bN]
 by_cases h:a=b
 . simp [h]
 . have:kidx a≠kidx b:=fun e=>h (kidx_inj e)
   simp [h,this]
theorem oI{i:Int}{n:Nat}(h:gf i=some n):i=n:=by cases i<;>simp [gf]at h;subst h;rfl
theorem bitsOf_eq(k:IntKind):bitsOf k=k.bits:=by cases k<;>rfl
theorem pw_bits(k:IntKind):pw k=2 ^k.bits:=by cases k<;>rfl

theorem oz (P:Program) (w:World) {op:BinOp} {k:IntKind} {x y:Int} {z:Int} (h:qy op k x y=some z):
 (Op.intBits op k x y).run P w=.ok (.int k z) w:=by
 unfold qy at h
 cases x with
 | negSucc a=>
   cases y with
   |negSucc b=>simp at h
   | ofNat b=>
     simp only []at h
     by_cases g:b=1
     . subst g
       rw [Nat.beq_refl,cond_true]at h
       cases op<;>simp only []at h<;>first|(cases h;done)|skip
       cases h
       simp only [Op.intBits]
       have r:0<k.bits:=by cases k<;>decide
       obtain⟨m,j⟩: ∃m,k.bits=m+1:=⟨k.bits-1,by omega⟩
       have l:(BitVec.ofInt k.bits (Xb 1)).toNat=1:=by
        rw [BitVec.toNat_ofInt,j]
        have:(1:Int)%((2 ^(m+1):Nat):Int)=1:=by
         rw [Int.emod_eq_of_lt (by omega)]
         have:1<2 ^(m+1):=Nat.one_lt_two_pow (by omega)
         omega
        show((1:Int)%((2 ^(m+1):Nat):Int)).toNat=1
        rw [this];rfl
       have o:(BitVec.ofInt k.bits (Xe a)).toNat%2=(a+1)%2:=by
        rw [BitVec.toNat_ofInt,j,Nat.pow_succ]
        have p:(0:Int)<((2 ^m*2:Nat):Int):=by have:=Nat.pow_pos (n:=m) (show 0<2 by omega);omega
        have s:=Int.emod_nonneg (Xe a) (Int.ne_of_gt p)
        have t:(Xe a%((2 ^m*2:Nat):Int))%2=Xe a%2:=by
         rw [Int.emod_emod_of_dvd]
         exact⟨((2 ^m:Nat):Int),by omega⟩
        omega
       rw [BitVec.toNat_and,l,Nat.and_one_is_mod,o]
       have:k.wrap (((a+1)%2:Nat):Int)=(((a+1)%2:Nat):Int):=by
        rcases Nat.mod_two_eq_zero_or_one (a+1)with e|e<;>rw [e]<;>cases k<;>rfl
       rw [show((Xb ((a+1)%2)):Int)=(((a+1)%2:Nat):Int)from rfl]
       first|rw [this];rfl|(simp only [this];rfl)
     . have:zM b 1=false:=by rw [bN];simpa using g
       rw [this]at h;simp at h
 | ofNat a=>
   cases y with
   |negSucc b=>simp at h
   | ofNat b=>
     simp only []at h
     rw [gY,gY,pw_bits]at h
     by_cases c:a<2 ^k.bits/\b<2 ^k.bits
     . simp only [c.1,c.2,decide_true,Bool.and_self,cond_true]at h
       have d:(BitVec.ofInt k.bits (Xb a)).toNat=a:=by
        rw [BitVec.toNat_ofInt,show((Xb a)%((2 ^k.bits:Nat):Int))=((a%2 ^k.bits:Nat):Int)from rfl,Xf c.1];rfl
       have f:(BitVec.ofInt k.bits (Xb b)).toNat=b:=by
        rw [BitVec.toNat_ofInt,show((Xb b)%((2 ^k.bits:Nat):Int))=((b%2 ^k.bits:Nat):Int)from rfl,Xf c.2];rfl
       cases op<;>simp only []at h<;>first|(cases h;done)|skip
       . cases h;simp only [Op.intBits];rw [BitVec.toNat_and,d,f,hZ];rfl
       . cases h;simp only [Op.intBits];rw [BitVec.toNat_or,d,f,hZ];rfl
       . cases h;simp only [Op.intBits];rw [BitVec.toNat_xor,d,f,hZ];rfl
       . cases h;simp only [Op.intBits]
         have:BitVec.ofInt k.bits (Xb a)&&& ~~~ BitVec.ofInt k.bits (Xb b)=BitVec.ofInt k.bits (Xb a) ^^^(BitVec.ofInt k.bits (Xb a)&&& BitVec.ofInt k.bits (Xb b)):=by
          apply BitVec.eq_of_getLsbD_eq
          intro i q
          simp only [BitVec.getLsbD_and,BitVec.getLsbD_not,BitVec.getLsbD_xor,q,decide_true,Bool.true_and]
          cases(BitVec.ofInt k.bits (Xb a)).getLsbD i<;>cases(BitVec.ofInt k.bits (Xb b)).getLsbD i<;>rfl
         rw [this,BitVec.toNat_xor,BitVec.toNat_and,d,f,hZ];rfl
     . have:(decide (a<2 ^k.bits)&&decide (b<2 ^k.bits))=false:=by
        rw [<-Bool.not_eq_true];simpa using c
       rw [this]at h;simp at h

theorem shift_run (P:Program) (w:World) {op:BinOp} {k k':IntKind} {x y:Int} {z:Int} (h:rx op k x y=some z):
 (Op.shift op k x k' y).run P w=.ok (.int k z) w:=by
 unfold rx at h
 cases b:gf y with
 |none=>simp [b]at h
 | some n=>
   have:=oI b
   subst this
   simp only [b]at h
   have a:(bif Xc n (bitsOf k)then n else bitsOf k)=min (n:Int).toNat k.bits:=by
    rw [dK,bitsOf_eq];simp only [Int.toNat_natCast]
    by_cases d:n<=k.bits
    . simp [d,Nat.min_eq_left]
    . simp [d];omega
   rw [a]at h
   unfold Op.shift
   rw [if_neg (by omega)]
   cases op<;>simp only []at h<;>first|(cases h;done)|skip
   . cases h;simp only [];rw [hZ]
     have:(Xb (Xm 2 (min (n:Int).toNat k.bits)):Int)=2 ^(min (n:Int).toNat k.bits):=by
      rw [show Xm 2 (min (n:Int).toNat k.bits)=2 ^(min (n:Int).toNat k.bits)from rfl]
      simp
     rw [this];rfl
   . cases h;simp only []
     have:shrI x (min (n:Int).toNat k.bits)=x.fdiv (2 ^(min (n:Int).toNat k.bits)):=by
      generalize min (n:Int).toNat k.bits=j
      have c:((2:Int) ^j)=((2 ^j:Nat):Int):=by simp
      rw [c]
      have e:0<2 ^j:=Nat.pow_pos (by omega)
      rw [Int.fdiv_eq_ediv_of_nonneg _ (by omega)]
      cases x with
      |ofNat m=>rfl
      | negSucc m=>
        simp only [shrI]
        obtain⟨p,c⟩: ∃p,2 ^j=p+1:=⟨2 ^j-1,by omega⟩
        rw [show Xm 2 j=2 ^j from rfl,c];rfl
     rw [this];rfl

theorem arith_run(P:Program)(w:World){op:BinOp}{k:IntKind}{x y:Int}{v:Value}(h:gR op k x y=some v):
 (match op with
   | .add| .sub| .mul=>Op.intArith op k x y
   | .quo| .rem=>Op.intDiv op k x y
   | .and| .or| .xor| .andNot=>Op.intBits op k x y
   |_=>Op.intCmp op x y).run P w=.ok v w:=by
 cases op<;>simp only [gR]at h⊢
 case add=>cases h;rw [hZ];rfl
 case sub=>cases h;rw [hZ];rfl
 case mul=>cases h;rw [hZ];rfl
 case quo=>
  rw [gI]at h
  by_cases a:y=0
  . simp [a]at h
  . have:(y==0)=false:=by simpa using a
    rw [this]at h;simp only [cond_false]at h;cases h
    unfold Op.intDiv;rw [if_neg a,hZ];rfl
 case rem=>
  rw [gI]at h
  by_cases a:y=0
  . simp [a]at h
  . have:(y==0)=false:=by simpa using a
    rw [this]at h;simp only [cond_false]at h;cases h
    unfold Op.intDiv;rw [if_neg a];rfl
 case and=>obtain⟨z,b,rfl⟩:=Option.map_eq_some_iff.1 h;exact oz P w b
 case or=>obtain⟨z,b,rfl⟩:=Option.map_eq_some_iff.1 h;exact oz P w b
 case xor=>obtain⟨z,b,rfl⟩:=Option.map_eq_some_iff.1 h;exact oz P w b
 case andNot=>obtain⟨z,b,rfl⟩:=Option.map_eq_some_iff.1 h;exact oz P w b
 case shl=>cases h
 case shr=>cases h
 case eql=>cases h;rw [gI];rfl
 case neq=>cases h;rw [gI];rfl
 case lss=>cases h;rw [ia];rfl
 case leq=>cases h;rw [ia];simp [Op.intCmp];by_cases c:y<x<;>simp [c]<;>omega
 case gtr=>cases h;rw [ia];rfl
 case geq=>cases h;rw [ia];simp [Op.intCmp];by_cases c:x<y<;>simp [c]<;>omega

theorem iR (x y:List UInt8):gH x y=(x==y):=by
 induction x generalizing y with
 |nil=>cases y<;>simp [gH]
 | cons a x c=>
   cases y with
   |nil=>simp [gH]
   | cons b y=>
     simp only [gH,c,bN]
     have:(a==b)=decide (a.toNat=b.toNat):=by
      by_cases h:a=b
      . simp [h]
      . have:a.toNat≠b.toNat:=fun e=>h (UInt8.toNat_inj.1 e)
        simp [h,this]
     rw [<-this];rfl
theorem Bk (x y:List UInt8):ja x y=Op.bytesLess x y:=by
 induction x generalizing y with
 |nil=>cases y<;>simp [ja,Op.bytesLess]
 | cons a x c=>
   cases y with
   |nil=>simp [ja,Op.bytesLess]
   | cons b y=>
     simp only [ja,Op.bytesLess,c,bN,gY]
     have d:(a==b)=decide (a.toNat=b.toNat):=by
      by_cases h:a=b
      . simp [h]
      . have:a.toNat≠b.toNat:=fun e=>h (UInt8.toNat_inj.1 e)
        simp [h,this]
     have f:decide (a<b)=decide (a.toNat<b.toNat):=by
      by_cases h:a<b
      . have:=UInt8.lt_iff_toNat_lt.1 h;simp [h,this]
      . have: ¬a.toNat<b.toNat:=fun e=>h (UInt8.lt_iff_toNat_lt.2 e)
        simp [h,this]
     rw [d,f]
end Go.Ab

namespace Go.Ab

inductive Pt where
 |none
 |dead
 |blk (c base top:Nat)
abbrev Mu:=Nat->Pt

def eg(mu:Mu)(a d:Addr):Prop:=match mu a.block with
 | .none=>False
 | .dead=>True
 | .blk c b _=>d=⟨c,b+a.off,none⟩
def dE(mu:Mu)(a:Addr)(cap:Nat)(d:Addr)(cap':Nat):Prop:=match mu a.block with
 | .none=>False
 | .dead=>cap<=cap'
 | .blk c b e=>match a.spot with
   |none=>cap'=cap/\d=⟨c,b+a.off,none⟩
   |some k=>cap<=cap'/\d.block=c/\d.spot=none/\d.off+cap'*k<=e/\(cap=0\/d.off=b+a.off)
def dp(mu:Mu)(b c:Nat):Prop:=match mu b with
 | .none=>False
 | .dead=>True
 | .blk d a _=>c=d/\a=0

inductive ao(mu:Mu):Value->Value->Prop
 |poison (v:Value):ao mu (.chan none) v
 |bool (b:Bool):ao mu (.bool b) (.bool b)
 |int (k:IntKind) (n:Int):ao mu (.int k n) (.int k n)
 |string (s:ByteArray):ao mu (.string s) (.string s)
 |nilp:ao mu (.pointer none) (.pointer none)
 |ptr {a a':Addr}:eg mu a a'->ao mu (.pointer (some a)) (.pointer (some a'))
 |nils:ao mu (.slice none 0 0) (.slice none 0 0)
 |slice {a a':Addr} {len cap cap':Nat}:len<=cap->dE mu a cap a' cap'->ao mu (.slice (some a) len cap) (.slice (some a') len cap')
 |nilm:ao mu (.map none) (.map none)
 |map {b c:Nat}:dp mu b c->ao mu (.map (some b)) (.map (some c))
 |fn {f:FuncId} {x x' y y':Array Value}:x.toList.length=x'.toList.length->(∀(i:Nat) v v',x.toList[i]? =some v->x'.toList[i]? =some v'->ao mu v v')->
  y.toList.length=y'.toList.length->(∀(i:Nat) v v',y.toList[i]? =some v->y'.toList[i]? =some v'->ao mu v v')->ao mu (.func (.func f) x y) (.func (.func f) x' y')
 |yield {b c:Nat}:dp mu b c->ao mu (.func (.yield b) #[] #[]) (.func (.yield c) #[] #[])
 |nilf:ao mu .nilFunc .nilFunc
 |nili:ao mu .nilIface .nilIface
 |iface {t:TypeId} {v v':Value}:ao mu v v'->ao mu (.iface t v) (.iface t v')
 |agg {x x':Array Value}:x.toList.length=x'.toList.length->(∀(i:Nat) v v',x.toList[i]? =some v->x'.toList[i]? =some v'->ao mu v v')->ao mu (.agg x) (.agg x')
 |tuple {x x':Array Value}:x.toList.length=x'.toList.length->(∀(i:Nat) v v',x.toList[i]? =some v->x'.toList[i]? =some v'->ao mu v v')->ao mu (.tuple x) (.tuple x')

def LR{α a:Type}(R:α->a->Prop)(l:List α)(l':List a):Prop:=l.length=l'.length/\ ∀(i:Nat) v b,l[i]? =some v->l'[i]? =some b->R v b

section lists
variable{α β:Type}{R:α->β->Prop}
theorem LR.nil:LR R [] []:=⟨rfl,by simp⟩
theorem LR.cons{a:α}{b:β}{l:List α}{l':List β}(h:R a b)(t:LR R l l'):LR R (a::l) (b::l'):=by
 refine⟨by simp [t.1],fun i v e d c=>?_⟩
 cases i with
 |zero=>simp at d c;subst d;subst c;exact h
 |succ i=>simp at d c;exact t.2 i v e d c
theorem LR.head{a:α}{b:β}{l:List α}{l':List β}(h:LR R (a::l) (b::l')):R a b:=h.2 0 a b (by simp) (by simp)
theorem LR.tail{a:α}{b:β}{l:List α}{l':List β}(h:LR R (a::l) (b::l')):LR R l l':=
 ⟨by have:=h.1;simpa using this,fun i v d e c=>h.2 (i+1) v d (by simpa using e) (by simpa using c)⟩
theorem LR.nil_left{l':List β}(h:LR R [] l'):l'=[]:=by have:=h.1;cases l'<;>simp_all
theorem LR.cons_left{a:α}{l:List α}{l':List β}(h:LR R (a::l) l'): ∃b r,l'=b::r/\R a b/\LR R l r:=by
 cases l' with
 |nil=>have:=h.1;simp at this
 |cons b r=>exact⟨b,r,rfl,h.head,h.tail⟩
theorem LR.append{l r:List α}{l' c:List β}(h:LR R l l')(k:LR R r c):LR R (l++r) (l'++c):=by
 induction l generalizing l' with
 |nil=>rw [h.nil_left];exact k
 | cons a l d=>
   obtain⟨b,g,rfl,e,f⟩:=h.cons_left
   exact LR.cons e (d f)
theorem LR.mono{S:α->β->Prop}{l:List α}{l':List β}(h:LR R l l')(k: ∀a b,R a b->S a b):LR S l l':=⟨h.1,fun i v c a b=>k _ _ (h.2 i v c a b)⟩
theorem LR.get{l:List α}{l':List β}(h:LR R l l'){i:Nat}{v:α}(a:l[i]? =some v): ∃v',l'[i]? =some v'/\R v v':=by
 have b:i<l'.length:=by rw [<-h.1];exact(List.getElem?_eq_some_iff.1 a).1
 exact⟨l'[i],Xj b,h.2 i v _ a (Xj b)⟩
theorem LR.drop{l:List α}{l':List β}(h:LR R l l')(n:Nat):LR R (l.drop n) (l'.drop n):=
 ⟨by simp [h.1],fun i v c a b=>h.2 (n+i) v c (by simpa using a) (by simpa using b)⟩
theorem LR.take{l:List α}{l':List β}(h:LR R l l')(n:Nat):LR R (l.take n) (l'.take n):=by
 refine⟨by simp [h.1],fun i v c a b=>?_⟩
 rw [List.getElem?_take]at a b
 split at a
 . rename_i d;rw [if_pos d]at b;exact h.2 i v c a b
 . cases a
theorem LR.set{l:List α}{l':List β}(h:LR R l l')(n:Nat){a:α}{b:β}(e:R a b):LR R (l.set n a) (l'.set n b):=by
 refine⟨by simp [h.1],fun i v g d c=>?_⟩
 rw [List.getElem?_set]at d c
 split at d
 . rename_i f
   rw [if_pos f]at c
   split at d
   . rename_i j
     rw [if_pos (by rw [<-h.1];exact j)]at c
     cases d;cases c;exact e
   . cases d
 . rename_i f;rw [if_neg f]at c;exact h.2 i v g d c
theorem LR.map{γ d:Type}{f:γ->α}{g:d->β}{S:γ->d->Prop}{l:List γ}{l':List d}(h:LR S l l')(k: ∀a b,S a b->R (f a) (g b)):LR R (l.map f) (l'.map g):=by
 refine⟨by simp [h.1],fun i v n e c=>?_⟩
 simp only [List.getElem?_map,Option.map_eq_some_iff]at e c
 obtain⟨a,j,rfl⟩:=e
 obtain⟨b,m,rfl⟩:=c
 exact k _ _ (h.2 i a b j m)
theorem LR.mapSame{γ:Type}{f:γ->α}{g:γ->β}(l:List γ)(k: ∀a,R (f a) (g a)):LR R (l.map f) (l.map g):=by
 induction l with
 |nil=>exact LR.nil
 |cons a l b=>exact LR.cons (k a) b
theorem LR.replicate{a:α}{b:β}(h:R a b)(n:Nat):LR R (List.replicate n a) (List.replicate n b):=by
 induction n with
 |zero=>exact LR.nil
 |succ n c=>exact LR.cons h c
theorem LR.refl{S:α->α->Prop}{l:List α}(h: ∀a∈l,S a a):LR S l l:=by
 refine⟨rfl,fun i v d c b=>?_⟩
 rw [c]at b;cases b;exact h v (Xn c)
end lists

def Le(mu a:Mu):Prop:= ∀b,mu b≠ .none->a b=mu b\/a b=.dead
theorem Le.refl(mu:Mu):Le mu mu:=fun _ _=>.inl rfl
theorem Le.trans{a b c:Mu}(h:Le a b)(k:Le b c):Le a c:=by
 intro x f
 rcases h x f with e|e
 . rcases k x (by rw [e];exact f)with d|d
   . exact .inl (d.trans e)
   . exact .inr d
 . rcases k x (by rw [e];simp)with d|d
   . exact .inr (d.trans e)
   . exact .inr d

theorem eg.mono{mu d:Mu}(h:Le mu d){a f:Addr}(k:eg mu a f):eg d a f:=by
 unfold eg at*
 cases b:mu a.block with
 |none=>rw [b]at k;exact k.elim
 |dead=>rcases h a.block (by rw [b];simp)with e|e<;>(try rw [e,b])<;>(try rw [e])<;>trivial
 | blk c g i=>
   rw [b]at k
   rcases h a.block (by rw [b];simp)with e|e
   . rw [e,b];exact k
   . rw [e];trivial
theorem dE.caps{mu:Mu}{a f:Addr}{cap cap':Nat}(k:dE mu a cap f cap'):cap<=cap':=by
 unfold dE at k
 cases b:mu a.block with
 |none=>rw [b]at k;exact k.elim
 |dead=>rw [b]at k;exact k
 | blk c d g=>
   rw [b]at k
   cases e:a.spot with
   |none=>rw [e]at k;simp only []at k;omega
   |some j=>rw [e]at k;simp only []at k;omega
theorem dE.mono{mu d:Mu}(h:Le mu d){a f:Addr}{cap cap':Nat}(k:dE mu a cap f cap'):dE d a cap f cap':=by
 have g:=k.caps
 unfold dE at*
 cases b:mu a.block with
 |none=>rw [b]at k;exact k.elim
 |dead=>rcases h a.block (by rw [b];simp)with e|e<;>(try rw [e,b])<;>(try rw [e])<;>exact g
 | blk c i j=>
   rw [b]at k
   rcases h a.block (by rw [b];simp)with e|e
   . rw [e,b];exact k
   . rw [e];exact g
theorem dp.mono{mu d:Mu}(h:Le mu d){b c:Nat}(k:dp mu b c):dp d b c:=by
 unfold dp at*
 cases a:mu b with
 |none=>rw [a]at k;exact k.elim
 |dead=>rcases h b (by rw [a];simp)with e|e<;>(try rw [e,a])<;>(try rw [e])<;>trivial
 | blk c f g=>
   rw [a]at k
   rcases h b (by rw [a];simp)with e|e
   . rw [e,a];exact k
   . rw [e];trivial
theorem ao.mono{mu c:Mu}(h:Le mu c){v v':Value}(k:ao mu v v'):ao c v v':=by
 induction k with
 |poison v=>exact .poison v
 |bool b=>exact .bool b
 |int k n=>exact .int k n
 |string s=>exact .string s
 |nilp=>exact .nilp
 |ptr a=>exact .ptr (a.mono h)
 |nils=>exact .nils
 |slice l a=>exact .slice l (a.mono h)
 |nilm=>exact .nilm
 |map a=>exact .map (a.mono h)
 |fn a _ b _ d e=>exact .fn a d b e
 |yield a=>exact .yield (a.mono h)
 |nilf=>exact .nilf
 |nili=>exact .nili
 |iface _ i=>exact .iface i
 |agg a _ i=>exact .agg a i
 |tuple a _ i=>exact .tuple a i
abbrev VL(mu:Mu):=LR (ao mu)
theorem VL.mono{mu a:Mu}(h:Le mu a){l l':List Value}(k:VL mu l l'):VL a l l':=LR.mono k fun _ _=>ao.mono h

theorem ao.const(mu:Mu){v:Value}(h:cJ v=true):ao mu v v:=by
 unfold cJ at h
 split at h<;>first|exact .bool _|exact .int _ _|exact .string _|exact .nilp|exact .nils|exact .nilm|exact .nilf|exact .nili|(cases h)
theorem ao.const_eq{mu:Mu}{v v':Value}(h:cJ v=true)(k:ao mu v v'):v'=v:=by
 cases k<;>first|rfl|(simp [cJ]at h)
theorem ao.cells{mu:Mu}{v v':Value}(h:ao mu v v')(c: ∀x,v≠ .chan x):VL mu (ah v) v'.cells.toList:=by
 cases h<;>first
  |exact absurd rfl (c _)
  |(rename_i a b;exact⟨a,b⟩)
  |(exact LR.cons (by first|assumption|(constructor<;>assumption)|constructor) LR.nil)
theorem ao.flat{mu:Mu}{v v':Value}(h:ao mu v v')(hf:iU v=true):v'.oneCell'=true:=by
 cases h<;>first|rfl|(simp [iU]at hf)

def kJ(mu:Mu):List (Value×Value×Nat)->List MapEntry->Prop:=LR fun x e=>e.key=x.1/\rY x.1=true/\ao mu x.2.1 e.val/\e.born=x.2.2
structure iH(mu:Mu)(t:Tr Value)(n:Nat)(tmps:Array Value):Prop where
 size:tmps.size=n
 sized:t.Sized n
 get: ∀i v,t.get i=some v-> ∃v',tmps[i]? =some v'/\ao mu v v'
def stOf:LoopState->Nat
 | .ready=>0
 | .busy=>1
 | .done=>2
 | .exhausted=>3
structure lg(mu:Mu)(l:gW)(l':Loop):Prop where
 fn:l'.fn=l.fn
 regs:iH mu l.regs l.nr l'.tmps
 params:l'.params=l.params
 assign:l'.assign=l.assign
 body:l'.body=l.body
 st:stOf l'.state=l.st
 pending:l'.pending=l.pending
structure CRel(mu:Mu)(t:Tr Value)(sz md base top:Nat)(cs:Array Value)(fz:Nat×Nat):Prop where
 whole:cs.size=top
 fits:base+sz<=top
 sized:t.Sized sz
 get: ∀i v,t.get i=some v-> ∃v',cs[base+i]? =some v'/\ao mu v v'
 free:md≠0-> ∀i,i<cs.size-> ¬(fz.1<=i/\i<fz.2)
def kp(mu:Mu)(x:Blk)(base top:Nat)(o:Obj):Prop:=match x with
 | .dead=>False
 | .cells t f _ g=> ∃c el d,o=.cells c el d/\CRel mu t f g base top c d
 | .map h a=>base=0/\ ∃b,o=.map b a/\kJ mu h b.toList
 | .loop l=>base=0/\ ∃e,o=.loop e/\lg mu l e
 | .dfr=>base=0/\o=.deferred (some [])

theorem iH.mono{mu c:Mu}(h:Le mu c){t:Tr Value}{n:Nat}{tmps:Array Value}(k:iH mu t n tmps):iH c t n tmps:=
 ⟨k.size,k.sized,fun i v d=>let⟨e,a,b⟩:=k.get i v d;⟨e,a,b.mono h⟩⟩
theorem lg.mono{mu a:Mu}(h:Le mu a){l:gW}{l':Loop}(k:lg mu l l'):lg a l l':=
 ⟨k.fn,k.regs.mono h,k.params,k.assign,k.body,k.st,k.pending⟩
theorem CRel.mono{mu c:Mu}(h:Le mu c){t:Tr Value}{d md base top:Nat}{cs:Array Value}{e:Nat×Nat}(k:CRel mu t d md base top cs e):CRel c t d md base top cs e:=
 ⟨k.whole,k.fits,k.sized,fun i v f=>let⟨g,a,b⟩:=k.get i v f;⟨g,a,b.mono h⟩,k.free⟩
theorem kp.mono{mu d:Mu}(h:Le mu d){x:Blk}{base top:Nat}{o:Obj}(k:kp mu x base top o):kp d x base top o:=by
 cases x with
 |dead=>exact k
 |cells t p el q=>obtain⟨j,f,m,e,r⟩:=k;exact⟨j,f,m,e,r.mono h⟩
 |map s c=>obtain⟨g,i,e,r⟩:=k;exact⟨g,i,e,LR.mono r fun a b x=>⟨x.1,x.2.1,x.2.2.1.mono h,x.2.2.2⟩⟩
 |loop l=>obtain⟨g,n,e,r⟩:=k;exact⟨g,n,e,r.mono h⟩
 |dfr=>exact k

structure aJ(mu:Mu)(h:Hp)(w:World):Prop where
 sized:h.t.Sized h.n
 blk: ∀b c base top,mu b=.blk c base top-> ∃x o,h.get b=some x/\w.heap[c]? =some o/\kp mu x base top o
 dead: ∀b,mu b=.dead->h.get b=some .dead
 inj: ∀b b' c base top base' top',mu b=.blk c base top->mu b'=.blk c base' top'->b=b'
 lt: ∀b,mu b≠ .none->b<h.n

structure Ext(mu:Mu)(h:Hp)(w:World)(mu':Mu)(h':Hp)(w':World):Prop where
 n:h.n<=h'.n
 old: ∀b,b<h.n->mu' b=mu b\/(mu b≠ .none/\mu' b=.dead)
 fresh: ∀b c base top,h.n<=b->mu' b=.blk c base top->w.heap.size<=c\/ ∃b0 base0 top0,b0<h.n/\mu b0=.blk c base0 top0/\mu' b0=.dead
 lo:h'.lo<=h.lo
 same: ∀b,b<h.n->b<h'.lo->h'.get b=h.get b
 frame: ∀c,c<w.heap.size->(∀b base top,mu b≠ .blk c base top)->w'.heap[c]? =w.heap[c]?
 ro: ∀b c base top t sz el,mu b=.blk c base top->h.get b=some (.cells t sz el 0)->w'.heap[c]? =w.heap[c]? /\h'.get b=h.get b/\mu' b=mu b
 wsize:w.heap.size<=w'.heap.size
 os:w'.os=w.os
 tape:w'.tape=w.tape
 output:w'.output=w.output
 cover: ∀b,h.n<=b->b<h'.n->mu' b≠ .none

theorem Ext.refl(mu:Mu)(h:Hp)(w:World)(hh:aJ mu h w):Ext mu h w mu h w where
 n:=zN _
 old:=fun _ _=>.inl rfl
 fresh:=fun b c base top hb hm=>absurd (hh.lt b (by rw [hm];simp)) (by omega)
 lo:=zN _
 same:=fun _ _ _=>rfl
 frame:=fun _ _ _=>rfl
 ro:=fun _ _ _ _ _ _ _ _ _=>⟨rfl,rfl,rfl⟩
 wsize:=zN _
 os:=rfl
 tape:=rfl
 output:=rfl
 cover:=fun _ h1 h2=>absurd h2 (by omega)

theorem Ext.le{mu a:Mu}{h h':Hp}{w w':World}(e:Ext mu h w a h' w')(c:aJ mu h w):Le mu a:=by
 intro b d
 rcases e.old b (c.lt b d)with x|x
 . exact .inl x
 . exact .inr x.2

theorem Ext.trans {mu mu1 mu2:Mu} {h h1 h2:Hp} {w w1 w2:World} (a:Ext mu h w mu1 h1 w1) (b:Ext mu1 h1 w1 mu2 h2 w2):Ext mu h w mu2 h2 w2 where
 n:=Xk a.n b.n
 old:=by
  intro x hx
  rcases a.old x hx with e|⟨e,f⟩
  . rcases b.old x (by have:=a.n;omega)with e2|⟨e2,f2⟩
    . exact .inl (e2.trans e)
    . exact .inr ⟨by rw [<-e];exact e2,f2⟩
  . rcases b.old x (by have:=a.n;omega)with e2|⟨e2,f2⟩
    . exact .inr ⟨e,e2.trans f⟩
    . exact .inr ⟨e,f2⟩
 fresh:=by
  intro x c base top hx hm
  have dd: ∀b0,b0<h.n->mu1 b0=.dead->mu2 b0=.dead:=by
   intro b0 hb0 hd
   rcases b.old b0 (by have:=a.n;omega)with e|⟨_,f⟩
   . exact e.trans hd
   . exact f
  by_cases hx1:h1.n<=x
  . rcases b.fresh x c base top hx1 hm with hc|⟨b0,base0,top0,hb0,hm0,hd0⟩
    . exact .inl (Xk a.wsize hc)
    . by_cases hb1:b0<h.n
      . rcases a.old b0 hb1 with e|⟨_,f⟩
        . exact .inr ⟨b0,base0,top0,hb1,by rw [<-e];exact hm0,hd0⟩
        . rw [f]at hm0;cases hm0
      . rcases a.fresh b0 c base0 top0 (by omega) hm0 with hc|⟨b2,base2,top2,hb2,hm2,hd2⟩
        . exact .inl hc
        . exact .inr ⟨b2,base2,top2,hb2,hm2,dd b2 hb2 hd2⟩
  . rcases b.old x (by omega)with e|⟨_,f⟩
    . rcases a.fresh x c base top hx (by rw [<-e];exact hm)with hc|⟨b2,base2,top2,hb2,hm2,hd2⟩
      . exact .inl hc
      . exact .inr ⟨b2,base2,top2,hb2,hm2,dd b2 hb2 hd2⟩
    . rw [f]at hm;cases hm
 lo:=Xk b.lo a.lo
 same:=fun x hx hl=>(b.same x (by have:=a.n;omega) hl).trans (a.same x hx (by have:=b.lo;omega))
 frame:=by
  intro c hc hn
  have h1:=a.frame c hc hn
  rw [<-h1]
  refine b.frame c (by have:=a.wsize;omega) ?_
  intro x base top hm
  by_cases hx:x<h.n
  . rcases a.old x hx with e|⟨_,f⟩
    . exact hn x base top (by rw [<-e];exact hm)
    . rw [f]at hm;cases hm
  . rcases a.fresh x c base top (by omega) hm with hc2|⟨b2,base2,top2,_,hm2,_⟩
    . omega
    . exact hn b2 base2 top2 hm2
 ro:=by
  intro x c base top t sz el hm hg
  obtain⟨h1,h2,h3⟩:=a.ro x c base top t sz el hm hg
  obtain⟨k1,k2,k3⟩:=b.ro x c base top t sz el (h3.trans hm) (h2.trans hg)
  exact⟨k1.trans h1,k2.trans h2,k3.trans h3⟩
 wsize:=Xk a.wsize b.wsize
 os:=b.os.trans a.os
 tape:=b.tape.trans a.tape
 output:=b.output.trans a.output
 cover:=by
  intro x h1' h2'
  by_cases hx:x<h1.n
  . have:=a.cover x h1' hx
    rcases b.old x hx with e|⟨_,e⟩
    . rw [e];exact this
    . rw [e];simp
  . exact b.cover x (by omega) h2'

def upd(mu:Mu)(b:Nat)(p:Pt):Mu:=fun x=>if x=b then p else mu x
theorem upd_same(mu:Mu)(b:Nat)(p:Pt):upd mu b p b=p:=by simp [upd]
theorem aI(mu:Mu){b x:Nat}(p:Pt)(h:x≠b):upd mu b p x=mu x:=by simp [upd,h]
theorem aJ.none_ge{mu:Mu}{h:Hp}{w:World}(a:aJ mu h w){b:Nat}(g:h.n<=b):mu b=.none:=by
 cases d:mu b with
 |none=>rfl
 |dead=>exact absurd (a.lt b (by rw [d];simp)) (by omega)
 |blk c e f=>exact absurd (a.lt b (by rw [d];simp)) (by omega)
theorem aJ.clt{mu:Mu}{h:Hp}{w:World}(a:aJ mu h w){b c base top:Nat}(d:mu b=.blk c base top):c<w.heap.size:=by
 obtain⟨x,o,_,e,_⟩:=a.blk b c base top d
 exact(Array.getElem?_eq_some_iff.1 e).1
theorem Hp.get_new(h:Hp)(x:Blk)(a:h.t.Sized h.n)(b:Nat):(h.new x).get b=if b=h.n then some x else h.get b:=Tr.get_push h.t h.n x a b
theorem Hp.get_put(h:Hp)(b:Nat)(x:Blk)(a:Nat):(h.put b x).get a=if b=a/\(h.get a).isSome then some x else h.get a:=Tr.get_set h.t b x a
theorem Hp.put_lo(h:Hp)(b:Nat)(x:Blk):(h.put b x).lo<=h.lo/\(h.put b x).lo<=b:=by
 show dO b h.lo<=h.lo/\dO b h.lo<=b
 unfold dO
 rw [dK]
 by_cases a:b<=h.lo
 . simp [a]
 . simp [a];omega

structure WNew(w w':World)(o:Obj):Prop where
 heap:w'.heap=w.heap.push o
 os:w'.os=w.os
 tape:w'.tape=w.tape
 output:w'.output=w.output
structure WSet(w w':World)(c:Nat)(o:Obj):Prop where
 size:w'.heap.size=w.heap.size
 at_:w'.heap[c]? =some o
 other: ∀j,j≠c->w'.heap[j]? =w.heap[j]?
 os:w'.os=w.os
 tape:w'.tape=w.tape
 output:w'.output=w.output

theorem lW{mu:Mu}{h:Hp}{w w':World}(g:aJ mu h w){x:Blk}{base top:Nat}{o:Obj}(r:WNew w w' o)(q:kp mu x base top o):
 aJ (upd mu h.n (.blk w.heap.size base top)) (h.new x) w'/\Ext mu h w (upd mu h.n (.blk w.heap.size base top)) (h.new x) w':=by
 have f: ∀j,w'.heap[j]? =if j=w.heap.size then some o else w.heap[j]? :=by
  intro j;rw [r.heap,Array.getElem?_push]
 have hle:Le mu (upd mu h.n (.blk w.heap.size base top)):=by
  intro b q;left;exact aI _ _ (by have:=g.lt b q;omega)
 have i:=h.get_new x g.sized
 refine⟨⟨Tr.sized_push x g.sized,?_,?_,?_,?_⟩,?_⟩
 . intro b c e k d
   by_cases a:b=h.n
   . subst a
     rw [upd_same]at d
     cases d
     exact⟨x,o,by rw [i];simp,by rw [f];simp,q.mono hle⟩
   . rw [aI _ _ a]at d
     obtain⟨y,B,n,m,C⟩:=g.blk b c e k d
     have:=g.clt d
     exact⟨y,B,by rw [i,if_neg a];exact n,by rw [f,if_neg (by omega)];exact m,C.mono hle⟩
 . intro b d
   by_cases a:b=h.n
   . subst a;rw [upd_same]at d;cases d
   . rw [aI _ _ a]at d;rw [i,if_neg a];exact g.dead b d
 . intro b s c u z v A n m
   by_cases p:b=h.n
   . by_cases l:s=h.n
     . rw [p,l]
     . subst p;rw [upd_same]at n;rw [aI _ _ l]at m
       cases n;have:=g.clt m;omega
   . rw [aI _ _ p]at n
     by_cases l:s=h.n
     . subst l;rw [upd_same]at m;cases m;have:=g.clt n;omega
     . rw [aI _ _ l]at m;exact g.inj b s c _ _ _ _ n m
 . intro b d
   show b<h.n+1
   by_cases a:b=h.n
   . omega
   . rw [aI _ _ a]at d;have:=g.lt b d;omega
 . refine⟨Nat.le_succ _,?_,?_,zN _,?_,?_,?_,?_,r.os,r.tape,r.output,?_⟩
   . intro b q;left;exact aI _ _ (by omega)
   . intro b c e k q d
     by_cases a:b=h.n
     . subst a;rw [upd_same]at d;cases d;exact .inl (zN _)
     . rw [aI _ _ a]at d;exact absurd (g.lt b (by rw [d];simp)) (by omega)
   . intro b q _;rw [i,if_neg (by omega)]
   . intro c F _;rw [f,if_neg (by omega)]
   . intro b c e k t G el d H
     have:=g.clt d
     have D:=g.lt b (by rw [d];simp)
     exact⟨by rw [f,if_neg (by omega)],by rw [i,if_neg (by omega)],aI _ _ (by omega)⟩
   . rw [r.heap];simp
   . intro b n m
     have E:b<h.n+1:=m
     have:b=h.n:=by omega
     subst this
     rw [upd_same];simp

theorem tq{mu:Mu}{h:Hp}{w w':World}(k:aJ mu h w){b c base top:Nat}{x:Blk}{o:Obj}(m:mu b=.blk c base top)
 (u: ∀t v el,h.get b≠some (.cells t v el 0)) (l:WSet w w' c o) (C:kp mu x base top o):
 aJ mu (h.put b x) w'/\Ext mu h w mu (h.put b x) w':=by
 have i:=h.get_put b x
 have D:=k.lt b (by rw [m];simp)
 have n:(h.get b).isSome=true:=by obtain⟨y,_,s,_⟩:=k.blk b c base top m;rw [s];rfl
 refine⟨⟨Tr.sized_set b x k.sized,?_,?_,k.inj,k.lt⟩,?_⟩
 . intro g q f j a
   by_cases d:b=g
   . subst d
     rw [m]at a;cases a
     exact⟨x,o,by rw [i,if_pos ⟨rfl,n⟩],l.at_,C⟩
   . obtain⟨y,E,s,z,F⟩:=k.blk g q f j a
     have p:q≠c:=fun e=>d (k.inj b g c _ _ _ _ m (by rw [<-e];exact a))
     exact⟨y,E,by rw [i,if_neg (fun e=>d e.1)];exact s,by rw [l.other _ p];exact z,F⟩
 . intro g a
   have d:b≠g:=by intro e;subst e;rw [m]at a;cases a
   rw [i,if_neg (fun e=>d e.1)];exact k.dead g a
 . have r:=h.put_lo b x
   refine⟨zN _,fun _ _=>.inl rfl,?_,r.1,?_,?_,?_,by rw [l.size];exact zN _,l.os,l.tape,l.output,fun b s z=>absurd (show b<h.n from z) (by omega)⟩
   . intro g q f j A a
     exact absurd (k.lt g (by rw [a];simp)) (by omega)
   . intro g _ A
     rw [i,if_neg (by intro e;have:=r.2;omega)]
   . intro q _ G
     exact l.other _ (fun e=>G b base top (by rw [e];exact m))
   . intro g q f j t v el a B
     have d:b≠g:=by intro e;subst e;exact u t v el B
     have p:q≠c:=fun e=>d (k.inj b g c _ _ _ _ m (by rw [<-e];exact a))
     exact⟨l.other _ p,by rw [i,if_neg (fun e=>d e.1)],rfl⟩

theorem ng{mu:Mu}{h:Hp}{w w':World}(k:aJ mu h w){b c base top:Nat}{o:Obj}(s:mu b=.blk c base top)
 (v: ∀t x el,h.get b≠some (.cells t x el 0)) (p:WSet w w' c o):
 aJ (upd mu b .dead) (h.put b .dead) w'/\Ext mu h w (upd mu b .dead) (h.put b .dead) w':=by
 have i:=h.get_put b .dead
 have z:=k.lt b (by rw [s];simp)
 have q:(h.get b).isSome=true:=by obtain⟨y,_,l,_⟩:=k.blk b c base top s;rw [l];rfl
 have hle:Le mu (upd mu b .dead):=by
  intro f _
  by_cases a:f=b
  . subst a;right;exact upd_same _ _ _
  . left;exact aI _ _ a
 refine⟨⟨Tr.sized_set b _ k.sized,?_,?_,?_,?_⟩,?_⟩
 . intro f m g j d
   by_cases a:f=b
   . subst a;rw [upd_same]at d;cases d
   . rw [aI _ _ a]at d
     obtain⟨y,I,l,n,J⟩:=k.blk f m g j d
     have r:m≠c:=fun e=>a (k.inj f b c _ _ _ _ (by rw [<-e];exact d) s)
     exact⟨y,I,by rw [i,if_neg (fun e=>a e.1.symm)];exact l,by rw [p.other _ r];exact n,J.mono hle⟩
 . intro f d
   by_cases a:f=b
   . subst a;rw [i,if_pos ⟨rfl,q⟩]
   . rw [aI _ _ a]at d;rw [i,if_neg (fun e=>a e.1.symm)];exact k.dead f d
 . intro E F m A G B H l n
   have K:E≠b:=by intro e;subst e;rw [upd_same]at l;cases l
   have L:F≠b:=by intro e;subst e;rw [upd_same]at n;cases n
   rw [aI _ _ K]at l;rw [aI _ _ L]at n
   exact k.inj E F m _ _ _ _ l n
 . intro f d
   by_cases a:f=b
   . subst a;exact z
   . rw [aI _ _ a]at d;exact k.lt f d
 . have u:=h.put_lo b .dead
   refine⟨zN _,?_,?_,u.1,?_,?_,?_,by rw [p.size];exact zN _,p.os,p.tape,p.output,fun b l n=>absurd (show b<h.n from n) (by omega)⟩
   . intro f _
     by_cases a:f=b
     . subst a;right;exact⟨by rw [s];simp,upd_same _ _ _⟩
     . left;exact aI _ _ a
   . intro f m g j C d
     have a:f≠b:=by omega
     rw [aI _ _ a]at d
     exact absurd (k.lt f (by rw [d];simp)) (by omega)
   . intro f _ C
     rw [i,if_neg (by intro e;have:=u.2;omega)]
   . intro m _ M
     exact p.other _ (fun e=>M b base top (by rw [e];exact s))
   . intro f m g j t x el d D
     have a:b≠f:=by intro e;subst e;exact v t x el D
     have r:m≠c:=fun e=>a (k.inj b f c _ _ _ _ s (by rw [<-e];exact d))
     exact⟨p.other _ r,by rw [i,if_neg (fun e=>a e.1)],aI _ _ (Ne.symm a)⟩

theorem qY{mu:Mu}{h:Hp}{w w':World}(d:aJ mu h w)(e:w'.heap=w.heap):aJ mu h w':=
 ⟨d.sized,fun b c f g i=>let⟨x,o,a,j,k⟩:=d.blk b c f g i;⟨x,o,a,by rw [e];exact j,k⟩,d.dead,d.inj,d.lt⟩
theorem s7{mu:Mu}{h:Hp}{w w':World}(hh:aJ mu h w)(e:w'.heap=w.heap)(e1:w'.os=w.os)(e2:w'.tape=w.tape)(e3:w'.output=w.output):Ext mu h w mu h w' where
 n:=zN _
 old:=fun _ _=>.inl rfl
 fresh:=fun b c base top hb hm=>absurd (hh.lt b (by rw [hm];simp)) (by omega)
 lo:=zN _
 same:=fun _ _ _=>rfl
 frame:=fun _ _ _=>by rw [e]
 ro:=fun _ _ _ _ _ _ _ _ _=>⟨by rw [e],rfl,rfl⟩
 wsize:=by rw [e];exact zN _
 os:=e1
 tape:=e2
 output:=e3
 cover:=fun _ h1 h2=>absurd h2 (by omega)
end Go.Ab

namespace Go.Ab

structure pX(P:Program)(fr:Frame)(w:World)(kind:CallKind)(v:Value):Prop where
 mode:fr.mode=.returning
 defers:fr.defers=[]
 kind:fr.kind=kind
 res: ∃fn,P.funcs[fr.fn]? =some fn/\(results fn fr.tmps).run P w=.ok v w
structure rC(w w':World):Prop where
 heap: ∀c,c<w.heap.size->w'.heap[c]? =w.heap[c]?
 size:w.heap.size<=w'.heap.size
 os:w'.os=w.os
 tape:w'.tape=w.tape
 output:w'.output=w.output
def OrcAt(P:Program)(g:FuncId)(args:List Value)(v:Value):Prop:=
 args.all cJ=true/\cJ v=true/\ ∀(w:World) (b:List Frame) (a:CallKind),(a=.normal\/(a=.deferred/\ ∃c r,b=c::r/\c.mode=.returning))->
  ∃d e,rC w d/\Steps P (lone (Frame.enter P g ⟨args⟩ a) b w) (lone e b d)/\pX P e d a v/\e.fn=g
structure EOk(E:Env)(P:Program):Prop where
 fn: ∀f fn,E.fn f=some fn->P.funcs[f]? =some fn
 call: ∀f fn args w,E.fn f=some fn->fn.body.isSome=true->(callFunc f args).run P w=.ok (.enter f args) w
 ty: ∀t i,E.ty t=some i->P.info? t=some i
 eq: ∀t,E.eqok t=true->P.stoodInHeld t=false/\P.eqGuardType P.depth t=false
 mixed:P.follows .mixedOrders=true
 orc: ∀g args v,E.orc g args=some v->(∃fn,E.fn g=some fn/\fn.body.isSome=true)/\OrcAt P g args v

section
variable{E:Env}{P:Program}(ok:EOk E P)
include ok

theorem und_eq{t:TypeId}{d:TypeDesc}(h:E.und t=some d):P.underlying t=some d:=by
 unfold Env.und at h
 cases b:E.ty t with
 |none=>simp [b]at h
 | some i=>
   simp only [b]at h
   have e:=ok.ty t i b
   obtain⟨a,_,_,_,_,_,_,_,_,_⟩:=i
   unfold Program.underlying
   rw [e]
   cases a<;>simp only []at h⊢ <;>try exact h
   rename_i f u
   cases c:E.ty u with
   |none=>simp [c]at h
   |some j=>simp only [c]at h;rw [ok.ty u j c];exact h
theorem aR{t:TypeId}{d:TypeDesc}(h:E.und t=some d)(w:World):(underlying t).run P w=.ok d w:=by
 unfold underlying;simp [und_eq ok h]
theorem lJ{t:TypeId}{i:TypeInfo}(h:E.ty t=some i)(w:World):(typeInfo t).run P w=.ok i w:=by
 unfold typeInfo;simp [ok.ty t i h]
theorem dV{t:TypeId}{n:Nat}(h:E.sz t=some n)(w:World):(sizeOf t).run P w=.ok n w:=by
 unfold Env.sz at h
 cases a:E.ty t with
 |none=>simp [a]at h
 |some i=>simp only [a]at h;cases h;unfold sizeOf;simp [lJ ok a]
theorem rL{t:TypeId}{b:Bool}(h:E.agg t=some b)(w:World):(isAgg t).run P w=.ok b w:=by
 unfold Env.agg at h
 cases a:E.und t with
 |none=>simp [a]at h
 | some d=>
   simp only [a]at h
   unfold isAgg
   simp only [Sem.run_bind,aR ok a,Result.andThen_ok]
   cases d<;>simp only []at h<;>cases h<;>rfl
theorem l8{t:TypeId}{z:List Value}(h:E.zero t=some z)(w:World):
 ∃v,(zeroValue t).run P w=.ok v w/\v.cells.toList=z/\ah v=z/\z.all cJ=true:=by
 unfold Env.zero at h
 cases a:E.ty t with
 |none=>simp [a]at h
 | some i=>
   simp only [a]at h
   cases b:i.zero with
   |none=>simp [b]at h
   | some v=>
     simp only [b]at h
     cases c:(ah v).all cJ with
     |false=>simp [c]at h
     | true=>
       simp only [c,cond_true]at h
       cases h
       refine⟨v,?_,?_,rfl,c⟩
       . unfold zeroValue;simp [lJ ok a,b]
       . cases v<;>rfl
theorem oQ{t:TypeId}{z:Value}(h:E.zeroV t=some z)(w:World)(mu:Mu):(zeroValue t).run P w=.ok z w/\ao mu z z:=by
 unfold Env.zeroV at h
 cases c:E.ty t with
 |none=>simp [c]at h
 | some i=>
   simp only [c]at h
   cases d:i.zero with
   |none=>simp [d]at h
   | some v=>
     simp only [d]at h
     cases e:(ah v).all cJ with
     |false=>simp [e]at h
     | true=>
       simp only [e,cond_true]at h
       cases h
       refine⟨by unfold zeroValue;simp [lJ ok c,d],?_⟩
       have a: ∀x∈ah z,cJ x=true:=by simpa using e
       cases z with
       | agg g=>
         refine .agg rfl fun i x j f b=>?_
         rw [f]at b;cases b
         exact ao.const mu (a x (Xn f))
       |_=>exact ao.const mu (a _ (by simp [ah]))

theorem lH{mu:Mu}{t:TypeId}{cs:List Value}{a:Array Value}{off:Nat}{v:Value}(h:partOf E t cs off=some v)(f:VL mu cs a.toList)(w:World):
 ∃v',(part t a off).run P w=.ok v' w/\ao mu v v':=by
 unfold partOf at h
 cases c:E.agg t with
 |none=>simp [c]at h
 | some b =>
   unfold part
   cases b with
   | true =>
     simp only [c]at h
     cases d:E.sz t with
     |none=>simp [d]at h
     | some n=>
       simp only [d,dK]at h
       by_cases g:off+n<=cs.length
       . simp only [g,decide_true,cond_true]at h
         cases h
         refine⟨.agg (a.extract off (off+n)),by simp [rL ok c,dV ok d],?_⟩
         have:=(f.drop off).take n
         have e:(a.extract off (off+n)).toList=(a.toList.drop off).take n:=by
          rw [Xo];simp [List.extract,Nat.add_sub_cancel_left]
         exact .agg (by rw [e];exact this.1) (by rw [e];exact this.2)
       . simp [g]at h
   | false=>
     simp only [c]at h
     obtain⟨v',i,j⟩:=f.get h
     have:a[off]? =some v':=by rw [<-Xd];exact i
     exact⟨v',by simp [rL ok c,this],j⟩

theorem zc {mu : Mu} (d D:Nat) (hD:d<=D) {t:TypeId} {x y x' S:Value} {b:Bool} (h:dN E d t x y=some b) (p:ao mu x x') (r:ao mu y S) (w:World):
 (Op.equalIn D t x' S).run P w=.ok b w:=by
 induction d generalizing D t x y x' S b with
 |zero=>simp [dN]at h
 | succ d T =>
   obtain⟨D,rfl⟩: ∃k,D=k+1:=⟨D-1,by omega⟩
   have u:d<=D:=by omega
   unfold dN at h
   unfold Op.equalIn
   cases U:E.und t with
   |none=>simp [U]at h
   | some R =>
     simp only [U]at h
     simp only [Sem.run_bind,aR ok U,Result.andThen_ok]
     cases R<;>simp only []at h<;>try (cases h;done)
     case bool=>
      cases p<;>cases r<;>simp only []at h<;>try (cases h;done)
      cases h;rename_i a c;cases a<;>cases c<;>rfl
     case int k=>
      cases p<;>cases r<;>simp only []at h<;>try (cases h;done)
      rename_i k1 a k2 c
      rw [fQ,gI]at h
      by_cases hk:k1=k2
      . subst hk;simp at h;simp [h]
      . simp [hk]at h
     case string=>
      cases p<;>cases r<;>simp only []at h<;>try (cases h;done)
      rename_i a c
      cases h
      rw [iR]
      simp only [aF,Sem.run_pure]
      congr 1
      rw [show(a==c)=(a.data==c.data)from rfl,<-Array.beq_toList]
     case pointer e=>
      cases p<;>cases r<;>simp only []at h<;>try (cases h;done)
      all_goals (cases h;rfl)
     case slice e=>
      cases p<;>cases r<;>simp only []at h<;>try (cases h;done)
      all_goals (cases h;rfl)
     case map k e=>
      cases p<;>cases r<;>simp only []at h<;>try (cases h;done)
      all_goals (cases h;rfl)
     case func a c e=>
      cases p<;>cases r<;>simp only []at h<;>try (cases h;done)
      all_goals (cases h;rfl)
     case interface ms=>
      cases p<;>cases r<;>simp only []at h<;>try (cases h;done)
      . cases h;rfl
      . cases h;rfl
      . cases h;rfl
      . rename_i tx vx al V ty vy ax W
        rw [bN]at h
        by_cases v:tx=ty
        . subst v
          simp only [decide_true,cond_true]at h
          cases X:E.ty tx with
          |none=>simp [X]at h
          | some i=>
            simp only [X]at h
            cases z:i.comparable with
            |false=>simp [z]at h
            | true=>
              simp only [z,cond_true]at h
              simp [lJ ok X,z]
              exact T D u h V W
        . simp only [v,decide_false,cond_false]at h
          cases h;simp [v]
     case struct fs=>
      cases p<;>cases r<;>simp only []at h<;>try (cases h;done)
      rename_i A j B C F o G H
      cases Y:E.eqok t with
      |false=>simp [Y]at h
      | true =>
        simp only [Y,cond_true]at h
        have Z:=(ok.eq t Y).1
        have hX:VL mu A.toList j.toList:=⟨B,C⟩
        have hY:VL mu F.toList o.toList:=⟨G,H⟩
        simp only [Sem.run_bind,run_program,Result.andThen_ok,Z,Bool.false_eq_true,if_false]
        have I : ∀(l:List Field),eqFields E (dN E d) l A.toList F.toList=some b->
         (forIn l ((none,()):Option Bool×Unit) (fun f ad=>
           if f.name≠ "_" then do
            let a<-part f.type j f.offset
            let c<-part f.type o f.offset
            let q<-Op.equalIn D f.type a c
            if(!q)=true then pure (ForInStep.done (some false,()))else pure (ForInStep.yield (none,()))
           else pure (ForInStep.yield (none,()))):Sem _).run P w=.ok (if b then(none,())else(some false,())) w:=by
         intro l
         induction l with
         |nil=>intro g;simp only [eqFields]at g;cases g;simp
         | cons f l af=>
           intro g
           simp only [eqFields]at g
           cases hn:(f.name== "_")with
           |true=>simp [hn]at g
           | false =>
             simp only [hn,cond_false]at g
             have ai:f.name≠ "_" :=by simpa using hn
             cases J:partOf E f.type A.toList f.offset with
             |none=>simp [J]at g
             | some a=>
               simp only [J]at g
               cases K:partOf E f.type F.toList f.offset with
               |none=>simp [K]at g
               | some c=>
                 simp only [K]at g
                 obtain⟨a',L,M⟩:=lH ok J hX w
                 obtain⟨c',N,O⟩:=lH ok K hY w
                 cases s:dN E d f.type a c with
                 |none=>simp [s]at g
                 | some q=>
                   have Q:=T D u s M O
                   simp only [List.forIn_cons,if_pos ai,Sem.run_bind,L,N,Q,Result.andThen_ok]
                   cases q with
                   |false=>simp only [s]at g;cases g;simp
                   |true=>simp only [s]at g;simpa using af g
        have:=I fs.toList h
        simp only [Array.forIn_toList]at this
        rw [this]
        cases b<;>simp
     case array n e=>
      cases p<;>cases r<;>simp only []at h<;>try (cases h;done)
      rename_i A j B C F o G H
      have hX:VL mu A.toList j.toList:=⟨B,C⟩
      have hY:VL mu F.toList o.toList:=⟨G,H⟩
      cases hs:E.sz e with
      |none=>simp [hs]at h
      | some k =>
        simp only [hs]at h
        simp only [Sem.run_bind,dV ok hs,Result.andThen_ok]
        have I : ∀(m i:Nat),lV E (dN E d) e k A.toList F.toList m i=some b->
         (forIn (List.range' i m) ((none,()):Option Bool×Unit) (fun i ad=>do
           let a<-part e j (i*k)
           let c<-part e o (i*k)
           let q<-Op.equalIn D e a c
           if(!q)=true then pure (ForInStep.done (some false,()))else pure (ForInStep.yield (none,()))):Sem _).run P w=.ok (if b then(none,())else(some false,())) w:=by
         intro m
         induction m with
         |zero=>intro i g;simp only [lV]at g;cases g;simp
         | succ m ak=>
           intro i g
           simp only [lV]at g
           cases J:partOf E e A.toList (i*k)with
           |none=>simp [J]at g
           | some a=>
             simp only [J]at g
             cases K:partOf E e F.toList (i*k)with
             |none=>simp [K]at g
             | some c=>
               simp only [K]at g
               obtain⟨a',L,M⟩:=lH ok J hX w
               obtain⟨c',N,O⟩:=lH ok K hY w
               cases s:dN E d e a c with
               |none=>simp [s]at g
               | some q=>
                 have Q:=T D u s M O
                 simp only [List.range'_succ,List.forIn_cons,Sem.run_bind,L,N,Q,Result.andThen_ok]
                 cases q with
                 |false=>simp only [s]at g;cases g;simp
                 |true=>simp only [s]at g;simpa using ak (i+1) g
        have:=I n 0 h
        simp only [Std.Legacy.Range.forIn_eq_forIn_range',Std.Legacy.Range.size]
        rw [show(n-0+1-1)/1=n by omega,this]
        cases b<;>simp
end
end Go.Ab

namespace Go.Ab
theorem zy(a:ByteArray)(n i:Nat)(r:List UInt8)(h:a.size-i=n):ByteArray.toList.loop a i r=r.reverse++a.data.toList.drop i:=by
 induction n generalizing i r with
 | zero=>
   unfold ByteArray.toList.loop
   rw [if_neg (by omega),List.drop_of_length_le (by have:a.size=a.data.toList.length:=rfl;omega)];simp
 | succ n d=>
   have f:a.size=a.data.toList.length:=rfl
   unfold ByteArray.toList.loop
   rw [if_pos (by omega),d _ _ (by omega)]
   have c:i<a.data.toList.length:=by omega
   rw [List.drop_eq_getElem_cons c]
   have e:a.get! i=a.data.toList[i]:=by
    have b:i<a.data.size:=c
    show a.data[i]! =_
    rw [getElem!_pos a.data i b];rfl
   rw [e]
   simp only [List.reverse_cons,List.append_assoc,List.singleton_append]
theorem jt(s:ByteArray):s.toList=aF s:=by
 unfold ByteArray.toList aF
 rw [zy s _ 0 [] rfl];simp
theorem xO(s u:ByteArray):s++u=gG (aF s++aF u):=by
 apply ByteArray.ext
 simp [gG,aF]
section
variable{E:Env}{P:Program}(ok:EOk E P)
include ok

theorem guard_run{op:BinOp}{t:TypeId}{x y:Operand}{a b d e:Value}{mu:Mu}{r:Bool}(h:fm E t x y a b=some r)(g:ao mu a d)(i:ao mu b e)(w:World):
 (eqGuard op t x y d e).run P w=.ok () w:=by
 unfold eqGuard
 cases c:(!(match op with| .eql| .neq=>true|_=>false):Bool)with
 |true=>cases op<;>simp at c<;>simp
 | false=>
   unfold fm at h
   cases g<;>cases i<;>simp only []at h<;>try (cases h;done)
   all_goals first
    |(cases op<;>simp at c<;>simp;done)
    |skip
   . cases op<;>simp at c<;>(cases x<;>cases y<;>simp only []at h<;>first|(cases h;done)|simp)
   . cases f:E.eqok t with
     |false=>simp [f]at h
     | true=>
       have:=(ok.eq t f).2
       cases op<;>simp at c<;>simp [this]

omit ok in
theorem tY{t:TypeId}{x y:Operand}{a b:Value}{r:Bool}(h:fm E t x y a b=some r):dN E 40 t a b=some r:=by
 unfold fm at h
 split at h
 . cases h
 . cases h
 . split at h
   . exact h
   . exact h
   . cases h
 . cases c:E.eqok t with
   |false=>simp [c]at h
   |true=>simpa [c]using h
 . exact h
theorem equal_run{t:TypeId}{x y:Operand}{a b c d:Value}{mu:Mu}{r:Bool}(h:fm E t x y a b=some r)(e:ao mu a c)(f:ao mu b d)(w:World):
 (Op.equal t c d).run P w=.ok r w:=zc ok 40 Op.maxDepth (by decide) (tY h) e f w

theorem binP_run {op:BinOp} {t:TypeId} {x y:Operand} {a b e f v:Value} {mu:Mu} (h:bQ E op t x y a b=some v) (g:ao mu a e) (i:ao mu b f) (w:World):
 (eqGuard op t x y e f).run P w=.ok () w/\(binOp op t e f).run P w=.ok v w/\ao mu v v:=by
 have j: ∀(r:Bool),fm E t x y a b=some r->(eqGuard op t x y e f).run P w=.ok () w/\(Op.equal t e f).run P w=.ok r w:=
  fun r c=>⟨guard_run ok c g i w,equal_run ok c g i w⟩
 cases g <;> cases i<;>simp only [bQ]at h<;>first
  | (rename_i k m o n
     have l: ∀op,(eqGuard op t x y (Value.int k m) (Value.int o n)).run P w=.ok () w:=by
      intro op;cases op<;>simp [eqGuard]
     refine⟨l op,?_⟩
     cases op <;>simp only []at h<;>first
      | (obtain⟨z,q,rfl⟩:=Option.map_eq_some_iff.1 h
         refine⟨?_,.int _ _⟩
         simp only [binOp]
         exact shift_run P w q)
      | (rw [fQ] at h
         by_cases p:k=o
         . subst p
           simp only [decide_true,cond_true]at h
           refine⟨?_,?_⟩
           . have:=arith_run P w h
             simpa [binOp]using this
           . unfold gR at h
             simp only []at h
             first
              |(cases h;constructor)
              |(obtain⟨z,_,rfl⟩:=Option.map_eq_some_iff.1 h;exact .int _ _)
              | (split at h<;>first|(cases h;done)|skip
                 cases d:gX n 0<;>simp [d]at h;subst h;exact .int _ _)
              |(cases d:gX n 0<;>simp [d]at h;subst h;exact .int _ _)
         . simp [p]at h))
  |skip
 all_goals first
  | (rename_i s u
     have l: ∀op,(eqGuard op t x y (Value.string s) (Value.string u)).run P w=.ok () w:=by
      intro op;cases op<;>simp [eqGuard]
     refine⟨l op,?_⟩
     have A:(s.toList==u.toList)=gH (aF s) (aF u):=by
      rw [iR];rw [jt,jt]
     have B:Op.bytesLess s.toList u.toList=ja (aF s) (aF u):=by
      rw [Bk];rw [jt,jt]
     cases op<;>simp only []at h<;>first
      |(cases h;done)
      | (rw [dK]at h
         by_cases d:s.size+u.size<=1099511627776
         . simp only [d,decide_true,cond_true]at h
           cases h
           refine⟨?_,.string _⟩
           have C:s++u=gG (aF s++aF u):=xO s u
           have D: ¬(((s.size+u.size:Nat):Int)>IntKind.i64.max):=by
            rw [show IntKind.i64.max=9223372036854775807 from rfl];omega
           simp only [binOp,Op.stringOp,if_neg D,C,Sem.run_pure]
         . simp [d]at h)
      | (cases h
         refine⟨?_,.bool _⟩
         simp only [binOp,Op.stringOp,A,B,Sem.run_pure]))
  |(cases op<;>simp only []at h<;>first
      |(cases h;done)
      | (obtain⟨r,c,rfl⟩:=Option.map_eq_some_iff.1 h
         obtain⟨F,G⟩:=j r c
         refine⟨F,?_,.bool _⟩
         simp only [binOp,Sem.run_bind,G,Result.andThen_ok,Sem.run_pure])
      | (obtain⟨r,c,rfl⟩:=Option.map_eq_some_iff.1 h
         have:=tY c
         exfalso;revert c;simp [fm];done)
      |done)
end
end Go.Ab

namespace Go.Ab
def OR{α c:Type}(R:α->c->Prop):Option α->Option c->Prop
 |none,none=>True
 |some a,some b=>R a b
 |_,_=>False
theorem OR.map{γ:Type}{ρ:γ->Value}{a:γ->Value}{mu:Mu}(h: ∀x,ao mu (ρ x) (a x))(o:Option γ):OR (ao mu) (o.map ρ) (o.map a):=by
 cases o<;>simp [OR,h]
section
variable{E:Env}{P:Program}(ok:EOk E P)

theorem iT{mu:Mu}{v v':Value}{y a n:Nat}{code:BoundsCode}(h:eC v y=some n)(d:ao mu v v')(e:y<=a)(w:World):
 (Instr.sliceBound v' a code).run P w=.ok n w/\n<=y:=by
 unfold eC at h
 cases d<;>simp only []at h<;>try (cases h;done)
 rename_i k i
 cases b:gf i with
 |none=>simp [b]at h
 | some m=>
   have:=oI b
   subst this
   simp only [b,dK]at h
   by_cases c:m<=y
   . simp only [c,decide_true,cond_true]at h
     cases h
     refine⟨?_,c⟩
     have:(0:Int)<=(n:Int)/\(n:Int)<=(a:Int):=by omega
     simp only [Instr.sliceBound,asIntOf,Sem.run_bind,Sem.run_pure,Result.andThen_ok,if_pos this]
     simp
   . simp [c]at h

theorem mG {mu : Mu} {len cap cap' l h m:Nat} {j g p f a mx':Option Value} {b:Bool}
 (e:ez len cap j g p=some (l,h,m)) (n:OR (ao mu) j f) (k:OR (ao mu) g a) (s:OR (ao mu) p mx')
 (i:cap<=cap') (y:len<=cap) (w:World):
 (Instr.sliceBounds b len cap' f a mx').run P w=.ok (l,h,if p.isSome then m else cap') w/\l<=h/\h<=m/\m<=cap/\(p.isSome=false->m=cap):=by
 unfold ez at e
 unfold Instr.sliceBounds
 cases p with
 | some v=>
   cases mx' with
   |none=>exact s.elim
   | some G =>
     simp only []at e
     cases x:eC v cap with
     |none=>simp [x]at e
     | some m1 =>
       simp only [x]at e
       obtain⟨z,H⟩:=iT (P:=P) (code:=(if b then .slice3Acap else .slice3Alen)) x s i w
       cases g with
       |none=>simp at e
       | some u=>
         cases a with
         |none=>exact k.elim
         | some A =>
           simp only []at e
           cases c:eC u m1 with
           |none=>simp [c]at e
           | some r=>
             simp only [c]at e
             obtain⟨o,B⟩:=iT (P:=P) (code:=.slice3B) c k (zN _) w
             cases j with
             | none=>
               cases f with
               |some _=>exact n.elim
               |none=>simp only []at e;cases e;simp [z,o];omega
             | some t=>
               cases f with
               |none=>exact n.elim
               | some F=>
                 simp only []at e
                 cases d:eC t r with
                 |none=>simp [d]at e
                 | some C=>
                   simp only [d]at e
                   obtain⟨q,D⟩:=iT (P:=P) (code:=.slice3C) d n (zN _) w
                   cases e;simp [z,o,q];omega
 | none=>
   cases mx' with
   |some _=>exact s.elim
   | none=>
     simp only [Xq,cond_false]at e
     cases j with
     | none=>
       cases f with
       |some _=>exact n.elim
       | none=>
         cases g with
         | none=>
           cases a with
           |some _=>exact k.elim
           |none=>simp only []at e;cases e;simp;omega
         | some u=>
           cases a with
           |none=>exact k.elim
           | some A=>
             simp only []at e
             cases c:eC u cap with
             |none=>simp [c]at e
             | some r=>
               simp only [c]at e
               obtain⟨o,B⟩:=iT (P:=P) (code:=(if b then .sliceAcap else .sliceAlen)) c k i w
               cases e;simp [o];omega
     | some t=>
       cases f with
       |none=>exact n.elim
       | some F =>
         cases g with
         | none=>
           cases a with
           |some _=>exact k.elim
           | none=>
             simp only []at e
             cases d:eC t len with
             |none=>simp [d]at e
             | some C=>
               simp only [d]at e
               obtain⟨q,D⟩:=iT (P:=P) (code:=.sliceB) d n (zN _) w
               cases e;simp [q];omega
         | some u=>
           cases a with
           |none=>exact k.elim
           | some A=>
             simp only []at e
             cases c:eC u cap with
             |none=>simp [c]at e
             | some r=>
               simp only [c]at e
               obtain⟨o,B⟩:=iT (P:=P) (code:=(if b then .sliceAcap else .sliceAlen)) c k i w
               cases d:eC t r with
               |none=>simp [d]at e
               | some C=>
                 simp only [d]at e
                 obtain⟨q,D⟩:=iT (P:=P) (code:=.sliceB) d n (zN _) w
                 cases e;simp [o,q];omega

theorem lK(a:Addr)(n:Nat)(h:a.spot=none):a.add n=⟨a.block,a.off+n,none⟩:=by
 unfold Addr.add
 by_cases b:n=0
 . subst b;cases a;simp at h;subst h;simp
 . simp [b]
theorem mL{mu:Mu}{a d:Addr}(h:eg mu a d)(n:Nat):eg mu (eH a n) (d.add n):=by
 unfold eg at*
 show match mu a.block with| .none=>False| .dead=>True| .blk c b _=>d.add n=⟨c,b+(a.off+n),none⟩
 cases e:mu a.block with
 |none=>rw [e]at h;exact h.elim
 |dead=>trivial
 | blk c b f=>
   rw [e]at h
   simp only []at h⊢
   subst h
   rw [lK _ _ rfl,Xi]

include ok
theorem AR {mu :Mu} {t:TypeId} {x x' v:Value} {A j z C u mx':Option Value} (h:dZ E t x A j z=some v) (Y:ao mu x x')
 (U:OR (ao mu) A C) (V:OR (ao mu) j u) (W:OR (ao mu) z mx') (w:World):
 ∃v',(Instr.sliceAt t x' C u mx').run P w=.ok v' w/\ao mu v v':=by
 unfold dZ at h
 cases K:E.und t with
 |none=>simp [K]at h
 | some d =>
   simp only [K]at h
   unfold Instr.sliceAt
   simp only [Sem.run_bind,aR ok K,Result.andThen_ok]
   cases d<;>simp only []at h<;>try (cases h;done)
   case string=>
    unfold Instr.slice
    simp only [Sem.run_bind,aR ok K,Result.andThen_ok]
    cases Y<;>simp only []at h<;>try (cases h;done)
    rename_i s
    cases z with
    |some _=>simp at h
    | none =>
      cases mx' with
      |some _=>exact W.elim
      | none=>
        simp only [Xq,cond_false]at h
        cases y:ez s.size s.size A j none with
        |none=>simp [y]at h
        | some r=>
          obtain⟨l,D,m⟩:=r
          simp only [y]at h
          cases h
          obtain⟨H,Z,r3,_,_⟩:=mG (P:=P) (b:=false) y U V (mu:=mu) (mx':=none) trivial (zN _) (zN _) w
          have e:s.extract l D=gG (((aF s).drop l).take (D-l)):=by
           apply ByteArray.ext
           simp [gG,aF,ByteArray.data_extract]
           apply Array.ext'
           simp [Xo,List.extract]
          refine⟨.string (s.extract l D),by simp [H],by rw [e];exact .string _⟩
   case slice e =>
    unfold Instr.slice
    simp only [Sem.run_bind,aR ok K,Result.andThen_ok]
    cases Y<;>simp only []at h<;>try (cases h;done)
    . cases y:ez 0 0 A j z with
      |none=>simp [y]at h
      | some r=>
        obtain⟨l,D,m⟩:=r
        simp only [y]at h
        cases F:E.sz e with
        |none=>simp [F]at h
        | some k=>
          simp only [F]at h
          cases h
          obtain⟨H,Z,r3,r4,X⟩:=mG (P:=P) (b:=true) y U V W (zN _) (zN _) w
          have ad:m=0:=by omega
          subst ad
          have:D=0:=by omega
          subst this
          have:l=0:=by omega
          subst this
          refine⟨.slice none 0 0,?_,.nils⟩
          simp [H,dV ok F]
    . rename_i a I L af o ai f
      cases y:ez L af A j z with
      |none=>simp [y]at h
      | some r =>
        obtain⟨l,D,m⟩:=r
        simp only [y]at h
        cases F:E.sz e with
        |none=>simp [F]at h
        | some k=>
          simp only [F]at h
          obtain⟨H,Z,r3,r4,X⟩:=mG (P:=P) (b:=true) y U V W f.caps ai w
          have ay:m<=(if z.isSome then m else o):=by
           have:=f.caps
           cases N:z.isSome with
           |true=>simp
           |false=>simp;omega
          have O:(if z.isSome then m else o)<=o:=by
           have:=f.caps
           cases N:z.isSome with
           |true=>simp;omega
           |false=>simp
          generalize hM:(if z.isSome then m else o)=M at*
          have ax: ∀q,(Instr.sliceBounds true L o C u mx').run P w=.ok q w->q=(l,D,M):=by
           intro q hq;rw [hq]at H;cases H;rfl
          refine⟨.slice (if M=l then some I else(some I).map (·.add (l*k))) (D-l) (M-l),by simp [H,dV ok F],?_⟩
          unfold dE at f
          cases g:mu a.block with
          |none=>rw [g]at f;exact f.elim
          | dead=>
            have hv: ∃q,q.block=a.block/\v=.slice (some q) (D-l) (m-l):=by
             cases p:a.spot with
             |none=>simp only [p]at h;cases h;refine⟨_,?_,rfl⟩;cases zM m l<;>rfl
             | some J=>
               simp only [p,bN]at h
               by_cases Q:J=k
               . simp only [Q,decide_true,cond_true]at h;cases h;exact⟨⟨a.block,bif decide (m=l)then a.off else a.off+l*k,some k⟩,rfl,rfl⟩
               . simp [Q]at h
            obtain⟨q,R,rfl⟩:=hv
            by_cases i:M=l
            . rw [if_pos i];exact .slice (by omega) (by unfold dE;rw [R,g];simp only [];omega)
            . rw [if_neg i];exact .slice (by omega) (by unfold dE;rw [R,g];simp only [];omega)
          | blk c S T=>
            rw [g]at f
            cases p:a.spot with
            | none=>
              rw [p]at f
              simp only []at f
              obtain⟨rfl,rfl⟩:=f
              have ak:M=m:=by
               rw [<-hM]
               cases N:z.isSome with
               |true=>simp
               |false=>simp [X N]
              subst ak
              simp only [p]at h
              cases h
              rw [bN]
              by_cases i:M=l
              . simp only [i,decide_true,cond_true,if_true]
                refine .slice (by omega) ?_
                unfold dE;rw [g];simp [p]
              . simp only [i,decide_false,cond_false,if_false,Option.map_some]
                refine .slice (by omega) ?_
                unfold dE;simp only [eH,g];exact⟨trivial,by rw [lK _ _ rfl,Xi]⟩
            | some J =>
              rw [p]at f
              simp only []at f
              obtain⟨s1,s2,s3,s4,s5⟩:=f
              simp only [p,bN]at h
              by_cases Q:J=k
              . subst Q
                simp only [decide_true,cond_true]at h
                cases h
                have al:I.off+M*J<=T:=by have:=Xp J O;omega
                by_cases i:M=l
                . have G:m=l:=by omega
                  simp only [i,G,decide_true,cond_true,if_true]
                  refine .slice (by omega) ?_
                  unfold dE;simp only [g]
                  exact⟨by omega,s2,s3,by simp;omega,by left;omega⟩
                . simp only [i,if_false,Option.map_some]
                  refine .slice (by omega) ?_
                  unfold dE;simp only [g]
                  rw [lK _ _ s3]
                  refine⟨by omega,s2,rfl,?_,?_⟩
                  . simp only [];rw [Nat.sub_mul];have:=Xp J (show l<=M by omega);omega
                  . by_cases G:m=l
                    . left;omega
                    . right
                      simp only [G,decide_false,cond_false]
                      rcases s5 with s5|s5
                      . omega
                      . omega
              . simp [Q]at h
   case array n e=>
    cases Y<;>simp only []at h<;>try (cases h;done)
    rename_i a I B
    cases y:ez n n A j z with
    |none=>simp [y]at h
    | some r=>
      obtain⟨l,D,m⟩:=r
      simp only [y]at h
      cases F:E.sz e with
      |none=>simp [F]at h
      | some k=>
        simp only [F]at h
        cases h
        obtain⟨H,Z,r3,r4,X⟩:=mG (P:=P) (b:=false) y U V W (zN _) (zN _) w
        have em:(if z.isSome=true then m else n)=m:=by
         cases N:z.isSome with
         |true=>simp
         |false=>simp [X N]
        rw [em]at H
        refine⟨.slice (some (if m=l then I else I.add (l*k))) (D-l) (m-l),by simp [Instr.sureAddr,H,dV ok F],?_⟩
        rw [bN]
        refine .slice (by omega) ?_
        unfold eg at B
        unfold dE
        simp only []
        cases g:mu a.block with
        |none=>rw [g]at B;exact B.elim
        |dead=>exact zN _
        | blk c S T=>
          rw [g]at B
          simp only []at B⊢
          subst B
          refine⟨trivial,?_⟩
          by_cases i:m=l
          . simp [i]
          . simp only [i,if_false,decide_false,cond_false]
            rw [lK _ _ rfl,Xi]

theorem uN{mu:Mu}{s:TypeId}{x x' v:Value}{i:Nat}(h:aw E s x i=some v)(k:ao mu x x')(w:World):
 ∃v',(Instr.fieldAt s x' i).run P w=.ok v' w/\ao mu v v':=by
 unfold aw at h
 cases c:E.und s with
 |none=>simp [c]at h
 | some d=>
   simp only [c]at h
   cases d<;>simp only []at h<;>try (cases h;done)
   rename_i j
   cases hf:j.toList[i]? with
   |none=>simp [hf]at h
   | some f=>
     simp only [hf]at h
     have e:j[i]? =some f:=by rw [<-Xd];exact hf
     cases b:E.sz f.type with
     |none=>simp [b]at h
     | some n=>
       cases n with
       |zero=>simp [b]at h
       | succ n=>
         simp only [b]at h
         cases k<;>simp only []at h<;>try (cases h;done)
         rename_i a l g
         cases h
         refine⟨.pointer (some (l.add f.offset)),?_,.ptr (mL g _)⟩
         unfold Instr.fieldAt
         simp [aR ok c,e,Instr.sureAddr,fieldPlace,dV ok b]

theorem AP{mu:Mu}{t:TypeId}{x x' v:Value}{i:Nat}(h:aQ E t x i=some v)(g:ao mu x x')(w:World):
 ∃v',(Instr.field t x' i).run P w=.ok v' w/\ao mu v v':=by
 unfold aQ at h
 cases a:E.und t with
 |none=>simp [a]at h
 | some d=>
   simp only [a]at h
   cases d<;>simp only []at h<;>try (cases h;done)
   rename_i e
   cases hf:e.toList[i]? with
   |none=>simp [hf]at h
   | some f=>
     simp only [hf]at h
     have b:e[i]? =some f:=by rw [<-Xd];exact hf
     cases g<;>simp only []at h<;>try (cases h;done)
     rename_i j c k l
     obtain⟨v',m,n⟩:=lH ok h (⟨k,l⟩:VL mu j.toList c.toList) w
     refine⟨v',?_,n⟩
     unfold Instr.field
     simp [aR ok a,b,asAgg,m]

omit ok in
theorem qF{mu:Mu}{v v':Value}{len i:Nat}(h:fU v len=some i)(c:ao mu v v'): ∃k,v'=.int k (i:Int)/\i<len:=by
 unfold fU at h
 cases c<;>simp only []at h<;>try (cases h;done)
 rename_i k n
 cases a:gf n with
 |none=>simp [a]at h
 | some m=>
   have:=oI a
   subst this
   simp only [a,gY]at h
   by_cases b:m<len
   . simp only [b,decide_true,cond_true]at h
     cases h
     exact⟨k,rfl,b⟩
   . simp [b]at h

theorem u6 {mu:Mu} {t:TypeId} {x x' y o v:Value} (h:er E t x y=some v) (C:ao mu x x') (D:ao mu y o) (w:World):
 ∃v',(Instr.indexAt t x' o).run P w=.ok v' w/\ao mu v v':=by
 unfold er at h
 cases z:E.und t with
 |none=>simp [z]at h
 | some d=>
   simp only [z]at h
   cases d<;>simp only []at h<;>try (cases h;done)
   case array n e=>
    cases C<;>simp only []at h<;>try (cases h;done)
    rename_i a l g
    cases f:fU y n with
    |none=>simp [f]at h
    | some i=>
      obtain⟨k,rfl,hlt⟩:=qF f D
      simp only [f]at h
      cases j:E.sz e with
      |none=>simp [j]at h
      | some m=>
        simp only [j]at h
        cases h
        refine⟨.pointer (some (l.add (i*m))),?_,.ptr (mL g _)⟩
        have A:(0:Int)<=(i:Int)/\(i:Int)<(n:Int):=by omega
        unfold Instr.indexAt
        simp [asIntOf,aR ok z,Instr.sureAddr,A,dV ok j]
        omega
   case slice e=>
    cases C<;>simp only []at h<;>try (cases h;done)
    rename_i a l p I F J b
    cases f:fU y p with
    |none=>simp [f]at h
    | some i =>
      obtain⟨k,rfl,hlt⟩:=qF f D
      simp only [f]at h
      cases j:E.sz e with
      |none=>simp [j]at h
      | some m=>
        simp only [j]at h
        cases h
        have g:eg mu a l:=by
         unfold dE at b
         unfold eg
         cases r:mu a.block with
         |none=>rw [r]at b;exact b.elim
         |dead=>trivial
         | blk c s K=>
           rw [r]at b
           cases u:a.spot with
           |none=>rw [u]at b;exact b.2
           | some q=>
             rw [u]at b
             simp only []at b⊢
             obtain⟨_,G,H,_,B⟩:=b
             have:l.off=s+a.off:=by rcases B with B|B<;>omega
             cases l;simp at G H this;simp [G,H,this]
        refine⟨.pointer (some (l.add (i*m))),?_,.ptr (mL g _)⟩
        have A:(0:Int)<=(i:Int)/\(i:Int)<(p:Int):=by omega
        unfold Instr.indexAt
        simp [asIntOf,aR ok z,A,dV ok j]
        omega

theorem AF {mu:Mu} {t:TypeId} {x x' f c v:Value} (h:iP E t x f=some v) (p:ao mu x x') (q:ao mu f c) (w:World):
 ∃v',(Instr.index t x' c).run P w=.ok v' w/\ao mu v v':=by
 unfold iP at h
 cases g:E.und t with
 |none=>simp [g]at h
 | some d=>
   simp only [g]at h
   cases d<;>simp only []at h<;>try (cases h;done)
   case array n e=>
    cases p<;>simp only []at h<;>try (cases h;done)
    rename_i y l r u
    cases a:fU f n with
    |none=>simp [a]at h
    | some i=>
      obtain⟨k,rfl,hlt⟩:=qF a q
      simp only [a]at h
      cases o:E.sz e with
      |none=>simp [o]at h
      | some m=>
        simp only [o]at h
        obtain⟨v',z,A⟩:=lH ok h (⟨r,u⟩:VL mu y.toList l.toList) w
        refine⟨v',?_,A⟩
        have B:(0:Int)<=(i:Int)/\(i:Int)<(n:Int):=by omega
        unfold Instr.index
        simp [asIntOf,aR ok g,dV ok o,z]
        omega
   case string=>
    cases p<;>simp only []at h<;>try (cases h;done)
    rename_i s
    cases a:fU f s.size with
    |none=>simp [a]at h
    | some i=>
      obtain⟨k,rfl,hlt⟩:=qF a q
      simp only [a]at h
      cases j:(aF s)[i]? with
      |none=>simp [j]at h
      | some b=>
        simp only [j]at h
        cases h
        refine⟨.int .u8 b.toNat,?_,.int _ _⟩
        have e:s[i]? =some b:=by
         have r:i<s.data.toList.length:=(List.getElem?_eq_some_iff.1 j).1
         have u:=(List.getElem?_eq_some_iff.1 j).2
         rw [getElem?_pos s i hlt]
         congr 1
        unfold Instr.index
        simp [asIntOf,aR ok g,e]
end
end Go.Ab

namespace Go.Ab
theorem foldl_set(off:Nat)(vs:List Value)(j:Nat)(a:Array Value):
 ((vs.zipIdx j).foldl (fun cs (x:Value×Nat)=>cs.setIfInBounds (off+x.2) x.1) a).toList=bS a.toList (off+j) vs:=by
 induction vs generalizing j a with
 |nil=>simp [bS]
 | cons v vs b=>
   simp only [List.zipIdx_cons,List.foldl_cons,bS]
   rw [b]
   simp [Array.toList_setIfInBounds,Xi]
theorem pG(l:List Value)(off:Nat)(vs:List Value):(bS l off vs).length=l.length:=by
 induction vs generalizing l off with
 |nil=>rfl
 |cons v vs a=>simp [bS,a]
theorem setL_rel{mu:Mu}{l l':List Value}(h:VL mu l l')(off:Nat){vs a:List Value}(k:VL mu vs a):VL mu (bS l off vs) (bS l' off a):=by
 induction vs generalizing l l' off a with
 |nil=>rw [k.nil_left];exact h
 | cons v vs b=>
   obtain⟨e,r,rfl,c,d⟩:=k.cons_left
   simp only [bS]
   exact b (LR.set h off c) _ d
abbrev PL(mu:Mu):=LR (fun(a b:Nat×Value)=>a.1=b.1/\ao mu a.2 b.2)
theorem rE {mu:Mu} {f place':Nat->Option (Nat×Nat)} (w: ∀i r,f i=some r->place' i=some r) {a:List Value} {cells':Array Value} {b g:List (Nat×Value)} {r:List Value}
 (h:iz f a b=some r) (t:VL mu a cells'.toList) (hq:PL mu b g):
 ∃s,Instr.fill place' cells' g=some s/\VL mu r s.toList:=by
 induction b generalizing a cells' g with
 | nil=>
   rw [hq.nil_left]
   simp only [iz]at h
   cases h
   exact⟨cells',rfl,t⟩
 | cons p b y=>
   obtain⟨z,q,rfl,A,B⟩:=hq.cons_left
   obtain⟨i,v⟩:=p
   obtain⟨J,u⟩:=z
   obtain⟨rfl,C⟩:=A
   simp only [iz]at h
   cases k:f i with
   |none=>simp [k]at h
   | some D=>
     obtain⟨j,c⟩:=D
     simp only [k]at h
     have l: ∀x,v≠ .chan x:=by intro x e;subst e;simp at h
     have m:(bif zM (ah v).length c&&Xc (j+c) a.length then iz f (bS a j (ah v)) b else none)=some r:=by
      cases v<;>first|exact h|exact absurd rfl (l _)
     rw [bN,dK]at m
     by_cases d:(ah v).length=c/\j+c<=a.length
     . simp only [d.1,d.2,decide_true,Bool.and_self,cond_true]at m
       have n:VL mu (ah v) u.cells.toList:=C.cells l
       have o:u.cells.size=c:=by rw [<-d.1];exact n.1.symm
       have E:a.length=cells'.size:=t.1
       have F:=d.2
       obtain⟨s,G,H⟩:=y (cells':=u.cells.zipIdx.foldl (fun I (x:Value×Nat)=>I.setIfInBounds (j+x.2) x.1) cells') m (by
        rw [<-Array.foldl_toList,Array.toList_zipIdx,foldl_set]
        exact setL_rel t _ n) B
       refine⟨s,?_,H⟩
       simp only [Instr.fill,w i _ k]
       rw [if_neg (by simp [o];omega)]
       exact G
     . have:(decide ((ah v).length=c)&&decide (j+c<=a.length))=false:=by
        rw [<-Bool.not_eq_true];simpa using d
       rw [this]at m;simp at m
section
variable{E:Env}{P:Program}(ok:EOk E P)

theorem unP_run{mu:Mu}{op:UnOp}{x x' v:Value}(h:unP op x=some v)(b:ao mu x x')(w:World):(Op.unary op x').run P w=.ok v w/\ao mu v v:=by
 unfold unP at h
 cases op<;>cases b<;>simp only []at h<;>try (cases h;done)
 . cases h;refine⟨?_,.int _ _⟩;rw [hZ];rfl
 . rename_i k n
   cases a:sgn k with
   |true=>simp [a]at h
   | false=>
     simp only [a,cond_false]at h
     obtain⟨z,c,rfl⟩:=Option.map_eq_some_iff.1 h
     refine⟨?_,.int _ _⟩
     have d:k.signed=false:=by rw [<-sgn_eq];exact a
     have e:k.max=Xb (pw k-1):=by cases k<;>first|rfl|(simp [sgn]at a)
     have:=oz P w c
     simp only [Op.unary,d,e]
     simpa using this
 . cases h;exact⟨rfl,.bool _⟩

include ok
theorem Ah {mu:Mu} {t:TypeId} {c g:List (Nat×Value)} {v:Value} (h:iK E t c=some v) (hq:PL mu c g) (w:World):
 ∃v',(Instr.build t g.toArray).run P w=.ok v' w/\ao mu v v':=by
 unfold iK at h
 cases u:E.zero t with
 |none=>simp [u]at h
 | some z =>
   simp only [u]at h
   obtain⟨F,G,H,L,D⟩:=l8 ok u w
   have m:VL mu z F.cells.toList:=by
    rw [H];exact LR.refl fun a I=>ao.const mu (by simp only [List.all_eq_true]at D;exact D a I)
   cases x:E.und t with
   |none=>simp [x]at h
   | some d =>
     simp only [x]at h
     unfold Instr.build
     simp only [Sem.run_bind,G,Result.andThen_ok,aR ok x]
     cases d<;>simp only []at h<;>try (cases h;done)
     case struct s=>
      cases b:mC E s.toList with
      |none=>simp [b]at h
      | some o =>
        have p:(s.mapM (fun f=>do let n<-sizeOf f.type;pure (f.offset,n)):Sem _).run P w=.ok o.toArray w:=by
         rw [Array.mapM_eq_mapM_toList]
         simp only [Sem.run_map]
         have : (s.toList.mapM (fun f=>do let n<-sizeOf f.type;pure (f.offset,n)):Sem _).run P w=.ok o w:=by
          revert b
          generalize s.toList=l
          intro b
          induction l generalizing o with
          |nil=>simp only [mC]at b;cases b;simp
          | cons f l J=>
            simp only [mC]at b
            cases j:E.sz f.type with
            |none=>simp [j]at b
            | some n=>
              simp only [j]at b
              cases y:mC E l with
              |none=>simp [y]at b
              | some r=>
                simp only [y]at b
                cases b
                simp only [List.mapM_cons,Sem.run_bind,dV ok j,Result.andThen_ok,Sem.run_pure,J r y]
         simp only [this,Result.andThen_ok]
        simp only [b]at h
        cases hf:iz (fun i=>o[i]?) z c with
        |none=>simp only [hf]at h;cases h
        | some K=>
          simp only [hf]at h
          cases h
          obtain⟨A,B,q⟩:=rE (place':=fun i=>o.toArray[i]?) (fun i r C=>by simpa using C) hf m hq
          refine⟨.agg A,?_,.agg q.1 q.2⟩
          simp only [Sem.run_bind,p,Result.andThen_ok,B]
          rfl
     case array n e=>
      cases j:E.sz e with
      |none=>simp [j]at h
      | some k=>
        simp only [j]at h
        cases hf:iz (fun i=>some (i*k,k)) z c with
        |none=>simp only [hf]at h;cases h
        | some K=>
          simp only [hf]at h
          cases h
          obtain⟨A,B,q⟩:=rE (place':=fun i=>some (i*k,k)) (fun i r C=>C) hf m hq
          refine⟨.agg A,?_,.agg q.1 q.2⟩
          simp only [Sem.run_bind,dV ok j,Result.andThen_ok,B]
          rfl
theorem convP_run{mu:Mu}{c b:TypeId}{x x' v:Value}{d:TypeDesc}(g:E.und c=some d)(i: ∀e,d≠ .slice e)(h:jx E b x=some v)(j:ao mu x x')(w:World):
 (convert c b x').run P w=.ok v w/\ao mu v v:=by
 unfold jx at h
 cases j<;>simp only []at h<;>try (cases h;done)
 . rename_i k n
   cases a:E.und b with
   |none=>simp [a]at h
   | some f=>
     simp only [a]at h
     cases f<;>simp only []at h<;>try (cases h;done)
     rename_i l
     cases h
     refine⟨?_,.int _ _⟩
     unfold convert
     simp only [Sem.run_bind,aR ok g,aR ok a,Result.andThen_ok]
     rw [hZ]
     cases d<;>first|rfl|exact absurd rfl (i _)
 . rename_i s
   cases a:E.und b with
   |none=>simp [a]at h
   | some f=>
     simp only [a]at h
     cases f<;>simp only []at h<;>try (cases h;done)
     cases h
     refine⟨?_,.string _⟩
     unfold convert
     simp only [Sem.run_bind,aR ok g,aR ok a,Result.andThen_ok]
     cases d<;>first|rfl|exact absurd rfl (i _)
theorem lenP_run{mu:Mu}{t ty:TypeId}{ts:Array TypeId}{x x' v:Value}{xs:Array Value}(f:ts.toList.head?=some t)(a:xs.toList.head?=some x')(h:ns E t x=some v)(b:ao mu x x')(w:World):
 (Builtin.len_ ts ty xs).run P w=.ok v w/\ao mu v v:=by
 have g:ts[0]? =some t:=by rw [<-Xd];simpa [Xl]using f
 have i:xs[0]? =some x':=by rw [<-Xd];simpa [Xl]using a
 unfold Builtin.len_
 simp only [g,i]
 unfold ns at h
 cases c:E.und t with
 |none=>simp [c]at h
 | some d=>
   simp only [c]at h
   simp only [Sem.run_bind,aR ok c,Result.andThen_ok]
   cases d<;>simp only []at h<;>try (cases h;done)
   case string => cases b<;>simp only []at h<;>try (cases h;done)
                  cases h;exact⟨rfl,.int _ _⟩
   case array n e=>cases h;exact⟨rfl,.int _ _⟩
   case slice e => cases b<;>simp only []at h<;>try (cases h;done)
                   all_goals (cases h;exact⟨rfl,.int _ _⟩)
   case map k e => cases b<;>simp only []at h<;>try (cases h;done)
                   cases h;exact⟨rfl,.int _ _⟩
omit ok in
theorem tV{mu:Mu}(c:Bool){x x' v:Value}{l l':List Value}(h:fZ c x l=some v)(d:ao mu x x')(f:VL mu l l')(p: ∀y,x≠ .chan y)(w:World):
 ∃v',(l'.foldlM (if c then Builtin.max2 else Builtin.min2) x').run P w=.ok v' w/\ao mu v v':=by
 induction l generalizing x x' l' with
 | nil=>
   rw [f.nil_left]
   simp only [fZ]at h
   cases h
   exact⟨x',by simp,d⟩
 | cons y l g=>
   obtain⟨q,r,rfl,i,j⟩:=f.cons_left
   cases d<;>simp only [fZ]at h<;>try (cases h;done)
   cases i<;>simp only []at h<;>try (cases h;done)
   rename_i k a m b
   obtain⟨v',n,o⟩:=g h (.int _ _) j (by intro y e;cases e)
   refine⟨v',?_,o⟩
   simp only [List.foldlM_cons,Sem.run_bind]
   have:((if c then Builtin.max2 else Builtin.min2) (.int k a) (.int m b)).run P w=.ok (.int k (bif c then(bif lG a b then b else a)else(bif lG b a then b else a))) w:=by
    cases c
    . simp only [Bool.false_eq_true,if_false,Builtin.min2,cond_false,ia,Sem.run_pure]
      by_cases hlt:b<a<;>simp [hlt]
    . simp only [if_true,Builtin.max2,cond_true,ia,Sem.run_pure]
      by_cases hlt:a<b
      . simp [hlt]
      . simp [hlt]
   rw [this]
   exact n
theorem zH{mu:Mu}{x x' v:Value}{s t:TypeId}{q:Bool}(h:ol E x t q=some v)(r:ao mu x x')(w:World):
 ∃v',(Instr.typeAssert x' s t q).run P w=.ok v' w/\ao mu v v':=by
 unfold ol at h
 cases k:E.und t with
 |none=>simp [k]at h
 | some d=>
   simp only [k]at h
   have i: ∀n,d≠ .interface n:=by intro n e;subst e;simp at h
   have f: ∀{z y:Value},ao mu z y-> ∀b,ao mu (.tuple #[z,.bool b]) (.tuple #[y,.bool b]):=by
    intro z y j b
    have:VL mu [z,.bool b] [y,.bool b]:=LR.cons j (LR.cons (.bool b) LR.nil)
    exact .tuple this.1 this.2
   unfold Instr.typeAssert
   simp only [Sem.run_bind,aR ok k,Result.andThen_ok]
   have c:sg E x t q=some v:=by
    cases d<;>first|exact h|exact absurd rfl (i _)
   clear h
   unfold sg at c
   cases r<;>simp only []at c<;>try (cases c;done)
   . cases q with
     |false=>simp at c
     | true=>
       simp only [cond_true]at c
       obtain⟨z,j,rfl⟩:=Option.map_eq_some_iff.1 c
       obtain⟨l,m⟩:=oQ ok j w mu
       refine⟨.tuple #[z,.bool false],?_,f m false⟩
       cases d<;>first|(simp [l];done)|exact absurd rfl (i _)
   . rename_i u a o p
     rw [bN]at c
     by_cases g:u=t
     . subst g
       simp only [decide_true,cond_true]at c
       cases c
       cases q with
       |false=>refine⟨o,?_,p⟩;cases d<;>first|(simp;done)|exact absurd rfl (i _)
       |true=>refine⟨.tuple #[o,.bool true],?_,f p true⟩;cases d<;>first|(simp;done)|exact absurd rfl (i _)
     . simp only [g,decide_false,cond_false]at c
       cases q with
       |false=>simp at c
       | true=>
         simp only [cond_true]at c
         obtain⟨z,j,rfl⟩:=Option.map_eq_some_iff.1 c
         obtain⟨l,m⟩:=oQ ok j w mu
         refine⟨.tuple #[z,.bool false],?_,f m false⟩
         cases d<;>first|(simp [l,g];done)|exact absurd rfl (i _)
end
end Go.Ab

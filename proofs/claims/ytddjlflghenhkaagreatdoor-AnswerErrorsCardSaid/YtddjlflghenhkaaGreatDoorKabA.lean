/- A deterministic evaluator of the model's code, and that the model follows it (part 1). -/
import Derived.Calls
import Derived.Laws.Sem
import Derived.Laws.IdiomCopy
open Nat renaming beq->zM,le_refl->zO,blt->Xa,ble->Xb,add_assoc->Xg,le_trans->Xi,mul_le_mul_right->Xm
open Int renaming ofNat->Xc,negSucc->Xj
open Array renaming getElem?_toList->Xd,getElem?_modify->Xl
open List renaming getElem?_eq_getElem->Xe,length_cons->Xh,head?_eq_getElem?->Xk
open Bool renaming false_eq_true->Xf,and_self->Xn
open Option renaming isSome_none->Xo
set_option maxHeartbeats 400000
set_option linter.defProp false
set_option linter.unusedVariables false
set_option linter.unusedSimpArgs false
namespace Go.Ab
variable{b base c cap cap' i n top:Nat}
variable{a d v v' x x':Value}
variable{k:IntKind}
variable{y:Operand}
variable{w w':World}
variable{t:TypeId}
variable{r:Bool}
variable{l l':List Value}
inductive Tr(α:Type)where
 |nil
 |node (x:α) (l r:Tr α)
noncomputable section
namespace Tr
variable{α:Type}
def get(t:Tr α):Nat->Option α:=Tr.rec (motive:=fun _=>Nat->Option α) (fun _=>none)
 (fun x _ _ a b i=>Nat.rec (some x) (fun n _=>Bool.rec (b (n/2)) (a (n/2)) (zM (n%2) 0)) i) t
def set(t:Tr α):Nat->α->Tr α:=Tr.rec (motive:=fun _=>Nat->α->Tr α) (fun _ _=>.nil)
 (fun y l r a b i x=>Nat.rec (.node x l r) (fun n _=>Bool.rec (.node y l (b (n/2) x)) (.node y (a (n/2) x) r) (zM (n%2) 0)) i) t
def push(t:Tr α):Nat->α->Tr α:=Tr.rec (motive:=fun _=>Nat->α->Tr α) (fun _ x=>.node x .nil .nil)
 (fun y l r a b i x=>Nat.rec (.node y l r) (fun n _=>Bool.rec (.node y l (b (n/2) x)) (.node y (a (n/2) x) r) (zM (n%2) 0)) i) t
def pushAll:Tr α->Nat->List α->Tr α
 |t,_,[]=>t|t,n,x::l=>(t.push n x).pushAll (n+1) l
def ofList(l:List α):Tr α:=pushAll .nil 0 l
def slice(t:Tr α):Nat->Nat->Option (List α)
 |_,0=>some []| i,n+1=>match t.get i with
   |none=>none| some x=>match t.slice (i+1) n with
     |none=>none|some l=>some (x::l)
def setAll:Tr α->Nat->List α->Tr α
 |t,_,[]=>t|t,i,x::l=>(t.set i x).setAll (i+1) l
def blank(x:α):Nat->Nat->Tr α
 |0,_=>.nil| f+1,n=>match n with
   |0=>.nil|k+1=>.node x (blank x f ((k+1)/2)) (blank x f (k/2))
def Sized(t:Tr α)(n:Nat):Prop:= ∀i,(t.get i).isSome=true↔i<n
theorem get_nil(i:Nat):(Tr.nil:Tr α).get i=none:=rfl
theorem set_nil(i:Nat)(x:α):(Tr.nil:Tr α).set i x=.nil:=rfl
theorem push_nil(i:Nat)(x:α):(Tr.nil:Tr α).push i x=.node x .nil .nil:=rfl
theorem get_node(x:α)(l r:Tr α)(i:Nat):(Tr.node x l r).get i=match i with
 |0=>some x|n+1=>if n%2=0 then l.get (n/2)else r.get (n/2):=by
 cases i with
 |zero=>rfl| succ n=>
   show Bool.rec (motive:=fun _=>Option α) (r.get (n/2)) (l.get (n/2)) (zM (n%2) 0)=_;by_cases h:n%2=0
   . simp only [h];rfl
   simp_all[zM,if_neg]
theorem set_node(x:α)(l r:Tr α)(i:Nat)(y:α):(Tr.node x l r).set i y=match i with
 |0=>.node y l r|n+1=>if n%2=0 then .node x (l.set (n/2) y) r else .node x l (r.set (n/2) y):=by
 cases i with
 |zero=>rfl| succ n=>
   show Bool.rec (motive:=fun _=>Tr α) (.node x l (r.set (n/2) y)) (.node x (l.set (n/2) y) r) (zM (n%2) 0)=_;by_cases h:n%2=0
   . simp only [h];rfl
   simp_all[zM,if_neg]
theorem push_node(x:α)(l r:Tr α)(i:Nat)(y:α):(Tr.node x l r).push i y=match i with
 |0=>.node x l r|n+1=>if n%2=0 then .node x (l.push (n/2) y) r else .node x l (r.push (n/2) y):=by
 cases i with
 |zero=>rfl| succ n=>
   show Bool.rec (motive:=fun _=>Tr α) (.node x l (r.push (n/2) y)) (.node x (l.push (n/2) y) r) (zM (n%2) 0)=_;by_cases h:n%2=0
   . simp only [h];rfl
   simp_all[zM,if_neg]
theorem get_set(t:Tr α)(i:Nat)(x:α)(j:Nat):(t.set i x).get j=if i=j/\(t.get j).isSome then some x else t.get j:=by
 induction t generalizing i j with
 |nil=>simp [set_nil,get_nil]| node y l r b c=>
   rw [set_node];cases i with
   | zero=>grind[get_node]| succ n=>
     by_cases a:n%2=0
     . simp only [a,if_true];cases j with
       |zero=>simp [get_node]| succ m=>simp only [get_node];grind
     . simp only [a,if_false];cases j with
       |zero=>simp [get_node]| succ m=>simp only [get_node];grind
theorem rQ:(Tr.nil:Tr α).Sized 0:=by intro i;simp [get_nil]
theorem Eu{x:α}{l r:Tr α}(h:(Tr.node x l r).Sized n): ∃m,n=m+1/\l.Sized ((m+1)/2)/\r.Sized (m/2):=by
 cases n with
 |zero=>have:=(h 0).1 (by simp [get_node]);omega| succ m=>
   refine⟨m,rfl,fun i=>?_,fun i=>?_⟩
   . have:=h (2*i+1);simp only [get_node]at this;grind
   . have:=h (2*i+2);simp only [get_node]at this;grind
theorem get_push(t:Tr α)(n:Nat)(x:α)(a:t.Sized n)(j:Nat):(t.push n x).get j=if j=n then some x else t.get j:=by
 induction t generalizing n j with
 | nil=>
   have:n=0:=by
    cases n with
    |zero=>rfl|succ m=>have:=(a 0).2 (by omega);simp [get_nil]at this
   grind[push_nil,get_node,get_nil]
 | node y l r c d=>
   obtain⟨m,rfl,f,g⟩:=Eu a;rw [push_node];by_cases b:m%2=0
   . simp only [b,if_true];have e:l.Sized (m/2):=(by grind);cases j with
     |zero=>simp [get_node]| succ k=>simp only [get_node];grind
   . simp only [b,if_false];cases j with
     |zero=>simp [get_node]| succ k=>simp only [get_node];grind
theorem sized_push{t:Tr α}(x:α)(a:t.Sized n):(t.push n x).Sized (n+1):=by
 intro j;rw [get_push t n x a];by_cases h:j=n
 . simp [h]
 . simp only [h,if_false,a j];omega
theorem sized_set{t:Tr α}(i:Nat)(x:α)(a:t.Sized n):(t.set i x).Sized n:=by
 intro j;rw [get_set]
 split
 . rename_i h;simp;exact(a j).1 h.2
 . exact a j
theorem get_none{t:Tr α}{j:Nat}(a:t.Sized n)(h:n<=j):t.get j=none:=by
 cases b:t.get j with
 |none=>rfl|some x=>have:=(a j).1 (by simp [b]);omega
theorem get_some{t:Tr α}{j:Nat}(a:t.Sized n)(h:j<n): ∃x,t.get j=some x:=by have:=(a j).2 h;exact Option.isSome_iff_exists.1 this
theorem sized_pushAll{t:Tr α}(l:List α)(a:t.Sized n):(t.pushAll n l).Sized (n+l.length):=by
 induction l generalizing t n with
 |nil=>simpa [pushAll]using a|cons x l b=>grind[pushAll,sized_push]
theorem get_pushAll(t:Tr α)(n:Nat)(l:List α)(a:t.Sized n)(j:Nat):(t.pushAll n l).get j=if j<n then t.get j else l[j-n]? :=by
 induction l generalizing t n with
 | nil=>grind[pushAll,get_none]| cons x l b=>simp only [pushAll];rw [b _ _ (sized_push x a),get_push t n x a];grind
theorem sized_ofList(l:List α):(ofList l).Sized l.length:=by grind[sized_pushAll,rQ,ofList]
theorem get_ofList(l:List α)(j:Nat):(ofList l).get j=l[j]? :=by rw [ofList,get_pushAll _ _ _ rQ];simp
theorem sized_blank(x:α)(f n:Nat)(h:n<=f):(blank x f n).Sized n:=by
 induction f generalizing n with
 |zero=>grind[blank,rQ]| succ f a=>
   cases n with
   |zero=>simpa [blank]using rQ| succ k=>
     simp only [blank];intro i;rw [get_node];cases i with
     |zero=>simp| succ m=>
       simp only [];by_cases b:m%2=0
       . simp only [b,if_true];rw [a _ (by omega) (m/2)];omega
       . simp only [b,if_false];rw [a _ (by omega) (m/2)];omega
theorem get_blank(x:α)(f n:Nat)(h:n<=f)(j:Nat):(blank x f n).get j=if j<n then some x else none:=by
 induction f generalizing n j with
 |zero=>grind[blank,get_nil]| succ f a=>
   cases n with
   |zero=>rfl| succ k=>simp only [blank];rw [get_node];grind
theorem slice_spec{t:Tr α}{l:List α}(h:t.slice i n=some l):l.length=n/\ ∀k,k<n->t.get (i+k)=l[k]? :=by
 induction n generalizing i l with
 |zero=>simp [slice]at h;subst h;simp| succ n a=>grind[slice]
theorem slice_mk{t:Tr α}(h: ∀k,k<n->(t.get (i+k)).isSome): ∃l,t.slice i n=some l:=by
 induction n generalizing i with
 |zero=>exact⟨[],by simp [slice]⟩| succ n a=>
   obtain⟨x,b⟩:=Option.isSome_iff_exists.1 (h 0 (by omega));obtain⟨l,c⟩:=a (i:=i+1) (fun k d=>by grind);grind[slice]
theorem sized_setAll{t:Tr α}(i:Nat)(l:List α)(a:t.Sized n):(t.setAll i l).Sized n:=by
 induction l generalizing t i with
 |nil=>simpa [setAll]using a|cons x l b=>grind[setAll,sized_set]
theorem get_setAll(t:Tr α)(i:Nat)(l:List α)(n:Nat)(b:t.Sized n)(c:i+l.length<=n)(j:Nat):
 (t.setAll i l).get j=if i<=j/\j<i+l.length then l[j-i]? else t.get j:=by
 induction l generalizing t i with
 |nil=>simp_all[setAll,if_neg,List.length_nil]| cons x l d=>
   simp only [Xh]at c;simp only [setAll];rw [d _ _ (sized_set i x b) (by omega),get_set];simp only [Xh];by_cases f:i=j
   . have g: ¬(i+1<=j/\j<i+1+l.length):=(by omega);have e:i<=j/\j<i+(l.length+1):=(by omega);have a:=(b j).2 (by omega);grind
   grind
end Tr
end
noncomputable section
def pw:IntKind->Nat
 | .i8| .u8=>256| .i16| .u16=>65536
 | .i32| .u32=>4294967296| .i64| .u64=>18446744073709551616
def sgn:IntKind->Bool
 | .i8| .i16| .i32| .i64=>true|_=>false
def hf:IntKind->Nat
 | .i8=>128| .i16=>32768| .i32=>2147483648| .i64=>9223372036854775808| .u8=>256| .u16=>65536| .u32=>4294967296| .u64=>18446744073709551616
def an(k:IntKind)(n:Int):Int:=match n with
 | .ofNat m=>bif Xa m (hf k)then .ofNat m else
  bif sgn k then(bif Xa (m%pw k) (hf k)then .ofNat (m%pw k)else .negSucc (pw k-1-m%pw k))else .ofNat (m%pw k)
 | .negSucc m=>bif sgn k then
  (bif Xa m (hf k)then .negSucc m else bif Xa (pw k-1-m%pw k) (hf k)then .ofNat (pw k-1-m%pw k)else .negSucc (m%pw k))
  else .ofNat (pw k-1-m%pw k)
def oG:Int->Int->Bool
 | .ofNat a,.ofNat b=>Xa a b| .ofNat _,.negSucc _=>false| .negSucc _,.ofNat _=>true| .negSucc a,.negSucc b=>Xa b a
def jg:Int->Int->Bool
 | .ofNat a,.ofNat b=>zM a b| .negSucc a,.negSucc b=>zM a b|_,_=>false
def kidx:IntKind->Nat
 | .i8=>0| .i16=>1| .i32=>2| .i64=>3| .u8=>4| .u16=>5| .u32=>6| .u64=>7
def jO(a b:IntKind):Bool:=zM (kidx a) (kidx b)
def jf:Int->Option Nat
 | .ofNat n=>some n| .negSucc _=>none
def jv(op:BinOp)(k:IntKind)(x y:Int):Option Int:=match x,y with
 | .ofNat a,.ofNat b=>bif Xa a (pw k)&&Xa b (pw k)then match op with
  | .and=>some (an k (.ofNat (Nat.land a b)))| .or=>some (an k (.ofNat (Nat.lor a b)))| .xor=>some (an k (.ofNat (Nat.xor a b)))| .andNot=>some (an k (.ofNat (Nat.xor a (Nat.land a b))))|_=>none
   else none
 | .negSucc a,.ofNat b=>bif zM b 1 then match op with
  | .and=>some (.ofNat ((a+1)%2))|_=>none
   else none
 |_,_=>none
def shrI(x:Int)(n:Nat):Int:=match x with
 | .ofNat m=>.ofNat (m/Nat.pow 2 n)| .negSucc m=>.negSucc (m/Nat.pow 2 n)
def bitsOf:IntKind->Nat
 | .i8| .u8=>8| .i16| .u16=>16
 | .i32| .u32=>32| .i64| .u64=>64
def ug(op:BinOp)(k:IntKind)(x y:Int):Option Int:=match jf y with
 |none=>none| some n=>match op with
   | .shl=>some (an k (x*Xc (Nat.pow 2 (bif Xb n (bitsOf k)then n else bitsOf k))))
   | .shr=>some (shrI x (bif Xb n (bitsOf k)then n else bitsOf k))
   |_=>none
def jd(op:BinOp)(k:IntKind)(x y:Int):Option Value:=match op with
 | .add=>some (.int k (an k (x+y)))| .sub=>some (.int k (an k (x-y)))| .mul=>some (.int k (an k (x*y)))| .quo=>bif jg y 0 then none else some (.int k (an k (x.tdiv y)))
 | .rem=>bif jg y 0 then none else some (.int k (x.tmod y))
 | .and| .or| .xor| .andNot=>(jv op k x y).map (.int k ·)| .eql=>some (.bool (jg x y))| .neq=>some (.bool (!jg x y))| .lss=>some (.bool (oG x y))| .leq=>some (.bool (!oG y x))| .gtr=>some (.bool (oG y x))| .geq=>some (.bool (!oG x y))|_=>none
def poison:Value:=.chan none
def ae:Value->List Value
 | .agg a=>a.toList|v=>[v]
def du:Value->Bool
 | .bool _| .int _ _| .string _| .pointer none| .slice none 0 0| .map none| .nilFunc| .nilIface=>true|_=>false
def mM:Value->Bool
 | .agg _| .tuple _| .chan _=>false|_=>true
def aM(s:ByteArray):List UInt8:=s.data.toList
def iV(l:List UInt8):ByteArray:=⟨⟨l⟩⟩
def iX:List UInt8->List UInt8->Bool
 | [],[]=>true|a::x,b::y=>zM a.toNat b.toNat&&iX x y|_,_=>false
def mO:List UInt8->List UInt8->Bool
 |_,[]=>false| [],_::_=>true|a::x,b::y=>Xa a.toNat b.toNat||(zM a.toNat b.toNat&&mO x y)
structure fS where
 fn:FuncId
 regs:Tr Value
 nr:Nat
 params:Array Tmp
 assign:Code
 body:Code
 st:Nat
 pending:Option Code
 defers:Nat
inductive Blk where
 |dead
 |cells (t:Tr Value) (sz:Nat) (elem:TypeId) (md:Nat)
 |map (es:List (Value×Value×Nat)) (clock:Nat)
 |loop (l:fS)
 |dfr
structure Hp where
 n:Nat
 t:Tr Blk
 lo:Nat
abbrev OZ(h:Hp):Prop:=h.t.Sized h.n
def Hp.get(h:Hp)(b:Nat):Option Blk:=h.t.get b
def dR(a b:Nat):Nat:=bif Xb a b then a else b
def Hp.put(h:Hp)(b:Nat)(x:Blk):Hp:={n:=h.n,t:=h.t.set b x,lo:=dR b h.lo}
def Hp.new(h:Hp)(x:Blk):Hp:={n:=h.n+1,t:=h.t.push h.n x,lo:=h.lo}
def Hp.load(h:Hp)(b o n:Nat):Option (List Value):=match h.get b with
 |some (.cells t a _ _)=>bif Xb (o+n) a then t.slice o n else none
 |_=>none
def Hp.store(h:Hp)(b o:Nat)(l:List Value):Option Hp:=match h.get b with
 |some (.cells t a d c)=>bif Xb (o+l.length) a&& !Nat.beq c 0&&l.all mM then some (h.put b (.cells (t.setAll o l) a d c))else none
 |_=>none
structure Env where
 fn:Nat->Option Func
 ty:Nat->Option TypeInfo
 eqok:Nat->Bool
 orc:Nat->List Value->Option Value:=fun _ _=>none
 cut:Nat->Bool:=fun _=>false
def Env.und(E:Env)(t:TypeId):Option TypeDesc:=match E.ty t with
 |none=>none| some i=>match i.desc with
   | .named _ u=>match E.ty u with
     |none=>none|some j=>some j.desc
   |d=>some d
def Env.sz(E:Env)(t:TypeId):Option Nat:=match E.ty t with
 |none=>none|some i=>some i.size
def Env.agg(E:Env)(t:TypeId):Option Bool:=match E.und t with
 |none=>none|some (.struct _)=>some true|some (.array _ _)=>some true|some _=>some false
def Env.zero(E:Env)(t:TypeId):Option (List Value):=match E.ty t with
 |none=>none| some i=>match i.zero with
   |none=>none|some z=>bif (ae z).all du then some (ae z)else none
def Env.zeroV(E:Env)(t:TypeId):Option Value:=match E.ty t with
 |none=>none| some i=>match i.zero with
   |none=>none|some z=>bif (ae z).all du then some z else none
def partOf(E:Env)(t:TypeId)(cs:List Value)(off:Nat):Option Value:=match E.agg t with
 |none=>none| some true=>match E.sz t with
   |none=>none|some n=>bif Xb (off+n) cs.length then some (.agg ⟨(cs.drop off).take n⟩)else none
 |some false=>cs[off]?
def eqFields(E:Env)(a:TypeId->Value->Value->Option Bool):List Field->List Value->List Value->Option Bool
 | [],_,_=>some true| f ::d,b,c=>bif f.name== "_" then none else
   match partOf E f.type b f.offset with
   |none=>none| some x=>match partOf E f.type c f.offset with
     |none=>none| some y=>match a f.type x y with
       |some true=>eqFields E a d b c|r=>r
def pq (E:Env) (a:TypeId->Value->Value->Option Bool) (e:TypeId) (k:Nat) (xs ys:List Value):Nat->Nat->Option Bool
 |0,_=>some true| n + 1,i=>match partOf E e xs (i*k)with
   |none=>none| some x=>match partOf E e ys (i*k)with
     |none=>none| some y=>match a e x y with
       |some true=>pq E a e k xs ys n (i+1)|r=>r
def fj (E:Env):Nat->TypeId->Value->Value->Option Bool
 |0,_,_,_=>none| d + 1,t,x,y=>match E.und t with
   | some .bool=>match x,y with
     | .bool a,.bool b=>some (bif a then b else !b)
     |_,_=>none
   | some (.int _)=>match x,y with
     | .int k a,.int h b=>bif jO k h then some (jg a b)else none
     |_,_=>none
   | some .string=>match x,y with
     | .string a,.string b=>some (iX (aM a) (aM b))|_,_=>none
   | some (.pointer _)=>match x,y with
     | .pointer none,.pointer b=>some b.isNone| .pointer (some _),.pointer none=>some false|_,_=>none
   | some (.interface _)=>match x,y with
     | .nilIface,.nilIface=>some true| .nilIface,.iface _ _=>some false| .iface _ _,.nilIface=>some false| .iface c j,.iface l m=>bif zM c l then
       match E.ty c with
       |none=>none|some i=>bif i.comparable then fj E d c j m else none
       else some false
     |_,_=>none
   | some (.struct o)=>match x,y with
     | .agg f,.agg g=>bif E.eqok t then eqFields E (fj E d) o.toList f.toList g.toList else none
     |_,_=>none
   | some (.array n e)=>match x,y with
     | .agg f,.agg g=>match E.sz e with
       |none=>none|some k=>pq E (fj E d) e k f.toList g.toList n 0
     |_,_=>none
   | some (.slice _)=>match x,y with
     | .slice none _ _,.slice b _ _=>some b.isNone| .slice (some _) _ _,.slice none _ _=>some false|_,_=>none
   | some (.map _ _)=>match x,y with
     | .map none,.map b=>some b.isNone| .map (some _),.map none=>some false|_,_=>none
   | some (.func _ _ _)=>match x,y with
     | .nilFunc,.nilFunc=>some true| .nilFunc,.func _ _ _=>some false| .func _ _ _,.nilFunc=>some false|_,_=>none
   |_=>none
def iq(E:Env)(t:TypeId)(x y:Operand)(a b:Value):Option Bool:=match a,b with
 | .chan _,_=>none|_,.chan _=>none| .nilIface,.nilIface=>match x,y with
   | .const _,_=>fj E 40 t .nilIface .nilIface|_,.const _=>fj E 40 t .nilIface .nilIface|_,_=>none
 | .agg _,.agg _=>bif E.eqok t then fj E 40 t a b else none
 |_,_=>fj E 40 t a b
def bV(E:Env)(op:BinOp)(t:TypeId)(x y:Operand)(a b:Value):Option Value:=match a,b with
 | .int k m,.int c n=>match op with
   | .shl=>(ug .shl k m n).map (.int k ·)| .shr=>(ug .shr k m n).map (.int k ·)|op=>bif jO k c then jd op k m n else none
 | .string s,.string u=>match op with
   | .add=>bif Xb (s.size+u.size) 1099511627776 then some (.string (iV (aM s++aM u)))else none
   | .eql=>some (.bool (iX (aM s) (aM u)))| .neq=>some (.bool (!iX (aM s) (aM u)))| .lss=>some (.bool (mO (aM s) (aM u)))| .geq=>some (.bool (!mO (aM s) (aM u)))| .leq=>some (.bool (mO (aM s) (aM u)||iX (aM s) (aM u)))
   | .gtr=>some (.bool (!(mO (aM s) (aM u)||iX (aM s) (aM u))))
   |_=>none
 | a,b=>match op with
   | .eql=>(iq E t x y a b).map (.bool ·)| .neq=>(iq E t x y a b).map fun r=>.bool (!r)
   |_=>none
def unP(op:UnOp)(x:Value):Option Value:=match op,x with
 | .neg,.int k n=>some (.int k (an k (0-n)))| .not,.bool b=>some (.bool (!b))| .xor,.int k n=>bif sgn k then none else(jv .xor k (.ofNat (pw k-1)) n).map (.int k ·)
 |_,_=>none
def gL(v:Value)(y:Nat):Option Nat:=match v with
 | .int _ i=>match jf i with
   |some n=>bif Xb n y then some n else none
   |none=>none
 |_=>none
def gY(len cap:Nat)(b a c:Option Value):Option (Nat×Nat×Nat):=
 match(match c with|some v=>gL v cap|none=>some cap)with
 |none=>none| some m=>match(match a with|some v=>gL v m|none=>bif c.isSome then none else some len)with
   |none=>none| some h=>match(match b with|some v=>gL v h|none=>some 0)with
     |none=>none|some l=>some (l,h,m)
def ig(a:Addr)(n:Nat):Addr:=⟨a.block,a.off+n,none⟩
def ic (E:Env) (t:TypeId) (x:Value) (c b d:Option Value):Option Value:=match E.und t with
 | some .string=>match x with
   | .string s=>bif d.isSome then none else match gY s.size s.size c b none with
     |none=>none|some (l,h,_)=>some (.string (iV (((aM s).drop l).take (h-l))))
   |_=>none
 | some (.slice e)=>match x with
   | .slice a f g=>match gY f g c b d with
     |none=>none| some (l,h,m)=>match E.sz e with
       |none=>none| some k=>match a with
         |none=>some (.slice none (h-l) (m-l))| some a=>match a.spot with
           |none=>some (.slice (some (bif zM m l then a else ig a (l*k))) (h-l) (m-l))
           |some i=>bif zM i k then some (.slice (some ⟨a.block,bif zM m l then a.off else a.off+l*k,some k⟩) (h-l) (m-l))else none
   |_=>none
 | some (.array n e)=>match x with
   | .pointer (some a)=>match gY n n c b d with
     |none=>none| some (l,h,m)=>match E.sz e with
       |none=>none|some k=>some (.slice (some ⟨a.block,bif zM m l then a.off else a.off+l*k,none⟩) (h-l) (m-l))
   |_=>none
 |_=>none
def aG (E:Env) (s:TypeId) (x:Value) (i:Nat):Option Value:=match E.und s with
 | some (.struct b)=>match b.toList[i]? with
   |none=>none| some f=>match E.sz f.type with
     | some (_+1)=>match x with
       | .pointer (some a)=>some (.pointer (some (ig a f.offset)))|_=>none
     |_=>none
 |_=>none
def bG(E:Env)(t:TypeId)(x:Value)(i:Nat):Option Value:=match E.und t with
 | some (.struct a)=>match a.toList[i]? with
   |none=>none| some f=>match x with
     | .agg b=>partOf E f.type b.toList f.offset|_=>none
 |_=>none
def iN(v:Value)(len:Nat):Option Nat:=match v with
 | .int _ i=>match jf i with
   |some n=>bif Xa n len then some n else none
   |none=>none
 |_=>none
def fZ (E:Env) (t:TypeId) (x c:Value):Option Value:=match E.und t with
 | some (.slice e)=>match x with
   | .slice (some a) b _=>match iN c b with
     |none=>none| some i=>match E.sz e with
       |none=>none|some k=>some (.pointer (some (ig a (i*k))))
   |_=>none
 | some (.array n e)=>match x with
   | .pointer (some a)=>match iN c n with
     |none=>none| some i=>match E.sz e with
       |none=>none|some k=>some (.pointer (some (ig a (i*k))))
   |_=>none
 |_=>none
def iY (E:Env) (t:TypeId) (x a:Value):Option Value:=match E.und t with
 | some (.array n e)=>match x with
   | .agg c=>match iN a n with
     |none=>none| some i=>match E.sz e with
       |none=>none|some k=>partOf E e c.toList (i*k)
   |_=>none
 | some .string=>match x with
   | .string s=>match iN a s.size with
     |none=>none| some i=>match(aM s)[i]? with
       |none=>none|some b=>some (.int .u8 (.ofNat b.toNat))
   |_=>none
 |_=>none
def cg:List Value->Nat->List Value->List Value
 |l,_,[]=>l|l,a,v::b=>cg (l.set a v) (a+1) b
def lO(a:Nat->Option (Nat×Nat)):List Value->List (Nat×Value)->Option (List Value)
 |cells,[]=>some cells| cells,(i,v)::c=>match a i with
   |none=>none| some (d,b)=>match v with
     | .chan _=>none|v=>bif zM (ae v).length b&&Xb (d+b) cells.length then lO a (cg cells d (ae v)) c else none
def oZ(E:Env):List Field->Option (List (Nat×Nat))
 | []=>some []| f ::a=>match E.sz f.type with
   |none=>none| some n=>match oZ E a with
     |none=>none|some l=>some ((f.offset,n)::l)
def jQ (E:Env) (t:TypeId) (a:List (Nat×Value)):Option Value:=match E.zero t with
 |none=>none| some z=>match E.und t with
   | some (.struct c)=>match oZ E c.toList with
     |none=>none| some d=>match lO (fun i=>d[i]?) z a with
       |none=>none|some b=>some (.agg ⟨b⟩)
   | some (.array _ e)=>match E.sz e with
     |none=>none| some k=>match lO (fun i=>some (i*k,k)) z a with
       |none=>none|some b=>some (.agg ⟨b⟩)
   |_=>none
def ju(E:Env)(a:TypeId)(x:Value):Option Value:=match x with
 | .int _ n=>match E.und a with
   |some (.int k)=>some (.int k (an k n))|_=>none
 | .string s=>match E.und a with
   |some .string=>some (.string s)|_=>none
 |_=>none
def lenP(E:Env)(t:TypeId)(x:Value):Option Value:=match E.und t with
 | some .string=>match x with
   | .string s=>some (.int .i64 (.ofNat s.size))|_=>none
 |some (.array n _)=>some (.int .i64 (.ofNat n))| some (.slice _)=>match x with
   | .slice _ n _=>some (.int .i64 (.ofNat n))|_=>none
 | some (.map _ _)=>match x with
   | .map none=>some (.int .i64 0)|_=>none
 |_=>none
def iI(c:Bool):Value->List Value->Option Value
 |x,[]=>some x| x,y::l=>match x with
   | .int k a=>match y with
     | .int _ b=>iI c (.int k (bif c then(bif oG a b then b else a)else(bif oG b a then b else a))) l
     |_=>none
   |_=>none
def uZ(E:Env)(x:Value)(t:TypeId)(a:Bool):Option Value:=match x with
 | .nilIface=>bif a then(E.zeroV t).map fun z=>.tuple #[z,.bool false]else none
 | .iface u v=>bif zM u t then some (bif a then .tuple #[v,.bool true]else v)else bif a then(E.zeroV t).map fun z=>.tuple #[z,.bool false]else none
 |_=>none
def qO(E:Env)(x:Value)(t:TypeId)(a:Bool):Option Value:=match E.und t with
 |none=>none|some (.interface _)=>none|some _=>uZ E x t a
def pop(E:Env)(ρ:Operand->Value):Op->Option Value
 | .move x=>some (ρ x)| .assign x=>some (ρ x)| .pick c a b=>match ρ c with
   | .bool t=>some (bif t then ρ a else ρ b)
   |_=>none
 | .nilCheck x=>match ρ x with
   | .pointer (some a)=>some (.pointer (some a))| .func (.func f) a b=>some (.func (.func f) a b)|_=>none
 | .binOp e t x y _=>bV E e t x y (ρ x) (ρ y)| .unOp e _ x=>unP e (ρ x)| .makeInterface t x=>match E.und t with
   |none=>none|some (.interface _)=>none|some _=>some (.iface t (ρ x))
 | .makeFunc (.func f) a b=>some (.func (.func f) (a.map ρ) (b.map ρ))| .slice t x l h m=>ic E t (ρ x) (l.map ρ) (h.map ρ) (m.map ρ)| .fieldAddr s x i=>aG E s (ρ x) i| .field t x i=>bG E t (ρ x) i| .indexAddr t x i=>fZ E t (ρ x) (ρ i)| .index t x i=>iY E t (ρ x) (ρ i)| .extract t i=>match ρ t with
   | .tuple g=>g.toList[i]?|_=>none
 | .build t d=>jQ E t (d.toList.map fun p=>(p.1,ρ p.2))
 | .typeAssert x _ t j=>qO E (ρ x) t j| .call c=>match c.callee with
   | .builtin .len=>match c.argTypes.toList,c.args.toList with
     |t::_,x::_=>lenP E t (ρ x)|_,_=>none
   | .builtin .min=>match c.args.toList.map ρ with
     |x::l=>iI false x l| []=>none
   | .builtin .max=>match c.args.toList.map ρ with
     |x::l=>iI true x l| []=>none
   |_=>none
 |_=>none
end
noncomputable section
inductive dM where
 |val (v:Value)
 |skip
 |call (f:FuncId) (args:List Value)
 |yield (l:Nat) (args:List Value)
 |recov
 |defer (d:Deferred)
 |panic (v:Value)
def fV (E:Env) (h:Hp) (t:TypeId) (x:Value):Option Value:=match x with
 | .pointer (some a)=>match E.agg t with
   |none=>none| some true=>match E.sz t with
     |none=>none| some n=>match h.load a.block a.off n with
       |none=>none|some l=>some (.agg ⟨l⟩)
   | some false=>match h.load a.block a.off 1 with
     |some [v]=>some v|_=>none
 |_=>none
def jV(E:Env)(h:Hp)(t:TypeId)(x v:Value):Option Hp:=match x with
 | .pointer (some a)=>match E.sz t with
   |none=>none| some n=>match v with
     | .chan _=>none|v=>bif zM (ae v).length n then h.store a.block a.off (ae v)else none
 |_=>none
def ptrTo(b:Nat):Value:=.pointer (some ⟨b,0,none⟩)
def s7(h:Hp)(l:List Value)(el:TypeId):Hp×Value:=(h.new (.cells (Tr.ofList l) l.length el 1),ptrTo h.n)
def qa:Value->Bool
 | .int _ _=>true|_=>false
def vf:Value->Bool
 | .int _ _| .string _| .bool _=>true| .agg a=>a.toList.all qa|_=>false
def dP:List Value->List Value->Option Bool
 | [],[]=>some true| .int k x::l,.int a y::b=>bif jO k a then(match dP l b with
   |none=>none|some r=>some (bif jg x y then r else false))else none
 |_,_=>none
def cF(a b:Value):Option Bool:=match a,b with
 | .int k x,.int c y=>bif jO k c then some (jg x y)else none
 | .string s,.string u=>some (iX (aM s) (aM u))| .bool x,.bool y=>some (bif x then y else !y)
 | .agg x,.agg y=>dP x.toList y.toList|_,_=>none
def isKd(kd:IntKind)(v:Value):Bool:=match v with
 | .int a _=>jO kd a|_=>false
def bQ (E:Env) (t:TypeId) (k:Value):Bool:=match E.und t with
 | some (.int a)=>match k with
   | .int b _=>jO a b|_=>false
 | some .string=>match k with
   | .string _=>true|_=>false
 | some .bool=>match k with
   | .bool _=>true|_=>false
 | some (.array n e)=>match k with
   | .agg c=>match E.agg e with
     | some false=>match E.sz e with
       | some s=>match E.und e with
         |some (.int a)=>bif zM s 1 then(bif zM c.toList.length n then c.toList.all (isKd a)else false)else false
         |_=>false
       |none=>false
     |_=>false
   |_=>false
 |_=>false
def bI(k:Value):List (Value×Value×Nat)->Option (Option (Value×Nat))
 | []=>some none| (a,v,n)::l=>match cF k a with
   |none=>none|some true=>some (some (v,n))|some false=>bI k l
def jS(k v:Value):List (Value×Value×Nat)->List (Value×Value×Nat)
 | []=>[]| (a,b,n)::l=>match cF k a with
   |some true=>(k,v,n)::l|_=>(a,b,n)::jS k v l
def mr(k:Value):List (Value×Value×Nat)->List (Value×Value×Nat)
 | []=>[]| (a,b,n)::l=>match cF k a with
   |some true=>l|_=>(a,b,n)::mr k l
def jy(n:Nat)(v:Value):List (Value×Value×Nat)->Option (List (Value×Value×Nat))
 | []=>none| (b,c,a)::l=>bif zM a n then some ((b,v,a)::l)else match jy n v l with
   |none=>none|some d=>some ((b,c,a)::d)
def kP(E:Env)(h:Hp)(t:TypeId)(m k:Value):Option (Nat×List (Value×Value×Nat)×Nat×TypeId):=match E.und t with
 | some (.map a b)=>bif bQ E a k then match m with
   | .map (some r)=>match h.get r with
     |some (.map d c)=>some (r,d,c,b)|_=>none
   |_=>none
   else none
 |_=>none
def dw (E:Env) (h:Hp) (t:TypeId) (m k:Value) (a:Bool):Option Value:=match E.und t with
 | some (.map b c)=>bif bQ E b k then
  match(match m with
   | .map none=>some none| .map (some r)=>match h.get r with
     |some (.map d _)=>bI k d|_=>none
   |_=>none)with
  |none=>none|some (some (v,_))=>some (bif a then .tuple #[v,.bool true]else v)
  | some none=>match E.zeroV c with
    |none=>none|some z=>some (bif a then .tuple #[z,.bool false]else z)
   else none
 |_=>none
def d6(E:Env)(h:Hp)(t:TypeId)(m k v:Value):Option Hp:=match kP E h t m k with
 |none=>none| some (r,a,c,_)=>match bI k a with
   |none=>none|some (some _)=>some (h.put r (.map (jS k v a) c))|some none=>some (h.put r (.map (a++[(k,v,c)]) (c+1)))
def oq(E:Env)(h:Hp)(t:TypeId)(m k:Value):Option Hp:=match kP E h t m k with
 |none=>none| some (r,a,c,_)=>match bI k a with
   |none=>none|some _=>some (h.put r (.map (mr k a) c))
def kY(E:Env)(h:Hp)(t:TypeId)(m k:Value):Option (Hp×Value):=match kP E h t m k with
 |none=>none| some (r,a,c,b)=>match bI k a with
   |none=>none|some (some (v,n))=>some (h.put r (.map (jS k v a) c),.tuple #[v,.int .i64 (.ofNat n)])| some none=>match E.zeroV b with
     |none=>none|some z=>some (h.put r (.map (a++[(k,z,c)]) (c+1)),.tuple #[z,.int .i64 (.ofNat c)])
def m8 (h:Hp) (m s v:Value):Option Hp:=match m with
 | .map (some r)=>match h.get r with
   | some (.map b c)=>match s with
     | .int _ i=>match jf i with
       |none=>none| some n=>match jy n v b with
         |none=>none|some a=>some (h.put r (.map a c))
     |_=>none
   |_=>none
 |_=>none
def bH(a:List Value):Nat->List Value
 |0=>[]|n+1=>a++bH a n
def natV(v:Value):Option Nat:=match v with
 | .int _ i=>jf i|_=>none
def kK (E :Env) (h:Hp) (t:TypeId) (l c:Value):Option (Hp×Value):=match E.und t with
 | some (.slice e)=>match natV l with
   |none=>none| some l=>match natV c with
     |none=>none| some c=>match E.ty e with
       |none=>none| some i=>bif Xb l c&&Xb (c*(i.bytes+1)) 70368744177664 then
        match E.zero e with
        |none=>none| some a=>bif zM a.length i.size then
         match a with
         | [z]=>some (h.new (.cells (Tr.blank z c c) c e 1),.slice (some ⟨h.n,0,none⟩) l c)|a=>some (h.new (.cells (Tr.ofList (bH a c)) (c*i.size) e 1),.slice (some ⟨h.n,0,none⟩) l c)
          else none
         else none
 |_=>none
def lq (E:Env) (h:Hp) (t:TypeId) (n:Nat) (a:List (Nat×Value)):Option (Hp×Value):=match E.und t with
 | some (.slice e)=>match E.sz e with
   |none=>none| some k=>bif Xb (n*k) 16777216 then
    match E.zero e with
    |none=>none| some b=>bif zM b.length k then
     match lO (fun i=>some (i*k,k)) (bH b n) a with
     |none=>none|some c=>some (h.new (.cells (Tr.ofList c) c.length e 1),.slice (some ⟨h.n,0,none⟩) n n)
      else none
     else none
 |_=>none
def aK(h:Hp)(k:Nat):Value->Option (Nat×List Value)
 | .slice none 0 _=>some (0,[])| .slice (some a) n _=>match h.load a.block a.off (n*k)with
   |none=>none|some l=>some (n,l)
 | .string s=>bif zM k 1 then some (s.size,(aM s).map fun b=>.int .u8 (.ofNat b.toNat))else none
 |_=>none
def kZ(c:Tr Value)(b off m:Nat)(new:List Value):Option (Tr Value×Nat):=
 bif zM off 0&&zM m b then some (c.pushAll b new,b+new.length)else
  bif Xb (off+m) b then match c.slice off m with
   |none=>none|some a=>some (Tr.ofList (a++new),(a++new).length)
  else none
def pV (h:Hp) (e:TypeId) (k:Nat) (a:Option Addr) (len n:Nat) (new:List Value):Option (Hp×Value):=match a with
 |none=>bif zM len 0 then some (h.new (.cells (Tr.ofList new) new.length e 1),.slice (some ⟨h.n,0,some k⟩) n n)else none
 | some a=>match h.get a.block with
   | some (.cells c d _ f)=>match kZ c d a.off (len*k) new with
     |none=>none| some (t2,b)=>match a.spot with
       | some g=>bif zM g k&& !Nat.beq f 0&&new.all mM then
        some ((h.put a.block .dead).new (.cells t2 b e 1),.slice (some ⟨h.n,0,some k⟩) (len+n) (len+n))
         else none
       |none=>some (h.new (.cells t2 b e 1),.slice (some ⟨h.n,0,some k⟩) (len+n) (len+n))
   |_=>none
def ez(E:Env)(t:TypeId):Option Bool:=match E.und t with
 |none=>none|some (.int _)=>some true|some _=>some false
def gX (E:Env) (h:Hp) (e:TypeId) (i:TypeInfo) (a:Option Addr) (len cap n:Nat) (new:List Value):Option (Hp×Value):=
 bif Xb (len+n) cap then
  match a with
  |none=>some (h,.slice none (len+n) cap)| some a=>match new with
    | []=>some (h,.slice (some a) (len+n) cap)| new=>match h.store a.block (a.off+len*i.size) new with
      |none=>none|some b=>some (b,.slice (some a) (len+n) cap)
 else bif Xb ((len+n)*(i.bytes+1)) 70368744177664&&(Xa 0 i.bytes)then
  match E.zero e with
  |none=>none|some c=>bif zM c.length i.size then pV h e i.size a len n new else none
 else none
def lH (E:Env) (h:Hp) (t:TypeId) (s x:Value):Option (Hp×Value):=match E.und t with
 | some (.slice e)=>match E.ty e with
   |none=>none| some i=>match s with
     | .slice a b c=>match aK h i.size x with
       |none=>none|some (n,d)=>gX E h e i a b c n d
     |_=>none
 |_=>none
def dK(E:Env)(h:Hp)(ts:List TypeId)(s x:Value):Option (Hp×Value):=match ts with
 | t::a::_=>match ez E a with
   |some false=>lH E h t s x|_=>none
 |_=>none
def copyV (E : Env) (h:Hp) (ts:List TypeId) (d s:Value):Option (Hp×Value):=match ts with
 | t :: _ => match E.und t with
   | some (.slice e)=>match E.sz e with
     |none=>none| some k=>match d with
       | .slice a c _=>match s with
         | .slice none 0 _=>some (h,.int .i64 0)| .slice (some b) m _=>match h.load b.block b.off (dR m c*k)with
           |none=>none|some []=>some (h,.int .i64 (.ofNat (dR m c)))| some (x::f)=>match a with
             |none=>none| some a=>match h.store a.block a.off (x::f)with
               |none=>none|some g=>some (g,.int .i64 (.ofNat (dR m c)))
         | .string s=>bif zM k 1 then match((aM s).map fun b=>Value.int .u8 (.ofNat b.toNat)).take (dR s.size c)with
           | []=>some (h,.int .i64 (.ofNat (dR s.size c)))| x ::f=>match a with
             |none=>none| some a=>match h.store a.block a.off (x::f)with
               |none=>none|some g=>some (g,.int .i64 (.ofNat (dR s.size c)))
           else none
         |_=>none
       |_=>none
   |_=>none
 |_=>none
def bytesOf:List Value->Option (List UInt8)
 | []=>some []| .int .u8 (.ofNat n)::l=>match bytesOf l with
   |none=>none|some r=>some (UInt8.ofNat n::r)
 |_=>none
def strOf(h:Hp):Value->Option Value
 | .slice none _ _=>some (.string (iV []))| .slice (some a) n _=>match h.load a.block a.off n with
   |none=>none| some l=>match bytesOf l with
     |none=>none|some r=>some (.string (iV r))
 |_=>none
def bytesV(h:Hp)(e:TypeId)(s:ByteArray):Hp×Value:=
 (h.new (.cells (Tr.ofList ((aM s).map fun b=>.int .u8 (.ofNat b.toNat))) s.size e 1),.slice (some ⟨h.n,0,some 1⟩) s.size s.size)
def cP(E:Env)(b a:TypeId):Option (Nat×TypeId):=match E.und b with
 |none=>none| some (.slice e)=>match E.und a with
   | some .string=>match E.und e with
     |some (.int .u8)=>some (1,e)|_=>none
   |_=>none
 | some .string=>match E.und a with
   | some (.slice e)=>match E.und e with
     |some (.int .u8)=>some (2,e)|_=>none
   |some _=>some (0,0)|none=>none
 |some _=>some (0,0)
def jz(E:Env)(h:Hp)(b a:TypeId)(x:Value):Option (Hp×Value):=match cP E b a with
 | some (0,_)=>match ju E a x with
   |none=>none|some v=>some (h,v)
 | some (1,_)=>match strOf h x with
   |none=>none|some v=>some (h,v)
 | some (2,e)=>match x with
   | .string s=>bif Xb s.size 1099511627776 then some (bytesV h e s)else none
   |_=>none
 |_=>none
def target(f:Value)(args:List Value):Option dM:=match f with
 | .func (.func g) a b=>some (.call g (a.toList++args++b.toList))| .func (.yield l) a b=>bif a.toList.isEmpty&&b.toList.isEmpty then some (.yield l args)else none
 |_=>none
def dD(r:Option (Hp×Value)):Option (dM×Hp):=match r with
 |none=>none|some (h,v)=>some (.val v,h)
def fU(r:Option Hp):Option (dM×Hp):=match r with
 |none=>none|some h=>some (.skip,h)
def cV(h:Hp)(r:Option Value):Option (dM×Hp):=match r with
 |none=>none|some v=>some (.val v,h)
def aop (E : Env) (ρ:Operand->Value) (h:Hp):Op->Option (dM×Hp)
 | .load t a=>cV h (fV E h t (ρ a))| .convert i j x=>dD (jz E h i j (ρ x))| .store t a x=>fU (jV E h t (ρ a) (ρ x))| .alloc e=>match E.zero e with
   |none=>none|some z=>dD (some (s7 h z e))
 | .box e x=>match ρ x with
   | .chan _=>none|v=>dD (some (s7 h (ae v) e))
 | .buildSlice t n d=>dD (lq E h t n (d.toList.map fun p=>(p.1,ρ p.2)))
 | .makeSlice t l c=>dD (kK E h t (ρ l) (ρ c))| .makeMap _ none=>some (.val (.map (some h.n)),h.new (.map [] 0))| .lookup t m k o=>cV h (dw E h t (ρ m) (ρ k) o)| .mapUpdate t m k v=>fU (d6 E h t (ρ m) (ρ k) (ρ v))| .insert t m k v=>fU (d6 E h t (ρ m) (ρ k) (ρ v))| .mapEntry t m k=>dD (kY E h t (ρ m) (ρ k))| .entryStore _ m s v=>fU (m8 h (ρ m) (ρ s) (ρ v))| .panic x=>match ρ x with
   | .iface t v=>some (.panic (.iface t v),h)|_=>none
 | .defer c=>match c.callee with
   | .value f=>match ρ f with
     | .func (.func g) a b=>some (.defer {target:=.fn (.func g) b,args:=⟨a.toList++c.args.toList.map ρ⟩},h)|_=>none
   |_=>none
 | .call c =>match c.callee with
   | .value f=>match target (ρ f) (c.args.toList.map ρ)with
     |none=>none|some x=>some (x,h)
   | .builtin .append=>match c.args.toList with
     |s::x::_=>dD (dK E h c.argTypes.toList (ρ s) (ρ x))|_=>none
   | .builtin .copy=>match c.args.toList with
     |s::x::_=>dD (copyV E h c.argTypes.toList (ρ s) (ρ x))|_=>none
   | .builtin .delete=>match c.argTypes.toList,c.args.toList with
     | t::_,m::k::_=>match oq E h t (ρ m) (ρ k)with
       |none=>none|some q=>some (.val (.tuple #[]),q)
     |_,_=>none
   | .builtin .recover=>some (.recov,h)| .builtin .len=>match pop E ρ (.call c)with
     |some v=>some (.val v,h)| none => match c.args.toList with
       | x ::_=>match ρ x with
         | .map (some r)=>match h.get r with
           | some (.map u _)=>match c.argTypes.toList with
             | t::_=>match E.und t with
               |some (.map _ _)=>some (.val (.int .i64 (.ofNat u.length)),h)|_=>none
             |_=>none
           |_=>none
         |_=>none
       |_=>none
   | .builtin _=>cV h (pop E ρ (.call c))| .invoke _ _=>none
 |op=>cV h (pop E ρ op)
end
theorem cS(a b:Nat):zM a b=decide (a=b):=by grind[Nat.beq_refl,zM,absurd,Nat.eq_of_beq_eq_true]
theorem fe(a b:Nat):Xb a b=decide (a<=b):=by grind[Nat.ble_eq_true_of_le,Xb,absurd,Nat.le_of_ble_eq_true]
theorem jk(a b:Nat):Xa a b=decide (a<b):=by show Xb (a+1) b=_;rw [fe];rfl
theorem bits_pw(k:IntKind):(2:Int) ^k.bits=(pw k:Int):=by cases k<;>rfl
theorem bits_hf(k:IntKind)(h:sgn k=true):(2:Int) ^(k.bits-1)=(hf k:Int):=by cases k<;>first|rfl|(simp [sgn]at h)
theorem sgn_eq(k:IntKind):sgn k=k.signed:=by cases k<;>rfl
theorem ji(k:IntKind)(n:Int):an k n=k.wrap n:=by
 have f:k.wrap n=if sgn k=true/\n%(pw k:Int)≥(hf k:Int)then n%(pw k:Int)-(pw k:Int)else n%(pw k:Int):=by grind[IntKind.wrap,bits_pw,sgn_eq,sgn,bits_hf]
 rw [f];cases n with
 | ofNat m=>
   have e:(Xc m)%(pw k:Int)=((m%pw k:Nat):Int):=rfl;rw [e];simp only [an];by_cases c:m<hf k
   . have:Xa m (hf k)=true:=(by simp_all);rw [this];have g:m%pw k=m:=Nat.mod_eq_of_lt (by cases k<;>simp only [hf,pw]at* <;>omega);grind
   . have:Xa m (hf k)=false:=(by rw [jk];simpa using c);rw [this];simp only [cond_false];by_cases b:sgn k=true
     . rw [b];simp only [cond_true];have hlt:m%pw k<pw k:=Nat.mod_lt _ (by cases k<;>simp [pw]);by_cases d:m%pw k<hf k
       . have:Xa (m%pw k) (hf k)=true:=(by simp_all);grind
       . have:Xa (m%pw k) (hf k)=false:=(by rw [jk];simpa using d);grind
     grind
 | negSucc m=>
   have a:0<pw k:=(by cases k<;>simp [pw]);have e:(Xj m)%(pw k:Int)=((pw k-1-m%pw k:Nat):Int):=(by have hlt:m%pw k<pw k:=Nat.mod_lt _ a;have h:=Nat.div_add_mod m (pw k);have:Xj m=(pw k:Int)*(-((m/pw k:Nat):Int)-1)+((pw k-1-m%pw k:Nat):Int):=(by grind);rw [this,Int.add_comm,Int.add_mul_emod_self_left];exact Int.emod_eq_of_lt (by omega) (by omega));rw [e];simp only [an];have hlt:m%pw k<pw k:=Nat.mod_lt _ a;by_cases b:sgn k=true
   . rw [b];simp only [cond_true];have i:2*hf k=pw k:=(by cases k<;>first|rfl|(simp [sgn]at b));by_cases c:m<hf k
     . have:Xa m (hf k)=true:=(by simp_all);rw [this];have g:m%pw k=m:=Nat.mod_eq_of_lt (by omega);grind
     . have:Xa m (hf k)=false:=(by rw [jk];simpa using c);rw [this];simp only [cond_false];by_cases d:pw k-1-m%pw k<hf k
       . have:Xa (pw k-1-m%pw k) (hf k)=true:=(by simp_all);grind
       . have:Xa (pw k-1-m%pw k) (hf k)=false:=(by rw [jk];simpa using d);grind
   grind
theorem jj(a b:Int):oG a b=decide (a<b):=by
 cases a<;>cases b<;>simp only [oG]
 . grind[Xa,Nat.blt_eq,jk]
 . rfl
 . grind
 grind[Xa,Nat.blt_eq,jk]
theorem iW(a b:Int):jg a b=(a==b):=by cases a<;>cases b<;>simp only [jg]<;>first|(grind[cS])|(symm;simp)
theorem kidx_inj{a b:IntKind}(h:kidx a=kidx b):a=b:=by cases a<;>cases b<;>first|rfl|(simp [kidx]at h)
theorem iU(a b:IntKind):jO a b=decide (a=b):=by grind[jO,cS,kidx,kidx_inj]
theorem rq{i:Int}(h:jf i=some n):i=n:=by cases i<;>simp [jf]at h;subst h;rfl
theorem bitsOf_eq(k:IntKind):bitsOf k=k.bits:=by cases k<;>rfl
theorem pw_bits(k:IntKind):pw k=2 ^k.bits:=by cases k<;>rfl
theorem rz (P:Program) (w:World) {op:BinOp}  {x y:Int} {z:Int} (h:jv op k x y=some z):
 (Op.intBits op k x y).run P w=.ok (.int k z) w:=by
 unfold jv at h;cases x with
 | negSucc a=>
   cases y with
   |negSucc b=>simp at h| ofNat b=>
     simp only []at h;by_cases d:b=1
     . subst d;rw [Nat.beq_refl,cond_true]at h;cases op<;>simp only []at h<;>first|(cases h;done)|skip
       cases h;simp only [Op.intBits];have p:0<k.bits:=(by cases k<;>decide);obtain⟨m,f⟩: ∃m,k.bits=m+1:=⟨k.bits-1,by omega⟩;have g:(BitVec.ofInt k.bits (Xc 1)).toNat=1:=(by simp_all);have i:(BitVec.ofInt k.bits (Xj a)).toNat%2=(a+1)%2:=(by rw [BitVec.toNat_ofInt,f,Nat.pow_succ];have j:(0:Int)<((2 ^m*2:Nat):Int):=(by have:=Nat.pow_pos (n:=m) (show 0<2 by omega);omega);have q:=Int.emod_nonneg (Xj a) (Int.ne_of_gt j);grind[Int.emod_emod_of_dvd]);rw [BitVec.toNat_and,g,Nat.and_one_is_mod,i];have:k.wrap (((a+1)%2:Nat):Int)=(((a+1)%2:Nat):Int):=(by rcases Nat.mod_two_eq_zero_or_one (a+1)with e|e<;>rw [e]<;>cases k<;>rfl);simp_all
     grind[zM,cS]
 | ofNat a=>
   cases y with
   |negSucc b=>simp at h| ofNat b=>
     simp only []at h;rw [jk,jk,pw_bits]at h;by_cases c:a<2 ^k.bits/\b<2 ^k.bits
     . simp only [c.1,c.2,decide_true,Xn,cond_true]at h;have l:(BitVec.ofInt k.bits (Xc a)).toNat=a:=(by grind);have o:(BitVec.ofInt k.bits (Xc b)).toNat=b:=(by grind);cases op<;>simp only []at h<;>first|(cases h;done)|skip
       . simp_all[Op.intBits,BitVec.toNat_and,ji]
       . simp_all[Op.intBits,BitVec.toNat_or,ji]
       . simp_all[Op.intBits,BitVec.toNat_xor,ji]
       . cases h;simp only [Op.intBits];have:BitVec.ofInt k.bits (Xc a)&&& ~~~ BitVec.ofInt k.bits (Xc b)=BitVec.ofInt k.bits (Xc a) ^^^(BitVec.ofInt k.bits (Xc a)&&& BitVec.ofInt k.bits (Xc b)):=(by grind);rw [this,BitVec.toNat_xor,BitVec.toNat_and,l,o,ji];rfl
     grind
theorem shift_run (P:Program) (w:World) {op:BinOp} {k':IntKind} {x y:Int} {z:Int} (h:ug op k x y=some z):
 (Op.shift op k x k' y).run P w=.ok (.int k z) w:=by
 unfold ug at h;cases b:jf y with
 |none=>simp [b]at h| some n=>
   have:=rq b;subst this;simp only [b]at h;have a:(bif Xb n (bitsOf k)then n else bitsOf k)=min (n:Int).toNat k.bits:=(by grind[fe,bitsOf_eq,Int.toNat_natCast,Nat.min_eq_left]);rw [a]at h;unfold Op.shift;rw [if_neg (by omega)];cases op<;>simp only []at h<;>first|(cases h;done)|skip
   . cases h;simp only [];rw [ji];rfl
   . cases h;simp only [];have:shrI x (min (n:Int).toNat k.bits)=x.fdiv (2 ^(min (n:Int).toNat k.bits)):=by
      generalize min (n:Int).toNat k.bits=j;have c:((2:Int) ^j)=((2 ^j:Nat):Int):=(by simp);rw [c];have d:0<2 ^j:=Nat.pow_pos (by omega);rw [Int.fdiv_eq_ediv_of_nonneg _ (by omega)];cases x with
      |ofNat m=>rfl| negSucc m=>
        simp only [shrI];obtain⟨p,c⟩: ∃p,2 ^j=p+1:=⟨2 ^j-1,by omega⟩;rw [show Nat.pow 2 j=2 ^j from rfl,c];rfl
     rw [this];rfl
theorem arith_run(P:Program)(w:World){op:BinOp}{x y:Int}(h:jd op k x y=some v):
 (match op with
   | .add| .sub| .mul=>Op.intArith op k x y| .quo| .rem=>Op.intDiv op k x y
   | .and| .or| .xor| .andNot=>Op.intBits op k x y|_=>Op.intCmp op x y).run P w=.ok v w:=by
 cases op<;>simp only [jd]at h⊢
 case add=>cases h;rw [ji];rfl
 case sub=>cases h;rw [ji];rfl
 case mul=>cases h;rw [ji];rfl
 case quo=>
  rw [iW]at h;by_cases b:y=0
  . simp [b]at h
  . have:(y==0)=false:=(by simpa using b);simp_all[cond_false,Op.intDiv,if_neg,ji]
 case rem=>
  rw [iW]at h;by_cases b:y=0
  . simp [b]at h
  . have:(y==0)=false:=(by simpa using b);simp_all[cond_false,Op.intDiv,if_neg]
 case and=>obtain⟨z,a,rfl⟩:=Option.map_eq_some_iff.1 h;exact rz P w a
 case or=>obtain⟨z,a,rfl⟩:=Option.map_eq_some_iff.1 h;exact rz P w a
 case xor=>obtain⟨z,a,rfl⟩:=Option.map_eq_some_iff.1 h;exact rz P w a
 case andNot=>obtain⟨z,a,rfl⟩:=Option.map_eq_some_iff.1 h;exact rz P w a
 case shl=>cases h
 case shr=>cases h
 case eql=>cases h;rw [iW];rfl
 case neq=>cases h;rw [iW];rfl
 case lss=>cases h;rw [jj];rfl
 case leq=>cases h;rw [jj];simp [Op.intCmp];grind
 case gtr=>cases h;rw [jj];rfl
 case geq=>cases h;rw [jj];simp [Op.intCmp];grind
theorem kH(x y:List UInt8):iX x y=(x==y):=by
 induction x generalizing y with
 |nil=>cases y<;>simp [iX]
 | cons a x c=>
   cases y with
   |nil=>simp [iX]| cons b y=>grind[iX,cS,decide,UInt8.toNat_inj]
theorem EA(x y:List UInt8):mO x y=Op.bytesLess x y:=by
 induction x generalizing y with
 |nil=>cases y<;>simp [mO,Op.bytesLess]
 | cons a x c=>
   cases y with
   |nil=>rfl| cons b y=>grind[mO,Op.bytesLess,cS,jk,decide,UInt8.toNat_inj,UInt8.lt_iff_toNat_lt]
inductive Pt where
 |none
 |dead
 |blk (c base top:Nat)
abbrev Mu:=Nat->Pt
variable{mu:Mu}
def fK(mu:Mu)(a d:Addr):Prop:=match mu a.block with
 | .none=>False| .dead=>True| .blk c b _=>d=⟨c,b+a.off,none⟩
def eB(mu:Mu)(a:Addr)(cap:Nat)(d:Addr)(cap':Nat):Prop:=match mu a.block with
 | .none=>False| .dead=>cap<=cap'| .blk c b e=>match a.spot with
   |none=>cap'=cap/\d=⟨c,b+a.off,none⟩|some k=>cap<=cap'/\d.block=c/\d.spot=none/\d.off+cap'*k<=e/\(cap=0\/d.off=b+a.off)
def dW(mu:Mu)(b c:Nat):Prop:=match mu b with
 | .none=>False| .dead=>True| .blk d a _=>c=d/\a=0
inductive aw(mu:Mu):Value->Value->Prop
 |poison (v:Value):aw mu (.chan none) v
 |bool (b:Bool):aw mu (.bool b) (.bool b)
 |int (k:IntKind) (n:Int):aw mu (.int k n) (.int k n)
 |string (s:ByteArray):aw mu (.string s) (.string s)
 |nilp:aw mu (.pointer none) (.pointer none)
 |ptr {a a':Addr}:fK mu a a'->aw mu (.pointer (some a)) (.pointer (some a'))
 |nils:aw mu (.slice none 0 0) (.slice none 0 0)
 |slice {a a':Addr} {len cap cap':Nat}:len<=cap->eB mu a cap a' cap'->aw mu (.slice (some a) len cap) (.slice (some a') len cap')
 |nilm:aw mu (.map none) (.map none)
 |map {b c:Nat}:dW mu b c->aw mu (.map (some b)) (.map (some c))
 |fn {f:FuncId} {x x' y y':Array Value}:x.toList.length=x'.toList.length->(∀(i:Nat) v v',x.toList[i]? =some v->x'.toList[i]? =some v'->aw mu v v')->
  y.toList.length=y'.toList.length->(∀(i:Nat) v v',y.toList[i]? =some v->y'.toList[i]? =some v'->aw mu v v')->aw mu (.func (.func f) x y) (.func (.func f) x' y')
 |yield {b c:Nat}:dW mu b c->aw mu (.func (.yield b) #[] #[]) (.func (.yield c) #[] #[])
 |nilf:aw mu .nilFunc .nilFunc
 |nili:aw mu .nilIface .nilIface
 |iface {t:TypeId} {v v':Value}:aw mu v v'->aw mu (.iface t v) (.iface t v')
 |agg {x x':Array Value}:x.toList.length=x'.toList.length->(∀(i:Nat) v v',x.toList[i]? =some v->x'.toList[i]? =some v'->aw mu v v')->aw mu (.agg x) (.agg x')
 |tuple {x x':Array Value}:x.toList.length=x'.toList.length->(∀(i:Nat) v v',x.toList[i]? =some v->x'.toList[i]? =some v'->aw mu v v')->aw mu (.tuple x) (.tuple x')
def LR{a b:Type}(R:a->b->Prop)(l:List a)(l':List b):Prop:=l.length=l'.length/\ ∀(i:Nat) v c,l[i]? =some v->l'[i]? =some c->R v c
section lists
variable{α β:Type}{R:α->β->Prop}
theorem LR.nil:LR R [] []:=⟨rfl,by simp⟩
theorem LR.cons{a:α}{b:β}{l:List α}{l':List β}(h:R a b)(t:LR R l l'):LR R (a::l) (b::l'):=by
 refine⟨by simp [t.1],fun i v e d c=>?_⟩;cases i with
 |zero=>grind|succ i=>simp at d c;exact t.2 i v e d c
theorem LR.head{a:α}{b:β}{l:List α}{l':List β}(h:LR R (a::l) (b::l')):R a b:=h.2 0 a b (by simp) (by simp)
theorem LR.tail{a:α}{b:β}{l:List α}{l':List β}(h:LR R (a::l) (b::l')):LR R l l':=
 ⟨by have:=h.1;simpa using this,fun i v d e c=>h.2 (i+1) v d (by simpa using e) (by simpa using c)⟩
theorem LR.nil_left{l':List β}(h:LR R [] l'):l'=[]:=by have:=h.1;grind
theorem LR.cons_left{a:α}{l:List α}{l':List β}(h:LR R (a::l) l'): ∃b r,l'=b::r/\R a b/\LR R l r:=by
 cases l' with
 |nil=>have:=h.1;simp at this|cons b r=>exact⟨b,r,rfl,h.head,h.tail⟩
theorem LR.append{l r:List α}{l' c:List β}(h:LR R l l')(k:LR R r c):LR R (l++r) (l'++c):=by
 induction l generalizing l' with
 |nil=>rw [h.nil_left];exact k| cons a l d=>
   obtain⟨b,g,rfl,e,f⟩:=h.cons_left;exact LR.cons e (d f)
theorem LR.mono{S:α->β->Prop}{l:List α}{l':List β}(h:LR R l l')(k: ∀a b,R a b->S a b):LR S l l':=⟨h.1,fun i v c a b=>k _ _ (h.2 i v c a b)⟩
theorem LR.get{l:List α}{l':List β}(h:LR R l l'){v:α}(b:l[i]? =some v): ∃v',l'[i]? =some v'/\R v v':=by
 have a:i<l'.length:=by rw [<-h.1];grind
 exact⟨l'[i],Xe a,h.2 i v _ b (Xe a)⟩
theorem LR.drop{l:List α}{l':List β}(h:LR R l l')(n:Nat):LR R (l.drop n) (l'.drop n):=
 ⟨by simp [h.1],fun i v c a b=>h.2 (n+i) v c (by simpa using a) (by simpa using b)⟩
theorem LR.take{l:List α}{l':List β}(h:LR R l l')(n:Nat):LR R (l.take n) (l'.take n):=by
 refine⟨by simp [h.1],fun i v c a b=>?_⟩;rw [List.getElem?_take]at a b
 split at a
 . rename_i d;rw [if_pos d]at b;exact h.2 i v c a b
 . cases a
theorem LR.set{l:List α}{l':List β}(h:LR R l l')(n:Nat){a:α}{b:β}(e:R a b):LR R (l.set n a) (l'.set n b):=by
 refine⟨by simp [h.1],fun i v f d c=>?_⟩;rw [List.getElem?_set]at d c
 split at d
 . grind
 . rename_i g;rw [if_neg g]at c;exact h.2 i v f d c
theorem LR.mapSame{b:Type}{f:b->α}{g:b->β}(l:List b)(k: ∀a,R (f a) (g a)):LR R (l.map f) (l.map g):=by
 induction l with
 |nil=>exact LR.nil|cons a l c=>exact LR.cons (k a) c
theorem LR.refl{S:α->α->Prop}{l:List α}(h: ∀a∈l,S a a):LR S l l:=by refine⟨rfl,fun i v c d b=>?_⟩;grind
end lists
def Le(mu a:Mu):Prop:= ∀b,mu b≠ .none->a b=mu b\/a b=.dead
theorem Le.refl(mu:Mu):Le mu mu:=fun _ _=>.inl rfl
theorem fK.mono{b:Mu}(h:Le mu b){a f:Addr}(k:fK mu a f):fK b a f:=by
 unfold fK at*
 cases d:mu a.block with
 |none=>grind|dead=>rcases h a.block (by rw [d];simp)with e|e<;>(try rw [e,d])<;>(try rw [e])<;>trivial
 | blk c g i=>
   rw [d]at k;rcases h a.block (by rw [d];simp)with e|e
   . grind
   grind
theorem eB.caps{a b:Addr}(k:eB mu a cap b cap'):cap<=cap':=by grind[eB]
theorem eB.mono{b:Mu}(h:Le mu b){a f:Addr}(k:eB mu a cap f cap'):eB b a cap f cap':=by
 have i:=k.caps;unfold eB at*
 cases d:mu a.block with
 |none=>grind|dead=>rcases h a.block (by rw [d];simp)with e|e<;>(try rw [e,d])<;>(try rw [e])<;>exact i
 | blk c g j=>
   rw [d]at k;rcases h a.block (by rw [d];simp)with e|e
   . grind
   grind
theorem dW.mono{a:Mu}(h:Le mu a)(k:dW mu b c):dW a b c:=by
 unfold dW at*
 cases d:mu b with
 |none=>grind|dead=>rcases h b (by rw [d];simp)with e|e<;>(try rw [e,d])<;>(try rw [e])<;>trivial
 | blk c f g=>
   rw [d]at k;rcases h b (by rw [d];simp)with e|e
   . grind
   grind
theorem aw.mono{mu c:Mu}(h:Le mu c){v v':Value}(k:aw mu v v'):aw c v v':=by
 induction k with
 |poison v=>exact .poison v|bool b=>exact .bool b|int k n=>exact .int k n|string s=>exact .string s|nilp=>exact .nilp|ptr a=>exact .ptr (a.mono h)|nils=>exact .nils|slice l a=>exact .slice l (a.mono h)|nilm=>exact .nilm|map a=>exact .map (a.mono h)|fn a _ b _ d e=>exact .fn a d b e|yield a=>exact .yield (a.mono h)|nilf=>exact .nilf|nili=>exact .nili|iface _ i=>exact .iface i|agg a _ i=>exact .agg a i|tuple a _ i=>exact .tuple a i
abbrev VL(mu:Mu):=LR (aw mu)
theorem VL.mono{mu a:Mu}(h:Le mu a){l l':List Value}(k:VL mu l l'):VL a l l':=LR.mono k fun _ _=>aw.mono h
theorem aw.const(mu:Mu)(h:du v=true):aw mu v v:=by
 unfold du at h
 split at h<;>first|exact .bool _|exact .int _ _|exact .string _|exact .nilp|exact .nils|exact .nilm|exact .nilf|exact .nili|(cases h)
theorem aw.const_eq(h:du v=true)(k:aw mu v v'):v'=v:=by cases k<;>first|rfl|(simp [du]at h)
theorem aw.cells{mu:Mu}{v v':Value}(h:aw mu v v')(c: ∀x,v≠ .chan x):VL mu (ae v) v'.cells.toList:=by
 cases h<;>first
  |exact absurd rfl (c _)
  |(rename_i a b;exact⟨a,b⟩)
  |(exact LR.cons (by first|assumption|(constructor<;>assumption)|constructor) LR.nil)
theorem aw.flat(h:aw mu v v')(hf:mM v=true):v'.oneCell'=true:=by cases h<;>first|rfl|(simp [mM]at hf)
def nH(mu:Mu):List (Value×Value×Nat)->List MapEntry->Prop:=LR fun x e=>e.key=x.1/\vf x.1=true/\aw mu x.2.1 e.val/\e.born=x.2.2
structure jZ(mu:Mu)(t:Tr Value)(n:Nat)(tmps:Array Value):Prop where
 size:tmps.size=n
 sized:t.Sized n
 get: ∀i v,t.get i=some v-> ∃v',tmps[i]? =some v'/\aw mu v v'
def stOf:LoopState->Nat
 | .ready=>0| .busy=>1| .done=>2| .exhausted=>3
structure oH(mu:Mu)(l:fS)(l':Loop):Prop where
 fn:l'.fn=l.fn
 regs:jZ mu l.regs l.nr l'.tmps
 params:l'.params=l.params
 assign:l'.assign=l.assign
 body:l'.body=l.body
 st:stOf l'.state=l.st
 pending:l'.pending=l.pending
structure CRel(mu:Mu)(t:Tr Value)(sz md base top:Nat)(cs:Array Value)(fz:Nat×Nat):Prop where
 whole:cs.size=top
 fits:base+sz<=top
 sized:t.Sized sz
 get: ∀i v,t.get i=some v-> ∃v',cs[base+i]? =some v'/\aw mu v v'
 free:md≠0-> ∀i,i<cs.size-> ¬(fz.1<=i/\i<fz.2)
def ng(mu:Mu)(x:Blk)(base top:Nat)(o:Obj):Prop:=match x with
 | .dead=>False| .cells t f _ g=> ∃c h d,o=.cells c h d/\CRel mu t f g base top c d| .map i a=>base=0/\ ∃b,o=.map b a/\nH mu i b.toList| .loop l=>base=0/\ ∃e,o=.loop e/\oH mu l e| .dfr=>base=0/\o=.deferred (some [])
theorem jZ.mono{mu c:Mu}(h:Le mu c){t:Tr Value}{n:Nat}{tmps:Array Value}(k:jZ mu t n tmps):jZ c t n tmps:=
 ⟨k.size,k.sized,fun i v d=>let⟨e,a,b⟩:=k.get i v d;⟨e,a,b.mono h⟩⟩
theorem oH.mono{mu a:Mu}(h:Le mu a){l:fS}{l':Loop}(k:oH mu l l'):oH a l l':=
 ⟨k.fn,k.regs.mono h,k.params,k.assign,k.body,k.st,k.pending⟩
theorem CRel.mono{mu c:Mu}(h:Le mu c){t:Tr Value}{d md base top:Nat}{cs:Array Value}{e:Nat×Nat}(k:CRel mu t d md base top cs e):CRel c t d md base top cs e:=
 ⟨k.whole,k.fits,k.sized,fun i v f=>let⟨g,a,b⟩:=k.get i v f;⟨g,a,b.mono h⟩,k.free⟩
theorem ng.mono{mu d:Mu}(h:Le mu d){x:Blk}{base top:Nat}{o:Obj}(k:ng mu x base top o):ng d x base top o:=by
 cases x with
 |dead=>exact k|cells t p q s=>obtain⟨j,f,m,e,r⟩:=k;exact⟨j,f,m,e,r.mono h⟩
 |map u c=>obtain⟨g,i,e,r⟩:=k;exact⟨g,i,e,LR.mono r fun a b x=>⟨x.1,x.2.1,x.2.2.1.mono h,x.2.2.2⟩⟩
 |loop l=>obtain⟨g,n,e,r⟩:=k;exact⟨g,n,e,r.mono h⟩
 |dfr=>exact k
structure bg(mu:Mu)(h:Hp)(w:World):Prop where
 sized:OZ h
 blk: ∀b c base top,mu b=.blk c base top-> ∃x o,h.get b=some x/\w.heap[c]? =some o/\ng mu x base top o
 dead: ∀b,mu b=.dead->h.get b=some .dead
 inj: ∀b b' c base top base' top',mu b=.blk c base top->mu b'=.blk c base' top'->b=b'
 lt: ∀b,mu b≠ .none->b<h.n
structure Ext(mu:Mu)(h:Hp)(w:World)(mu':Mu)(h':Hp)(w':World):Prop where
 n:h.n<=h'.n
 old: ∀b,b<h.n->mu' b=mu b\/(mu b≠ .none/\mu' b=.dead)
 fresh: ∀b c base top,h.n<=b->mu' b=.blk c base top->w.heap.size<=c\/ ∃b0 base0 top0,b0<h.n/\mu b0=.blk c base0 top0/\mu' b0=.dead
 lo:h'.lo<=h.lo
 same: ∀b,b<h.n->b<h'.lo->h'.get b=h.get b
 frame: ∀c,c<w.heap.size->(∀b base top,mu b≠ .blk c base top)->w'.heap[c]? =w.heap[c]?
 ro: ∀b c base top t sz el,mu b=.blk c base top->h.get b=some (.cells t sz el 0)->w'.heap[c]? =w.heap[c]? /\h'.get b=h.get b/\mu' b=mu b
 wsize:w.heap.size<=w'.heap.size
 os:w'.os=w.os
 tape:w'.tape=w.tape
 output:w'.output=w.output
 cover: ∀b,h.n<=b->b<h'.n->mu' b≠ .none
theorem Ext.refl(mu:Mu)(h:Hp)(w:World)(hh:bg mu h w):Ext mu h w mu h w where
 n:=zO _
 old:=fun _ _=>.inl rfl
 fresh:=fun b c base top hb hm=>absurd (hh.lt b (by rw [hm];simp)) (by omega)
 lo:=zO _
 same:=fun _ _ _=>rfl
 frame:=fun _ _ _=>rfl
 ro:=fun _ _ _ _ _ _ _ _ _=>⟨rfl,rfl,rfl⟩
 wsize:=zO _
 os:=rfl
 tape:=rfl
 output:=rfl
 cover:=fun _ h1 h2=>absurd h2 (by omega)
theorem Ext.le{a:Mu}{h h':Hp}(e:Ext mu h w a h' w')(c:bg mu h w):Le mu a:=by
 intro b d;rcases e.old b (c.lt b d)with x|x
 . exact .inl x
 grind
theorem Ext.trans {mu mu1 mu2:Mu} {h h1 h2:Hp} {w w1 w2:World} (a:Ext mu h w mu1 h1 w1) (b:Ext mu1 h1 w1 mu2 h2 w2):Ext mu h w mu2 h2 w2 where
 n:=Xi a.n b.n
 old:=by
  intro x hx;rcases a.old x hx with e|⟨e,f⟩
  . rcases b.old x (by have:=a.n;omega)with e2|⟨e2,f2⟩
    . grind
    grind
  . rcases b.old x (by have:=a.n;omega)with e2|⟨e2,f2⟩
    . grind
    grind
 fresh:=by
  intro x c base top hx hm;have dd: ∀b0,b0<h.n->mu1 b0=.dead->mu2 b0=.dead:=by
   intro b0 hb0 hd;rcases b.old b0 (by have:=a.n;omega)with e|⟨_,f⟩
   . exact e.trans hd
   . exact f
  by_cases hx1:h1.n<=x
  . rcases b.fresh x c base top hx1 hm with hc|⟨b0,base0,top0,hb0,hm0,hd0⟩
    . exact .inl (Xi a.wsize hc)
    . by_cases hb1:b0<h.n
      . rcases a.old b0 hb1 with e|⟨_,f⟩
        . grind
        grind
      . rcases a.fresh b0 c base0 top0 (by omega) hm0 with hc|⟨b2,base2,top2,hb2,hm2,hd2⟩
        . exact .inl hc
        grind
  . rcases b.old x (by omega)with e|⟨_,f⟩
    . rcases a.fresh x c base top hx (by grind)with hc|⟨b2,base2,top2,hb2,hm2,hd2⟩
      . exact .inl hc
      grind
    grind
 lo:=Xi b.lo a.lo
 same:=fun x hx hl=>(b.same x (by have:=a.n;omega) hl).trans (a.same x hx (by have:=b.lo;omega))
 frame:=by
  intro c hc hn;have h1:=a.frame c hc hn;rw [<-h1];refine b.frame c (by grind) ?_;intro x base top hm;by_cases hx:x<h.n
  . rcases a.old x hx with e|⟨_,f⟩
    . grind
    grind
  . rcases a.fresh x c base top (by omega) hm with hc2|⟨b2,base2,top2,_,hm2,_⟩
    . omega
    grind
 ro:=by intro x c base top t sz el hm hg;obtain⟨h1,h2,h3⟩:=a.ro x c base top t sz el hm hg;obtain⟨k1,k2,k3⟩:=b.ro x c base top t sz el (h3.trans hm) (h2.trans hg);grind
 wsize:=Xi a.wsize b.wsize
 os:=b.os.trans a.os
 tape:=b.tape.trans a.tape
 output:=b.output.trans a.output
 cover:=by
  intro x h1' h2';by_cases hx:x<h1.n
  . have:=a.cover x h1' hx;rcases b.old x hx with e|⟨_,e⟩
    . grind
    . rw [e];simp
  . exact b.cover x (by omega) h2'
def upd(mu:Mu)(b:Nat)(p:Pt):Mu:=fun x=>if x=b then p else mu x
theorem upd_same(mu:Mu)(b:Nat)(p:Pt):upd mu b p b=p:=by simp [upd]
theorem a9(mu:Mu){x:Nat}(p:Pt)(h:x≠b):upd mu b p x=mu x:=by simp [upd,h]
theorem bg.none_ge{h:Hp}(a:bg mu h w)(g:h.n<=b):mu b=.none:=by
 cases d:mu b with
 |none=>rfl|dead=>exact absurd (a.lt b (by rw [d];simp)) (by omega)|blk c e f=>exact absurd (a.lt b (by rw [d];simp)) (by omega)
theorem bg.clt{h:Hp}(a:bg mu h w)(d:mu b=.blk c base top):c<w.heap.size:=by obtain⟨x,o,_,e,_⟩:=a.blk b c base top d;grind
theorem Hp.get_new(h:Hp)(x:Blk)(a:OZ h)(b:Nat):(h.new x).get b=if b=h.n then some x else h.get b:=Tr.get_push h.t h.n x a b
theorem Hp.get_put(h:Hp)(b:Nat)(x:Blk)(a:Nat):(h.put b x).get a=if b=a/\(h.get a).isSome then some x else h.get a:=Tr.get_set h.t b x a
theorem Hp.put_lo(h:Hp)(b:Nat)(x:Blk):(h.put b x).lo<=h.lo/\(h.put b x).lo<=b:=by show dR b h.lo<=h.lo/\dR b h.lo<=b;grind[dR,fe]
structure WNew(w w':World)(o:Obj):Prop where
 heap:w'.heap=w.heap.push o
 os:w'.os=w.os
 tape:w'.tape=w.tape
 output:w'.output=w.output
structure WSet(w w':World)(c:Nat)(o:Obj):Prop where
 size:w'.heap.size=w.heap.size
 at_:w'.heap[c]? =some o
 other: ∀j,j≠c->w'.heap[j]? =w.heap[j]?
 os:w'.os=w.os
 tape:w'.tape=w.tape
 output:w'.output=w.output
theorem pg{h:Hp}(f:bg mu h w){x:Blk}{o:Obj}(n:WNew w w' o)(r:ng mu x base top o):
 bg (upd mu h.n (.blk w.heap.size base top)) (h.new x) w'/\Ext mu h w (upd mu h.n (.blk w.heap.size base top)) (h.new x) w':=by
 have p: ∀j,w'.heap[j]? =if j=w.heap.size then some o else w.heap[j]? :=by intro j;rw [n.heap,Array.getElem?_push]
 have hle:Le mu (upd mu h.n (.blk w.heap.size base top)):=by intro b r;left;exact a9 _ _ (by have:=f.lt b r;omega)
 have q:=h.get_new x f.sized;refine⟨⟨Tr.sized_push x f.sized,?_,?_,?_,?_⟩,?_⟩
 . intro b c e g d;by_cases a:b=h.n
   . subst a;rw [upd_same]at d;cases d;exact⟨x,o,by rw [q];simp,by rw [p];simp,r.mono hle⟩
   . rw [a9 _ _ a]at d;obtain⟨y,B,l,k,C⟩:=f.blk b c e g d;have:=f.clt d;exact⟨y,B,by grind,by grind,C.mono hle⟩
 . intro b d;by_cases a:b=h.n
   . grind[upd_same]
   . rw [a9 _ _ a]at d;rw [q,if_neg a];exact f.dead b d
 . intro b s c u z v A l k;by_cases m:b=h.n
   . by_cases i:s=h.n
     . rw [m,i]
     . subst m;rw [upd_same]at l;rw [a9 _ _ i]at k;cases l;have:=f.clt k;omega
   . rw [a9 _ _ m]at l;by_cases i:s=h.n
     . subst i;rw [upd_same]at k;cases k;have:=f.clt l;omega
     . rw [a9 _ _ i]at k;exact f.inj b s c _ _ _ _ l k
 . intro b d;show b<h.n+1;by_cases a:b=h.n
   . omega
   . rw [a9 _ _ a]at d;have:=f.lt b d;omega
 . refine⟨Nat.le_succ _,?_,?_,zO _,?_,?_,?_,?_,n.os,n.tape,n.output,?_⟩
   . grind[a9]
   . intro b c e g r d;by_cases a:b=h.n
     . simp_all[upd_same,zO]
     . rw [a9 _ _ a]at d;exact absurd (f.lt b (by rw [d];simp)) (by omega)
   . grind
   . grind
   . intro b c e g t F G d H;have:=f.clt d;have D:=f.lt b (by rw [d];simp);exact⟨by grind,by grind,a9 _ _ (by omega)⟩
   . rw [n.heap];simp
   . intro b l k;have E:b<h.n+1:=k;grind[upd_same]
theorem wX{h:Hp}(j:bg mu h w){x:Blk}{o:Obj}(m:mu b=.blk c base top)
 (z: ∀t v el,h.get b≠some (.cells t v el 0)) (k:WSet w w' c o) (A:ng mu x base top o):
 bg mu (h.put b x) w'/\Ext mu h w mu (h.put b x) w':=by
 have p:=h.get_put b x;have B:=j.lt b (by rw [m];simp);have q:(h.get b).isSome=true:=by obtain⟨y,_,r,_⟩:=j.blk b c base top m;rw [r];rfl
 refine⟨⟨Tr.sized_set b x j.sized,?_,?_,j.inj,j.lt⟩,?_⟩
 . intro g n d i a;by_cases f:b=g
   . subst f;rw [m]at a;cases a;exact⟨x,o,by grind,k.at_,A⟩
   . obtain⟨y,C,r,s,D⟩:=j.blk g n d i a;have l:n≠c:=fun e=>f (j.inj b g c _ _ _ _ m (by rw [<-e];exact a));exact⟨y,C,by grind,by rw [k.other _ l];exact s,D⟩
 . intro g a;have f:b≠g:=(by grind);rw [p,if_neg (fun e=>f e.1)];exact j.dead g a
 . have u:=h.put_lo b x;refine⟨zO _,fun _ _=>.inl rfl,?_,u.1,?_,?_,?_,by rw [k.size];omega,k.os,k.tape,k.output,fun b r s=>absurd (show b<h.n from s) (by omega)⟩
   . intro g n d i E a;exact absurd (j.lt g (by rw [a];simp)) (by omega)
   . grind
   . intro n _ F;exact k.other _ (fun e=>F b base top (by rw [e];exact m))
   . intro g n d i t v el a G;have f:b≠g:=(by grind);have l:n≠c:=fun e=>f (j.inj b g c _ _ _ _ m (by rw [<-e];exact a));exact⟨k.other _ l,by grind,rfl⟩
theorem qi{h:Hp}(j:bg mu h w){o:Obj}(q:mu b=.blk c base top)
 (F: ∀t A el,h.get b≠some (.cells t A el 0)) (l:WSet w w' c o):
 bg (upd mu b .dead) (h.put b .dead) w'/\Ext mu h w (upd mu b .dead) (h.put b .dead) w':=by
 have r:=h.get_put b .dead;have s:=j.lt b (by rw [q];simp);have u:(h.get b).isSome=true:=by obtain⟨y,_,n,_⟩:=j.blk b c base top q;rw [n];rfl
 have hle:Le mu (upd mu b .dead):=by intro f _;grind[upd_same,a9]
 refine⟨⟨Tr.sized_set b _ j.sized,?_,?_,?_,?_⟩,?_⟩
 . intro f k g i a;by_cases d:f=b
   . grind[upd_same]
   . rw [a9 _ _ d]at a;obtain⟨y,G,n,p,H⟩:=j.blk f k g i a;have m:k≠c:=fun e=>d (j.inj f b c _ _ _ _ (by rw [<-e];exact a) q);exact⟨y,G,by grind,by rw [l.other _ m];exact p,H.mono hle⟩
 . intro f a;by_cases d:f=b
   . grind
   . rw [a9 _ _ d]at a;rw [r,if_neg (fun e=>d e.1.symm)];exact j.dead f a
 . intro B C k v D x E n p;have I:B≠b:=(by grind[upd_same]);have J:C≠b:=(by grind[upd_same]);rw [a9 _ _ I]at n;rw [a9 _ _ J]at p;exact j.inj B C k _ _ _ _ n p
 . intro f a;by_cases d:f=b
   . subst d;exact s
   . rw [a9 _ _ d]at a;exact j.lt f a
 . have z:=h.put_lo b .dead;refine⟨zO _,?_,?_,z.1,?_,?_,?_,by rw [l.size];omega,l.os,l.tape,l.output,fun b n p=>absurd (show b<h.n from p) (by omega)⟩
   . grind[upd_same,a9]
   . intro f k g i K a;have d:f≠b:=(by omega);rw [a9 _ _ d]at a;exact absurd (j.lt f (by rw [a];simp)) (by omega)
   . grind
   . intro k _ L;exact l.other _ (fun e=>L b base top (by rw [e];exact q))
   . intro f k g i t A el a M;have d:b≠f:=(by grind);have m:k≠c:=fun e=>d (j.inj b f c _ _ _ _ q (by rw [<-e];exact a));exact⟨l.other _ m,by grind,a9 _ _ (Ne.symm d)⟩
theorem uX{h:Hp}(d:bg mu h w)(e:w'.heap=w.heap):bg mu h w':=
 ⟨d.sized,fun b c f g i=>let⟨x,o,a,j,k⟩:=d.blk b c f g i;⟨x,o,a,by rw [e];exact j,k⟩,d.dead,d.inj,d.lt⟩
theorem xI{h:Hp}(hh:bg mu h w)(e:w'.heap=w.heap)(e1:w'.os=w.os)(e2:w'.tape=w.tape)(e3:w'.output=w.output):Ext mu h w mu h w' where
 n:=zO _
 old:=fun _ _=>.inl rfl
 fresh:=fun b c base top hb hm=>absurd (hh.lt b (by rw [hm];simp)) (by omega)
 lo:=zO _
 same:=fun _ _ _=>rfl
 frame:=fun _ _ _=>by rw [e]
 ro:=fun _ _ _ _ _ _ _ _ _=>⟨by rw [e],rfl,rfl⟩
 wsize:=by grind
 os:=e1
 tape:=e2
 output:=e3
 cover:=fun _ h1 h2=>absurd h2 (by omega)
structure ss(P:Program)(fr:Frame)(w:World)(kind:CallKind)(v:Value):Prop where
 mode:fr.mode=.returning
 defers:fr.defers=[]
 kind:fr.kind=kind
 res: ∃fn,P.funcs[fr.fn]? =some fn/\(results fn fr.tmps).run P w=.ok v w
structure uQ(w w':World):Prop where
 heap: ∀c,c<w.heap.size->w'.heap[c]? =w.heap[c]?
 size:w.heap.size<=w'.heap.size
 os:w'.os=w.os
 tape:w'.tape=w.tape
 output:w'.output=w.output
def OrcAt(P:Program)(g:FuncId)(args:List Value)(v:Value):Prop:=
 args.all du=true/\du v=true/\ ∀(w:World) (b:List Frame) (a:CallKind),(a=.normal\/(a=.deferred/\ ∃c r,b=c::r/\c.mode=.returning))->
  ∃d e,uQ w d/\Steps P (lone (Frame.enter P g ⟨args⟩ a) b w) (lone e b d)/\ss P e d a v/\e.fn=g
structure EOk(E:Env)(P:Program):Prop where
 fn: ∀f fn,E.fn f=some fn->P.funcs[f]? =some fn
 call: ∀f fn args w,E.fn f=some fn->fn.body.isSome=true->(callFunc f args).run P w=.ok (.enter f args) w
 ty: ∀t i,E.ty t=some i->P.info? t=some i
 eq: ∀t,E.eqok t=true->P.stoodInHeld t=false/\P.eqGuardType P.depth t=false
 mixed:P.follows .mixedOrders=true
 orc: ∀g args v,E.orc g args=some v->(∃fn,E.fn g=some fn/\fn.body.isSome=true)/\OrcAt P g args v
section
variable{E:Env}{P:Program}(ok:EOk E P)
include ok
theorem und_eq{d:TypeDesc}(h:E.und t=some d):P.underlying t=some d:=by
 unfold Env.und at h;cases b:E.ty t with
 |none=>simp [b]at h| some i=>
   simp only [b]at h;have e:=ok.ty t i b;obtain⟨a,_,_,_,_,_,_,_,_,_⟩:=i;unfold Program.underlying;rw [e];cases a<;>simp only []at h⊢ <;>try exact h
   rename_i f u;cases c:E.ty u with
   |none=>simp [c]at h|some j=>simp only [c]at h;rw [ok.ty u j c];exact h
theorem bN{d:TypeDesc}(h:E.und t=some d)(w:World):(underlying t).run P w=.ok d w:=by unfold underlying;simp [und_eq ok h]
theorem pF{i:TypeInfo}(h:E.ty t=some i)(w:World):(typeInfo t).run P w=.ok i w:=by unfold typeInfo;simp [ok.ty t i h]
theorem eg(h:E.sz t=some n)(w:World):(sizeOf t).run P w=.ok n w:=by
 unfold Env.sz at h;cases a:E.ty t with
 |none=>simp [a]at h|some i=>simp only [a]at h;cases h;unfold sizeOf;simp [pF ok a]
theorem vj{b:Bool}(h:E.agg t=some b)(w:World):(isAgg t).run P w=.ok b w:=by
 unfold Env.agg at h;cases a:E.und t with
 |none=>simp [a]at h| some d=>
   simp only [a]at h;unfold isAgg;simp only [Sem.run_bind,bN ok a,Result.andThen_ok];cases d<;>simp only []at h<;>cases h<;>rfl
theorem po{z:List Value}(h:E.zero t=some z)(w:World):
 ∃v,(zeroValue t).run P w=.ok v w/\v.cells.toList=z/\ae v=z/\z.all du=true:=by
 unfold Env.zero at h;cases a:E.ty t with
 |none=>simp [a]at h| some i=>
   simp only [a]at h;cases b:i.zero with
   |none=>simp [b]at h| some v=>
     simp only [b]at h;cases c:(ae v).all du with
     |false=>simp [c]at h| true=>
       simp only [c,cond_true]at h;cases h;refine⟨v,?_,?_,rfl,c⟩
       . unfold zeroValue;simp [pF ok a,b]
       . cases v<;>rfl
theorem rH{z:Value}(h:E.zeroV t=some z)(w:World)(mu:Mu):(zeroValue t).run P w=.ok z w/\aw mu z z:=by
 unfold Env.zeroV at h;cases c:E.ty t with
 |none=>simp [c]at h| some i=>
   simp only [c]at h;cases d:i.zero with
   |none=>simp [d]at h| some v=>
     simp only [d]at h;cases e:(ae v).all du with
     |false=>simp [e]at h| true=>
       simp only [e,cond_true]at h;cases h;refine⟨by unfold zeroValue;simp [pF ok c,d],?_⟩;have a: ∀x∈ae z,du x=true:=(by simpa using e);cases z with
       | agg g=>
         refine .agg rfl fun i x j f b=>?_;rw [f]at b;cases b;exact aw.const mu (a x (List.mem_of_getElem? f))
       |_=>exact aw.const mu (a _ (by simp [ae]))
theorem pC{cs:List Value}{a:Array Value}{off:Nat}(h:partOf E t cs off=some v)(f:VL mu cs a.toList)(w:World):
 ∃v',(part t a off).run P w=.ok v' w/\aw mu v v':=by
 unfold partOf at h;cases c:E.agg t with
 |none=>simp [c]at h| some b =>
   unfold part;cases b with
   | true =>
     simp only [c]at h;cases d:E.sz t with
     |none=>simp [d]at h| some n=>
       simp only [d,fe]at h;by_cases g:off+n<=cs.length
       . simp only [g,decide_true,cond_true]at h;cases h;refine⟨.agg (a.extract off (off+n)),by simp [vj ok c,eg ok d],?_⟩;have:=(f.drop off).take n;have e:(a.extract off (off+n)).toList=(a.toList.drop off).take n:=(by simp_all);exact .agg (by rw [e];exact this.1) (by rw [e];exact this.2)
       grind
   | false=>
     simp only [c]at h;obtain⟨v',j,i⟩:=f.get h;have:a[off]? =some v':=(by grind);exact⟨v',by simp [vj ok c,this],i⟩
theorem Bc  (d D:Nat) (hD:d<=D)  {y R:Value} {b:Bool} (h:fj E d t x y=some b) (p:aw mu x x') (r:aw mu y R) (w:World):
 (Op.equalIn D t x' R).run P w=.ok b w:=by
 induction d generalizing D t x y x' R b with
 |zero=>simp [fj]at h| succ d ih =>
   obtain⟨D,rfl⟩: ∃k,D=k+1:=⟨D-1,by omega⟩;have O:d<=D:=(by omega);unfold fj at h;unfold Op.equalIn;cases S:E.und t with
   |none=>simp [S]at h| some Q =>
     simp only [S]at h;simp only [Sem.run_bind,bN ok S,Result.andThen_ok];cases Q<;>simp only []at h<;>try (cases h;done)
     case bool=>
      cases p<;>cases r<;>simp only []at h<;>try (cases h;done)
      cases h;rename_i a c;cases a<;>cases c<;>rfl
     case int k=>
      cases p<;>cases r<;>simp only []at h<;>try (cases h;done)
      rename_i k1 a k2 c;rw [iU,iW]at h;by_cases hk:k1=k2
      . simp_all
      grind
     case string=>
      cases p<;>cases r<;>simp only []at h<;>try (cases h;done)
      rename_i a c;cases h;rw [kH];simp only [aM,Sem.run_pure];congr 1;rw [show(a==c)=(a.data==c.data)from rfl,<-Array.beq_toList]
     case pointer e=>
      cases p<;>cases r<;>simp only []at h<;>try (cases h;done)
      all_goals (cases h;rfl)
     case slice e=>
      cases p<;>cases r<;>simp only []at h<;>try (cases h;done)
      all_goals (cases h;rfl)
     case map k e=>
      cases p<;>cases r<;>simp only []at h<;>try (cases h;done)
      all_goals (cases h;rfl)
     case func a c e=>
      cases p<;>cases r<;>simp only []at h<;>try (cases h;done)
      all_goals (cases h;rfl)
     case interface ms=>
      cases p<;>cases r<;>simp only []at h<;>try (cases h;done)
      . cases h;rfl
      . cases h;rfl
      . cases h;rfl
      . rename_i tx vx af ai ty vy ak al;rw [cS]at h;by_cases T:tx=ty
        . subst T;simp only [decide_true,cond_true]at h;cases U:E.ty tx with
          |none=>simp [U]at h| some i=>
            simp only [U]at h;cases s:i.comparable with
            |false=>simp [s]at h| true=>simp only [s,cond_true]at h;simp [pF ok U,s];grind
        simp_all
     case struct fs=>
      cases p<;>cases r<;>simp only []at h<;>try (cases h;done)
      rename_i u j v z A o B C;cases V:E.eqok t with
      |false=>simp [V]at h| true =>
        simp only [V,cond_true]at h;have W:=(ok.eq t V).1;have X:VL mu u.toList j.toList:=⟨v,z⟩;have Y:VL mu A.toList o.toList:=⟨B,C⟩;simp only [Sem.run_bind,run_program,Result.andThen_ok,W,Xf,if_false];have F : ∀(l:List Field),eqFields E (fj E d) l u.toList A.toList=some b->
         (forIn l ((none,()):Option Bool×Unit) (fun f Z=>
           if f.name≠ "_" then do
            let a<-part f.type j f.offset
            let c<-part f.type o f.offset
            let q<-Op.equalIn D f.type a c
            if(!q)=true then pure (ForInStep.done (some false,()))else pure (ForInStep.yield (none,()))
           else pure (ForInStep.yield (none,()))):Sem _).run P w=.ok (if b then(none,())else(some false,())) w:=by
         intro l
         induction l with
         |nil=>simp_all[eqFields]| cons f l ax=>
           intro g;simp only [eqFields]at g;cases hn:(f.name== "_")with
           |true=>simp [hn]at g| false =>
             simp only [hn,cond_false]at g;have ad:f.name≠ "_" :=(by simpa using hn);cases G:partOf E f.type u.toList f.offset with
             |none=>simp [G]at g| some a=>
               simp only [G]at g;cases H:partOf E f.type A.toList f.offset with
               |none=>simp [H]at g| some c=>
                 simp only [H]at g;obtain⟨a',I,J⟩:=pC ok G X w;obtain⟨c',K,L⟩:=pC ok H Y w;cases M:fj E d f.type a c with
                 |none=>simp [M]at g| some q=>
                   have N:=ih D O M J L;simp only [List.forIn_cons,if_pos ad,Sem.run_bind,I,K,N,Result.andThen_ok];cases q with
                   |false=>simp only [M]at g;cases g;simp
                   |true=>simp_all
        have:=F fs.toList h;simp only [Array.forIn_toList]at this;rw [this];cases b<;>simp
     case array n e=>
      cases p<;>cases r<;>simp only []at h<;>try (cases h;done)
      rename_i u j v z A o B C;have X:VL mu u.toList j.toList:=⟨v,z⟩;have Y:VL mu A.toList o.toList:=⟨B,C⟩;cases hs:E.sz e with
      |none=>simp [hs]at h| some k =>
        simp only [hs]at h;simp only [Sem.run_bind,eg ok hs,Result.andThen_ok];have F : ∀(m i:Nat),pq E (fj E d) e k u.toList A.toList m i=some b->
         (forIn (List.range' i m) ((none,()):Option Bool×Unit) (fun i Z=>do
           let a<-part e j (i*k)
           let c<-part e o (i*k)
           let q<-Op.equalIn D e a c
           if(!q)=true then pure (ForInStep.done (some false,()))else pure (ForInStep.yield (none,()))):Sem _).run P w=.ok (if b then(none,())else(some false,())) w:=by
         intro m
         induction m with
         |zero=>simp_all[pq]| succ m ay=>
           intro i g;simp only [pq]at g;cases G:partOf E e u.toList (i*k)with
           |none=>simp [G]at g| some a=>
             simp only [G]at g;cases H:partOf E e A.toList (i*k)with
             |none=>simp [H]at g| some c=>
               simp only [H]at g;obtain⟨a',I,J⟩:=pC ok G X w;obtain⟨c',K,L⟩:=pC ok H Y w;cases M:fj E d e a c with
               |none=>simp [M]at g| some q=>
                 have N:=ih D O M J L;simp only [List.range'_succ,List.forIn_cons,Sem.run_bind,I,K,N,Result.andThen_ok];cases q with
                 |false=>simp only [M]at g;cases g;simp
                 |true=>simp_all
        have:=F n 0 h;simp only [Std.Legacy.Range.forIn_eq_forIn_range',Std.Legacy.Range.size];rw [show(n-0+1-1)/1=n by omega,this];cases b<;>simp
end
theorem CK(a:ByteArray)(n i:Nat)(r:List UInt8)(h:a.size-i=n):ByteArray.toList.loop a i r=r.reverse++a.data.toList.drop i:=by
 induction n generalizing i r with
 | zero=>unfold ByteArray.toList.loop;rw [if_neg (by omega),List.drop_of_length_le (by have:a.size=a.data.toList.length:=rfl;omega)];simp| succ n c=>have f:a.size=a.data.toList.length:=rfl;unfold ByteArray.toList.loop;rw [if_pos (by omega),c _ _ (by omega)];have b:i<a.data.toList.length:=(by omega);rw [List.drop_eq_getElem_cons b];have e:a.get! i=a.data.toList[i]:=(by have d:i<a.data.size:=b;show a.data[i]! =_;grind);grind
theorem rW(s:ByteArray):s.toList=aM s:=by unfold ByteArray.toList aM;rw [CK s _ 0 [] rfl];simp
theorem AP(s u:ByteArray):s++u=iV (aM s++aM u):=by rfl
section
variable{E:Env}{P:Program}(ok:EOk E P)
include ok
theorem guard_run{op:BinOp}{x:Operand}{b e:Value}(h:iq E t x y a b=some r)(g:aw mu a d)(i:aw mu b e)(w:World):
 (eqGuard op t x y d e).run P w=.ok () w:=by
 unfold eqGuard;cases c:(!(match op with| .eql| .neq=>true|_=>false):Bool)with
 |true=>rfl| false=>
   unfold iq at h;cases g<;>cases i<;>simp only []at h<;>try (cases h;done)
   all_goals first
    |(cases op<;>simp at c<;>simp;done)
    |skip
   . cases op<;>simp at c<;>(cases x<;>cases y<;>simp only []at h<;>first|(cases h;done)|simp)
   . cases f:E.eqok t with
     |false=>simp [f]at h| true=>have:=(ok.eq t f).2;simp_all
omit ok in
theorem yW{x:Operand}{b:Value}(h:iq E t x y a b=some r):fj E 40 t a b=some r:=by unfold iq at h;grind
theorem equal_run{x:Operand}{b c:Value}(h:iq E t x y a b=some r)(e:aw mu a c)(f:aw mu b d)(w:World):
 (Op.equal t c d).run P w=.ok r w:=Bc ok 40 Op.maxDepth (by decide) (yW h) e f w
theorem binP_run {op:BinOp}  {x:Operand} {b e:Value}  (h:bV E op t x y a b=some v) (g:aw mu a d) (i:aw mu b e) (w:World):
 (eqGuard op t x y d e).run P w=.ok () w/\(binOp op t d e).run P w=.ok v w/\aw mu v v:=by
 have j: ∀(r:Bool),iq E t x y a b=some r->(eqGuard op t x y d e).run P w=.ok () w/\(Op.equal t d e).run P w=.ok r w:=
  fun r c=>⟨guard_run ok c g i w,equal_run ok c g i w⟩
 cases g <;> cases i<;>simp only [bV]at h<;>first
  | (rename_i k m o n
     have l: ∀op,(eqGuard op t x y (Value.int k m) (Value.int o n)).run P w=.ok () w:=(by intro op;cases op<;>simp [eqGuard]);refine⟨l op,?_⟩;cases op <;>simp only []at h<;>first
      | (obtain⟨z,F,rfl⟩:=Option.map_eq_some_iff.1 h
         refine⟨?_,.int _ _⟩;grind[binOp,shift_run])
      | (rw [iU] at h
         by_cases p:k=o
         . subst p;simp only [decide_true,cond_true]at h;refine⟨?_,?_⟩
           . have:=arith_run P w h;simpa [binOp]using this
           . unfold jd at h;simp only []at h
             first
              |(cases h;constructor)
              |(obtain⟨z,_,rfl⟩:=Option.map_eq_some_iff.1 h;exact .int _ _)
              | (split at h<;>first|(cases h;done)|skip
                 cases f:jg n 0<;>simp [f]at h;subst h;exact .int _ _)
              |(cases f:jg n 0<;>simp [f]at h;subst h;exact .int _ _)
         . simp [p]at h))
  |skip
 all_goals first
  | (rename_i s u
     have l: ∀op,(eqGuard op t x y (Value.string s) (Value.string u)).run P w=.ok () w:=(by intro op;cases op<;>simp [eqGuard]);refine⟨l op,?_⟩;have q:(s.toList==u.toList)=iX (aM s) (aM u):=(by grind[kH,rW]);have A:Op.bytesLess s.toList u.toList=mO (aM s) (aM u):=(by grind[EA,rW]);cases op<;>simp only []at h<;>first
      |(cases h;done)
      | (rw [fe]at h
         by_cases f:s.size+u.size<=1099511627776
         . simp only [f,decide_true,cond_true]at h;cases h;refine⟨?_,.string _⟩;have B:s++u=iV (aM s++aM u):=AP s u;have e4: ¬(((s.size+u.size:Nat):Int)>IntKind.i64.max):=(by rw [show IntKind.i64.max=9223372036854775807 from rfl];omega);simp only [binOp,Op.stringOp,if_neg e4,B,Sem.run_pure]
         grind)
      | (cases h
         refine⟨?_,.bool _⟩;simp only [binOp,Op.stringOp,q,A,Sem.run_pure]))
  |(cases op<;>simp only []at h<;>first
      |(cases h;done)
      | (obtain⟨r,c,rfl⟩:=Option.map_eq_some_iff.1 h
         obtain⟨C,D⟩:=j r c;refine⟨C,?_,.bool _⟩;simp only [binOp,Sem.run_bind,D,Result.andThen_ok,Sem.run_pure])
      | (obtain⟨r,c,rfl⟩:=Option.map_eq_some_iff.1 h
         have:=yW c;exfalso;revert c;simp [iq];done)
      |done)
end
def OR{c d:Type}(R:c->d->Prop):Option c->Option d->Prop
 |none,none=>True|some a,some b=>R a b|_,_=>False
theorem OR.map{b:Type}{ρ:b->Value}{a:b->Value}{mu:Mu}(h: ∀x,aw mu (ρ x) (a x))(o:Option b):OR (aw mu) (o.map ρ) (o.map a):=by cases o<;>simp [OR,h]
section
variable{E:Env}{P:Program}(ok:EOk E P)
theorem kL{y a:Nat}{code:BoundsCode}(h:gL v y=some n)(d:aw mu v v')(e:y<=a)(w:World):
 (Instr.sliceBound v' a code).run P w=.ok n w/\n<=y:=by
 unfold gL at h;cases d<;>simp only []at h<;>try (cases h;done)
 rename_i k i;cases b:jf i with
 |none=>simp [b]at h| some m=>
   have:=rq b;subst this;simp only [b,fe]at h;by_cases c:m<=y
   . simp only [c,decide_true,cond_true]at h;cases h;refine⟨?_,c⟩;have:(0:Int)<=(n:Int)/\(n:Int)<=(a:Int):=(by omega);simp_all[Instr.sliceBound,asIntOf,Sem.run_bind,Sem.run_pure,Result.andThen_ok,if_pos]
   grind
theorem pP  {len l h m:Nat} {j g o f a mx':Option Value} {b:Bool}
 (e:gY len cap j g o=some (l,h,m)) (n:OR (aw mu) j f) (k:OR (aw mu) g a) (q:OR (aw mu) o mx')
 (i:cap<=cap') (x:len<=cap) (w:World):
 (Instr.sliceBounds b len cap' f a mx').run P w=.ok (l,h,if o.isSome then m else cap') w/\l<=h/\h<=m/\m<=cap/\(o.isSome=false->m=cap):=by
 unfold gY at e;unfold Instr.sliceBounds;cases o with
 | some v=>
   cases mx' with
   |none=>exact q.elim| some F =>
     simp only []at e;cases r:gL v cap with
     |none=>simp [r]at e| some m1 =>
       simp only [r]at e;obtain⟨G,H⟩:=kL (P:=P) (code:=(if b then .slice3Acap else .slice3Alen)) r q i w;cases g with
       |none=>simp at e| some u=>
         cases a with
         |none=>exact k.elim| some y =>
           simp only []at e;cases c:gL u m1 with
           |none=>simp [c]at e| some p=>
             simp only [c]at e;obtain⟨s,z⟩:=kL (P:=P) (code:=.slice3B) c k (zO _) w;cases j with
             | none=>
               cases f with
               |some _=>exact n.elim|none=>simp only []at e;cases e;simp_all
             | some t=>
               cases f with
               |none=>exact n.elim| some D=>
                 simp only []at e;cases d:gL t p with
                 |none=>simp [d]at e| some A=>
                   simp only [d]at e;obtain⟨B,C⟩:=kL (P:=P) (code:=.slice3C) d n (zO _) w;simp_all
 | none=>
   cases mx' with
   |some _=>exact q.elim| none=>
     simp only [Xo,cond_false]at e;cases j with
     | none=>
       cases f with
       |some _=>exact n.elim| none=>
         cases g with
         | none=>
           cases a with
           |some _=>exact k.elim|none=>simp only []at e;cases e;simp;omega
         | some u=>
           cases a with
           |none=>exact k.elim| some y=>
             simp only []at e;cases c:gL u cap with
             |none=>simp [c]at e| some p=>
               simp only [c]at e;obtain⟨s,z⟩:=kL (P:=P) (code:=(if b then .sliceAcap else .sliceAlen)) c k i w;cases e;simp [s];omega
     | some t=>
       cases f with
       |none=>exact n.elim| some D =>
         cases g with
         | none=>
           cases a with
           |some _=>exact k.elim| none=>
             simp only []at e;cases d:gL t len with
             |none=>simp [d]at e| some A=>
               simp only [d]at e;obtain⟨B,C⟩:=kL (P:=P) (code:=.sliceB) d n (zO _) w;simp_all
         | some u=>
           cases a with
           |none=>exact k.elim| some y=>
             simp only []at e;cases c:gL u cap with
             |none=>simp [c]at e| some p=>
               simp only [c]at e;obtain⟨s,z⟩:=kL (P:=P) (code:=(if b then .sliceAcap else .sliceAlen)) c k i w;cases d:gL t p with
               |none=>simp [d]at e| some A=>
                 simp only [d]at e;obtain⟨B,C⟩:=kL (P:=P) (code:=.sliceB) d n (zO _) w;simp_all
theorem oR(a:Addr)(n:Nat)(h:a.spot=none):a.add n=⟨a.block,a.off+n,none⟩:=by
 unfold Addr.add;by_cases b:n=0
 . subst b;cases a;grind
 . simp [b]
theorem pT{a d:Addr}(h:fK mu a d)(n:Nat):fK mu (ig a n) (d.add n):=by
 unfold fK at*
 show match mu a.block with| .none=>False| .dead=>True| .blk c b _=>d.add n=⟨c,b+(a.off+n),none⟩
 cases e:mu a.block with
 |none=>grind|dead=>trivial| blk c b f=>rw [e]at h;simp only []at h⊢;subst h;rw [oR _ _ rfl,Xg]
include ok
theorem DS    {u i D z o mx':Option Value} (h:ic E t x u i D=some v) (U:aw mu x x')
 (R:OR (aw mu) u z) (S:OR (aw mu) i o) (T:OR (aw mu) D mx') (w:World):
 ∃v',(Instr.sliceAt t x' z o mx').run P w=.ok v' w/\aw mu v v':=by
 unfold ic at h;cases I:E.und t with
 |none=>simp [I]at h| some d =>
   simp only [I]at h;unfold Instr.sliceAt;simp only [Sem.run_bind,bN ok I,Result.andThen_ok];cases d<;>simp only []at h<;>try (cases h;done)
   case string=>
    unfold Instr.slice;simp only [Sem.run_bind,bN ok I,Result.andThen_ok];cases U<;>simp only []at h<;>try (cases h;done)
    rename_i s;cases D with
    |some _=>simp at h| none =>
      cases mx' with
      |some _=>exact T.elim| none=>
        simp only [Xo,cond_false]at h;cases p:gY s.size s.size u i none with
        |none=>simp [p]at h| some r=>
          obtain⟨l,A,m⟩:=r;simp only [p]at h;cases h;obtain⟨G,V,W,_,_⟩:=pP (P:=P) (b:=false) p R S (mu:=mu) (mx':=none) trivial (zO _) (zO _) w;have e:s.extract l A=iV (((aM s).drop l).take (A-l)):=(by apply ByteArray.ext;simp [iV,aM,ByteArray.data_extract];grind);refine⟨.string (s.extract l A),by simp [G],by rw [e];exact .string _⟩
   case slice e =>
    unfold Instr.slice;simp only [Sem.run_bind,bN ok I,Result.andThen_ok];cases U<;>simp only []at h<;>try (cases h;done)
    . cases p:gY 0 0 u i D with
      |none=>simp [p]at h| some r=>
        obtain⟨l,A,m⟩:=r;simp only [p]at h;cases B:E.sz e with
        |none=>simp [B]at h| some k=>
          simp only [B]at h;cases h;obtain⟨G,V,W,r4,r5⟩:=pP (P:=P) (b:=true) p R S T (zO _) (zO _) w;have X:m=0:=(by omega);subst X;have:A=0:=(by omega);subst this;have:l=0:=(by omega);subst this;refine⟨.slice none 0 0,?_,.nils⟩;simp [G,eg ok B]
    . rename_i a H J Y j Z f;cases p:gY J Y u i D with
      |none=>simp [p]at h| some r =>
        obtain⟨l,A,m⟩:=r;simp only [p]at h;cases B:E.sz e with
        |none=>simp [B]at h| some k=>
          simp only [B]at h;obtain⟨G,V,W,r4,r5⟩:=pP (P:=P) (b:=true) p R S T f.caps Z w;have ak:m<=(if D.isSome then m else j):=(by have:=f.caps;grind);have K:(if D.isSome then m else j)<=j:=(by have:=f.caps;grind);generalize hM:(if D.isSome then m else j)=M at*
          have ai: ∀q,(Instr.sliceBounds true J j z o mx').run P w=.ok q w->q=(l,A,M):=(by grind);refine⟨.slice (if M=l then some H else(some H).map (·.add (l*k))) (A-l) (M-l),by simp [G,eg ok B],?_⟩;unfold eB at f;cases C:mu a.block with
          |none=>grind| dead=>
            have hv: ∃q,q.block=a.block/\v=.slice (some q) (A-l) (m-l):=by
             cases y:a.spot with
             |none=>simp only [y]at h;cases h;refine⟨_,?_,rfl⟩;cases zM m l<;>rfl
             | some L=>grind
            obtain⟨q,al,rfl⟩:=hv;by_cases g:M=l
            . rw [if_pos g];exact .slice (by omega) (by grind[eB])
            . rw [if_neg g];exact .slice (by omega) (by grind[eB])
          | blk c N O=>
            rw [C]at f;cases y:a.spot with
            | none=>
              rw [y]at f;simp only []at f;obtain⟨rfl,rfl⟩:=f;have ad:M=m:=(by grind);subst ad;simp only [y]at h;cases h;rw [cS];by_cases g:M=l
              . simp only [g,decide_true,cond_true,if_true];refine .slice (by omega) ?_;unfold eB;grind
              . simp only [g,decide_false,cond_false,if_false,Option.map_some];refine .slice (by omega) ?_;unfold eB;simp only [ig,C];exact⟨trivial,by rw [oR _ _ rfl,Xg]⟩
            | some L=>
              rw [y]at f;simp only []at f;obtain⟨s1,s2,s3,s4,s5⟩:=f;simp only [y,cS]at h;by_cases hk:L=k
              . subst hk;simp only [decide_true,cond_true]at h;cases h;have af:H.off+M*L<=O:=(by have:=Xm L K;omega);by_cases g:M=l
                . have Q:m=l:=(by omega);simp only [g,Q,decide_true,cond_true,if_true];refine .slice (by omega) ?_;grind[eB]
                . simp only [g,if_false,Option.map_some];refine .slice (by omega) ?_;unfold eB;simp only [C];rw [oR _ _ s3];refine⟨by omega,s2,rfl,?_,?_⟩
                  . simp only [];rw [Nat.sub_mul];have:=Xm L (show l<=M by omega);omega
                  grind
              grind
   case array n e=>
    cases U<;>simp only []at h<;>try (cases h;done)
    rename_i a H F;cases p:gY n n u i D with
    |none=>simp [p]at h| some r=>
      obtain⟨l,A,m⟩:=r;simp only [p]at h;cases B:E.sz e with
      |none=>simp [B]at h| some k=>
        simp only [B]at h;cases h;obtain⟨G,V,W,r4,r5⟩:=pP (P:=P) (b:=false) p R S T (zO _) (zO _) w;have em:(if D.isSome=true then m else n)=m:=(by grind);rw [em]at G;refine⟨.slice (some (if m=l then H else H.add (l*k))) (A-l) (m-l),by simp [Instr.sureAddr,G,eg ok B],?_⟩;rw [cS];refine .slice (by omega) ?_;unfold fK at F;unfold eB;simp only [];cases C:mu a.block with
        |none=>grind|dead=>omega| blk c N O=>
          rw [C]at F;simp only []at F⊢;subst F;refine⟨trivial,?_⟩;by_cases g:m=l
          . simp [g]
          . simp only [g,if_false,decide_false,cond_false];rw [oR _ _ rfl,Xg]
theorem y9{s:TypeId}(h:aG E s x i=some v)(k:aw mu x x')(w:World):
 ∃v',(Instr.fieldAt s x' i).run P w=.ok v' w/\aw mu v v':=by
 unfold aG at h;cases c:E.und s with
 |none=>simp [c]at h| some d=>
   simp only [c]at h;cases d<;>simp only []at h<;>try (cases h;done)
   rename_i j;cases hf:j.toList[i]? with
   |none=>simp [hf]at h| some f=>
     simp only [hf]at h;have e:j[i]? =some f:=(by grind);cases b:E.sz f.type with
     |none=>simp [b]at h| some n=>
       cases n with
       |zero=>simp [b]at h| succ n=>
         simp only [b]at h;cases k<;>simp only []at h<;>try (cases h;done)
         rename_i a l g;cases h;refine⟨.pointer (some (l.add f.offset)),?_,.ptr (pT g _)⟩;unfold Instr.fieldAt;simp [bN ok c,e,Instr.sureAddr,fieldPlace,eg ok b]
theorem DZ(h:bG E t x i=some v)(g:aw mu x x')(w:World):
 ∃v',(Instr.field t x' i).run P w=.ok v' w/\aw mu v v':=by
 unfold bG at h;cases a:E.und t with
 |none=>simp [a]at h| some d=>
   simp only [a]at h;cases d<;>simp only []at h<;>try (cases h;done)
   rename_i e;cases hf:e.toList[i]? with
   |none=>simp [hf]at h| some f=>
     simp only [hf]at h;have b:e[i]? =some f:=(by grind);cases g<;>simp only []at h<;>try (cases h;done)
     rename_i j c k l;obtain⟨v',m,n⟩:=pC ok h (⟨k,l⟩:VL mu j.toList c.toList) w;refine⟨v',?_,n⟩;unfold Instr.field;simp [bN ok a,b,asAgg,m]
omit ok in
theorem tI{len:Nat}(h:iN v len=some i)(b:aw mu v v'): ∃k,v'=.int k (i:Int)/\i<len:=by
 unfold iN at h;cases b<;>simp only []at h<;>try (cases h;done)
 rename_i k n;cases a:jf n with
 |none=>simp [a]at h| some m=>
   have:=rq a;subst this;simp only [a,jk]at h;by_cases c:m<len
   . simp_all
   grind
theorem zh   {s o:Value} (h:fZ E t x s=some v) (B:aw mu x x') (C:aw mu s o) (w:World):
 ∃v',(Instr.indexAt t x' o).run P w=.ok v' w/\aw mu v v':=by
 unfold fZ at h;cases u:E.und t with
 |none=>simp [u]at h| some d=>
   simp only [u]at h;cases d<;>simp only []at h<;>try (cases h;done)
   case array n e=>
    cases B<;>simp only []at h<;>try (cases h;done)
    rename_i a l g;cases b:iN s n with
    |none=>simp [b]at h| some i=>
      obtain⟨k,rfl,hlt⟩:=tI b C;simp only [b]at h;cases j:E.sz e with
      |none=>simp [j]at h| some m=>
        simp only [j]at h;cases h;refine⟨.pointer (some (l.add (i*m))),?_,.ptr (pT g _)⟩;have y:(0:Int)<=(i:Int)/\(i:Int)<(n:Int):=(by omega);unfold Instr.indexAt;simp [asIntOf,bN ok u,Instr.sureAddr,y,eg ok j];omega
   case slice e=>
    cases B<;>simp only []at h<;>try (cases h;done)
    rename_i a l p F D G f;cases b:iN s p with
    |none=>simp [b]at h| some i =>
      obtain⟨k,rfl,hlt⟩:=tI b C;simp only [b]at h;cases j:E.sz e with
      |none=>simp [j]at h| some m=>
        simp only [j]at h;cases h;have g:fK mu a l:=by
         unfold eB at f;unfold fK;cases z:mu a.block with
         |none=>grind|dead=>trivial| blk c r H=>
           rw [z]at f;cases A:a.spot with
           |none=>grind| some q=>
             rw [A]at f;simp only []at f⊢;obtain⟨_,I,J,_,K⟩:=f;have:l.off=r+a.off:=(by omega);cases l;grind
        refine⟨.pointer (some (l.add (i*m))),?_,.ptr (pT g _)⟩;have y:(0:Int)<=(i:Int)/\(i:Int)<(p:Int):=(by omega);unfold Instr.indexAt;simp [asIntOf,bN ok u,y,eg ok j];omega
theorem EE   {f c:Value} (h:iY E t x f=some v) (p:aw mu x x') (q:aw mu f c) (w:World):
 ∃v',(Instr.index t x' c).run P w=.ok v' w/\aw mu v v':=by
 unfold iY at h;cases g:E.und t with
 |none=>simp [g]at h| some d=>
   simp only [g]at h;cases d<;>simp only []at h<;>try (cases h;done)
   case array n e=>
    cases p<;>simp only []at h<;>try (cases h;done)
    rename_i y l r u;cases a:iN f n with
    |none=>simp [a]at h| some i=>
      obtain⟨k,rfl,hlt⟩:=tI a q;simp only [a]at h;cases o:E.sz e with
      |none=>simp [o]at h| some m=>
        simp only [o]at h;obtain⟨v',z,A⟩:=pC ok h (⟨r,u⟩:VL mu y.toList l.toList) w;refine⟨v',?_,A⟩;have B:(0:Int)<=(i:Int)/\(i:Int)<(n:Int):=(by omega);unfold Instr.index;simp [asIntOf,bN ok g,eg ok o,z];omega
   case string=>
    cases p<;>simp only []at h<;>try (cases h;done)
    rename_i s;cases a:iN f s.size with
    |none=>simp [a]at h| some i=>
      obtain⟨k,rfl,hlt⟩:=tI a q;simp only [a]at h;cases j:(aM s)[i]? with
      |none=>simp [j]at h| some b=>
        simp only [j]at h;cases h;refine⟨.int .u8 b.toNat,?_,.int _ _⟩;have e:s[i]? =some b:=(by have r:i<s.data.toList.length:=(List.getElem?_eq_some_iff.1 j).1;have u:=(List.getElem?_eq_some_iff.1 j).2;rw [getElem?_pos s i hlt];congr 1);unfold Instr.index;simp [asIntOf,bN ok g,e]
end
theorem foldl_set(off:Nat)(vs:List Value)(j:Nat)(a:Array Value):
 ((vs.zipIdx j).foldl (fun cs (x:Value×Nat)=>cs.setIfInBounds (off+x.2) x.1) a).toList=cg a.toList (off+j) vs:=by
 induction vs generalizing j a with
 |nil=>simp [cg]| cons v vs b=>grind[List.zipIdx_cons,cg,Array.toList_setIfInBounds,Xg]
theorem se(l:List Value)(off:Nat)(vs:List Value):(cg l off vs).length=l.length:=by
 induction vs generalizing l off with
 |nil=>rfl|cons v vs a=>simp [cg,a]
theorem setL_rel(h:VL mu l l')(off:Nat){vs a:List Value}(k:VL mu vs a):VL mu (cg l off vs) (cg l' off a):=by
 induction vs generalizing l l' off a with
 |nil=>rw [k.nil_left];exact h| cons v vs b=>
   obtain⟨c,r,rfl,d,e⟩:=k.cons_left;grind[cg,LR.set]
abbrev PL(mu:Mu):=LR (fun(a b:Nat×Value)=>a.1=b.1/\aw mu a.2 b.2)
theorem uC  {c place':Nat->Option (Nat×Nat)} (u: ∀i r,c i=some r->place' i=some r) {a:List Value} {cells':Array Value} {b d:List (Nat×Value)} {r:List Value}
 (h:lO c a b=some r) (m:VL mu a cells'.toList) (hq:PL mu b d):
 ∃l,Instr.fill place' cells' d=some l/\VL mu r l.toList:=by
 induction b generalizing a cells' d with
 | nil=>
   rw [hq.nil_left];simp only [lO]at h;cases h;exact⟨cells',rfl,m⟩
 | cons p b w=>
   obtain⟨y,q,rfl,z,A⟩:=hq.cons_left;obtain⟨i,v⟩:=p;obtain⟨H,n⟩:=y;obtain⟨rfl,B⟩:=z;simp only [lO]at h;cases j:c i with
   |none=>simp [j]at h| some C=>
     obtain⟨g,f⟩:=C;simp only [j]at h;have o: ∀x,v≠ .chan x:=(by grind);have s:(bif zM (ae v).length f&&Xb (g+f) a.length then lO c (cg a g (ae v)) b else none)=some r:=(by grind);rw [cS,fe]at s;by_cases e:(ae v).length=f/\g+f<=a.length
     . simp only [e.1,e.2,decide_true,Xn,cond_true]at s;have k:VL mu (ae v) n.cells.toList:=B.cells o;have t:n.cells.size=f:=(by rw [<-e.1];exact k.1.symm);have D:a.length=cells'.size:=m.1;have E:=e.2;obtain⟨l,I,F⟩:=w (cells':=n.cells.zipIdx.foldl (fun G (x:Value×Nat)=>G.setIfInBounds (g+x.2) x.1) cells') s (by
        rw [<-Array.foldl_toList,Array.toList_zipIdx,foldl_set];exact setL_rel m _ k) A
       refine⟨l,?_,F⟩;simp only [Instr.fill,u i _ j];grind
     grind
section
variable{E:Env}{P:Program}(ok:EOk E P)
theorem unP_run{op:UnOp}(h:unP op x=some v)(b:aw mu x x')(w:World):(Op.unary op x').run P w=.ok v w/\aw mu v v:=by
 unfold unP at h;cases op<;>cases b<;>simp only []at h<;>try (cases h;done)
 . cases h;refine⟨?_,.int _ _⟩;rw [ji];rfl
 . rename_i k n;cases a:sgn k with
   |true=>simp [a]at h| false=>
     simp only [a,cond_false]at h;obtain⟨z,c,rfl⟩:=Option.map_eq_some_iff.1 h;refine⟨?_,.int _ _⟩;have d:k.signed=false:=(by rw [<-sgn_eq];exact a);have e:k.max=Xc (pw k-1):=(by cases k<;>first|rfl|(simp [sgn]at a));grind[rz,Op.unary]
 . cases h;exact⟨rfl,.bool _⟩
include ok
theorem ED   {b c:List (Nat×Value)}  (h:jQ E t b=some v) (hq:PL mu b c) (w:World):
 ∃v',(Instr.build t c.toArray).run P w=.ok v' w/\aw mu v v':=by
 unfold jQ at h;cases q:E.zero t with
 |none=>simp [q]at h| some z =>
   simp only [q]at h;obtain⟨C,D,H,I,J⟩:=po ok q w;have j:VL mu z C.cells.toList:=(by grind[LR.refl,aw.const,List.all_eq_true]);cases s:E.und t with
   |none=>simp [s]at h| some d =>
     simp only [s]at h;unfold Instr.build;simp only [Sem.run_bind,D,Result.andThen_ok,bN ok s];cases d<;>simp only []at h<;>try (cases h;done)
     case struct p=>
      cases a:oZ E p.toList with
      |none=>simp [a]at h| some m =>
        have A:(p.mapM (fun f=>do let n<-sizeOf f.type;pure (f.offset,n)):Sem _).run P w=.ok m.toArray w:=by
         rw [Array.mapM_eq_mapM_toList];simp only [Sem.run_map];have : (p.toList.mapM (fun f=>do let n<-sizeOf f.type;pure (f.offset,n)):Sem _).run P w=.ok m w:=by
          revert a;generalize p.toList=l;intro a
          induction l generalizing m with
          |nil=>simp_all[oZ]| cons f l F=>
            simp only [oZ]at a;cases g:E.sz f.type with
            |none=>simp [g]at a| some n=>
              simp only [g]at a;cases u:oZ E l with
              |none=>simp [u]at a| some r=>
                simp only [u]at a;cases a;simp only [List.mapM_cons,Sem.run_bind,eg ok g,Result.andThen_ok,Sem.run_pure,F r u]
         simp_all
        simp only [a]at h;cases hf:lO (fun i=>m[i]?) z b with
        |none=>grind| some G=>
          simp only [hf]at h;cases h;obtain⟨x,B,o⟩:=uC (place':=fun i=>m.toArray[i]?) (fun i r y=>by simpa using y) hf j hq;refine⟨.agg x,?_,.agg o.1 o.2⟩;simp_all
     case array n e=>
      cases g:E.sz e with
      |none=>simp [g]at h| some k=>
        simp only [g]at h;cases hf:lO (fun i=>some (i*k,k)) z b with
        |none=>grind| some G=>
          simp only [hf]at h;cases h;obtain⟨x,B,o⟩:=uC (place':=fun i=>some (i*k,k)) (fun i r y=>y) hf j hq;refine⟨.agg x,?_,.agg o.1 o.2⟩;simp only [Sem.run_bind,eg ok g,Result.andThen_ok,B];rfl
theorem convP_run{c b:TypeId}{d:TypeDesc}(g:E.und c=some d)(j: ∀e,d≠ .slice e)(h:ju E b x=some v)(i:aw mu x x')(w:World):
 (convert c b x').run P w=.ok v w/\aw mu v v:=by
 unfold ju at h;cases i<;>simp only []at h<;>try (cases h;done)
 . rename_i k n;cases a:E.und b with
   |none=>simp [a]at h| some f=>
     simp only [a]at h;cases f<;>simp only []at h<;>try (cases h;done)
     rename_i l;cases h;refine⟨?_,.int _ _⟩;unfold convert;simp only [Sem.run_bind,bN ok g,bN ok a,Result.andThen_ok];rw [ji];rfl
 . rename_i s;cases a:E.und b with
   |none=>simp [a]at h| some f=>
     simp only [a]at h;cases f<;>simp only []at h<;>try (cases h;done)
     cases h;refine⟨?_,.string _⟩;unfold convert;simp only [Sem.run_bind,bN ok g,bN ok a,Result.andThen_ok];rfl
theorem lenP_run{ty:TypeId}{ts:Array TypeId}{xs:Array Value}(c:ts.toList.head?=some t)(f:xs.toList.head?=some x')(h:lenP E t x=some v)(a:aw mu x x')(w:World):
 (Builtin.len_ ts ty xs).run P w=.ok v w/\aw mu v v:=by
 have g:ts[0]? =some t:=by rw [<-Xd];simpa [Xk]using c
 have i:xs[0]? =some x':=by grind[Xk]
 unfold Builtin.len_;simp only [g,i];unfold lenP at h;cases b:E.und t with
 |none=>simp [b]at h| some d=>
   simp only [b]at h;simp only [Sem.run_bind,bN ok b,Result.andThen_ok];cases d<;>simp only []at h<;>try (cases h;done)
   case string => cases a<;>simp only []at h<;>try (cases h;done)
                  cases h;exact⟨rfl,.int _ _⟩
   case array n e=>cases h;exact⟨rfl,.int _ _⟩
   case slice e => cases a<;>simp only []at h<;>try (cases h;done)
                   all_goals (cases h;exact⟨rfl,.int _ _⟩)
   case map k e => cases a<;>simp only []at h<;>try (cases h;done)
                   cases h;exact⟨rfl,.int _ _⟩
omit ok in
theorem yS(c:Bool)(h:iI c x l=some v)(e:aw mu x x')(d:VL mu l l')(n: ∀y,x≠ .chan y)(w:World):
 ∃v',(l'.foldlM (if c then Builtin.max2 else Builtin.min2) x').run P w=.ok v' w/\aw mu v v':=by
 induction l generalizing x x' l' with
 | nil=>rw [d.nil_left];simp_all[iI]| cons y l f=>
   obtain⟨o,r,rfl,g,i⟩:=d.cons_left;cases e<;>simp only [iI]at h<;>try (cases h;done)
   cases g<;>simp only []at h<;>try (cases h;done)
   rename_i k a j b;obtain⟨v',p,m⟩:=f h (.int _ _) i (by grind);refine⟨v',?_,m⟩;simp only [List.foldlM_cons,Sem.run_bind];have:((if c then Builtin.max2 else Builtin.min2) (.int k a) (.int j b)).run P w=.ok (.int k (bif c then(bif oG a b then b else a)else(bif oG b a then b else a))) w:=by
    cases c
    . simp_all[Xf,if_false,Builtin.min2,cond_false,jj,Sem.run_pure]
    simp_all[if_true,Builtin.max2,cond_true,jj,Sem.run_pure]
   simp_all
theorem C7{s:TypeId}{q:Bool}(h:qO E x t q=some v)(i:aw mu x x')(w:World):
 ∃v',(Instr.typeAssert x' s t q).run P w=.ok v' w/\aw mu v v':=by
 unfold qO at h;cases g:E.und t with
 |none=>simp [g]at h| some d=>
   simp only [g]at h;have n: ∀j,d≠ .interface j:=(by grind);have k: ∀{z y:Value},aw mu z y-> ∀b,aw mu (.tuple #[z,.bool b]) (.tuple #[y,.bool b]):=(by intro z y e b;have:VL mu [z,.bool b] [y,.bool b]:=LR.cons e (LR.cons (.bool b) LR.nil);exact .tuple this.1 this.2);unfold Instr.typeAssert;simp only [Sem.run_bind,bN ok g,Result.andThen_ok];have c:uZ E x t q=some v:=(by grind);clear h;unfold uZ at c;cases i<;>simp only []at c<;>try (cases c;done)
   . cases q with
     |false=>simp at c| true=>
       simp only [cond_true]at c;obtain⟨z,e,rfl⟩:=Option.map_eq_some_iff.1 c;obtain⟨l,m⟩:=rH ok e w mu;simp_all
   . rename_i u a o p;rw [cS]at c;by_cases f:u=t
     . subst f;simp only [decide_true,cond_true]at c;cases c;cases q with
       |false=>simp_all|true=>simp_all
     . simp only [f,decide_false,cond_false]at c;cases q with
       |false=>simp at c| true=>
         simp only [cond_true]at c;obtain⟨z,e,rfl⟩:=Option.map_eq_some_iff.1 c;obtain⟨l,m⟩:=rH ok e w mu;simp_all
end
section
variable{E:Env}{P:Program}(ok:EOk E P)
include ok
theorem pop_run{ρ g:Operand->Value}(f: ∀x,aw mu (ρ x) (g x)){o:Oper}(h:pop E ρ o.op=some v)(w:World):
 ∃v',(execOp g o).run P w=.ok (.value v') w/\aw mu v v':=by
 have D: ∀l:List Operand,VL mu (l.map ρ) (l.map g):=fun l=>LR.mapSame l f;unfold execOp;obtain⟨W,op,G,pos,M,guard⟩:=o;simp only []at h⊢;cases op<;>simp only [pop]at h<;>try (cases h;done)
 case move x=>cases h;simp_all
 case assign x=>cases h;simp_all
 case pick c a b=>
  have z:=f c;cases H:ρ c<;>rw [H]at h z<;>(try simp only []at h)<;>try (cases h;done)
  rename_i t;cases r:g c<;>rw [r]at z<;>cases z;cases h;cases t
  . simp_all[asBool]
  simp_all[asBool]
 case nilCheck x=>
  have z:=f x;cases H:ρ x<;>rw [H]at h z<;>(try simp only []at h)<;>try (cases h;done)
  . rename_i a;cases a with
    |none=>simp at h| some a=>
      cases h;cases r:g x<;>rw [r]at z<;>cases z;rename_i X C;exact⟨.pointer (some X),by simp_all,.ptr C⟩
  . rename_i N a b;cases N<;>(try simp only []at h)<;>try (cases h;done)
    cases h;cases r:g x<;>rw [r]at z<;>cases z;rename_i A B T Y;exact⟨_,by simp_all,.fn A B T Y⟩
 case binOp op t x y u=>
  obtain⟨A,B,T⟩:=binP_run ok h (f x) (f y) w;simp_all
 case unOp op t x=>
  obtain⟨A,B⟩:=unP_run (P:=P) h (f x) w;simp_all
 case makeInterface t x=>
  cases O:E.und t with
  |none=>simp [O]at h| some d=>
    simp only [O]at h;cases d<;>(try simp only []at h)<;>try (cases h;done)
    all_goals (cases h;exact⟨.iface t (g x),by simp [Instr.makeInterface,bN ok O],.iface (f x)⟩)
 case makeFunc N a b=>
  cases N<;>(try simp only []at h)<;>try (cases h;done)
  cases h;refine⟨_,rfl,.fn (by simp) ?_ (by simp) ?_⟩
  . grind
  grind
 case slice t x l Z m=>
  obtain⟨v',A,B⟩:=DS ok h (f x) (OR.map f l) (OR.map f Z) (OR.map f m) w;simp_all
 case fieldAddr t x i=>
  obtain⟨v',A,B⟩:=y9 ok h (f x) w;simp_all
 case field t x i=>
  obtain⟨v',A,B⟩:=DZ ok h (f x) w;simp_all
 case indexAddr t x i=>
  obtain⟨v',A,B⟩:=zh ok h (f x) (f i) w;simp_all
 case index t x i=>
  obtain⟨v',A,B⟩:=EE ok h (f x) (f i) w;simp_all
 case extract t i=>
  have z:=f t;cases H:ρ t<;>rw [H]at h z<;>(try simp only []at h)<;>try (cases h;done)
  cases r:g t<;>rw [r]at z<;>cases z;rename_i vs Q A B;obtain⟨v',U,V⟩:=LR.get (⟨A,B⟩:VL mu vs.toList Q.toList) h;simp_all[Xd,Instr.extract]
 case build t n=>
  have hq:PL mu (n.toList.map fun p=>(p.1,ρ p.2)) (n.toList.map fun p=>(p.1,g p.2)):=LR.mapSame _ fun p=>⟨rfl,f p.2⟩;obtain⟨v',A,B⟩:=ED ok h hq w;have e:(n.map fun(x:Nat×Operand)=>(x.1,g x.2))=(n.toList.map fun p=>(p.1,g p.2)).toArray:=by apply Array.ext';simp
  simp_all
 case typeAssert x s t q=>
  obtain⟨v',A,B⟩:=C7 ok (s:=s) h (f x) w;simp_all
 case call c=>
  obtain⟨F,j,k⟩:=c;simp only []at h;cases F<;>(try simp only []at h)<;>try (cases h;done)
  rename_i b;cases b<;>(try simp only []at h)<;>try (cases h;done)
  case len=>
   cases R:k.toList with
   |nil=>simp [R]at h| cons t ts=>
     cases C:j.toList with
     |nil=>grind| cons x xs=>
       simp only [R,C]at h;obtain⟨A,B⟩:=lenP_run ok (ts:=k) (ty:=G) (xs:=j.map g) (by rw [R];rfl) (by simp [C]) h (f x) w;simp_all[resolve,invoke,builtin]
  case min=>
   cases C:j.toList.map ρ with
   |nil=>simp [C]at h| cons x l=>
     simp only [C]at h;have I:=D j.toList;rw [C]at I;obtain⟨S,l',J,K,L⟩:=I.cons_left;cases l with
     | nil=>
       simp only [iI]at h;cases h;rw [L.nil_left]at J;exact⟨S,by simp [resolve,invoke,builtin,Builtin.min_,J],K⟩
     | cons y l=>
       obtain⟨v',U,V⟩:=yS (P:=P) false h K L (by intro c e;subst e;simp [iI]at h) w;simp_all[Xf,if_false,resolve,invoke,builtin,Builtin.min_]
  case max=>
   cases C:j.toList.map ρ with
   |nil=>simp [C]at h| cons x l=>
     simp only [C]at h;have I:=D j.toList;rw [C]at I;obtain⟨S,l',J,K,L⟩:=I.cons_left;cases l with
     | nil=>
       simp only [iI]at h;cases h;rw [L.nil_left]at J;exact⟨S,by simp [resolve,invoke,builtin,Builtin.max_,J],K⟩
     | cons y l=>
       obtain⟨v',U,V⟩:=yS (P:=P) true h K L (by intro c e;subst e;simp [iI]at h) w;simp_all[if_true,resolve,invoke,builtin,Builtin.max_]
end
theorem Bv(l:List Value)(off:Nat)(vs:List Value)(i:Nat)(h:off+vs.length<=l.length):
 (cg l off vs)[i]? =if off<=i/\i<off+vs.length then vs[i-off]? else l[i]? :=by
 induction vs generalizing l off with
 |nil=>simp_all[cg,List.length_nil,if_neg]| cons v vs a=>simp only [cg,Xh]at h⊢;grind
theorem setCells_at(c:Nat)(vs:List Value): ∀(o:Nat) (w:World) (cs:Array Value) (el:TypeId) (b:Nat×Nat),w.heap[c]? =some (.cells cs el b)->
 ∃a,WSet w (w.setCells c o vs) c (.cells a el b)/\a.toList=cg cs.toList o vs:=by
 induction vs with
 |nil=>intro o w cs el b h;exact⟨cs,⟨rfl,h,fun _ _=>rfl,rfl,rfl,rfl⟩,rfl⟩
 | cons v vs e=>
   intro o w cs el b h;have f:(w.setCell ⟨c,o,none⟩ v).heap[c]? =some (.cells (cs.setIfInBounds o v) el b):=(by simp [World.setCell,Xl,h]);obtain⟨a,d,g⟩:=e (o+1) (w.setCell ⟨c,o,none⟩ v) _ el b f;refine⟨a,⟨?_,d.at_,?_,d.os,d.tape,d.output⟩,?_⟩
   . show((w.setCell ⟨c,o,none⟩ v).setCells c (o+1) vs).heap.size=_;rw [d.size];simp_all
   . intro j i;show((w.setCell ⟨c,o,none⟩ v).setCells c (o+1) vs).heap[j]? =_;rw [d.other j i];simp_all[World.setCell,Xl,if_neg,Ne.symm]
   . rw [g];simp [cg]
section
variable{E:Env}{P:Program}
theorem ptr_at{h:Hp}(e:bg mu h w){a f:Addr}(b:fK mu a f){x:Blk}(g:h.get a.block=some x)(i:x≠ .dead):
 ∃c base top o,mu a.block=.blk c base top/\f=⟨c,base+a.off,none⟩/\w.heap[c]? =some o/\ng mu x base top o:=by
 unfold fK at b;cases d:mu a.block with
 |none=>grind|dead=>have:=e.dead _ d;grind| blk c base top=>
   rw [d]at b;obtain⟨y,o,j,k,l⟩:=e.blk _ c base top d;grind
theorem xq  {h:Hp}  (z:bg mu h w) {a q:Addr} (g:fK mu a q)   (b:h.load a.block a.off n=some l):
 l.length=n/\ ∃l',VL mu l l'/\(∀(j:Nat) v',l'[j]? =some v'->w.cell? (q.add j)=some v'):=by
 unfold Hp.load at b;cases k:h.get a.block with
 |none=>simp [k]at b| some x=>
   simp only [k]at b;cases x<;>simp only []at b<;>try (cases b;done)
   rename_i t r J K;obtain⟨c,f,A,o,L,rfl,M,B⟩:=ptr_at z g k (by intro e;cases e);obtain⟨C,D,N,rfl,m⟩:=B;rw [fe]at b;by_cases F:a.off+n<=r
   . simp only [F,decide_true,cond_true]at b;obtain⟨s,G⟩:=Tr.slice_spec b;refine⟨s,(List.range n).map (fun j=>C.getD (f+(a.off+j)) default),?_,?_⟩
     . refine⟨by simp [s],fun i v v' p d=>?_⟩;have H:i<n:=(by grind);have:=G i H;rw [p]at this;obtain⟨u,y,O⟩:=m.get _ _ this;simp_all
     . intro j v' d;have I:j<n:=(by grind);simp [I]at d;obtain⟨v,p⟩:=Tr.get_some m.sized (show a.off+j<r by omega);obtain⟨u,y,_⟩:=m.get _ _ p;rw [y]at d;rw [oR _ _ rfl];grind[World.cell?]
   grind
theorem rL  {h h':Hp}  (G:bg mu h w) {a H:Addr} (z:fK mu a H)  (d:h.store a.block a.off l=some h') (A:VL mu l l'):
 ∃w',(storeCells H l').run P w=.ok () w'/\bg mu h' w'/\Ext mu h w mu h' w':=by
 unfold Hp.store at d;cases B:h.get a.block with
 |none=>simp [B]at d| some x =>
   simp only [B]at d;cases x<;>simp only []at d<;>try (cases d;done)
   rename_i t M W N;obtain⟨c,b,O,o,Q,rfl,I,R⟩:=ptr_at G z B (by intro e;cases e);obtain⟨C,p,J,rfl,g⟩:=R;rw [fe,cS]at d;by_cases S:a.off+l.length<=M/\N≠0/\l.all mM=true
   . obtain⟨q,k,D⟩:=S;simp only [q,k,D,decide_true,decide_false,Bool.not_false,Xn,cond_true]at d;cases d;have K:=A.1;have m:=g.fits;have y:=g.whole;obtain⟨r,T,U⟩:=setCells_at c l' (b+a.off) w C p J I;have s: ∀v∈l',v.oneCell'=true:=(by intro v n;obtain⟨i,L⟩:=List.mem_iff_getElem?.1 n;have F:i<l.length:=(by grind);have:=A.2 i _ v (Xe F) L;refine this.flat ?_;grind);have f:=run_storeCells_cells (P:=P) c (b+a.off) l' 0 w (fun j V=>by
      grind[World.cell?]) (fun j V=>by
      simp only [World.frozen?,I];have:=g.free k (b+a.off+0+j) (by omega);grind) s
     rw [Nat.add_zero]at f;refine⟨_,f,?_⟩;refine wX G Q ?_ T ?_
     . grind
     . refine⟨r,p,J,rfl,?_,m,Tr.sized_setAll _ _ g.sized,?_,?_⟩
       . grind[se]
       . intro i v n;rw [Tr.get_setAll _ _ _ _ g.sized q]at n;rw [<-Xd,U,Bv _ _ _ _ (show b+a.off+l'.length<=C.toList.length by grind)];by_cases u:a.off<=i/\i<a.off+l.length
         . rw [if_pos u]at n;rw [if_pos (by omega),show b+i-(b+a.off)=i-a.off by omega];exact A.get n
         . rw [if_neg u]at n;rw [if_neg (by omega),Xd];exact g.get _ _ n
       . intro _ i L;have:r.size=C.size:=(by grind[se]);exact g.free k i (by omega)
   grind
theorem qM{h:Hp}(d:bg mu h w){l':Array Value}{el a:TypeId}(b:VL mu l l'.toList)(e:WNew w w' (.cells l' a)){t:Tr Value}(f:t.Sized l.length)(g: ∀i,t.get i=l[i]?):
 bg (upd mu h.n (.blk w.heap.size 0 l'.size)) (h.new (.cells t l.length el 1)) w'/\Ext mu h w (upd mu h.n (.blk w.heap.size 0 l'.size)) (h.new (.cells t l.length el 1)) w':=by
 refine pg d e ⟨l',a,(0,0),rfl,rfl,?_,f,?_,?_⟩
 . have:=b.1;grind
 . intro i v c;rw [g]at c;obtain⟨j,k,m⟩:=b.get c;grind
 omega
theorem zi(mu:Mu)(b c base top:Nat):fK (upd mu b (.blk c base top)) ⟨b,0,none⟩ ⟨c,base,none⟩:=by unfold fK;rw [upd_same];simp
end
end Go.Ab

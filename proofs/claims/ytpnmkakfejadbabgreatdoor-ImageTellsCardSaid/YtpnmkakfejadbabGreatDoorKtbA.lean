/- A deterministic evaluator of the model's code, and that the model follows it (part 1). -/
import Derived.Calls
import Derived.Laws.Sem
import Derived.Laws.IdiomCopy
import Derived.RowKit3
open Nat renaming beq->zB,le_refl->zM,blt->Xa,ble->Xb,lor->Xg,pow->Xh,mul_le_mul_right->Xp,min->Xt,testBit->Xy,add_assoc->XA,mod_eq_of_lt->XE,le_trans->XF,eq_of_beq_eq_true->XM,le_of_ble_eq_true->XN,mod_lt->XQ,beq_refl->XS,zero_add->XV,lt_or_ge->XW,mul_one->XX,add_mul->XY
open Array renaming getElem?_toList->zO,toList_append->Xl,replicate->Xn,toList_map->Xq,toList_modify->Xv,getD_eq_getD_getElem?->Xz,mapM_eq_mapM_toList->XC,ext'->XD,range->XK,getElem?_eq_none->XL,getElem?_modify->XO,foldl_toList->XU
open List renaming getElem?_eq_getElem->Xc,all_eq_true->Xe,range->Xf,mem_cons_of_mem->Xi,length_cons->Xk,mem_cons_self->Xo,getElem?_append_right->Xr,getElem?_append_left->Xs,forIn_cons->Xu,range'->Xx,range'_succ->XG,getElem_mem->XH,head?_eq_getElem?->XJ,replicate->XP,mem_of_getElem?->XR
open Bool renaming false_eq_true->Xd,and_self->Xm,not_false->Xw
open Int renaming ofNat->Xj,toNat_natCast->XB,negSucc->XI
open Option renaming isSome_none->XT
set_option maxHeartbeats 400000
set_option linter.defProp false
set_option linter.unusedVariables false
set_option linter.unusedSimpArgs false
namespace Go.Ab
variable{b base c cap cap' i id j len n off s2 top:Nat}
variable{a f:Addr}
variable{op:BinOp}
variable{d e k k' m s s' v v' x x':Value}
variable{y:Operand}
variable{z:Int}
variable{w w':World}
variable{o q:Obj}
variable{args args' cs tmps xs:Array Value}
variable{r:Loop}
variable{l l' vs:List Value}
variable{es2 g:List (Value×Value×Nat)}
variable{mx':Option Value}
variable{ρ:Operand->Value}
variable{ops:Array Oper}
variable{rest:List Nat}
variable{todo:List Item}
variable{params:Array Tmp}
variable{assign body:Code}
variable{P:Program}
variable{dfs:List Deferred}
variable{M:FrameMode}
inductive Tr(α:Type)where
 |nil
 |node (x:α) (l r:Tr α)
variable{t t2:Tr Value}
noncomputable section
namespace Tr
variable{α:Type}
def get(t:Tr α):Nat->Option α:=Tr.rec (motive:=fun _=>Nat->Option α) (fun _=>none)
 (fun x _ _ a b i=>Nat.rec (some x) (fun n _=>Bool.rec (b (n/2)) (a (n/2)) (zB (n%2) 0)) i) t
def set(t:Tr α):Nat->α->Tr α:=Tr.rec (motive:=fun _=>Nat->α->Tr α) (fun _ _=>.nil)
 (fun y l r a b i x=>Nat.rec (.node x l r) (fun n _=>Bool.rec (.node y l (b (n/2) x)) (.node y (a (n/2) x) r) (zB (n%2) 0)) i) t
def push(t:Tr α):Nat->α->Tr α:=Tr.rec (motive:=fun _=>Nat->α->Tr α) (fun _ x=>.node x .nil .nil)
 (fun y l r a b i x=>Nat.rec (.node y l r) (fun n _=>Bool.rec (.node y l (b (n/2) x)) (.node y (a (n/2) x) r) (zB (n%2) 0)) i) t
def pushAll:Tr α->Nat->List α->Tr α
 |t,_,[]=>t|t,n,x::l=>(t.push n x).pushAll (n+1) l
def ofList(l:List α):Tr α:=pushAll .nil 0 l
def slice(t:Tr α):Nat->Nat->Option (List α)
 |_,0=>some []| i,n+1=>match t.get i with
   |none=>none| some x=>match t.slice (i+1) n with
     |none=>none|some l=>some (x::l)
def setAll:Tr α->Nat->List α->Tr α
 |t,_,[]=>t|t,i,x::l=>(t.set i x).setAll (i+1) l
def blank(x:α):Nat->Nat->Tr α
 |0,_=>.nil| f+1,n=>match n with
   |0=>.nil|k+1=>.node x (blank x f ((k+1)/2)) (blank x f (k/2))
def Sized(t:Tr α)(n:Nat):Prop:= ∀i,(t.get i).isSome=true↔i<n
theorem get_nil(i:Nat):(Tr.nil:Tr α).get i=none:=rfl
theorem set_nil(i:Nat)(x:α):(Tr.nil:Tr α).set i x=.nil:=rfl
theorem push_nil(i:Nat)(x:α):(Tr.nil:Tr α).push i x=.node x .nil .nil:=rfl
theorem get_node(x:α)(l r:Tr α)(i:Nat):(Tr.node x l r).get i=match i with
 |0=>some x|n+1=>if n%2=0 then l.get (n/2)else r.get (n/2):=by
 cases i with
 |zero=>rfl| succ n=>
   show Bool.rec (motive:=fun _=>Option α) (r.get (n/2)) (l.get (n/2)) (zB (n%2) 0)=_;by_cases h:n%2=0
   . simp only [h];rfl
   simp_all[zB,if_neg]
theorem set_node(x:α)(l r:Tr α)(i:Nat)(y:α):(Tr.node x l r).set i y=match i with
 |0=>.node y l r|n+1=>if n%2=0 then .node x (l.set (n/2) y) r else .node x l (r.set (n/2) y):=by
 cases i with
 |zero=>rfl| succ n=>
   show Bool.rec (motive:=fun _=>Tr α) (.node x l (r.set (n/2) y)) (.node x (l.set (n/2) y) r) (zB (n%2) 0)=_;by_cases h:n%2=0
   . simp only [h];rfl
   simp_all[zB,if_neg]
theorem push_node(x:α)(l r:Tr α)(i:Nat)(y:α):(Tr.node x l r).push i y=match i with
 |0=>.node x l r|n+1=>if n%2=0 then .node x (l.push (n/2) y) r else .node x l (r.push (n/2) y):=by
 cases i with
 |zero=>rfl| succ n=>
   show Bool.rec (motive:=fun _=>Tr α) (.node x l (r.push (n/2) y)) (.node x (l.push (n/2) y) r) (zB (n%2) 0)=_;by_cases h:n%2=0
   . simp only [h];rfl
   simp_all[zB,if_neg]
theorem get_set(t:Tr α)(i:Nat)(x:α)(j:Nat):(t.set i x).get j=if i=j/\(t.get j).isSome then some x else t.get j:=by
 induction t generalizing i j with
 |nil=>simp [set_nil,get_nil]| node y l r b c=>
   rw [set_node];cases i with
   | zero=>grind[get_node]| succ n=>
     by_cases a:n%2=0
     . simp only [a,if_true];cases j with
       |zero=>simp [get_node]| succ m=>simp only [get_node];grind
     . simp only [a,if_false];cases j with
       |zero=>simp [get_node]| succ m=>simp only [get_node];grind
theorem tI:(Tr.nil:Tr α).Sized 0:=by intro i;simp [get_nil]
theorem ET{x:α}{l r:Tr α}(h:(Tr.node x l r).Sized n): ∃m,n=m+1/\l.Sized ((m+1)/2)/\r.Sized (m/2):=by
 cases n with
 |zero=>have:=(h 0).1 (by simp [get_node]);omega| succ m=>
   refine⟨m,rfl,fun i=>?_,fun i=>?_⟩
   . have:=h (2*i+1);simp only [get_node]at this;grind
   . have:=h (2*i+2);simp only [get_node]at this;grind
theorem get_push(t:Tr α)(n:Nat)(x:α)(hs:t.Sized n)(j:Nat):(t.push n x).get j=if j=n then some x else t.get j:=by
 induction t generalizing n j with
 | nil=>
   have:n=0:=by
    cases n with
    |zero=>rfl|succ m=>have:=(hs 0).2 (by omega);simp [get_nil]at this
   grind[push_nil,get_node,get_nil]
 | node y l r b c=>
   obtain⟨m,rfl,e,f⟩:=ET hs;rw [push_node];by_cases a:m%2=0
   . simp only [a,if_true];have d:l.Sized (m/2):=(by grind);cases j with
     |zero=>simp [get_node]| succ k=>simp only [get_node];grind
   . simp only [a,if_false];cases j with
     |zero=>simp [get_node]| succ k=>simp only [get_node];grind
theorem sized_push{t:Tr α}(x:α)(hs:t.Sized n):(t.push n x).Sized (n+1):=by
 intro j;rw [get_push t n x hs];by_cases h:j=n
 . simp [h]
 . simp only [h,if_false,hs j];omega
theorem sized_set{t:Tr α}(i:Nat)(x:α)(hs:t.Sized n):(t.set i x).Sized n:=by
 intro j;rw [get_set]
 split
 . rename_i h;simp;exact(hs j).1 h.2
 . exact hs j
theorem get_none{t:Tr α}(hs:t.Sized n)(h:n<=j):t.get j=none:=by
 cases a:t.get j with
 |none=>rfl|some x=>have:=(hs j).1 (by simp [a]);omega
theorem get_some{t:Tr α}(hs:t.Sized n)(h:j<n): ∃x,t.get j=some x:=by have:=(hs j).2 h;exact Option.isSome_iff_exists.1 this
theorem sized_pushAll{t:Tr α}(l:List α)(hs:t.Sized n):(t.pushAll n l).Sized (n+l.length):=by
 induction l generalizing t n with
 |nil=>simpa [pushAll]using hs|cons x l a=>grind[pushAll,sized_push]
theorem get_pushAll(t:Tr α)(n:Nat)(l:List α)(hs:t.Sized n)(j:Nat):(t.pushAll n l).get j=if j<n then t.get j else l[j-n]? :=by
 induction l generalizing t n with
 | nil=>grind[pushAll,get_none]| cons x l a=>simp only [pushAll];rw [a _ _ (sized_push x hs),get_push t n x hs];grind
theorem sized_ofList(l:List α):(ofList l).Sized l.length:=by grind[sized_pushAll,tI,ofList]
theorem get_ofList(l:List α)(j:Nat):(ofList l).get j=l[j]? :=by rw [ofList,get_pushAll _ _ _ tI];simp
theorem sized_blank(x:α)(f n:Nat)(h:n<=f):(blank x f n).Sized n:=by
 induction f generalizing n with
 |zero=>grind[blank,tI]| succ f a=>
   cases n with
   |zero=>simpa [blank]using tI| succ k=>
     simp only [blank];intro i;rw [get_node];cases i with
     |zero=>simp| succ m=>
       simp only [];by_cases b:m%2=0
       . simp only [b,if_true];rw [a _ (by omega) (m/2)];omega
       . simp only [b,if_false];rw [a _ (by omega) (m/2)];omega
theorem get_blank(x:α)(f n:Nat)(h:n<=f)(j:Nat):(blank x f n).get j=if j<n then some x else none:=by
 induction f generalizing n j with
 |zero=>grind[blank,get_nil]| succ f a=>
   cases n with
   |zero=>rfl| succ k=>simp only [blank];rw [get_node];grind
theorem slice_spec{t:Tr α}{l:List α}(h:t.slice i n=some l):l.length=n/\ ∀k,k<n->t.get (i+k)=l[k]? :=by
 induction n generalizing i l with
 |zero=>simp [slice]at h;subst h;simp| succ n a=>grind[slice]
theorem slice_mk{t:Tr α}(h: ∀k,k<n->(t.get (i+k)).isSome): ∃l,t.slice i n=some l:=by
 induction n generalizing i with
 |zero=>exact⟨[],by simp [slice]⟩| succ n a=>
   obtain⟨x,b⟩:=Option.isSome_iff_exists.1 (h 0 (by omega));obtain⟨l,c⟩:=a (i:=i+1) (fun k d=>by grind);grind[slice]
theorem sized_setAll{t:Tr α}(i:Nat)(l:List α)(hs:t.Sized n):(t.setAll i l).Sized n:=by
 induction l generalizing t i with
 |nil=>simpa [setAll]using hs|cons x l a=>grind[setAll,sized_set]
theorem get_setAll(t:Tr α)(i:Nat)(l:List α)(n:Nat)(hs:t.Sized n)(b:i+l.length<=n)(j:Nat):(t.setAll i l).get j=if i<=j/\j<i+l.length then l[j-i]? else t.get j:=by
 induction l generalizing t i with
 |nil=>simp_all[setAll,if_neg,List.length_nil]| cons x l c=>
   simp only [Xk]at b;simp only [setAll];rw [c _ _ (sized_set i x hs) (by omega),get_set];simp only [Xk];by_cases e:i=j
   . have f: ¬(i+1<=j/\j<i+1+l.length):=(by omega);have d:i<=j/\j<i+(l.length+1):=(by omega);have a:=(hs j).2 (by omega);grind
   grind
end Tr
end
noncomputable section
def pw:IntKind->Nat
 | .i8| .u8=>256| .i16| .u16=>65536
 | .i32| .u32=>4294967296| .i64| .u64=>18446744073709551616
def sgn:IntKind->Bool
 | .i8| .i16| .i32| .i64=>true|_=>false
def hf:IntKind->Nat
 | .i8=>128| .i16=>32768| .i32=>2147483648| .i64=>9223372036854775808| .u8=>256| .u16=>65536| .u32=>4294967296| .u64=>18446744073709551616
def am(k:IntKind)(n:Int):Int:=match n with
 | .ofNat m=>bif Xa m (hf k)then .ofNat m else
  bif sgn k then(bif Xa (m%pw k) (hf k)then .ofNat (m%pw k)else .negSucc (pw k-1-m%pw k))else .ofNat (m%pw k)
 | .negSucc m=>bif sgn k then
  (bif Xa m (hf k)then .negSucc m else bif Xa (pw k-1-m%pw k) (hf k)then .ofNat (pw k-1-m%pw k)else .negSucc (m%pw k))
  else .ofNat (pw k-1-m%pw k)
def pz:Int->Int->Bool
 | .ofNat a,.ofNat b=>Xa a b| .ofNat _,.negSucc _=>false| .negSucc _,.ofNat _=>true| .negSucc a,.negSucc b=>Xa b a
def iW:Int->Int->Bool
 | .ofNat a,.ofNat b=>zB a b| .negSucc a,.negSucc b=>zB a b|_,_=>false
def kidx:IntKind->Nat
 | .i8=>0| .i16=>1| .i32=>2| .i64=>3| .u8=>4| .u16=>5| .u32=>6| .u64=>7
def kr(a b:IntKind):Bool:=zB (kidx a) (kidx b)
def gM:Int->Option Nat
 | .ofNat n=>some n| .negSucc _=>none
def jw(op:BinOp)(k:IntKind)(x y:Int):Option Int:=match x,y with
 | .ofNat a,.ofNat b=>bif Xa a (pw k)&&Xa b (pw k)then match op with
  | .and=>some (am k (.ofNat (Nat.land a b)))| .or=>some (am k (.ofNat (Xg a b)))| .xor=>some (am k (.ofNat (Nat.xor a b)))| .andNot=>some (am k (.ofNat (Nat.xor a (Nat.land a b))))|_=>none
   else none
 | .negSucc a,.ofNat b=>bif zB b 1 then match op with
  | .and=>some (.ofNat ((a+1)%2))|_=>none
   else none
 |_,_=>none
def shrI(x:Int)(n:Nat):Int:=match x with
 | .ofNat m=>.ofNat (m/Xh 2 n)| .negSucc m=>.negSucc (m/Xh 2 n)
def bitsOf:IntKind->Nat
 | .i8| .u8=>8| .i16| .u16=>16
 | .i32| .u32=>32| .i64| .u64=>64
def pk(op:BinOp)(k:IntKind)(x y:Int):Option Int:=match gM y with
 |none=>none| some n=>match op with
   | .shl=>some (am k (x*Xj (Xh 2 (bif Xb n (bitsOf k)then n else bitsOf k))))
   | .shr=>some (shrI x (bif Xb n (bitsOf k)then n else bitsOf k))
   |_=>none
def ju(op:BinOp)(k:IntKind)(x y:Int):Option Value:=match op with
 | .add=>some (.int k (am k (x+y)))| .sub=>some (.int k (am k (x-y)))| .mul=>some (.int k (am k (x*y)))| .quo=>bif iW y 0 then none else some (.int k (am k (x.tdiv y)))
 | .rem=>bif iW y 0 then none else some (.int k (x.tmod y))
 | .and| .or| .xor| .andNot=>(jw op k x y).map (.int k ·)| .eql=>some (.bool (iW x y))| .neq=>some (.bool (!iW x y))| .lss=>some (.bool (pz x y))| .leq=>some (.bool (!pz y x))| .gtr=>some (.bool (pz y x))| .geq=>some (.bool (!pz x y))|_=>none
def poison:Value:=.chan none
def ae:Value->List Value
 | .agg a=>a.toList|v=>[v]
def dI:Value->Bool
 | .bool _| .int _ _| .string _| .pointer none| .slice none 0 0| .map none| .nilFunc| .nilIface=>true|_=>false
def jx:Value->Bool
 | .agg _| .tuple _| .chan _=>false|_=>true
def aU(s:ByteArray):List UInt8:=s.data.toList
def iB(l:List UInt8):ByteArray:=⟨⟨l⟩⟩
def gH:List UInt8->List UInt8->Bool
 | [],[]=>true|a::x,b::y=>zB a.toNat b.toNat&&gH x y|_,_=>false
def ni:List UInt8->List UInt8->Bool
 |_,[]=>false| [],_::_=>true|a::x,b::y=>Xa a.toNat b.toNat||(zB a.toNat b.toNat&&ni x y)
structure iI where
 fn:FuncId
 regs:Tr Value
 nr:Nat
 params:Array Tmp
 assign:Code
 body:Code
 st:Nat
 pending:Option Code
 defers:Nat
inductive Blk where
 |dead
 |cells (t:Tr Value) (sz:Nat) (elem:TypeId) (md:Nat)
 |map (es:List (Value×Value×Nat)) (clock:Nat)
 |loop (l:iI)
 |dfr
structure Hp where
 n:Nat
 t:Tr Blk
 lo:Nat
abbrev OZ(h:Hp):Prop:=h.t.Sized h.n
def Hp.get(h:Hp)(b:Nat):Option Blk:=h.t.get b
def eK(a b:Nat):Nat:=bif Xb a b then a else b
def Hp.put(h:Hp)(b:Nat)(x:Blk):Hp:={n:=h.n,t:=h.t.set b x,lo:=eK b h.lo}
def Hp.new(h:Hp)(x:Blk):Hp:={n:=h.n+1,t:=h.t.push h.n x,lo:=h.lo}
def Hp.load(h:Hp)(b o n:Nat):Option (List Value):=match h.get b with
 |some (.cells t a _ _)=>bif Xb (o+n) a then t.slice o n else none
 |_=>none
def Hp.store(h:Hp)(b o:Nat)(l:List Value):Option Hp:=match h.get b with
 |some (.cells t a d c)=>bif Xb (o+l.length) a&& !Nat.beq c 0&&l.all jx then some (h.put b (.cells (t.setAll o l) a d c))else none
 |_=>none
structure Env where
 fn:Nat->Option Func
 ty:Nat->Option TypeInfo
 eqok:Nat->Bool
 orc:Nat->List Value->Option Value:=fun _ _=>none
 cut:Nat->Bool:=fun _=>false
def Env.und(E:Env)(t:TypeId):Option TypeDesc:=match E.ty t with
 |none=>none| some i=>match i.desc with
   | .named _ u=>match E.ty u with
     |none=>none|some j=>some j.desc
   |d=>some d
def Env.sz(E:Env)(t:TypeId):Option Nat:=match E.ty t with
 |none=>none|some i=>some i.size
def Env.agg(E:Env)(t:TypeId):Option Bool:=match E.und t with
 |none=>none|some (.struct _)=>some true|some (.array _ _)=>some true|some _=>some false
def Env.zero(E:Env)(t:TypeId):Option (List Value):=match E.ty t with
 |none=>none| some i=>match i.zero with
   |none=>none|some z=>bif (ae z).all dI then some (ae z)else none
def Env.zeroV(E:Env)(t:TypeId):Option Value:=match E.ty t with
 |none=>none| some i=>match i.zero with
   |none=>none|some z=>bif (ae z).all dI then some z else none
def partOf(E:Env)(t:TypeId)(cs:List Value)(off:Nat):Option Value:=match E.agg t with
 |none=>none| some true=>match E.sz t with
   |none=>none|some n=>bif Xb (off+n) cs.length then some (.agg ⟨(cs.drop off).take n⟩)else none
 |some false=>cs[off]?
def eqFields(E:Env)(a:TypeId->Value->Value->Option Bool):List Field->List Value->List Value->Option Bool
 | [],_,_=>some true| f ::d,b,c=>bif f.name== "_" then none else
   match partOf E f.type b f.offset with
   |none=>none| some x=>match partOf E f.type c f.offset with
     |none=>none| some y=>match a f.type x y with
       |some true=>eqFields E a d b c|r=>r
def qg(E:Env)(a:TypeId->Value->Value->Option Bool)(e:TypeId)(k:Nat)(xs ys:List Value):Nat->Nat->Option Bool
 |0,_=>some true| n + 1,i=>match partOf E e xs (i*k)with
   |none=>none| some x=>match partOf E e ys (i*k)with
     |none=>none| some y=>match a e x y with
       |some true=>qg E a e k xs ys n (i+1)|r=>r
def fo(E:Env):Nat->TypeId->Value->Value->Option Bool
 |0,_,_,_=>none| d + 1,t,x,y=>match E.und t with
   | some .bool=>match x,y with
     | .bool a,.bool b=>some (bif a then b else !b)
     |_,_=>none
   | some (.int _)=>match x,y with
     | .int k a,.int h b=>bif kr k h then some (iW a b)else none
     |_,_=>none
   | some .string=>match x,y with
     | .string a,.string b=>some (gH (aU a) (aU b))|_,_=>none
   | some (.pointer _)=>match x,y with
     | .pointer none,.pointer b=>some b.isNone| .pointer (some _),.pointer none=>some false|_,_=>none
   | some (.interface _)=>match x,y with
     | .nilIface,.nilIface=>some true| .nilIface,.iface _ _=>some false| .iface _ _,.nilIface=>some false| .iface c j,.iface l m=>bif zB c l then
       match E.ty c with
       |none=>none|some i=>bif i.comparable then fo E d c j m else none
       else some false
     |_,_=>none
   | some (.struct o)=>match x,y with
     | .agg f,.agg g=>bif E.eqok t then eqFields E (fo E d) o.toList f.toList g.toList else none
     |_,_=>none
   | some (.array n e)=>match x,y with
     | .agg f,.agg g=>match E.sz e with
       |none=>none|some k=>qg E (fo E d) e k f.toList g.toList n 0
     |_,_=>none
   | some (.slice _)=>match x,y with
     | .slice none _ _,.slice b _ _=>some b.isNone| .slice (some _) _ _,.slice none _ _=>some false|_,_=>none
   | some (.map _ _)=>match x,y with
     | .map none,.map b=>some b.isNone| .map (some _),.map none=>some false|_,_=>none
   | some (.func _ _ _)=>match x,y with
     | .nilFunc,.nilFunc=>some true| .nilFunc,.func _ _ _=>some false| .func _ _ _,.nilFunc=>some false|_,_=>none
   |_=>none
def iq(E:Env)(t:TypeId)(x y:Operand)(a b:Value):Option Bool:=match a,b with
 | .chan _,_=>none|_,.chan _=>none| .nilIface,.nilIface=>match x,y with
   | .const _,_=>fo E 40 t .nilIface .nilIface|_,.const _=>fo E 40 t .nilIface .nilIface|_,_=>none
 | .agg _,.agg _=>bif E.eqok t then fo E 40 t a b else none
 |_,_=>fo E 40 t a b
def bQ(E:Env)(op:BinOp)(t:TypeId)(x y:Operand)(a b:Value):Option Value:=match a,b with
 | .int k m,.int c n=>match op with
   | .shl=>(pk .shl k m n).map (.int k ·)| .shr=>(pk .shr k m n).map (.int k ·)|op=>bif kr k c then ju op k m n else none
 | .string s,.string u=>match op with
   | .add=>bif Xb (s.size+u.size) 1099511627776 then some (.string (iB (aU s++aU u)))else none
   | .eql=>some (.bool (gH (aU s) (aU u)))| .neq=>some (.bool (!gH (aU s) (aU u)))| .lss=>some (.bool (ni (aU s) (aU u)))| .geq=>some (.bool (!ni (aU s) (aU u)))| .leq=>some (.bool (ni (aU s) (aU u)||gH (aU s) (aU u)))
   | .gtr=>some (.bool (!(ni (aU s) (aU u)||gH (aU s) (aU u))))
   |_=>none
 | a,b=>match op with
   | .eql=>(iq E t x y a b).map (.bool ·)| .neq=>(iq E t x y a b).map fun r=>.bool (!r)
   |_=>none
def unP(op:UnOp)(x:Value):Option Value:=match op,x with
 | .neg,.int k n=>some (.int k (am k (0-n)))| .not,.bool b=>some (.bool (!b))| .xor,.int k n=>bif sgn k then none else(jw .xor k (.ofNat (pw k-1)) n).map (.int k ·)
 |_,_=>none
def fe(v:Value)(y:Nat):Option Nat:=match v with
 | .int _ i=>match gM i with
   |some n=>bif Xb n y then some n else none
   |none=>none
 |_=>none
def dQ(len cap:Nat)(b a c:Option Value):Option (Nat×Nat×Nat):=
 match(match c with|some v=>fe v cap|none=>some cap)with
 |none=>none| some m=>match(match a with|some v=>fe v m|none=>bif c.isSome then none else some len)with
   |none=>none| some h=>match(match b with|some v=>fe v h|none=>some 0)with
     |none=>none|some l=>some (l,h,m)
def iR(a:Addr)(n:Nat):Addr:=⟨a.block,a.off+n,none⟩
def cZ(E:Env)(t:TypeId)(x:Value)(c b d:Option Value):Option Value:=match E.und t with
 | some .string=>match x with
   | .string s=>bif d.isSome then none else match dQ s.size s.size c b none with
     |none=>none|some (l,h,_)=>some (.string (iB (((aU s).drop l).take (h-l))))
   |_=>none
 | some (.slice e)=>match x with
   | .slice a f g=>match dQ f g c b d with
     |none=>none| some (l,h,m)=>match E.sz e with
       |none=>none| some k=>match a with
         |none=>some (.slice none (h-l) (m-l))| some a=>match a.spot with
           |none=>some (.slice (some (bif zB m l then a else iR a (l*k))) (h-l) (m-l))
           |some i=>bif zB i k then some (.slice (some ⟨a.block,bif zB m l then a.off else a.off+l*k,some k⟩) (h-l) (m-l))else none
   |_=>none
 | some (.array n e)=>match x with
   | .pointer (some a)=>match dQ n n c b d with
     |none=>none| some (l,h,m)=>match E.sz e with
       |none=>none|some k=>some (.slice (some ⟨a.block,bif zB m l then a.off else a.off+l*k,none⟩) (h-l) (m-l))
   |_=>none
 |_=>none
def aN(E:Env)(s:TypeId)(x:Value)(i:Nat):Option Value:=match E.und s with
 | some (.struct b)=>match b.toList[i]? with
   |none=>none| some f=>match E.sz f.type with
     | some (_+1)=>match x with
       | .pointer (some a)=>some (.pointer (some (iR a f.offset)))|_=>none
     |_=>none
 |_=>none
def bZ(E:Env)(t:TypeId)(x:Value)(i:Nat):Option Value:=match E.und t with
 | some (.struct a)=>match a.toList[i]? with
   |none=>none| some f=>match x with
     | .agg b=>partOf E f.type b.toList f.offset|_=>none
 |_=>none
def i7(v:Value)(len:Nat):Option Nat:=match v with
 | .int _ i=>match gM i with
   |some n=>bif Xa n len then some n else none
   |none=>none
 |_=>none
def gu(E:Env)(t:TypeId)(x c:Value):Option Value:=match E.und t with
 | some (.slice e)=>match x with
   | .slice (some a) b _=>match i7 c b with
     |none=>none| some i=>match E.sz e with
       |none=>none|some k=>some (.pointer (some (iR a (i*k))))
   |_=>none
 | some (.array n e)=>match x with
   | .pointer (some a)=>match i7 c n with
     |none=>none| some i=>match E.sz e with
       |none=>none|some k=>some (.pointer (some (iR a (i*k))))
   |_=>none
 |_=>none
def kZ(E:Env)(t:TypeId)(x a:Value):Option Value:=match E.und t with
 | some (.array n e)=>match x with
   | .agg c=>match i7 a n with
     |none=>none| some i=>match E.sz e with
       |none=>none|some k=>partOf E e c.toList (i*k)
   |_=>none
 | some .string=>match x with
   | .string s=>match i7 a s.size with
     |none=>none| some i=>match(aU s)[i]? with
       |none=>none|some b=>some (.int .u8 (.ofNat b.toNat))
   |_=>none
 |_=>none
def bN:List Value->Nat->List Value->List Value
 |l,_,[]=>l|l,a,v::b=>bN (l.set a v) (a+1) b
def my(a:Nat->Option (Nat×Nat)):List Value->List (Nat×Value)->Option (List Value)
 |cells,[]=>some cells| cells,(i,v)::c=>match a i with
   |none=>none| some (d,b)=>match v with
     | .chan _=>none|v=>bif zB (ae v).length b&&Xb (d+b) cells.length then my a (bN cells d (ae v)) c else none
def qf(E:Env):List Field->Option (List (Nat×Nat))
 | []=>some []| f ::a=>match E.sz f.type with
   |none=>none| some n=>match qf E a with
     |none=>none|some l=>some ((f.offset,n)::l)
def nR(E:Env)(t:TypeId)(a:List (Nat×Value)):Option Value:=match E.zero t with
 |none=>none| some z=>match E.und t with
   | some (.struct c)=>match qf E c.toList with
     |none=>none| some d=>match my (fun i=>d[i]?) z a with
       |none=>none|some b=>some (.agg ⟨b⟩)
   | some (.array _ e)=>match E.sz e with
     |none=>none| some k=>match my (fun i=>some (i*k,k)) z a with
       |none=>none|some b=>some (.agg ⟨b⟩)
   |_=>none
def a9(E:Env)(a:TypeId)(x:Value):Option Value:=match x with
 | .int _ n=>match E.und a with
   |some (.int k)=>some (.int k (am k n))|_=>none
 | .string s=>match E.und a with
   |some .string=>some (.string s)|_=>none
 |_=>none
def lenP(E:Env)(t:TypeId)(x:Value):Option Value:=match E.und t with
 | some .string=>match x with
   | .string s=>some (.int .i64 (.ofNat s.size))|_=>none
 |some (.array n _)=>some (.int .i64 (.ofNat n))| some (.slice _)=>match x with
   | .slice _ n _=>some (.int .i64 (.ofNat n))|_=>none
 | some (.map _ _)=>match x with
   | .map none=>some (.int .i64 0)|_=>none
 |_=>none
def iY(c:Bool):Value->List Value->Option Value
 |x,[]=>some x| x,y::l=>match x with
   | .int k a=>match y with
     | .int _ b=>iY c (.int k (bif c then(bif pz a b then b else a)else(bif pz b a then b else a))) l
     |_=>none
   |_=>none
def xF(E:Env)(x:Value)(t:TypeId)(a:Bool):Option Value:=match x with
 | .nilIface=>bif a then(E.zeroV t).map fun z=>.tuple #[z,.bool false]else none
 | .iface u v=>bif zB u t then some (bif a then .tuple #[v,.bool true]else v)else bif a then(E.zeroV t).map fun z=>.tuple #[z,.bool false]else none
 |_=>none
def rX(E:Env)(x:Value)(t:TypeId)(a:Bool):Option Value:=match E.und t with
 |none=>none|some (.interface _)=>none|some _=>xF E x t a
def pop(E:Env)(ρ:Operand->Value):Op->Option Value
 | .move x=>some (ρ x)| .assign x=>some (ρ x)| .pick c a b=>match ρ c with
   | .bool t=>some (bif t then ρ a else ρ b)
   |_=>none
 | .nilCheck x=>match ρ x with
   | .pointer (some a)=>some (.pointer (some a))| .func (.func f) a b=>some (.func (.func f) a b)|_=>none
 | .binOp e t x y _=>bQ E e t x y (ρ x) (ρ y)| .unOp e _ x=>unP e (ρ x)| .makeInterface t x=>match E.und t with
   |none=>none|some (.interface _)=>none|some _=>some (.iface t (ρ x))
 | .makeFunc (.func f) a b=>some (.func (.func f) (a.map ρ) (b.map ρ))| .slice t x l h m=>cZ E t (ρ x) (l.map ρ) (h.map ρ) (m.map ρ)| .fieldAddr s x i=>aN E s (ρ x) i| .field t x i=>bZ E t (ρ x) i| .indexAddr t x i=>gu E t (ρ x) (ρ i)| .index t x i=>kZ E t (ρ x) (ρ i)| .extract t i=>match ρ t with
   | .tuple g=>g.toList[i]?|_=>none
 | .build t d=>nR E t (d.toList.map fun p=>(p.1,ρ p.2))
 | .typeAssert x _ t j=>rX E (ρ x) t j| .call c=>match c.callee with
   | .builtin .len=>match c.argTypes.toList,c.args.toList with
     |t::_,x::_=>lenP E t (ρ x)|_,_=>none
   | .builtin .min=>match c.args.toList.map ρ with
     |x::l=>iY false x l| []=>none
   | .builtin .max=>match c.args.toList.map ρ with
     |x::l=>iY true x l| []=>none
   |_=>none
 |_=>none
end
noncomputable section
inductive d6 where
 |val (v:Value)
 |skip
 |call (f:FuncId) (args:List Value)
 |yield (l:Nat) (args:List Value)
 |recov
 |defer (d:Deferred)
 |panic (v:Value)
def gm(E:Env)(h:Hp)(t:TypeId)(x:Value):Option Value:=match x with
 | .pointer (some a)=>match E.agg t with
   |none=>none| some true=>match E.sz t with
     |none=>none| some n=>match h.load a.block a.off n with
       |none=>none|some l=>some (.agg ⟨l⟩)
   | some false=>match h.load a.block a.off 1 with
     |some [v]=>some v|_=>none
 |_=>none
def jT(E:Env)(h:Hp)(t:TypeId)(x v:Value):Option Hp:=match x with
 | .pointer (some a)=>match E.sz t with
   |none=>none| some n=>match v with
     | .chan _=>none|v=>bif zB (ae v).length n then h.store a.block a.off (ae v)else none
 |_=>none
def ptrTo(b:Nat):Value:=.pointer (some ⟨b,0,none⟩)
def uJ(h:Hp)(l:List Value)(el:TypeId):Hp×Value:=(h.new (.cells (Tr.ofList l) l.length el 1),ptrTo h.n)
def qG:Value->Bool
 | .int _ _=>true|_=>false
def xa:Value->Bool
 | .int _ _| .string _| .bool _=>true| .agg a=>a.toList.all qG|_=>false
def ep:List Value->List Value->Option Bool
 | [],[]=>some true| .int k x::l,.int a y::b=>bif kr k a then(match ep l b with
   |none=>none|some r=>some (bif iW x y then r else false))else none
 |_,_=>none
def dL(a b:Value):Option Bool:=match a,b with
 | .int k x,.int c y=>bif kr k c then some (iW x y)else none
 | .string s,.string u=>some (gH (aU s) (aU u))| .bool x,.bool y=>some (bif x then y else !y)
 | .agg x,.agg y=>ep x.toList y.toList|_,_=>none
def isKd(kd:IntKind)(v:Value):Bool:=match v with
 | .int a _=>kr kd a|_=>false
def cG(E:Env)(t:TypeId)(k:Value):Bool:=match E.und t with
 | some (.int a)=>match k with
   | .int b _=>kr a b|_=>false
 | some .string=>match k with
   | .string _=>true|_=>false
 | some .bool=>match k with
   | .bool _=>true|_=>false
 | some (.array n e)=>match k with
   | .agg c=>match E.agg e with
     | some false=>match E.sz e with
       | some s=>match E.und e with
         |some (.int a)=>bif zB s 1 then(bif zB c.toList.length n then c.toList.all (isKd a)else false)else false
         |_=>false
       |none=>false
     |_=>false
   |_=>false
 |_=>false
def dA(k:Value):List (Value×Value×Nat)->Option (Option (Value×Nat))
 | []=>some none| (a,v,n)::l=>match dL k a with
   |none=>none|some true=>some (some (v,n))|some false=>dA k l
def oy(k v:Value):List (Value×Value×Nat)->List (Value×Value×Nat)
 | []=>[]| (a,b,n)::l=>match dL k a with
   |some true=>(k,v,n)::l|_=>(a,b,n)::oy k v l
def mL(k:Value):List (Value×Value×Nat)->List (Value×Value×Nat)
 | []=>[]| (a,b,n)::l=>match dL k a with
   |some true=>l|_=>(a,b,n)::mL k l
def jR(n:Nat)(v:Value):List (Value×Value×Nat)->Option (List (Value×Value×Nat))
 | []=>none| (b,c,a)::l=>bif zB a n then some ((b,v,a)::l)else match jR n v l with
   |none=>none|some d=>some ((b,c,a)::d)
def mq(E:Env)(h:Hp)(t:TypeId)(m k:Value):Option (Nat×List (Value×Value×Nat)×Nat×TypeId):=match E.und t with
 | some (.map a b)=>bif cG E a k then match m with
   | .map (some r)=>match h.get r with
     |some (.map d c)=>some (r,d,c,b)|_=>none
   |_=>none
   else none
 |_=>none
def fi(E:Env)(h:Hp)(t:TypeId)(m k:Value)(a:Bool):Option Value:=match E.und t with
 | some (.map b c)=>bif cG E b k then
  match(match m with
   | .map none=>some none| .map (some r)=>match h.get r with
     |some (.map d _)=>dA k d|_=>none
   |_=>none)with
  |none=>none|some (some (v,_))=>some (bif a then .tuple #[v,.bool true]else v)
  | some none=>match E.zeroV c with
    |none=>none|some z=>some (bif a then .tuple #[z,.bool false]else z)
   else none
 |_=>none
def ki(E:Env)(h:Hp)(t:TypeId)(m k v:Value):Option Hp:=match mq E h t m k with
 |none=>none| some (r,a,c,_)=>match dA k a with
   |none=>none|some (some _)=>some (h.put r (.map (oy k v a) c))|some none=>some (h.put r (.map (a++[(k,v,c)]) (c+1)))
def oZ(E:Env)(h:Hp)(t:TypeId)(m k:Value):Option Hp:=match mq E h t m k with
 |none=>none| some (r,a,c,_)=>match dA k a with
   |none=>none|some _=>some (h.put r (.map (mL k a) c))
def k9(E:Env)(h:Hp)(t:TypeId)(m k:Value):Option (Hp×Value):=match mq E h t m k with
 |none=>none| some (r,a,c,b)=>match dA k a with
   |none=>none|some (some (v,n))=>some (h.put r (.map (oy k v a) c),.tuple #[v,.int .i64 (.ofNat n)])| some none=>match E.zeroV b with
     |none=>none|some z=>some (h.put r (.map (a++[(k,z,c)]) (c+1)),.tuple #[z,.int .i64 (.ofNat c)])
def oI(h:Hp)(m s v:Value):Option Hp:=match m with
 | .map (some r)=>match h.get r with
   | some (.map b c)=>match s with
     | .int _ i=>match gM i with
       |none=>none| some n=>match jR n v b with
         |none=>none|some a=>some (h.put r (.map a c))
     |_=>none
   |_=>none
 |_=>none
def bA(a:List Value):Nat->List Value
 |0=>[]|n+1=>a++bA a n
def natV(v:Value):Option Nat:=match v with
 | .int _ i=>gM i|_=>none
def kP(E :Env)(h:Hp)(t:TypeId)(l c:Value):Option (Hp×Value):=match E.und t with
 | some (.slice e)=>match natV l with
   |none=>none| some l=>match natV c with
     |none=>none| some c=>match E.ty e with
       |none=>none| some i=>bif Xb l c&&Xb (c*(i.bytes+1)) 70368744177664 then
        match E.zero e with
        |none=>none| some a=>bif zB a.length i.size then
         match a with
         | [z]=>some (h.new (.cells (Tr.blank z c c) c e 1),.slice (some ⟨h.n,0,none⟩) l c)|a=>some (h.new (.cells (Tr.ofList (bA a c)) (c*i.size) e 1),.slice (some ⟨h.n,0,none⟩) l c)
          else none
         else none
 |_=>none
def li(E:Env)(h:Hp)(t:TypeId)(n:Nat)(a:List (Nat×Value)):Option (Hp×Value):=match E.und t with
 | some (.slice e)=>match E.sz e with
   |none=>none| some k=>bif Xb (n*k) 16777216 then
    match E.zero e with
    |none=>none| some b=>bif zB b.length k then
     match my (fun i=>some (i*k,k)) (bA b n) a with
     |none=>none|some c=>some (h.new (.cells (Tr.ofList c) c.length e 1),.slice (some ⟨h.n,0,none⟩) n n)
      else none
     else none
 |_=>none
def aF(h:Hp)(k:Nat):Value->Option (Nat×List Value)
 | .slice none 0 _=>some (0,[])| .slice (some a) n _=>match h.load a.block a.off (n*k)with
   |none=>none|some l=>some (n,l)
 | .string s=>bif zB k 1 then some (s.size,(aU s).map fun b=>.int .u8 (.ofNat b.toNat))else none
 |_=>none
def kX(c:Tr Value)(b off m:Nat)(new:List Value):Option (Tr Value×Nat):=
 bif zB off 0&&zB m b then some (c.pushAll b new,b+new.length)else
  bif Xb (off+m) b then match c.slice off m with
   |none=>none|some a=>some (Tr.ofList (a++new),(a++new).length)
  else none
def qx(h:Hp)(e:TypeId)(k:Nat)(a:Option Addr)(len n:Nat)(new:List Value):Option (Hp×Value):=match a with
 |none=>bif zB len 0 then some (h.new (.cells (Tr.ofList new) new.length e 1),.slice (some ⟨h.n,0,some k⟩) n n)else none
 | some a=>match h.get a.block with
   | some (.cells c d _ f)=>match kX c d a.off (len*k) new with
     |none=>none| some (t2,b)=>match a.spot with
       | some g=>bif zB g k&& !Nat.beq f 0&&new.all jx then
        some ((h.put a.block .dead).new (.cells t2 b e 1),.slice (some ⟨h.n,0,some k⟩) (len+n) (len+n))
         else none
       |none=>some (h.new (.cells t2 b e 1),.slice (some ⟨h.n,0,some k⟩) (len+n) (len+n))
   |_=>none
def fj(E:Env)(t:TypeId):Option Bool:=match E.und t with
 |none=>none|some (.int _)=>some true|some _=>some false
def ie(E:Env)(h:Hp)(e:TypeId)(i:TypeInfo)(a:Option Addr)(len cap n:Nat)(new:List Value):Option (Hp×Value):=
 bif Xb (len+n) cap then
  match a with
  |none=>some (h,.slice none (len+n) cap)| some a=>match new with
    | []=>some (h,.slice (some a) (len+n) cap)| new=>match h.store a.block (a.off+len*i.size) new with
      |none=>none|some b=>some (b,.slice (some a) (len+n) cap)
 else bif Xb ((len+n)*(i.bytes+1)) 70368744177664&&(Xa 0 i.bytes)then
  match E.zero e with
  |none=>none|some c=>bif zB c.length i.size then qx h e i.size a len n new else none
 else none
def lC(E:Env)(h:Hp)(t:TypeId)(s x:Value):Option (Hp×Value):=match E.und t with
 | some (.slice e)=>match E.ty e with
   |none=>none| some i=>match s with
     | .slice a b c=>match aF h i.size x with
       |none=>none|some (n,d)=>ie E h e i a b c n d
     |_=>none
 |_=>none
def dP(E:Env)(h:Hp)(ts:List TypeId)(s x:Value):Option (Hp×Value):=match ts with
 | t::a::_=>match fj E a with
   |some false=>lC E h t s x|_=>none
 |_=>none
def copyV(E : Env)(h:Hp)(ts:List TypeId)(d s:Value):Option (Hp×Value):=match ts with
 | t :: _ => match E.und t with
   | some (.slice e)=>match E.sz e with
     |none=>none| some k=>match d with
       | .slice a c _=>match s with
         | .slice none 0 _=>some (h,.int .i64 0)| .slice (some b) m _=>match h.load b.block b.off (eK m c*k)with
           |none=>none|some []=>some (h,.int .i64 (.ofNat (eK m c)))| some (x::f)=>match a with
             |none=>none| some a=>match h.store a.block a.off (x::f)with
               |none=>none|some g=>some (g,.int .i64 (.ofNat (eK m c)))
         | .string s=>bif zB k 1 then match((aU s).map fun b=>Value.int .u8 (.ofNat b.toNat)).take (eK s.size c)with
           | []=>some (h,.int .i64 (.ofNat (eK s.size c)))| x ::f=>match a with
             |none=>none| some a=>match h.store a.block a.off (x::f)with
               |none=>none|some g=>some (g,.int .i64 (.ofNat (eK s.size c)))
           else none
         |_=>none
       |_=>none
   |_=>none
 |_=>none
def bytesOf:List Value->Option (List UInt8)
 | []=>some []| .int .u8 (.ofNat n)::l=>match bytesOf l with
   |none=>none|some r=>some (UInt8.ofNat n::r)
 |_=>none
def strOf(h:Hp):Value->Option Value
 | .slice none _ _=>some (.string (iB []))| .slice (some a) n _=>match h.load a.block a.off n with
   |none=>none| some l=>match bytesOf l with
     |none=>none|some r=>some (.string (iB r))
 |_=>none
def bytesV(h:Hp)(e:TypeId)(s:ByteArray):Hp×Value:=
 (h.new (.cells (Tr.ofList ((aU s).map fun b=>.int .u8 (.ofNat b.toNat))) s.size e 1),.slice (some ⟨h.n,0,some 1⟩) s.size s.size)
def ax(E:Env)(b a:TypeId):Option (Nat×TypeId):=match E.und b with
 |none=>none| some (.slice e)=>match E.und a with
   | some .string=>match E.und e with
     |some (.int .u8)=>some (1,e)|_=>none
   |_=>none
 | some .string=>match E.und a with
   | some (.slice e)=>match E.und e with
     |some (.int .u8)=>some (2,e)|_=>none
   |some _=>some (0,0)|none=>none
 |some _=>some (0,0)
def aV(E:Env)(h:Hp)(b a:TypeId)(x:Value):Option (Hp×Value):=match ax E b a with
 | some (0,_)=>match a9 E a x with
   |none=>none|some v=>some (h,v)
 | some (1,_)=>match strOf h x with
   |none=>none|some v=>some (h,v)
 | some (2,e)=>match x with
   | .string s=>bif Xb s.size 1099511627776 then some (bytesV h e s)else none
   |_=>none
 |_=>none
def target(f:Value)(args:List Value):Option d6:=match f with
 | .func (.func g) a b=>some (.call g (a.toList++args++b.toList))| .func (.yield l) a b=>bif a.toList.isEmpty&&b.toList.isEmpty then some (.yield l args)else none
 |_=>none
def dK(r:Option (Hp×Value)):Option (d6×Hp):=match r with
 |none=>none|some (h,v)=>some (.val v,h)
def iH(r:Option Hp):Option (d6×Hp):=match r with
 |none=>none|some h=>some (.skip,h)
def dp(h:Hp)(r:Option Value):Option (d6×Hp):=match r with
 |none=>none|some v=>some (.val v,h)
def aop(E : Env)(ρ:Operand->Value)(h:Hp):Op->Option (d6×Hp)
 | .load t a=>dp h (gm E h t (ρ a))| .convert i j x=>dK (aV E h i j (ρ x))| .store t a x=>iH (jT E h t (ρ a) (ρ x))| .alloc e=>match E.zero e with
   |none=>none|some z=>dK (some (uJ h z e))
 | .box e x=>match ρ x with
   | .chan _=>none|v=>dK (some (uJ h (ae v) e))
 | .buildSlice t n d=>dK (li E h t n (d.toList.map fun p=>(p.1,ρ p.2)))
 | .makeSlice t l c=>dK (kP E h t (ρ l) (ρ c))| .makeMap _ none=>some (.val (.map (some h.n)),h.new (.map [] 0))| .lookup t m k o=>dp h (fi E h t (ρ m) (ρ k) o)| .mapUpdate t m k v=>iH (ki E h t (ρ m) (ρ k) (ρ v))| .insert t m k v=>iH (ki E h t (ρ m) (ρ k) (ρ v))| .mapEntry t m k=>dK (k9 E h t (ρ m) (ρ k))| .entryStore _ m s v=>iH (oI h (ρ m) (ρ s) (ρ v))| .panic x=>match ρ x with
   | .iface t v=>some (.panic (.iface t v),h)|_=>none
 | .defer c=>match c.callee with
   | .value f=>match ρ f with
     | .func (.func g) a b=>some (.defer {target:=.fn (.func g) b,args:=⟨a.toList++c.args.toList.map ρ⟩},h)|_=>none
   |_=>none
 | .call c =>match c.callee with
   | .value f=>match target (ρ f) (c.args.toList.map ρ)with
     |none=>none|some x=>some (x,h)
   | .builtin .append=>match c.args.toList with
     |s::x::_=>dK (dP E h c.argTypes.toList (ρ s) (ρ x))|_=>none
   | .builtin .copy=>match c.args.toList with
     |s::x::_=>dK (copyV E h c.argTypes.toList (ρ s) (ρ x))|_=>none
   | .builtin .delete=>match c.argTypes.toList,c.args.toList with
     | t::_,m::k::_=>match oZ E h t (ρ m) (ρ k)with
       |none=>none|some q=>some (.val (.tuple #[]),q)
     |_,_=>none
   | .builtin .recover=>some (.recov,h)| .builtin .len=>match pop E ρ (.call c)with
     |some v=>some (.val v,h)| none => match c.args.toList with
       | x ::_=>match ρ x with
         | .map (some r)=>match h.get r with
           | some (.map u _)=>match c.argTypes.toList with
             | t::_=>match E.und t with
               |some (.map _ _)=>some (.val (.int .i64 (.ofNat u.length)),h)|_=>none
             |_=>none
           |_=>none
         |_=>none
       |_=>none
   | .builtin _=>dp h (pop E ρ (.call c))| .invoke _ _=>none
 |op=>dp h (pop E ρ op)
end
theorem dJ(a b:Nat):zB a b=decide (a=b):=by grind[XS,zB,absurd,XM]
theorem fH(a b:Nat):Xb a b=decide (a<=b):=by grind[Nat.ble_eq_true_of_le,Xb,absurd,XN]
theorem jD(a b:Nat):Xa a b=decide (a<b):=by show Xb (a+1) b=_;rw [fH];rfl
theorem bits_pw(k:IntKind):(2:Int) ^k.bits=(pw k:Int):=by cases k<;>rfl
theorem bits_hf(k:IntKind)(h:sgn k=true):(2:Int) ^(k.bits-1)=(hf k:Int):=by cases k<;>first|rfl|(simp [sgn]at h)
theorem sgn_eq(k:IntKind):sgn k=k.signed:=by cases k<;>rfl
theorem jI(k:IntKind)(n:Int):am k n=k.wrap n:=by
 have f:k.wrap n=if sgn k=true/\n%(pw k:Int)≥(hf k:Int)then n%(pw k:Int)-(pw k:Int)else n%(pw k:Int):=by grind[IntKind.wrap,bits_pw,sgn_eq,sgn,bits_hf]
 rw [f];cases n with
 | ofNat m=>
   have e:(Xj m)%(pw k:Int)=((m%pw k:Nat):Int):=rfl;rw [e];simp only [am];by_cases c:m<hf k
   . have:Xa m (hf k)=true:=(by simp_all);rw [this];have g:m%pw k=m:=XE (by cases k<;>simp only [hf,pw]at* <;>omega);grind
   . have:Xa m (hf k)=false:=(by rw [jD];simpa using c);rw [this];simp only [cond_false];by_cases b:sgn k=true
     . rw [b];simp only [cond_true];have hlt:m%pw k<pw k:=XQ _ (by cases k<;>simp [pw]);by_cases d:m%pw k<hf k
       . have:Xa (m%pw k) (hf k)=true:=(by simp_all);grind
       . have:Xa (m%pw k) (hf k)=false:=(by rw [jD];simpa using d);grind
     grind
 | negSucc m=>
   have a:0<pw k:=(by cases k<;>simp [pw]);have e:(XI m)%(pw k:Int)=((pw k-1-m%pw k:Nat):Int):=(by have hlt:m%pw k<pw k:=XQ _ a;have h:=Nat.div_add_mod m (pw k);have:XI m=(pw k:Int)*(-((m/pw k:Nat):Int)-1)+((pw k-1-m%pw k:Nat):Int):=(by grind);rw [this,Int.add_comm,Int.add_mul_emod_self_left];exact Int.emod_eq_of_lt (by omega) (by omega));rw [e];simp only [am];have hlt:m%pw k<pw k:=XQ _ a;by_cases b:sgn k=true
   . rw [b];simp only [cond_true];have i:2*hf k=pw k:=(by cases k<;>first|rfl|(simp [sgn]at b));by_cases c:m<hf k
     . have:Xa m (hf k)=true:=(by simp_all);rw [this];have g:m%pw k=m:=XE (by omega);grind
     . have:Xa m (hf k)=false:=(by rw [jD];simpa using c);rw [this];simp only [cond_false];by_cases d:pw k-1-m%pw k<hf k
       . have:Xa (pw k-1-m%pw k) (hf k)=true:=(by simp_all);grind
       . have:Xa (pw k-1-m%pw k) (hf k)=false:=(by rw [jD];simpa using d);grind
   grind
theorem jE(a b:Int):pz a b=decide (a<b):=by
 cases a<;>cases b<;>simp only [pz]
 . grind[Xa,Nat.blt_eq,jD]
 . rfl
 . grind
 grind[Xa,Nat.blt_eq,jD]
theorem jh(a b:Int):iW a b=(a==b):=by cases a<;>cases b<;>simp only [iW]<;>first|(grind[dJ])|(symm;simp)
theorem kidx_inj{a b:IntKind}(h:kidx a=kidx b):a=b:=by cases a<;>cases b<;>first|rfl|(simp [kidx]at h)
theorem jf(a b:IntKind):kr a b=decide (a=b):=by grind[kr,dJ,kidx,kidx_inj]
theorem sJ{i:Int}(h:gM i=some n):i=n:=by cases i<;>simp [gM]at h;subst h;rfl
theorem bitsOf_eq(k:IntKind):bitsOf k=k.bits:=by cases k<;>rfl
theorem pw_bits(k:IntKind):pw k=2 ^k.bits:=by cases k<;>rfl
theorem sP(P:Program)(w:World){k:IntKind}{x y:Int}(h:jw op k x y=some z):(Op.intBits op k x y).run P w=.ok (.int k z) w:=by
 unfold jw at h;cases x with
 | negSucc a=>
   cases y with
   |negSucc b=>simp at h| ofNat b=>
     simp only []at h;by_cases d:b=1
     . subst d;rw [XS,cond_true]at h;cases op<;>simp only []at h<;>first|(cases h;done)|skip
       cases h;simp only [Op.intBits];have p:0<k.bits:=(by cases k<;>decide);obtain⟨m,f⟩: ∃m,k.bits=m+1:=⟨k.bits-1,by omega⟩;have g:(BitVec.ofInt k.bits (Xj 1)).toNat=1:=(by simp_all);have i:(BitVec.ofInt k.bits (XI a)).toNat%2=(a+1)%2:=(by rw [BitVec.toNat_ofInt,f,Nat.pow_succ];have j:(0:Int)<((2 ^m*2:Nat):Int):=(by have:=Nat.pow_pos (n:=m) (show 0<2 by omega);omega);have q:=Int.emod_nonneg (XI a) (Int.ne_of_gt j);grind[Int.emod_emod_of_dvd]);rw [BitVec.toNat_and,g,Nat.and_one_is_mod,i];have:k.wrap (((a+1)%2:Nat):Int)=(((a+1)%2:Nat):Int):=(by rcases Nat.mod_two_eq_zero_or_one (a+1)with e|e<;>rw [e]<;>cases k<;>rfl);simp_all
     grind[zB,dJ]
 | ofNat a=>
   cases y with
   |negSucc b=>simp at h| ofNat b=>
     simp only []at h;rw [jD,jD,pw_bits]at h;by_cases c:a<2 ^k.bits/\b<2 ^k.bits
     . simp only [c.1,c.2,decide_true,Xm,cond_true]at h;have l:(BitVec.ofInt k.bits (Xj a)).toNat=a:=(by grind);have o:(BitVec.ofInt k.bits (Xj b)).toNat=b:=(by grind);cases op<;>simp only []at h<;>first|(cases h;done)|skip
       . simp_all[Op.intBits,BitVec.toNat_and,jI]
       . simp_all[Op.intBits,BitVec.toNat_or,jI]
       . simp_all[Op.intBits,BitVec.toNat_xor,jI]
       . cases h;simp only [Op.intBits];have:BitVec.ofInt k.bits (Xj a)&&& ~~~ BitVec.ofInt k.bits (Xj b)=BitVec.ofInt k.bits (Xj a) ^^^(BitVec.ofInt k.bits (Xj a)&&& BitVec.ofInt k.bits (Xj b)):=(by grind);rw [this,BitVec.toNat_xor,BitVec.toNat_and,l,o,jI];rfl
     grind
theorem shift_run(P:Program)(w:World){k k':IntKind}{x y:Int}(h:pk op k x y=some z):(Op.shift op k x k' y).run P w=.ok (.int k z) w:=by
 unfold pk at h;cases b:gM y with
 |none=>simp [b]at h| some n=>
   have:=sJ b;subst this;simp only [b]at h;have a:(bif Xb n (bitsOf k)then n else bitsOf k)=min (n:Int).toNat k.bits:=(by grind[fH,bitsOf_eq,XB,Nat.min_eq_left]);rw [a]at h;unfold Op.shift;rw [if_neg (by omega)];cases op<;>simp only []at h<;>first|(cases h;done)|skip
   . cases h;simp only [];rw [jI];rfl
   . cases h;simp only [];have:shrI x (min (n:Int).toNat k.bits)=x.fdiv (2 ^(min (n:Int).toNat k.bits)):=by
      generalize min (n:Int).toNat k.bits=j;have c:((2:Int) ^j)=((2 ^j:Nat):Int):=(by simp);rw [c];have d:0<2 ^j:=Nat.pow_pos (by omega);rw [Int.fdiv_eq_ediv_of_nonneg _ (by omega)];cases x with
      |ofNat m=>rfl| negSucc m=>
        simp only [shrI];obtain⟨p,c⟩: ∃p,2 ^j=p+1:=⟨2 ^j-1,by omega⟩;rw [show Xh 2 j=2 ^j from rfl,c];rfl
     rw [this];rfl
theorem arith_run(P:Program)(w:World){k:IntKind}{x y:Int}(h:ju op k x y=some v):(match op with
   | .add| .sub| .mul=>Op.intArith op k x y| .quo| .rem=>Op.intDiv op k x y
   | .and| .or| .xor| .andNot=>Op.intBits op k x y|_=>Op.intCmp op x y).run P w=.ok v w:=by
 cases op<;>simp only [ju]at h⊢
 case add=>cases h;rw [jI];rfl
 case sub=>cases h;rw [jI];rfl
 case mul=>cases h;rw [jI];rfl
 case quo=>
  rw [jh]at h;by_cases b:y=0
  . simp [b]at h
  . have:(y==0)=false:=(by simpa using b);simp_all[cond_false,Op.intDiv,if_neg,jI]
 case rem=>
  rw [jh]at h;by_cases b:y=0
  . simp [b]at h
  . have:(y==0)=false:=(by simpa using b);simp_all[cond_false,Op.intDiv,if_neg]
 case and=>obtain⟨z,a,rfl⟩:=Option.map_eq_some_iff.1 h;exact sP P w a
 case or=>obtain⟨z,a,rfl⟩:=Option.map_eq_some_iff.1 h;exact sP P w a
 case xor=>obtain⟨z,a,rfl⟩:=Option.map_eq_some_iff.1 h;exact sP P w a
 case andNot=>obtain⟨z,a,rfl⟩:=Option.map_eq_some_iff.1 h;exact sP P w a
 case shl=>cases h
 case shr=>cases h
 case eql=>cases h;rw [jh];rfl
 case neq=>cases h;rw [jh];rfl
 case lss=>cases h;rw [jE];rfl
 case leq=>cases h;rw [jE];simp [Op.intCmp];grind
 case gtr=>cases h;rw [jE];rfl
 case geq=>cases h;rw [jE];simp [Op.intCmp];grind
theorem kV(x y:List UInt8):gH x y=(x==y):=by
 induction x generalizing y with
 |nil=>cases y<;>simp [gH]
 | cons a x c=>
   cases y with
   |nil=>simp [gH]| cons b y=>grind[gH,dJ,decide,UInt8.toNat_inj]
theorem EU(x y:List UInt8):ni x y=Op.bytesLess x y:=by
 induction x generalizing y with
 |nil=>cases y<;>simp [ni,Op.bytesLess]
 | cons a x c=>
   cases y with
   |nil=>rfl| cons b y=>grind[ni,Op.bytesLess,dJ,jD,decide,UInt8.toNat_inj,UInt8.lt_iff_toNat_lt]
inductive Pt where
 |none
 |dead
 |blk (c base top:Nat)
abbrev Mu:=Nat->Pt
variable{mu:Mu}
def fV(mu:Mu)(a d:Addr):Prop:=match mu a.block with
 | .none=>False| .dead=>True| .blk c b _=>d=⟨c,b+a.off,none⟩
def fC(mu:Mu)(a:Addr)(cap:Nat)(d:Addr)(cap':Nat):Prop:=match mu a.block with
 | .none=>False| .dead=>cap<=cap'| .blk c b e=>match a.spot with
   |none=>cap'=cap/\d=⟨c,b+a.off,none⟩|some k=>cap<=cap'/\d.block=c/\d.spot=none/\d.off+cap'*k<=e/\(cap=0\/d.off=b+a.off)
def eQ(mu:Mu)(b c:Nat):Prop:=match mu b with
 | .none=>False| .dead=>True| .blk d a _=>c=d/\a=0
inductive aC(mu:Mu):Value->Value->Prop
 |poison (v:Value):aC mu (.chan none) v
 |bool (b:Bool):aC mu (.bool b) (.bool b)
 |int (k:IntKind) (n:Int):aC mu (.int k n) (.int k n)
 |string (s:ByteArray):aC mu (.string s) (.string s)
 |nilp:aC mu (.pointer none) (.pointer none)
 |ptr {a a':Addr}:fV mu a a'->aC mu (.pointer (some a)) (.pointer (some a'))
 |nils:aC mu (.slice none 0 0) (.slice none 0 0)
 |slice {a a':Addr} {len cap cap':Nat}:len<=cap->fC mu a cap a' cap'->aC mu (.slice (some a) len cap) (.slice (some a') len cap')
 |nilm:aC mu (.map none) (.map none)
 |map {b c:Nat}:eQ mu b c->aC mu (.map (some b)) (.map (some c))
 |fn {f:FuncId} {x x' y y':Array Value}:x.toList.length=x'.toList.length->(∀(i:Nat) v v',x.toList[i]? =some v->x'.toList[i]? =some v'->aC mu v v')->
  y.toList.length=y'.toList.length->(∀(i:Nat) v v',y.toList[i]? =some v->y'.toList[i]? =some v'->aC mu v v')->aC mu (.func (.func f) x y) (.func (.func f) x' y')
 |yield {b c:Nat}:eQ mu b c->aC mu (.func (.yield b) #[] #[]) (.func (.yield c) #[] #[])
 |nilf:aC mu .nilFunc .nilFunc
 |nili:aC mu .nilIface .nilIface
 |iface {t:TypeId} {v v':Value}:aC mu v v'->aC mu (.iface t v) (.iface t v')
 |agg {x x':Array Value}:x.toList.length=x'.toList.length->(∀(i:Nat) v v',x.toList[i]? =some v->x'.toList[i]? =some v'->aC mu v v')->aC mu (.agg x) (.agg x')
 |tuple {x x':Array Value}:x.toList.length=x'.toList.length->(∀(i:Nat) v v',x.toList[i]? =some v->x'.toList[i]? =some v'->aC mu v v')->aC mu (.tuple x) (.tuple x')
def LR{a β:Type}(R:a->β->Prop)(l:List a)(l':List β):Prop:=l.length=l'.length/\ ∀(i:Nat) v b,l[i]? =some v->l'[i]? =some b->R v b
section lists
variable{α β:Type}{R:α->β->Prop}
theorem LR.nil:LR R [] []:=⟨rfl,by simp⟩
theorem LR.cons{a:α}{b:β}{l:List α}{l':List β}(h:R a b)(t:LR R l l'):LR R (a::l) (b::l'):=by
 refine⟨by simp [t.1],fun i v e d c=>?_⟩;cases i with
 |zero=>grind|succ i=>simp at d c;exact t.2 i v e d c
theorem LR.head{a:α}{b:β}{l:List α}{l':List β}(h:LR R (a::l) (b::l')):R a b:=h.2 0 a b (by simp) (by simp)
theorem LR.tail{a:α}{b:β}{l:List α}{l':List β}(h:LR R (a::l) (b::l')):LR R l l':=
 ⟨by have:=h.1;simpa using this,fun i v d e c=>h.2 (i+1) v d (by simpa using e) (by simpa using c)⟩
theorem LR.nil_left{l':List β}(h:LR R [] l'):l'=[]:=by have:=h.1;grind
theorem LR.cons_left{a:α}{l:List α}{l':List β}(h:LR R (a::l) l'): ∃b r,l'=b::r/\R a b/\LR R l r:=by
 cases l' with
 |nil=>have:=h.1;simp at this|cons b r=>exact⟨b,r,rfl,h.head,h.tail⟩
theorem LR.append{l r:List α}{l' c:List β}(h:LR R l l')(k:LR R r c):LR R (l++r) (l'++c):=by
 induction l generalizing l' with
 |nil=>rw [h.nil_left];exact k| cons a l d=>
   obtain⟨b,g,rfl,e,f⟩:=h.cons_left;exact LR.cons e (d f)
theorem LR.mono{S:α->β->Prop}{l:List α}{l':List β}(h:LR R l l')(k: ∀a b,R a b->S a b):LR S l l':=⟨h.1,fun i v c a b=>k _ _ (h.2 i v c a b)⟩
theorem LR.get{l:List α}{l':List β}(h:LR R l l'){v:α}(b:l[i]? =some v): ∃v',l'[i]? =some v'/\R v v':=by
 have a:i<l'.length:=by rw [<-h.1];grind
 exact⟨l'[i],Xc a,h.2 i v _ b (Xc a)⟩
theorem LR.drop{l:List α}{l':List β}(h:LR R l l')(n:Nat):LR R (l.drop n) (l'.drop n):=
 ⟨by simp [h.1],fun i v c a b=>h.2 (n+i) v c (by simpa using a) (by simpa using b)⟩
theorem LR.take{l:List α}{l':List β}(h:LR R l l')(n:Nat):LR R (l.take n) (l'.take n):=by
 refine⟨by simp [h.1],fun i v c a b=>?_⟩;rw [List.getElem?_take]at a b
 split at a
 . rename_i d;rw [if_pos d]at b;exact h.2 i v c a b
 . cases a
theorem LR.set{l:List α}{l':List β}(h:LR R l l')(n:Nat){a:α}{b:β}(e:R a b):LR R (l.set n a) (l'.set n b):=by
 refine⟨by simp [h.1],fun i v f d c=>?_⟩;rw [List.getElem?_set]at d c
 split at d
 . grind
 . rename_i g;rw [if_neg g]at c;exact h.2 i v f d c
theorem LR.mapSame{b:Type}{f:b->α}{g:b->β}(l:List b)(k: ∀a,R (f a) (g a)):LR R (l.map f) (l.map g):=by
 induction l with
 |nil=>exact LR.nil|cons a l c=>exact LR.cons (k a) c
theorem LR.refl{S:α->α->Prop}{l:List α}(h: ∀a∈l,S a a):LR S l l:=by refine⟨rfl,fun i v c d b=>?_⟩;grind
end lists
def Le(mu a:Mu):Prop:= ∀b,mu b≠ .none->a b=mu b\/a b=.dead
theorem Le.refl(mu:Mu):Le mu mu:=fun _ _=>.inl rfl
theorem Le.trans{a b c:Mu}(h:Le a b)(k:Le b c):Le a c:=by
 intro x f;rcases h x f with e|e
 . rcases k x (by rw [e];exact f)with d|d
   . grind
   . exact .inr d
 . rcases k x (by rw [e];simp)with d|d
   . grind
   . exact .inr d
theorem fV.mono{b:Mu}(h:Le mu b)(k:fV mu a f):fV b a f:=by
 unfold fV at*
 cases d:mu a.block with
 |none=>grind|dead=>rcases h a.block (by rw [d];simp)with e|e<;>(try rw [e,d])<;>(try rw [e])<;>trivial
 | blk c g i=>
   rw [d]at k;rcases h a.block (by rw [d];simp)with e|e
   . grind
   grind
theorem fC.caps{b:Addr}(k:fC mu a cap b cap'):cap<=cap':=by grind[fC]
theorem fC.mono{b:Mu}(h:Le mu b)(k:fC mu a cap f cap'):fC b a cap f cap':=by
 have i:=k.caps;unfold fC at*
 cases d:mu a.block with
 |none=>grind|dead=>rcases h a.block (by rw [d];simp)with e|e<;>(try rw [e,d])<;>(try rw [e])<;>exact i
 | blk c g j=>
   rw [d]at k;rcases h a.block (by rw [d];simp)with e|e
   . grind
   grind
theorem eQ.mono{a:Mu}(h:Le mu a)(k:eQ mu b c):eQ a b c:=by
 unfold eQ at*
 cases d:mu b with
 |none=>grind|dead=>rcases h b (by rw [d];simp)with e|e<;>(try rw [e,d])<;>(try rw [e])<;>trivial
 | blk c f g=>
   rw [d]at k;rcases h b (by rw [d];simp)with e|e
   . grind
   grind
theorem aC.mono{mu c:Mu}(h:Le mu c){v v':Value}(k:aC mu v v'):aC c v v':=by
 induction k with
 |poison v=>exact .poison v|bool b=>exact .bool b|int k n=>exact .int k n|string s=>exact .string s|nilp=>exact .nilp|ptr a=>exact .ptr (a.mono h)|nils=>exact .nils|slice l a=>exact .slice l (a.mono h)|nilm=>exact .nilm|map a=>exact .map (a.mono h)|fn a _ b _ d e=>exact .fn a d b e|yield a=>exact .yield (a.mono h)|nilf=>exact .nilf|nili=>exact .nili|iface _ i=>exact .iface i|agg a _ i=>exact .agg a i|tuple a _ i=>exact .tuple a i
abbrev VL(mu:Mu):=LR (aC mu)
theorem VL.mono{mu a:Mu}(h:Le mu a){l l':List Value}(k:VL mu l l'):VL a l l':=LR.mono k fun _ _=>aC.mono h
theorem aC.const(mu:Mu)(h:dI v=true):aC mu v v:=by
 unfold dI at h
 split at h<;>first|exact .bool _|exact .int _ _|exact .string _|exact .nilp|exact .nils|exact .nilm|exact .nilf|exact .nili|(cases h)
theorem aC.const_eq(h:dI v=true)(k:aC mu v v'):v'=v:=by cases k<;>first|rfl|(simp [dI]at h)
theorem aC.cells{mu:Mu}{v v':Value}(h:aC mu v v')(c: ∀x,v≠ .chan x):VL mu (ae v) v'.cells.toList:=by
 cases h<;>first
  |exact absurd rfl (c _)
  |(rename_i a b;exact⟨a,b⟩)
  |(exact LR.cons (by first|assumption|(constructor<;>assumption)|constructor) LR.nil)
theorem aC.flat(h:aC mu v v')(hf:jx v=true):v'.oneCell'=true:=by cases h<;>first|rfl|(simp [jx]at hf)
def oa(mu:Mu):List (Value×Value×Nat)->List MapEntry->Prop:=LR fun x e=>e.key=x.1/\xa x.1=true/\aC mu x.2.1 e.val/\e.born=x.2.2
structure ke(mu:Mu)(t:Tr Value)(n:Nat)(tmps:Array Value):Prop where
 size:tmps.size=n
 sized:t.Sized n
 get: ∀i v,t.get i=some v-> ∃v',tmps[i]? =some v'/\aC mu v v'
def stOf:LoopState->Nat
 | .ready=>0| .busy=>1| .done=>2| .exhausted=>3
structure pg(mu:Mu)(l:iI)(l':Loop):Prop where
 fn:l'.fn=l.fn
 regs:ke mu l.regs l.nr l'.tmps
 params:l'.params=l.params
 assign:l'.assign=l.assign
 body:l'.body=l.body
 st:stOf l'.state=l.st
 pending:l'.pending=l.pending
structure CRel(mu:Mu)(t:Tr Value)(sz md base top:Nat)(cs:Array Value)(fz:Nat×Nat):Prop where
 whole:cs.size=top
 fits:base+sz<=top
 sized:t.Sized sz
 get: ∀i v,t.get i=some v-> ∃v',cs[base+i]? =some v'/\aC mu v v'
 free:md≠0-> ∀i,i<cs.size-> ¬(fz.1<=i/\i<fz.2)
def oz(mu:Mu)(x:Blk)(base top:Nat)(o:Obj):Prop:=match x with
 | .dead=>False| .cells t f _ g=> ∃c h d,o=.cells c h d/\CRel mu t f g base top c d| .map i a=>base=0/\ ∃b,o=.map b a/\oa mu i b.toList| .loop l=>base=0/\ ∃e,o=.loop e/\pg mu l e| .dfr=>base=0/\o=.deferred (some [])
theorem ke.mono{mu c:Mu}(h:Le mu c){t:Tr Value}{n:Nat}{tmps:Array Value}(k:ke mu t n tmps):ke c t n tmps:=
 ⟨k.size,k.sized,fun i v d=>let⟨e,a,b⟩:=k.get i v d;⟨e,a,b.mono h⟩⟩
theorem pg.mono{mu a:Mu}(h:Le mu a){l:iI}{l':Loop}(k:pg mu l l'):pg a l l':=
 ⟨k.fn,k.regs.mono h,k.params,k.assign,k.body,k.st,k.pending⟩
theorem CRel.mono{mu c:Mu}(h:Le mu c){t:Tr Value}{d md base top:Nat}{cs:Array Value}{e:Nat×Nat}(k:CRel mu t d md base top cs e):CRel c t d md base top cs e:=
 ⟨k.whole,k.fits,k.sized,fun i v f=>let⟨g,a,b⟩:=k.get i v f;⟨g,a,b.mono h⟩,k.free⟩
theorem oz.mono{mu d:Mu}(h:Le mu d){x:Blk}{base top:Nat}{o:Obj}(k:oz mu x base top o):oz d x base top o:=by
 cases x with
 |dead=>exact k|cells t p q s=>obtain⟨j,f,m,e,r⟩:=k;exact⟨j,f,m,e,r.mono h⟩
 |map u c=>obtain⟨g,i,e,r⟩:=k;exact⟨g,i,e,LR.mono r fun a b x=>⟨x.1,x.2.1,x.2.2.1.mono h,x.2.2.2⟩⟩
 |loop l=>obtain⟨g,n,e,r⟩:=k;exact⟨g,n,e,r.mono h⟩
 |dfr=>exact k
structure bE(mu:Mu)(h:Hp)(w:World):Prop where
 sized:OZ h
 blk: ∀b c base top,mu b=.blk c base top-> ∃x o,h.get b=some x/\w.heap[c]? =some o/\oz mu x base top o
 dead: ∀b,mu b=.dead->h.get b=some .dead
 inj: ∀b b' c base top base' top',mu b=.blk c base top->mu b'=.blk c base' top'->b=b'
 lt: ∀b,mu b≠ .none->b<h.n
structure Ext(mu:Mu)(h:Hp)(w:World)(mu':Mu)(h':Hp)(w':World):Prop where
 n:h.n<=h'.n
 old: ∀b,b<h.n->mu' b=mu b\/(mu b≠ .none/\mu' b=.dead)
 fresh: ∀b c base top,h.n<=b->mu' b=.blk c base top->w.heap.size<=c\/ ∃b0 base0 top0,b0<h.n/\mu b0=.blk c base0 top0/\mu' b0=.dead
 lo:h'.lo<=h.lo
 same: ∀b,b<h.n->b<h'.lo->h'.get b=h.get b
 frame: ∀c,c<w.heap.size->(∀b base top,mu b≠ .blk c base top)->w'.heap[c]? =w.heap[c]?
 ro: ∀b c base top t sz el,mu b=.blk c base top->h.get b=some (.cells t sz el 0)->w'.heap[c]? =w.heap[c]? /\h'.get b=h.get b/\mu' b=mu b
 wsize:w.heap.size<=w'.heap.size
 os:w'.os=w.os
 tape:w'.tape=w.tape
 output:w'.output=w.output
 cover: ∀b,h.n<=b->b<h'.n->mu' b≠ .none
theorem Ext.refl(mu:Mu)(h:Hp)(w:World)(hh:bE mu h w):Ext mu h w mu h w where
 n:=zM _
 old:=fun _ _=>.inl rfl
 fresh:=fun b c base top hb hm=>absurd (hh.lt b (by rw [hm];simp)) (by omega)
 lo:=zM _
 same:=fun _ _ _=>rfl
 frame:=fun _ _ _=>rfl
 ro:=fun _ _ _ _ _ _ _ _ _=>⟨rfl,rfl,rfl⟩
 wsize:=zM _
 os:=rfl
 tape:=rfl
 output:=rfl
 cover:=fun _ h1 h2=>absurd h2 (by omega)
theorem Ext.le{a:Mu}{h h':Hp}(e:Ext mu h w a h' w')(c:bE mu h w):Le mu a:=by
 intro b d;rcases e.old b (c.lt b d)with x|x
 . exact .inl x
 grind
theorem Ext.trans{mu mu1 mu2:Mu}{h h1 h2:Hp}{w w1 w2:World}(a:Ext mu h w mu1 h1 w1)(b:Ext mu1 h1 w1 mu2 h2 w2):Ext mu h w mu2 h2 w2 where
 n:=XF a.n b.n
 old:=by
  intro x hx;rcases a.old x hx with e|⟨e,f⟩
  . rcases b.old x (by have:=a.n;omega)with e2|⟨e2,f2⟩
    . grind
    grind
  . rcases b.old x (by have:=a.n;omega)with e2|⟨e2,f2⟩
    . grind
    grind
 fresh:=by
  intro x c base top hx hm;have dd: ∀b0,b0<h.n->mu1 b0=.dead->mu2 b0=.dead:=by
   intro b0 hb0 hd;rcases b.old b0 (by have:=a.n;omega)with e|⟨_,f⟩
   . exact e.trans hd
   . exact f
  by_cases hx1:h1.n<=x
  . rcases b.fresh x c base top hx1 hm with hc|⟨b0,base0,top0,hb0,hm0,hd0⟩
    . exact .inl (XF a.wsize hc)
    . by_cases hb1:b0<h.n
      . rcases a.old b0 hb1 with e|⟨_,f⟩
        . grind
        grind
      . rcases a.fresh b0 c base0 top0 (by omega) hm0 with hc|⟨b2,base2,top2,hb2,hm2,hd2⟩
        . exact .inl hc
        grind
  . rcases b.old x (by omega)with e|⟨_,f⟩
    . rcases a.fresh x c base top hx (by grind)with hc|⟨b2,base2,top2,hb2,hm2,hd2⟩
      . exact .inl hc
      grind
    grind
 lo:=XF b.lo a.lo
 same:=fun x hx hl=>(b.same x (by have:=a.n;omega) hl).trans (a.same x hx (by have:=b.lo;omega))
 frame:=by
  intro c hc hn;have h1:=a.frame c hc hn;rw [<-h1];refine b.frame c (by grind) ?_;intro x base top hm;by_cases hx:x<h.n
  . rcases a.old x hx with e|⟨_,f⟩
    . grind
    grind
  . rcases a.fresh x c base top (by omega) hm with hc2|⟨b2,base2,top2,_,hm2,_⟩
    . omega
    grind
 ro:=by intro x c base top t sz el hm hg;obtain⟨h1,h2,h3⟩:=a.ro x c base top t sz el hm hg;obtain⟨k1,k2,k3⟩:=b.ro x c base top t sz el (h3.trans hm) (h2.trans hg);grind
 wsize:=XF a.wsize b.wsize
 os:=b.os.trans a.os
 tape:=b.tape.trans a.tape
 output:=b.output.trans a.output
 cover:=by
  intro x h1' h2';by_cases hx:x<h1.n
  . have:=a.cover x h1' hx;rcases b.old x hx with e|⟨_,e⟩
    . grind
    . rw [e];simp
  . exact b.cover x (by omega) h2'
def upd(mu:Mu)(b:Nat)(p:Pt):Mu:=fun x=>if x=b then p else mu x
theorem upd_same(mu:Mu)(b:Nat)(p:Pt):upd mu b p b=p:=by simp [upd]
theorem bG(mu:Mu){x:Nat}(p:Pt)(h:x≠b):upd mu b p x=mu x:=by simp [upd,h]
theorem bE.none_ge{h:Hp}(a:bE mu h w)(g:h.n<=b):mu b=.none:=by
 cases d:mu b with
 |none=>rfl|dead=>exact absurd (a.lt b (by rw [d];simp)) (by omega)|blk c e f=>exact absurd (a.lt b (by rw [d];simp)) (by omega)
theorem bE.clt{h:Hp}(a:bE mu h w)(d:mu b=.blk c base top):c<w.heap.size:=by obtain⟨x,o,_,e,_⟩:=a.blk b c base top d;grind
theorem Hp.get_new(h:Hp)(x:Blk)(hs:OZ h)(b:Nat):(h.new x).get b=if b=h.n then some x else h.get b:=Tr.get_push h.t h.n x hs b
theorem Hp.get_put(h:Hp)(b:Nat)(x:Blk)(a:Nat):(h.put b x).get a=if b=a/\(h.get a).isSome then some x else h.get a:=Tr.get_set h.t b x a
theorem Hp.put_lo(h:Hp)(b:Nat)(x:Blk):(h.put b x).lo<=h.lo/\(h.put b x).lo<=b:=by show eK b h.lo<=h.lo/\eK b h.lo<=b;grind[eK,fH]
structure WNew(w w':World)(o:Obj):Prop where
 heap:w'.heap=w.heap.push o
 os:w'.os=w.os
 tape:w'.tape=w.tape
 output:w'.output=w.output
structure WSet(w w':World)(c:Nat)(o:Obj):Prop where
 size:w'.heap.size=w.heap.size
 at_:w'.heap[c]? =some o
 other: ∀j,j≠c->w'.heap[j]? =w.heap[j]?
 os:w'.os=w.os
 tape:w'.tape=w.tape
 output:w'.output=w.output
theorem pR{h:Hp}(f:bE mu h w){x:Blk}(n:WNew w w' o)(r:oz mu x base top o):bE (upd mu h.n (.blk w.heap.size base top)) (h.new x) w'/\Ext mu h w (upd mu h.n (.blk w.heap.size base top)) (h.new x) w':=by
 have p: ∀j,w'.heap[j]? =if j=w.heap.size then some o else w.heap[j]? :=by intro j;rw [n.heap,Array.getElem?_push]
 have hle:Le mu (upd mu h.n (.blk w.heap.size base top)):=by intro b r;left;exact bG _ _ (by have:=f.lt b r;omega)
 have q:=h.get_new x f.sized;refine⟨⟨Tr.sized_push x f.sized,?_,?_,?_,?_⟩,?_⟩
 . intro b c e g d;by_cases a:b=h.n
   . subst a;rw [upd_same]at d;cases d;exact⟨x,o,by rw [q];simp,by rw [p];simp,r.mono hle⟩
   . rw [bG _ _ a]at d;obtain⟨y,B,l,k,C⟩:=f.blk b c e g d;have:=f.clt d;exact⟨y,B,by grind,by grind,C.mono hle⟩
 . intro b d;by_cases a:b=h.n
   . grind[upd_same]
   . rw [bG _ _ a]at d;rw [q,if_neg a];exact f.dead b d
 . intro b s c u z v A l k;by_cases m:b=h.n
   . by_cases i:s=h.n
     . rw [m,i]
     . subst m;rw [upd_same]at l;rw [bG _ _ i]at k;cases l;have:=f.clt k;omega
   . rw [bG _ _ m]at l;by_cases i:s=h.n
     . subst i;rw [upd_same]at k;cases k;have:=f.clt l;omega
     . rw [bG _ _ i]at k;exact f.inj b s c _ _ _ _ l k
 . intro b d;show b<h.n+1;by_cases a:b=h.n
   . omega
   . rw [bG _ _ a]at d;have:=f.lt b d;omega
 . refine⟨Nat.le_succ _,?_,?_,zM _,?_,?_,?_,?_,n.os,n.tape,n.output,?_⟩
   . grind[bG]
   . intro b c e g r d;by_cases a:b=h.n
     . simp_all[upd_same,zM]
     . rw [bG _ _ a]at d;exact absurd (f.lt b (by rw [d];simp)) (by omega)
   . grind
   . grind
   . intro b c e g t F G d H;have:=f.clt d;have D:=f.lt b (by rw [d];simp);exact⟨by grind,by grind,bG _ _ (by omega)⟩
   . rw [n.heap];simp
   . intro b l k;have E:b<h.n+1:=k;grind[upd_same]
theorem yg{h:Hp}(j:bE mu h w){x:Blk}(m:mu b=.blk c base top)(z: ∀t v el,h.get b≠some (.cells t v el 0))(k:WSet w w' c o)(A:oz mu x base top o):bE mu (h.put b x) w'/\Ext mu h w mu (h.put b x) w':=by
 have p:=h.get_put b x;have B:=j.lt b (by rw [m];simp);have q:(h.get b).isSome=true:=by obtain⟨y,_,r,_⟩:=j.blk b c base top m;rw [r];rfl
 refine⟨⟨Tr.sized_set b x j.sized,?_,?_,j.inj,j.lt⟩,?_⟩
 . intro g n d i a;by_cases f:b=g
   . subst f;rw [m]at a;cases a;exact⟨x,o,by grind,k.at_,A⟩
   . obtain⟨y,C,r,s,D⟩:=j.blk g n d i a;have l:n≠c:=fun e=>f (j.inj b g c _ _ _ _ m (by rw [<-e];exact a));exact⟨y,C,by grind,by rw [k.other _ l];exact s,D⟩
 . intro g a;have f:b≠g:=(by grind);rw [p,if_neg (fun e=>f e.1)];exact j.dead g a
 . have u:=h.put_lo b x;refine⟨zM _,fun _ _=>.inl rfl,?_,u.1,?_,?_,?_,by rw [k.size];omega,k.os,k.tape,k.output,fun b r s=>absurd (show b<h.n from s) (by omega)⟩
   . intro g n d i E a;exact absurd (j.lt g (by rw [a];simp)) (by omega)
   . grind
   . intro n _ F;exact k.other _ (fun e=>F b base top (by rw [e];exact m))
   . intro g n d i t v el a G;have f:b≠g:=(by grind);have l:n≠c:=fun e=>f (j.inj b g c _ _ _ _ m (by rw [<-e];exact a));exact⟨k.other _ l,by grind,rfl⟩
theorem sZ{h:Hp}(j:bE mu h w)(q:mu b=.blk c base top)(F: ∀t A el,h.get b≠some (.cells t A el 0))(l:WSet w w' c o):bE (upd mu b .dead) (h.put b .dead) w'/\Ext mu h w (upd mu b .dead) (h.put b .dead) w':=by
 have r:=h.get_put b .dead;have s:=j.lt b (by rw [q];simp);have u:(h.get b).isSome=true:=by obtain⟨y,_,n,_⟩:=j.blk b c base top q;rw [n];rfl
 have hle:Le mu (upd mu b .dead):=by intro f _;grind[upd_same,bG]
 refine⟨⟨Tr.sized_set b _ j.sized,?_,?_,?_,?_⟩,?_⟩
 . intro f k g i a;by_cases d:f=b
   . grind[upd_same]
   . rw [bG _ _ d]at a;obtain⟨y,G,n,p,H⟩:=j.blk f k g i a;have m:k≠c:=fun e=>d (j.inj f b c _ _ _ _ (by rw [<-e];exact a) q);exact⟨y,G,by grind,by rw [l.other _ m];exact p,H.mono hle⟩
 . intro f a;by_cases d:f=b
   . grind
   . rw [bG _ _ d]at a;rw [r,if_neg (fun e=>d e.1.symm)];exact j.dead f a
 . intro B C k v D x E n p;have I:B≠b:=(by grind[upd_same]);have J:C≠b:=(by grind[upd_same]);rw [bG _ _ I]at n;rw [bG _ _ J]at p;exact j.inj B C k _ _ _ _ n p
 . intro f a;by_cases d:f=b
   . subst d;exact s
   . rw [bG _ _ d]at a;exact j.lt f a
 . have z:=h.put_lo b .dead;refine⟨zM _,?_,?_,z.1,?_,?_,?_,by rw [l.size];omega,l.os,l.tape,l.output,fun b n p=>absurd (show b<h.n from p) (by omega)⟩
   . grind[upd_same,bG]
   . intro f k g i K a;have d:f≠b:=(by omega);rw [bG _ _ d]at a;exact absurd (j.lt f (by rw [a];simp)) (by omega)
   . grind
   . intro k _ L;exact l.other _ (fun e=>L b base top (by rw [e];exact q))
   . intro f k g i t A el a M;have d:b≠f:=(by grind);have m:k≠c:=fun e=>d (j.inj b f c _ _ _ _ q (by rw [<-e];exact a));exact⟨l.other _ m,by grind,bG _ _ (Ne.symm d)⟩
theorem sW{h:Hp}(d:bE mu h w)(e:w'.heap=w.heap):bE mu h w':=
 ⟨d.sized,fun b c f g i=>let⟨x,o,a,j,k⟩:=d.blk b c f g i;⟨x,o,a,by rw [e];exact j,k⟩,d.dead,d.inj,d.lt⟩
theorem uL{h:Hp}(hh:bE mu h w)(e:w'.heap=w.heap)(e1:w'.os=w.os)(e2:w'.tape=w.tape)(e3:w'.output=w.output):Ext mu h w mu h w' where
 n:=zM _
 old:=fun _ _=>.inl rfl
 fresh:=fun b c base top hb hm=>absurd (hh.lt b (by rw [hm];simp)) (by omega)
 lo:=zM _
 same:=fun _ _ _=>rfl
 frame:=fun _ _ _=>by rw [e]
 ro:=fun _ _ _ _ _ _ _ _ _=>⟨by rw [e],rfl,rfl⟩
 wsize:=by grind
 os:=e1
 tape:=e2
 output:=e3
 cover:=fun _ h1 h2=>absurd h2 (by omega)
structure ug(P:Program)(fr:Frame)(w:World)(kind:CallKind)(v:Value):Prop where
 mode:fr.mode=.returning
 defers:fr.defers=[]
 kind:fr.kind=kind
 res: ∃fn,P.funcs[fr.fn]? =some fn/\(results fn fr.tmps).run P w=.ok v w
structure wH(w w':World):Prop where
 heap: ∀c,c<w.heap.size->w'.heap[c]? =w.heap[c]?
 size:w.heap.size<=w'.heap.size
 os:w'.os=w.os
 tape:w'.tape=w.tape
 output:w'.output=w.output
def OrcAt(P:Program)(g:FuncId)(args:List Value)(v:Value):Prop:=
 args.all dI=true/\dI v=true/\ ∀(w:World) (b:List Frame) (a:CallKind),(a=.normal\/(a=.deferred/\ ∃c r,b=c::r/\c.mode=.returning))->
  ∃d e,wH w d/\Steps P (lone (Frame.enter P g ⟨args⟩ a) b w) (lone e b d)/\ug P e d a v/\e.fn=g
structure EOk(E:Env)(P:Program):Prop where
 fn: ∀f fn,E.fn f=some fn->P.funcs[f]? =some fn
 call: ∀f fn args w,E.fn f=some fn->fn.body.isSome=true->(callFunc f args).run P w=.ok (.enter f args) w
 ty: ∀t i,E.ty t=some i->P.info? t=some i
 eq: ∀t,E.eqok t=true->P.stoodInHeld t=false/\P.eqGuardType P.depth t=false
 mixed:P.follows .mixedOrders=true
 orc: ∀g args v,E.orc g args=some v->(∃fn,E.fn g=some fn/\fn.body.isSome=true)/\OrcAt P g args v
section
variable{E:Env}{P:Program}(ok:EOk E P)
include ok
theorem und_eq{t:TypeId}{d:TypeDesc}(h:E.und t=some d):P.underlying t=some d:=by
 unfold Env.und at h;cases b:E.ty t with
 |none=>simp [b]at h| some i=>
   simp only [b]at h;have e:=ok.ty t i b;obtain⟨a,_,_,_,_,_,_,_,_,_⟩:=i;unfold Program.underlying;rw [e];cases a<;>simp only []at h⊢ <;>try exact h
   rename_i f u;cases c:E.ty u with
   |none=>simp [c]at h|some j=>simp only [c]at h;rw [ok.ty u j c];exact h
theorem cd{t:TypeId}{d:TypeDesc}(h:E.und t=some d)(w:World):(underlying t).run P w=.ok d w:=by unfold underlying;simp [und_eq ok h]
theorem pV{t:TypeId}{i:TypeInfo}(h:E.ty t=some i)(w:World):(typeInfo t).run P w=.ok i w:=by unfold typeInfo;simp [ok.ty t i h]
theorem fd{t:TypeId}(h:E.sz t=some n)(w:World):(sizeOf t).run P w=.ok n w:=by
 unfold Env.sz at h;cases a:E.ty t with
 |none=>simp [a]at h|some i=>simp only [a]at h;cases h;unfold sizeOf;simp [pV ok a]
theorem wY{t:TypeId}{b:Bool}(h:E.agg t=some b)(w:World):(isAgg t).run P w=.ok b w:=by
 unfold Env.agg at h;cases a:E.und t with
 |none=>simp [a]at h| some d=>
   simp only [a]at h;unfold isAgg;simp only [Sem.run_bind,cd ok a,Result.andThen_ok];cases d<;>simp only []at h<;>cases h<;>rfl
theorem pX{t:TypeId}{z:List Value}(h:E.zero t=some z)(w:World):
 ∃v,(zeroValue t).run P w=.ok v w/\v.cells.toList=z/\ae v=z/\z.all dI=true:=by
 unfold Env.zero at h;cases a:E.ty t with
 |none=>simp [a]at h| some i=>
   simp only [a]at h;cases b:i.zero with
   |none=>simp [b]at h| some v=>
     simp only [b]at h;cases c:(ae v).all dI with
     |false=>simp [c]at h| true=>
       simp only [c,cond_true]at h;cases h;refine⟨v,?_,?_,rfl,c⟩
       . unfold zeroValue;simp [pV ok a,b]
       . cases v<;>rfl
theorem s8{t:TypeId}{z:Value}(h:E.zeroV t=some z)(w:World)(mu:Mu):(zeroValue t).run P w=.ok z w/\aC mu z z:=by
 unfold Env.zeroV at h;cases c:E.ty t with
 |none=>simp [c]at h| some i=>
   simp only [c]at h;cases d:i.zero with
   |none=>simp [d]at h| some v=>
     simp only [d]at h;cases e:(ae v).all dI with
     |false=>simp [e]at h| true=>
       simp only [e,cond_true]at h;cases h;refine⟨by unfold zeroValue;simp [pV ok c,d],?_⟩;have a: ∀x∈ae z,dI x=true:=(by simpa using e);cases z with
       | agg g=>
         refine .agg rfl fun i x j f b=>?_;rw [f]at b;cases b;exact aC.const mu (a x (XR f))
       |_=>exact aC.const mu (a _ (by simp [ae]))
theorem pS{t:TypeId}{cs:List Value}{a:Array Value}(h:partOf E t cs off=some v)(f:VL mu cs a.toList)(w:World):
 ∃v',(part t a off).run P w=.ok v' w/\aC mu v v':=by
 unfold partOf at h;cases c:E.agg t with
 |none=>simp [c]at h| some b =>
   unfold part;cases b with
   | true =>
     simp only [c]at h;cases d:E.sz t with
     |none=>simp [d]at h| some n=>
       simp only [d,fH]at h;by_cases g:off+n<=cs.length
       . simp only [g,decide_true,cond_true]at h;cases h;refine⟨.agg (a.extract off (off+n)),by simp [wY ok c,fd ok d],?_⟩;have:=(f.drop off).take n;have e:(a.extract off (off+n)).toList=(a.toList.drop off).take n:=(by simp_all);exact .agg (by rw [e];exact this.1) (by rw [e];exact this.2)
       grind
   | false=>
     simp only [c]at h;obtain⟨v',j,i⟩:=f.get h;have:a[off]? =some v':=(by grind);exact⟨v',by simp [wY ok c,this],i⟩
theorem CC(d D:Nat)(hD:d<=D){t:TypeId}{y R:Value}{b:Bool}(h:fo E d t x y=some b)(p:aC mu x x')(r:aC mu y R)(w:World):(Op.equalIn D t x' R).run P w=.ok b w:=by
 induction d generalizing D t x y x' R b with
 |zero=>simp [fo]at h| succ d ih =>
   obtain⟨D,rfl⟩: ∃k,D=k+1:=⟨D-1,by omega⟩;have O:d<=D:=(by omega);unfold fo at h;unfold Op.equalIn;cases S:E.und t with
   |none=>simp [S]at h| some Q =>
     simp only [S]at h;simp only [Sem.run_bind,cd ok S,Result.andThen_ok];cases Q<;>simp only []at h<;>try (cases h;done)
     case bool=>
      cases p<;>cases r<;>simp only []at h<;>try (cases h;done)
      cases h;rename_i a c;cases a<;>cases c<;>rfl
     case int k=>
      cases p<;>cases r<;>simp only []at h<;>try (cases h;done)
      rename_i k1 a k2 c;rw [jf,jh]at h;by_cases hk:k1=k2
      . simp_all
      grind
     case string=>
      cases p<;>cases r<;>simp only []at h<;>try (cases h;done)
      rename_i a c;cases h;rw [kV];simp only [aU,Sem.run_pure];congr 1;rw [show(a==c)=(a.data==c.data)from rfl,<-Array.beq_toList]
     case pointer e=>
      cases p<;>cases r<;>simp only []at h<;>try (cases h;done)
      all_goals (cases h;rfl)
     case slice e=>
      cases p<;>cases r<;>simp only []at h<;>try (cases h;done)
      all_goals (cases h;rfl)
     case map k e=>
      cases p<;>cases r<;>simp only []at h<;>try (cases h;done)
      all_goals (cases h;rfl)
     case func a c e=>
      cases p<;>cases r<;>simp only []at h<;>try (cases h;done)
      all_goals (cases h;rfl)
     case interface ms=>
      cases p<;>cases r<;>simp only []at h<;>try (cases h;done)
      . cases h;rfl
      . cases h;rfl
      . cases h;rfl
      . rename_i tx vx ac ad ty vy af ai;rw [dJ]at h;by_cases T:tx=ty
        . subst T;simp only [decide_true,cond_true]at h;cases U:E.ty tx with
          |none=>simp [U]at h| some i=>
            simp only [U]at h;cases s:i.comparable with
            |false=>simp [s]at h| true=>simp only [s,cond_true]at h;simp [pV ok U,s];grind
        simp_all
     case struct fs=>
      cases p<;>cases r<;>simp only []at h<;>try (cases h;done)
      rename_i u j v z A o B C;cases V:E.eqok t with
      |false=>simp [V]at h| true =>
        simp only [V,cond_true]at h;have W:=(ok.eq t V).1;have X:VL mu u.toList j.toList:=⟨v,z⟩;have Y:VL mu A.toList o.toList:=⟨B,C⟩;simp only [Sem.run_bind,run_program,Result.andThen_ok,W,Xd,if_false];have F : ∀(l:List Field),eqFields E (fo E d) l u.toList A.toList=some b->
         (forIn l ((none,()):Option Bool×Unit) (fun f Z=>
           if f.name≠ "_" then do
            let a<-part f.type j f.offset
            let c<-part f.type o f.offset
            let q<-Op.equalIn D f.type a c
            if(!q)=true then pure (ForInStep.done (some false,()))else pure (ForInStep.yield (none,()))
           else pure (ForInStep.yield (none,()))):Sem _).run P w=.ok (if b then(none,())else(some false,())) w:=by
         intro l
         induction l with
         |nil=>simp_all[eqFields]| cons f l ak=>
           intro g;simp only [eqFields]at g;cases hn:(f.name== "_")with
           |true=>simp [hn]at g| false =>
             simp only [hn,cond_false]at g;have aa:f.name≠ "_" :=(by simpa using hn);cases G:partOf E f.type u.toList f.offset with
             |none=>simp [G]at g| some a=>
               simp only [G]at g;cases H:partOf E f.type A.toList f.offset with
               |none=>simp [H]at g| some c=>
                 simp only [H]at g;obtain⟨a',I,J⟩:=pS ok G X w;obtain⟨c',K,L⟩:=pS ok H Y w;cases M:fo E d f.type a c with
                 |none=>simp [M]at g| some q=>
                   have N:=ih D O M J L;simp only [Xu,if_pos aa,Sem.run_bind,I,K,N,Result.andThen_ok];cases q with
                   |false=>simp only [M]at g;cases g;simp
                   |true=>simp_all
        have:=F fs.toList h;simp only [Array.forIn_toList]at this;rw [this];cases b<;>simp
     case array n e=>
      cases p<;>cases r<;>simp only []at h<;>try (cases h;done)
      rename_i u j v z A o B C;have X:VL mu u.toList j.toList:=⟨v,z⟩;have Y:VL mu A.toList o.toList:=⟨B,C⟩;cases hs:E.sz e with
      |none=>simp [hs]at h| some k =>
        simp only [hs]at h;simp only [Sem.run_bind,fd ok hs,Result.andThen_ok];have F : ∀(m i:Nat),qg E (fo E d) e k u.toList A.toList m i=some b->
         (forIn (Xx i m) ((none,()):Option Bool×Unit) (fun i Z=>do
           let a<-part e j (i*k)
           let c<-part e o (i*k)
           let q<-Op.equalIn D e a c
           if(!q)=true then pure (ForInStep.done (some false,()))else pure (ForInStep.yield (none,()))):Sem _).run P w=.ok (if b then(none,())else(some false,())) w:=by
         intro m
         induction m with
         |zero=>simp_all[qg]| succ m al=>
           intro i g;simp only [qg]at g;cases G:partOf E e u.toList (i*k)with
           |none=>simp [G]at g| some a=>
             simp only [G]at g;cases H:partOf E e A.toList (i*k)with
             |none=>simp [H]at g| some c=>
               simp only [H]at g;obtain⟨a',I,J⟩:=pS ok G X w;obtain⟨c',K,L⟩:=pS ok H Y w;cases M:fo E d e a c with
               |none=>simp [M]at g| some q=>
                 have N:=ih D O M J L;simp only [XG,Xu,Sem.run_bind,I,K,N,Result.andThen_ok];cases q with
                 |false=>simp only [M]at g;cases g;simp
                 |true=>simp_all
        have:=F n 0 h;simp only [Std.Legacy.Range.forIn_eq_forIn_range',Std.Legacy.Range.size];rw [show(n-0+1-1)/1=n by omega,this];cases b<;>simp
end
theorem D5(a:ByteArray)(n i:Nat)(r:List UInt8)(h:a.size-i=n):ByteArray.toList.loop a i r=r.reverse++a.data.toList.drop i:=by
 induction n generalizing i r with
 | zero=>unfold ByteArray.toList.loop;rw [if_neg (by omega),List.drop_of_length_le (by have:a.size=a.data.toList.length:=rfl;omega)];simp| succ n c=>have f:a.size=a.data.toList.length:=rfl;unfold ByteArray.toList.loop;rw [if_pos (by omega),c _ _ (by omega)];have b:i<a.data.toList.length:=(by omega);rw [List.drop_eq_getElem_cons b];have e:a.get! i=a.data.toList[i]:=(by have d:i<a.data.size:=b;show a.data[i]! =_;grind);grind
theorem tH(s:ByteArray):s.toList=aU s:=by unfold ByteArray.toList aU;rw [D5 s _ 0 [] rfl];simp
theorem CA(s u:ByteArray):s++u=iB (aU s++aU u):=by rfl
section
variable{E:Env}{P:Program}(ok:EOk E P)
include ok
theorem guard_run{t:TypeId}{x:Operand}{a b:Value}{r:Bool}(h:iq E t x y a b=some r)(g:aC mu a d)(i:aC mu b e)(w:World):(eqGuard op t x y d e).run P w=.ok () w:=by
 unfold eqGuard;cases c:(!(match op with| .eql| .neq=>true|_=>false):Bool)with
 |true=>rfl| false=>
   unfold iq at h;cases g<;>cases i<;>simp only []at h<;>try (cases h;done)
   all_goals first
    |(cases op<;>simp at c<;>simp;done)
    |skip
   . cases op<;>simp at c<;>(cases x<;>cases y<;>simp only []at h<;>first|(cases h;done)|simp)
   . cases f:E.eqok t with
     |false=>simp [f]at h| true=>have:=(ok.eq t f).2;simp_all
omit ok in
theorem zI{t:TypeId}{x:Operand}{a b:Value}{r:Bool}(h:iq E t x y a b=some r):fo E 40 t a b=some r:=by unfold iq at h;grind
theorem equal_run{t:TypeId}{x:Operand}{a b c:Value}{r:Bool}(h:iq E t x y a b=some r)(e:aC mu a c)(f:aC mu b d)(w:World):(Op.equal t c d).run P w=.ok r w:=CC ok 40 Op.maxDepth (by decide) (zI h) e f w
theorem binP_run{t:TypeId}{x:Operand}{a b:Value}(h:bQ E op t x y a b=some v)(g:aC mu a d)(i:aC mu b e)(w:World):(eqGuard op t x y d e).run P w=.ok () w/\(binOp op t d e).run P w=.ok v w/\aC mu v v:=by
 have j: ∀(r:Bool),iq E t x y a b=some r->(eqGuard op t x y d e).run P w=.ok () w/\(Op.equal t d e).run P w=.ok r w:=
  fun r c=>⟨guard_run ok c g i w,equal_run ok c g i w⟩
 cases g <;> cases i<;>simp only [bQ]at h<;>first
  | (rename_i k m o n
     have l: ∀op,(eqGuard op t x y (Value.int k m) (Value.int o n)).run P w=.ok () w:=(by intro op;cases op<;>simp [eqGuard]);refine⟨l op,?_⟩;cases op <;>simp only []at h<;>first
      | (obtain⟨z,F,rfl⟩:=Option.map_eq_some_iff.1 h
         refine⟨?_,.int _ _⟩;grind[binOp,shift_run])
      | (rw [jf] at h
         by_cases p:k=o
         . subst p;simp only [decide_true,cond_true]at h;refine⟨?_,?_⟩
           . have:=arith_run P w h;simpa [binOp]using this
           . unfold ju at h;simp only []at h
             first
              |(cases h;constructor)
              |(obtain⟨z,_,rfl⟩:=Option.map_eq_some_iff.1 h;exact .int _ _)
              | (split at h<;>first|(cases h;done)|skip
                 cases f:iW n 0<;>simp [f]at h;subst h;exact .int _ _)
              |(cases f:iW n 0<;>simp [f]at h;subst h;exact .int _ _)
         . simp [p]at h))
  |skip
 all_goals first
  | (rename_i s u
     have l: ∀op,(eqGuard op t x y (Value.string s) (Value.string u)).run P w=.ok () w:=(by intro op;cases op<;>simp [eqGuard]);refine⟨l op,?_⟩;have q:(s.toList==u.toList)=gH (aU s) (aU u):=(by grind[kV,tH]);have A:Op.bytesLess s.toList u.toList=ni (aU s) (aU u):=(by grind[EU,tH]);cases op<;>simp only []at h<;>first
      |(cases h;done)
      | (rw [fH]at h
         by_cases f:s.size+u.size<=1099511627776
         . simp only [f,decide_true,cond_true]at h;cases h;refine⟨?_,.string _⟩;have e3:s++u=iB (aU s++aU u):=CA s u;have B: ¬(((s.size+u.size:Nat):Int)>IntKind.i64.max):=(by rw [show IntKind.i64.max=9223372036854775807 from rfl];omega);simp only [binOp,Op.stringOp,if_neg B,e3,Sem.run_pure]
         grind)
      | (cases h
         refine⟨?_,.bool _⟩;simp only [binOp,Op.stringOp,q,A,Sem.run_pure]))
  |(cases op<;>simp only []at h<;>first
      |(cases h;done)
      | (obtain⟨r,c,rfl⟩:=Option.map_eq_some_iff.1 h
         obtain⟨C,D⟩:=j r c;refine⟨C,?_,.bool _⟩;simp only [binOp,Sem.run_bind,D,Result.andThen_ok,Sem.run_pure])
      | (obtain⟨r,c,rfl⟩:=Option.map_eq_some_iff.1 h
         have:=zI c;exfalso;revert c;simp [iq];done)
      |done)
end
def OR{c β:Type}(R:c->β->Prop):Option c->Option β->Prop
 |none,none=>True|some a,some b=>R a b|_,_=>False
theorem OR.map{b:Type}{ρ:b->Value}{a:b->Value}{mu:Mu}(h: ∀x,aC mu (ρ x) (a x))(o:Option b):OR (aC mu) (o.map ρ) (o.map a):=by cases o<;>simp [OR,h]
section
variable{E:Env}{P:Program}(ok:EOk E P)
theorem kM{y a:Nat}{code:BoundsCode}(h:fe v y=some n)(d:aC mu v v')(e:y<=a)(w:World):(Instr.sliceBound v' a code).run P w=.ok n w/\n<=y:=by
 unfold fe at h;cases d<;>simp only []at h<;>try (cases h;done)
 rename_i k i;cases b:gM i with
 |none=>simp [b]at h| some m=>
   have:=sJ b;subst this;simp only [b,fH]at h;by_cases c:m<=y
   . simp only [c,decide_true,cond_true]at h;cases h;refine⟨?_,c⟩;have:(0:Int)<=(n:Int)/\(n:Int)<=(a:Int):=(by omega);simp_all[Instr.sliceBound,asIntOf,Sem.run_bind,Sem.run_pure,Result.andThen_ok,if_pos]
   grind
theorem qy{l h m:Nat}{j g o f a:Option Value}{b:Bool}(e:dQ len cap j g o=some (l,h,m))(n:OR (aC mu) j f)(k:OR (aC mu) g a)(q:OR (aC mu) o mx')(i:cap<=cap')(x:len<=cap)(w:World):(Instr.sliceBounds b len cap' f a mx').run P w=.ok (l,h,if o.isSome then m else cap') w/\l<=h/\h<=m/\m<=cap/\(o.isSome=false->m=cap):=by
 unfold dQ at e;unfold Instr.sliceBounds;cases o with
 | some v=>
   cases mx' with
   |none=>exact q.elim| some F =>
     simp only []at e;cases r:fe v cap with
     |none=>simp [r]at e| some m1 =>
       simp only [r]at e;obtain⟨G,H⟩:=kM (P:=P) (code:=(if b then .slice3Acap else .slice3Alen)) r q i w;cases g with
       |none=>simp at e| some u=>
         cases a with
         |none=>exact k.elim| some y =>
           simp only []at e;cases c:fe u m1 with
           |none=>simp [c]at e| some p=>
             simp only [c]at e;obtain⟨s,z⟩:=kM (P:=P) (code:=.slice3B) c k (zM _) w;cases j with
             | none=>
               cases f with
               |some _=>exact n.elim|none=>simp only []at e;cases e;simp_all
             | some t=>
               cases f with
               |none=>exact n.elim| some D=>
                 simp only []at e;cases d:fe t p with
                 |none=>simp [d]at e| some A=>
                   simp only [d]at e;obtain⟨B,C⟩:=kM (P:=P) (code:=.slice3C) d n (zM _) w;simp_all
 | none=>
   cases mx' with
   |some _=>exact q.elim| none=>
     simp only [XT,cond_false]at e;cases j with
     | none=>
       cases f with
       |some _=>exact n.elim| none=>
         cases g with
         | none=>
           cases a with
           |some _=>exact k.elim|none=>simp only []at e;cases e;simp;omega
         | some u=>
           cases a with
           |none=>exact k.elim| some y=>
             simp only []at e;cases c:fe u cap with
             |none=>simp [c]at e| some p=>
               simp only [c]at e;obtain⟨s,z⟩:=kM (P:=P) (code:=(if b then .sliceAcap else .sliceAlen)) c k i w;cases e;simp [s];omega
     | some t=>
       cases f with
       |none=>exact n.elim| some D =>
         cases g with
         | none=>
           cases a with
           |some _=>exact k.elim| none=>
             simp only []at e;cases d:fe t len with
             |none=>simp [d]at e| some A=>
               simp only [d]at e;obtain⟨B,C⟩:=kM (P:=P) (code:=.sliceB) d n (zM _) w;simp_all
         | some u=>
           cases a with
           |none=>exact k.elim| some y=>
             simp only []at e;cases c:fe u cap with
             |none=>simp [c]at e| some p=>
               simp only [c]at e;obtain⟨s,z⟩:=kM (P:=P) (code:=(if b then .sliceAcap else .sliceAlen)) c k i w;cases d:fe t p with
               |none=>simp [d]at e| some A=>
                 simp only [d]at e;obtain⟨B,C⟩:=kM (P:=P) (code:=.sliceB) d n (zM _) w;simp_all
theorem qh(a:Addr)(n:Nat)(h:a.spot=none):a.add n=⟨a.block,a.off+n,none⟩:=by
 unfold Addr.add;by_cases b:n=0
 . subst b;cases a;grind
 . simp [b]
theorem qv{d:Addr}(h:fV mu a d)(n:Nat):fV mu (iR a n) (d.add n):=by
 unfold fV at*
 show match mu a.block with| .none=>False| .dead=>True| .blk c b _=>d.add n=⟨c,b+(a.off+n),none⟩
 cases e:mu a.block with
 |none=>grind|dead=>trivial| blk c b f=>rw [e]at h;simp only []at h⊢;subst h;rw [qh _ _ rfl,XA]
include ok
theorem E5{t:TypeId}{u i D z o:Option Value}(h:cZ E t x u i D=some v)(U:aC mu x x')(R:OR (aC mu) u z)(S:OR (aC mu) i o)(T:OR (aC mu) D mx')(w:World):
 ∃v',(Instr.sliceAt t x' z o mx').run P w=.ok v' w/\aC mu v v':=by
 unfold cZ at h;cases I:E.und t with
 |none=>simp [I]at h| some d =>
   simp only [I]at h;unfold Instr.sliceAt;simp only [Sem.run_bind,cd ok I,Result.andThen_ok];cases d<;>simp only []at h<;>try (cases h;done)
   case string=>
    unfold Instr.slice;simp only [Sem.run_bind,cd ok I,Result.andThen_ok];cases U<;>simp only []at h<;>try (cases h;done)
    rename_i s;cases D with
    |some _=>simp at h| none =>
      cases mx' with
      |some _=>exact T.elim| none=>
        simp only [XT,cond_false]at h;cases p:dQ s.size s.size u i none with
        |none=>simp [p]at h| some r=>
          obtain⟨l,A,m⟩:=r;simp only [p]at h;cases h;obtain⟨G,V,W,_,_⟩:=qy (P:=P) (b:=false) p R S (mu:=mu) (mx':=none) trivial (zM _) (zM _) w;have e:s.extract l A=iB (((aU s).drop l).take (A-l)):=(by apply ByteArray.ext;simp [iB,aU,ByteArray.data_extract];grind);refine⟨.string (s.extract l A),by simp [G],by rw [e];exact .string _⟩
   case slice e =>
    unfold Instr.slice;simp only [Sem.run_bind,cd ok I,Result.andThen_ok];cases U<;>simp only []at h<;>try (cases h;done)
    . cases p:dQ 0 0 u i D with
      |none=>simp [p]at h| some r=>
        obtain⟨l,A,m⟩:=r;simp only [p]at h;cases B:E.sz e with
        |none=>simp [B]at h| some k=>
          simp only [B]at h;cases h;obtain⟨G,V,W,r4,r5⟩:=qy (P:=P) (b:=true) p R S T (zM _) (zM _) w;have X:m=0:=(by omega);subst X;have:A=0:=(by omega);subst this;have:l=0:=(by omega);subst this;refine⟨.slice none 0 0,?_,.nils⟩;simp [G,fd ok B]
    . rename_i a H J Y j Z f;cases p:dQ J Y u i D with
      |none=>simp [p]at h| some r =>
        obtain⟨l,A,m⟩:=r;simp only [p]at h;cases B:E.sz e with
        |none=>simp [B]at h| some k=>
          simp only [B]at h;obtain⟨G,V,W,r4,r5⟩:=qy (P:=P) (b:=true) p R S T f.caps Z w;have af:m<=(if D.isSome then m else j):=(by have:=f.caps;grind);have K:(if D.isSome then m else j)<=j:=(by have:=f.caps;grind);generalize hM:(if D.isSome then m else j)=M at*
          have ad: ∀q,(Instr.sliceBounds true J j z o mx').run P w=.ok q w->q=(l,A,M):=(by grind);refine⟨.slice (if M=l then some H else(some H).map (·.add (l*k))) (A-l) (M-l),by simp [G,fd ok B],?_⟩;unfold fC at f;cases C:mu a.block with
          |none=>grind| dead=>
            have hv: ∃q,q.block=a.block/\v=.slice (some q) (A-l) (m-l):=by
             cases y:a.spot with
             |none=>simp only [y]at h;cases h;refine⟨_,?_,rfl⟩;cases zB m l<;>rfl
             | some L=>grind
            obtain⟨q,ai,rfl⟩:=hv;by_cases g:M=l
            . rw [if_pos g];exact .slice (by omega) (by grind[fC])
            . rw [if_neg g];exact .slice (by omega) (by grind[fC])
          | blk c N O=>
            rw [C]at f;cases y:a.spot with
            | none=>
              rw [y]at f;simp only []at f;obtain⟨rfl,rfl⟩:=f;have aa:M=m:=(by grind);subst aa;simp only [y]at h;cases h;rw [dJ];by_cases g:M=l
              . simp only [g,decide_true,cond_true,if_true];refine .slice (by omega) ?_;unfold fC;grind
              . simp only [g,decide_false,cond_false,if_false,Option.map_some];refine .slice (by omega) ?_;unfold fC;simp only [iR,C];exact⟨trivial,by rw [qh _ _ rfl,XA]⟩
            | some L=>
              rw [y]at f;simp only []at f;obtain⟨s1,s2,s3,s4,s5⟩:=f;simp only [y,dJ]at h;by_cases hk:L=k
              . subst hk;simp only [decide_true,cond_true]at h;cases h;have ac:H.off+M*L<=O:=(by have:=Xp L K;omega);by_cases g:M=l
                . have Q:m=l:=(by omega);simp only [g,Q,decide_true,cond_true,if_true];refine .slice (by omega) ?_;grind[fC]
                . simp only [g,if_false,Option.map_some];refine .slice (by omega) ?_;unfold fC;simp only [C];rw [qh _ _ s3];refine⟨by omega,s2,rfl,?_,?_⟩
                  . simp only [];rw [Nat.sub_mul];have:=Xp L (show l<=M by omega);omega
                  grind
              grind
   case array n e=>
    cases U<;>simp only []at h<;>try (cases h;done)
    rename_i a H F;cases p:dQ n n u i D with
    |none=>simp [p]at h| some r=>
      obtain⟨l,A,m⟩:=r;simp only [p]at h;cases B:E.sz e with
      |none=>simp [B]at h| some k=>
        simp only [B]at h;cases h;obtain⟨G,V,W,r4,r5⟩:=qy (P:=P) (b:=false) p R S T (zM _) (zM _) w;have em:(if D.isSome=true then m else n)=m:=(by grind);rw [em]at G;refine⟨.slice (some (if m=l then H else H.add (l*k))) (A-l) (m-l),by simp [Instr.sureAddr,G,fd ok B],?_⟩;rw [dJ];refine .slice (by omega) ?_;unfold fV at F;unfold fC;simp only [];cases C:mu a.block with
        |none=>grind|dead=>omega| blk c N O=>
          rw [C]at F;simp only []at F⊢;subst F;refine⟨trivial,?_⟩;by_cases g:m=l
          . simp [g]
          . simp only [g,if_false,decide_false,cond_false];rw [qh _ _ rfl,XA]
theorem Ad{s:TypeId}(h:aN E s x i=some v)(k:aC mu x x')(w:World):
 ∃v',(Instr.fieldAt s x' i).run P w=.ok v' w/\aC mu v v':=by
 unfold aN at h;cases c:E.und s with
 |none=>simp [c]at h| some d=>
   simp only [c]at h;cases d<;>simp only []at h<;>try (cases h;done)
   rename_i j;cases hf:j.toList[i]? with
   |none=>simp [hf]at h| some f=>
     simp only [hf]at h;have e:j[i]? =some f:=(by grind);cases b:E.sz f.type with
     |none=>simp [b]at h| some n=>
       cases n with
       |zero=>simp [b]at h| succ n=>
         simp only [b]at h;cases k<;>simp only []at h<;>try (cases h;done)
         rename_i a l g;cases h;refine⟨.pointer (some (l.add f.offset)),?_,.ptr (qv g _)⟩;unfold Instr.fieldAt;simp [cd ok c,e,Instr.sureAddr,fieldPlace,fd ok b]
theorem Er{t:TypeId}(h:bZ E t x i=some v)(g:aC mu x x')(w:World):
 ∃v',(Instr.field t x' i).run P w=.ok v' w/\aC mu v v':=by
 unfold bZ at h;cases a:E.und t with
 |none=>simp [a]at h| some d=>
   simp only [a]at h;cases d<;>simp only []at h<;>try (cases h;done)
   rename_i e;cases hf:e.toList[i]? with
   |none=>simp [hf]at h| some f=>
     simp only [hf]at h;have b:e[i]? =some f:=(by grind);cases g<;>simp only []at h<;>try (cases h;done)
     rename_i j c k l;obtain⟨v',m,n⟩:=pS ok h (⟨k,l⟩:VL mu j.toList c.toList) w;refine⟨v',?_,n⟩;unfold Instr.field;simp [cd ok a,b,asAgg,m]
omit ok in
theorem uD(h:i7 v len=some i)(b:aC mu v v'): ∃k,v'=.int k (i:Int)/\i<len:=by
 unfold i7 at h;cases b<;>simp only []at h<;>try (cases h;done)
 rename_i k n;cases a:gM n with
 |none=>simp [a]at h| some m=>
   have:=sJ a;subst this;simp only [a,jD]at h;by_cases c:m<len
   . simp_all
   grind
theorem As{t:TypeId}{o:Value}(h:gu E t x s=some v)(B:aC mu x x')(C:aC mu s o)(w:World):
 ∃v',(Instr.indexAt t x' o).run P w=.ok v' w/\aC mu v v':=by
 unfold gu at h;cases u:E.und t with
 |none=>simp [u]at h| some d=>
   simp only [u]at h;cases d<;>simp only []at h<;>try (cases h;done)
   case array n e=>
    cases B<;>simp only []at h<;>try (cases h;done)
    rename_i a l g;cases b:i7 s n with
    |none=>simp [b]at h| some i=>
      obtain⟨k,rfl,hlt⟩:=uD b C;simp only [b]at h;cases j:E.sz e with
      |none=>simp [j]at h| some m=>
        simp only [j]at h;cases h;refine⟨.pointer (some (l.add (i*m))),?_,.ptr (qv g _)⟩;have y:(0:Int)<=(i:Int)/\(i:Int)<(n:Int):=(by omega);unfold Instr.indexAt;simp [asIntOf,cd ok u,Instr.sureAddr,y,fd ok j];omega
   case slice e=>
    cases B<;>simp only []at h<;>try (cases h;done)
    rename_i a l p F D G f;cases b:i7 s p with
    |none=>simp [b]at h| some i =>
      obtain⟨k,rfl,hlt⟩:=uD b C;simp only [b]at h;cases j:E.sz e with
      |none=>simp [j]at h| some m=>
        simp only [j]at h;cases h;have g:fV mu a l:=by
         unfold fC at f;unfold fV;cases z:mu a.block with
         |none=>grind|dead=>trivial| blk c r H=>
           rw [z]at f;cases A:a.spot with
           |none=>grind| some q=>
             rw [A]at f;simp only []at f⊢;obtain⟨_,I,J,_,K⟩:=f;have:l.off=r+a.off:=(by omega);cases l;grind
        refine⟨.pointer (some (l.add (i*m))),?_,.ptr (qv g _)⟩;have y:(0:Int)<=(i:Int)/\(i:Int)<(p:Int):=(by omega);unfold Instr.indexAt;simp [asIntOf,cd ok u,y,fd ok j];omega
theorem E6{t:TypeId}{f c:Value}(h:kZ E t x f=some v)(p:aC mu x x')(q:aC mu f c)(w:World):
 ∃v',(Instr.index t x' c).run P w=.ok v' w/\aC mu v v':=by
 unfold kZ at h;cases g:E.und t with
 |none=>simp [g]at h| some d=>
   simp only [g]at h;cases d<;>simp only []at h<;>try (cases h;done)
   case array n e=>
    cases p<;>simp only []at h<;>try (cases h;done)
    rename_i y l r u;cases a:i7 f n with
    |none=>simp [a]at h| some i=>
      obtain⟨k,rfl,hlt⟩:=uD a q;simp only [a]at h;cases o:E.sz e with
      |none=>simp [o]at h| some m=>
        simp only [o]at h;obtain⟨v',z,A⟩:=pS ok h (⟨r,u⟩:VL mu y.toList l.toList) w;refine⟨v',?_,A⟩;have B:(0:Int)<=(i:Int)/\(i:Int)<(n:Int):=(by omega);unfold Instr.index;simp [asIntOf,cd ok g,fd ok o,z];omega
   case string=>
    cases p<;>simp only []at h<;>try (cases h;done)
    rename_i s;cases a:i7 f s.size with
    |none=>simp [a]at h| some i=>
      obtain⟨k,rfl,hlt⟩:=uD a q;simp only [a]at h;cases j:(aU s)[i]? with
      |none=>simp [j]at h| some b=>
        simp only [j]at h;cases h;refine⟨.int .u8 b.toNat,?_,.int _ _⟩;have e:s[i]? =some b:=(by have r:i<s.data.toList.length:=(List.getElem?_eq_some_iff.1 j).1;have u:=(List.getElem?_eq_some_iff.1 j).2;rw [getElem?_pos s i hlt];congr 1);unfold Instr.index;simp [asIntOf,cd ok g,e]
end
theorem foldl_set(off:Nat)(vs:List Value)(j:Nat)(a:Array Value):((vs.zipIdx j).foldl (fun cs (x:Value×Nat)=>cs.setIfInBounds (off+x.2) x.1) a).toList=bN a.toList (off+j) vs:=by
 induction vs generalizing j a with
 |nil=>simp [bN]| cons v vs b=>grind[List.zipIdx_cons,bN,Array.toList_setIfInBounds,XA]
theorem tP(l:List Value)(off:Nat)(vs:List Value):(bN l off vs).length=l.length:=by
 induction vs generalizing l off with
 |nil=>rfl|cons v vs a=>simp [bN,a]
theorem setL_rel(h:VL mu l l')(off:Nat){a:List Value}(k:VL mu vs a):VL mu (bN l off vs) (bN l' off a):=by
 induction vs generalizing l l' off a with
 |nil=>rw [k.nil_left];exact h| cons v vs b=>
   obtain⟨c,r,rfl,d,e⟩:=k.cons_left;grind[bN,LR.set]
abbrev PL(mu:Mu):=LR (fun(a b:Nat×Value)=>a.1=b.1/\aC mu a.2 b.2)
theorem we{c place':Nat->Option (Nat×Nat)}(u: ∀i r,c i=some r->place' i=some r){a:List Value}{cells':Array Value}{b d:List (Nat×Value)}{r:List Value}(h:my c a b=some r)(m:VL mu a cells'.toList)(hq:PL mu b d):
 ∃l,Instr.fill place' cells' d=some l/\VL mu r l.toList:=by
 induction b generalizing a cells' d with
 | nil=>
   rw [hq.nil_left];simp only [my]at h;cases h;exact⟨cells',rfl,m⟩
 | cons p b w=>
   obtain⟨y,q,rfl,z,A⟩:=hq.cons_left;obtain⟨i,v⟩:=p;obtain⟨H,n⟩:=y;obtain⟨rfl,B⟩:=z;simp only [my]at h;cases j:c i with
   |none=>simp [j]at h| some C=>
     obtain⟨g,f⟩:=C;simp only [j]at h;have o: ∀x,v≠ .chan x:=(by grind);have s:(bif zB (ae v).length f&&Xb (g+f) a.length then my c (bN a g (ae v)) b else none)=some r:=(by grind);rw [dJ,fH]at s;by_cases e:(ae v).length=f/\g+f<=a.length
     . simp only [e.1,e.2,decide_true,Xm,cond_true]at s;have k:VL mu (ae v) n.cells.toList:=B.cells o;have t:n.cells.size=f:=(by rw [<-e.1];exact k.1.symm);have D:a.length=cells'.size:=m.1;have E:=e.2;obtain⟨l,I,F⟩:=w (cells':=n.cells.zipIdx.foldl (fun G (x:Value×Nat)=>G.setIfInBounds (g+x.2) x.1) cells') s (by
        rw [<-XU,Array.toList_zipIdx,foldl_set];exact setL_rel m _ k) A
       refine⟨l,?_,F⟩;simp only [Instr.fill,u i _ j];grind
     grind
section
variable{E:Env}{P:Program}(ok:EOk E P)
theorem unP_run{op:UnOp}(h:unP op x=some v)(b:aC mu x x')(w:World):(Op.unary op x').run P w=.ok v w/\aC mu v v:=by
 unfold unP at h;cases op<;>cases b<;>simp only []at h<;>try (cases h;done)
 . cases h;refine⟨?_,.int _ _⟩;rw [jI];rfl
 . rename_i k n;cases a:sgn k with
   |true=>simp [a]at h| false=>
     simp only [a,cond_false]at h;obtain⟨z,c,rfl⟩:=Option.map_eq_some_iff.1 h;refine⟨?_,.int _ _⟩;have d:k.signed=false:=(by rw [<-sgn_eq];exact a);have e:k.max=Xj (pw k-1):=(by cases k<;>first|rfl|(simp [sgn]at a));grind[sP,Op.unary]
 . cases h;exact⟨rfl,.bool _⟩
include ok
theorem E2{t:TypeId}{b c:List (Nat×Value)}(h:nR E t b=some v)(hq:PL mu b c)(w:World):
 ∃v',(Instr.build t c.toArray).run P w=.ok v' w/\aC mu v v':=by
 unfold nR at h;cases q:E.zero t with
 |none=>simp [q]at h| some z =>
   simp only [q]at h;obtain⟨C,D,H,I,J⟩:=pX ok q w;have j:VL mu z C.cells.toList:=(by grind[LR.refl,aC.const,Xe]);cases s:E.und t with
   |none=>simp [s]at h| some d =>
     simp only [s]at h;unfold Instr.build;simp only [Sem.run_bind,D,Result.andThen_ok,cd ok s];cases d<;>simp only []at h<;>try (cases h;done)
     case struct p=>
      cases a:qf E p.toList with
      |none=>simp [a]at h| some m =>
        have A:(p.mapM (fun f=>do let n<-sizeOf f.type;pure (f.offset,n)):Sem _).run P w=.ok m.toArray w:=by
         rw [XC];simp only [Sem.run_map];have : (p.toList.mapM (fun f=>do let n<-sizeOf f.type;pure (f.offset,n)):Sem _).run P w=.ok m w:=by
          revert a;generalize p.toList=l;intro a
          induction l generalizing m with
          |nil=>simp_all[qf]| cons f l F=>
            simp only [qf]at a;cases g:E.sz f.type with
            |none=>simp [g]at a| some n=>
              simp only [g]at a;cases u:qf E l with
              |none=>simp [u]at a| some r=>
                simp only [u]at a;cases a;simp only [List.mapM_cons,Sem.run_bind,fd ok g,Result.andThen_ok,Sem.run_pure,F r u]
         simp_all
        simp only [a]at h;cases hf:my (fun i=>m[i]?) z b with
        |none=>grind| some G=>
          simp only [hf]at h;cases h;obtain⟨x,B,o⟩:=we (place':=fun i=>m.toArray[i]?) (fun i r y=>by simpa using y) hf j hq;refine⟨.agg x,?_,.agg o.1 o.2⟩;simp_all
     case array n e=>
      cases g:E.sz e with
      |none=>simp [g]at h| some k=>
        simp only [g]at h;cases hf:my (fun i=>some (i*k,k)) z b with
        |none=>grind| some G=>
          simp only [hf]at h;cases h;obtain⟨x,B,o⟩:=we (place':=fun i=>some (i*k,k)) (fun i r y=>y) hf j hq;refine⟨.agg x,?_,.agg o.1 o.2⟩;simp only [Sem.run_bind,fd ok g,Result.andThen_ok,B];rfl
theorem convP_run{c b:TypeId}{d:TypeDesc}(g:E.und c=some d)(j: ∀e,d≠ .slice e)(h:a9 E b x=some v)(i:aC mu x x')(w:World):(convert c b x').run P w=.ok v w/\aC mu v v:=by
 unfold a9 at h;cases i<;>simp only []at h<;>try (cases h;done)
 . rename_i k n;cases a:E.und b with
   |none=>simp [a]at h| some f=>
     simp only [a]at h;cases f<;>simp only []at h<;>try (cases h;done)
     rename_i l;cases h;refine⟨?_,.int _ _⟩;unfold convert;simp only [Sem.run_bind,cd ok g,cd ok a,Result.andThen_ok];rw [jI];rfl
 . rename_i s;cases a:E.und b with
   |none=>simp [a]at h| some f=>
     simp only [a]at h;cases f<;>simp only []at h<;>try (cases h;done)
     cases h;refine⟨?_,.string _⟩;unfold convert;simp only [Sem.run_bind,cd ok g,cd ok a,Result.andThen_ok];rfl
theorem lenP_run{t ty:TypeId}{ts:Array TypeId}(c:ts.toList.head?=some t)(f:xs.toList.head?=some x')(h:lenP E t x=some v)(a:aC mu x x')(w:World):(Builtin.len_ ts ty xs).run P w=.ok v w/\aC mu v v:=by
 have g:ts[0]? =some t:=by rw [<-zO];simpa [XJ]using c
 have i:xs[0]? =some x':=by grind[XJ]
 unfold Builtin.len_;simp only [g,i];unfold lenP at h;cases b:E.und t with
 |none=>simp [b]at h| some d=>
   simp only [b]at h;simp only [Sem.run_bind,cd ok b,Result.andThen_ok];cases d<;>simp only []at h<;>try (cases h;done)
   case string => cases a<;>simp only []at h<;>try (cases h;done)
                  cases h;exact⟨rfl,.int _ _⟩
   case array n e=>cases h;exact⟨rfl,.int _ _⟩
   case slice e => cases a<;>simp only []at h<;>try (cases h;done)
                   all_goals (cases h;exact⟨rfl,.int _ _⟩)
   case map k e => cases a<;>simp only []at h<;>try (cases h;done)
                   cases h;exact⟨rfl,.int _ _⟩
omit ok in
theorem yU(c:Bool)(h:iY c x l=some v)(e:aC mu x x')(d:VL mu l l')(n: ∀y,x≠ .chan y)(w:World):
 ∃v',(l'.foldlM (if c then Builtin.max2 else Builtin.min2) x').run P w=.ok v' w/\aC mu v v':=by
 induction l generalizing x x' l' with
 | nil=>rw [d.nil_left];simp_all[iY]| cons y l f=>
   obtain⟨o,r,rfl,g,i⟩:=d.cons_left;cases e<;>simp only [iY]at h<;>try (cases h;done)
   cases g<;>simp only []at h<;>try (cases h;done)
   rename_i k a j b;obtain⟨v',p,m⟩:=f h (.int _ _) i (by grind);refine⟨v',?_,m⟩;simp only [List.foldlM_cons,Sem.run_bind];have:((if c then Builtin.max2 else Builtin.min2) (.int k a) (.int j b)).run P w=.ok (.int k (bif c then(bif pz a b then b else a)else(bif pz b a then b else a))) w:=by
    cases c
    . simp_all[Xd,if_false,Builtin.min2,cond_false,jE,Sem.run_pure]
    simp_all[if_true,Builtin.max2,cond_true,jE,Sem.run_pure]
   simp_all
theorem Eo{s t:TypeId}{q:Bool}(h:rX E x t q=some v)(i:aC mu x x')(w:World):
 ∃v',(Instr.typeAssert x' s t q).run P w=.ok v' w/\aC mu v v':=by
 unfold rX at h;cases g:E.und t with
 |none=>simp [g]at h| some d=>
   simp only [g]at h;have n: ∀j,d≠ .interface j:=(by grind);have k: ∀{z y:Value},aC mu z y-> ∀b,aC mu (.tuple #[z,.bool b]) (.tuple #[y,.bool b]):=(by intro z y e b;have:VL mu [z,.bool b] [y,.bool b]:=LR.cons e (LR.cons (.bool b) LR.nil);exact .tuple this.1 this.2);unfold Instr.typeAssert;simp only [Sem.run_bind,cd ok g,Result.andThen_ok];have c:xF E x t q=some v:=(by grind);clear h;unfold xF at c;cases i<;>simp only []at c<;>try (cases c;done)
   . cases q with
     |false=>simp at c| true=>
       simp only [cond_true]at c;obtain⟨z,e,rfl⟩:=Option.map_eq_some_iff.1 c;obtain⟨l,m⟩:=s8 ok e w mu;simp_all
   . rename_i u a o p;rw [dJ]at c;by_cases f:u=t
     . subst f;simp only [decide_true,cond_true]at c;cases c;cases q with
       |false=>simp_all|true=>simp_all
     . simp only [f,decide_false,cond_false]at c;cases q with
       |false=>simp at c| true=>
         simp only [cond_true]at c;obtain⟨z,e,rfl⟩:=Option.map_eq_some_iff.1 c;obtain⟨l,m⟩:=s8 ok e w mu;simp_all
end
section
variable{E:Env}{P:Program}(ok:EOk E P)
include ok
theorem pop_run{g:Operand->Value}(f: ∀x,aC mu (ρ x) (g x)){o:Oper}(h:pop E ρ o.op=some v)(w:World):
 ∃v',(execOp g o).run P w=.ok (.value v') w/\aC mu v v':=by
 have D: ∀l:List Operand,VL mu (l.map ρ) (l.map g):=fun l=>LR.mapSame l f;unfold execOp;obtain⟨V,op,G,pos,L,guard⟩:=o;simp only []at h⊢;cases op<;>simp only [pop]at h<;>try (cases h;done)
 case move x=>cases h;simp_all
 case assign x=>cases h;simp_all
 case pick c a b=>
  have z:=f c;cases H:ρ c<;>rw [H]at h z<;>(try simp only []at h)<;>try (cases h;done)
  rename_i t;cases r:g c<;>rw [r]at z<;>cases z;cases h;cases t
  . simp_all[asBool]
  simp_all[asBool]
 case nilCheck x=>
  have z:=f x;cases H:ρ x<;>rw [H]at h z<;>(try simp only []at h)<;>try (cases h;done)
  . rename_i a;cases a with
    |none=>simp at h| some a=>
      cases h;cases r:g x<;>rw [r]at z<;>cases z;rename_i W C;exact⟨.pointer (some W),by simp_all,.ptr C⟩
  . rename_i M a b;cases M<;>(try simp only []at h)<;>try (cases h;done)
    cases h;cases r:g x<;>rw [r]at z<;>cases z;rename_i A B S X;exact⟨_,by simp_all,.fn A B S X⟩
 case binOp op t x y u=>
  obtain⟨A,B,S⟩:=binP_run ok h (f x) (f y) w;simp_all
 case unOp op t x=>
  obtain⟨A,B⟩:=unP_run (P:=P) h (f x) w;simp_all
 case makeInterface t x=>
  cases N:E.und t with
  |none=>simp [N]at h| some d=>
    simp only [N]at h;cases d<;>(try simp only []at h)<;>try (cases h;done)
    all_goals (cases h;exact⟨.iface t (g x),by simp [Instr.makeInterface,cd ok N],.iface (f x)⟩)
 case makeFunc M a b=>
  cases M<;>(try simp only []at h)<;>try (cases h;done)
  cases h;refine⟨_,rfl,.fn (by simp) ?_ (by simp) ?_⟩
  . grind
  grind
 case slice t x l Y m=>
  obtain⟨v',A,B⟩:=E5 ok h (f x) (OR.map f l) (OR.map f Y) (OR.map f m) w;simp_all
 case fieldAddr t x i=>
  obtain⟨v',A,B⟩:=Ad ok h (f x) w;simp_all
 case field t x i=>
  obtain⟨v',A,B⟩:=Er ok h (f x) w;simp_all
 case indexAddr t x i=>
  obtain⟨v',A,B⟩:=As ok h (f x) (f i) w;simp_all
 case index t x i=>
  obtain⟨v',A,B⟩:=E6 ok h (f x) (f i) w;simp_all
 case extract t i=>
  have z:=f t;cases H:ρ t<;>rw [H]at h z<;>(try simp only []at h)<;>try (cases h;done)
  cases r:g t<;>rw [r]at z<;>cases z;rename_i Z O A B;obtain⟨v',T,U⟩:=LR.get (⟨A,B⟩:VL mu Z.toList O.toList) h;simp_all[zO,Instr.extract]
 case build t n=>
  have hq:PL mu (n.toList.map fun p=>(p.1,ρ p.2)) (n.toList.map fun p=>(p.1,g p.2)):=LR.mapSame _ fun p=>⟨rfl,f p.2⟩;obtain⟨v',A,B⟩:=E2 ok h hq w;have e:(n.map fun(x:Nat×Operand)=>(x.1,g x.2))=(n.toList.map fun p=>(p.1,g p.2)).toArray:=by apply XD;simp
  simp_all
 case typeAssert x s t q=>
  obtain⟨v',A,B⟩:=Eo ok (s:=s) h (f x) w;simp_all
 case call c=>
  obtain⟨F,j,k⟩:=c;simp only []at h;cases F<;>(try simp only []at h)<;>try (cases h;done)
  rename_i b;cases b<;>(try simp only []at h)<;>try (cases h;done)
  case len=>
   cases Q:k.toList with
   |nil=>simp [Q]at h| cons t ts=>
     cases C:j.toList with
     |nil=>grind| cons x xs=>
       simp only [Q,C]at h;obtain⟨A,B⟩:=lenP_run ok (ts:=k) (ty:=G) (xs:=j.map g) (by rw [Q];rfl) (by simp [C]) h (f x) w;simp_all[resolve,invoke,builtin]
  case min=>
   cases C:j.toList.map ρ with
   |nil=>simp [C]at h| cons x l=>
     simp only [C]at h;have I:=D j.toList;rw [C]at I;obtain⟨R,l',J,K,e3⟩:=I.cons_left;cases l with
     | nil=>
       simp only [iY]at h;cases h;rw [e3.nil_left]at J;exact⟨R,by simp [resolve,invoke,builtin,Builtin.min_,J],K⟩
     | cons y l=>
       obtain⟨v',T,U⟩:=yU (P:=P) false h K e3 (by intro c e;subst e;simp [iY]at h) w;simp_all[Xd,if_false,resolve,invoke,builtin,Builtin.min_]
  case max=>
   cases C:j.toList.map ρ with
   |nil=>simp [C]at h| cons x l=>
     simp only [C]at h;have I:=D j.toList;rw [C]at I;obtain⟨R,l',J,K,e3⟩:=I.cons_left;cases l with
     | nil=>
       simp only [iY]at h;cases h;rw [e3.nil_left]at J;exact⟨R,by simp [resolve,invoke,builtin,Builtin.max_,J],K⟩
     | cons y l=>
       obtain⟨v',T,U⟩:=yU (P:=P) true h K e3 (by intro c e;subst e;simp [iY]at h) w;simp_all[if_true,resolve,invoke,builtin,Builtin.max_]
end
theorem B8(l:List Value)(off:Nat)(vs:List Value)(i:Nat)(h:off+vs.length<=l.length):(bN l off vs)[i]? =if off<=i/\i<off+vs.length then vs[i-off]? else l[i]? :=by
 induction vs generalizing l off with
 |nil=>simp_all[bN,List.length_nil,if_neg]| cons v vs a=>simp only [bN,Xk]at h⊢;grind
theorem setCells_at(c:Nat)(vs:List Value): ∀(o:Nat) (w:World) (cs:Array Value) (el:TypeId) (b:Nat×Nat),w.heap[c]? =some (.cells cs el b)->
 ∃a,WSet w (w.setCells c o vs) c (.cells a el b)/\a.toList=bN cs.toList o vs:=by
 induction vs with
 |nil=>intro o w cs el b h;exact⟨cs,⟨rfl,h,fun _ _=>rfl,rfl,rfl,rfl⟩,rfl⟩
 | cons v vs e=>
   intro o w cs el b h;have f:(w.setCell ⟨c,o,none⟩ v).heap[c]? =some (.cells (cs.setIfInBounds o v) el b):=(by simp [World.setCell,XO,h]);obtain⟨a,d,g⟩:=e (o+1) (w.setCell ⟨c,o,none⟩ v) _ el b f;refine⟨a,⟨?_,d.at_,?_,d.os,d.tape,d.output⟩,?_⟩
   . show((w.setCell ⟨c,o,none⟩ v).setCells c (o+1) vs).heap.size=_;rw [d.size];simp_all
   . intro j i;show((w.setCell ⟨c,o,none⟩ v).setCells c (o+1) vs).heap[j]? =_;rw [d.other j i];simp_all[World.setCell,XO,if_neg,Ne.symm]
   . rw [g];simp [bN]
section
variable{E:Env}{P:Program}
theorem ptr_at{h:Hp}(e:bE mu h w)(b:fV mu a f){x:Blk}(g:h.get a.block=some x)(i:x≠ .dead):
 ∃c base top o,mu a.block=.blk c base top/\f=⟨c,base+a.off,none⟩/\w.heap[c]? =some o/\oz mu x base top o:=by
 unfold fV at b;cases d:mu a.block with
 |none=>grind|dead=>have:=e.dead _ d;grind| blk c base top=>
   rw [d]at b;obtain⟨y,o,j,k,l⟩:=e.blk _ c base top d;grind
theorem xY{h:Hp}(z:bE mu h w){q:Addr}(g:fV mu a q)(b:h.load a.block a.off n=some l):l.length=n/\ ∃l',VL mu l l'/\(∀(j:Nat) v',l'[j]? =some v'->w.cell? (q.add j)=some v'):=by
 unfold Hp.load at b;cases k:h.get a.block with
 |none=>simp [k]at b| some x=>
   simp only [k]at b;cases x<;>simp only []at b<;>try (cases b;done)
   rename_i t r J K;obtain⟨c,f,A,o,L,rfl,M,B⟩:=ptr_at z g k (by intro e;cases e);obtain⟨C,D,N,rfl,m⟩:=B;rw [fH]at b;by_cases F:a.off+n<=r
   . simp only [F,decide_true,cond_true]at b;obtain⟨s,G⟩:=Tr.slice_spec b;refine⟨s,(Xf n).map (fun j=>C.getD (f+(a.off+j)) default),?_,?_⟩
     . refine⟨by simp [s],fun i v v' p d=>?_⟩;have H:i<n:=(by grind);have:=G i H;rw [p]at this;obtain⟨u,y,O⟩:=m.get _ _ this;simp_all
     . intro j v' d;have I:j<n:=(by grind);simp [I]at d;obtain⟨v,p⟩:=Tr.get_some m.sized (show a.off+j<r by omega);obtain⟨u,y,_⟩:=m.get _ _ p;rw [y]at d;rw [qh _ _ rfl];grind[World.cell?]
   grind
theorem tD{h h':Hp}(G:bE mu h w){H:Addr}(z:fV mu a H)(d:h.store a.block a.off l=some h')(A:VL mu l l'):
 ∃w',(storeCells H l').run P w=.ok () w'/\bE mu h' w'/\Ext mu h w mu h' w':=by
 unfold Hp.store at d;cases B:h.get a.block with
 |none=>simp [B]at d| some x =>
   simp only [B]at d;cases x<;>simp only []at d<;>try (cases d;done)
   rename_i t M W N;obtain⟨c,b,O,o,Q,rfl,I,R⟩:=ptr_at G z B (by intro e;cases e);obtain⟨C,p,J,rfl,g⟩:=R;rw [fH,dJ]at d;by_cases S:a.off+l.length<=M/\N≠0/\l.all jx=true
   . obtain⟨q,k,D⟩:=S;simp only [q,k,D,decide_true,decide_false,Xw,Xm,cond_true]at d;cases d;have K:=A.1;have m:=g.fits;have y:=g.whole;obtain⟨r,T,U⟩:=setCells_at c l' (b+a.off) w C p J I;have s: ∀v∈l',v.oneCell'=true:=(by intro v n;obtain⟨i,L⟩:=List.mem_iff_getElem?.1 n;have F:i<l.length:=(by grind);have:=A.2 i _ v (Xc F) L;refine this.flat ?_;grind);have f:=run_storeCells_cells (P:=P) c (b+a.off) l' 0 w (fun j V=>by
      grind[World.cell?]) (fun j V=>by
      simp only [World.frozen?,I];have:=g.free k (b+a.off+0+j) (by omega);grind) s
     rw [Nat.add_zero]at f;refine⟨_,f,?_⟩;refine yg G Q ?_ T ?_
     . grind
     . refine⟨r,p,J,rfl,?_,m,Tr.sized_setAll _ _ g.sized,?_,?_⟩
       . grind[tP]
       . intro i v n;rw [Tr.get_setAll _ _ _ _ g.sized q]at n;rw [<-zO,U,B8 _ _ _ _ (show b+a.off+l'.length<=C.toList.length by grind)];by_cases u:a.off<=i/\i<a.off+l.length
         . rw [if_pos u]at n;rw [if_pos (by omega),show b+i-(b+a.off)=i-a.off by omega];exact A.get n
         . rw [if_neg u]at n;rw [if_neg (by omega),zO];exact g.get _ _ n
       . intro _ i L;have:r.size=C.size:=(by grind[tP]);exact g.free k i (by omega)
   grind
theorem rR{h:Hp}(d:bE mu h w){l':Array Value}{el a:TypeId}(b:VL mu l l'.toList)(e:WNew w w' (.cells l' a))(f:t.Sized l.length)(g: ∀i,t.get i=l[i]?):bE (upd mu h.n (.blk w.heap.size 0 l'.size)) (h.new (.cells t l.length el 1)) w'/\Ext mu h w (upd mu h.n (.blk w.heap.size 0 l'.size)) (h.new (.cells t l.length el 1)) w':=by
 refine pR d e ⟨l',a,(0,0),rfl,rfl,?_,f,?_,?_⟩
 . have:=b.1;grind
 . intro i v c;rw [g]at c;obtain⟨j,k,m⟩:=b.get c;grind
 omega
theorem zZ(mu:Mu)(b c base top:Nat):fV (upd mu b (.blk c base top)) ⟨b,0,none⟩ ⟨c,base,none⟩:=by unfold fV;rw [upd_same];simp
end
section
variable{E:Env}{P:Program}(ok:EOk E P)
theorem tS : ∀(l m:List Value) {r:Bool},ep l m=some r->(∀v∈l,qG v=true)/\(∀v∈m,qG v=true)/\l.length=m.length/\(r=true↔l=m):=by
 intro l
 induction l with
 | nil=>grind[ep]| cons a l e=>
   intro m r h;cases m with
   |nil=>cases a<;>simp [ep]at h
   | cons b m=>
     cases a<;>(try (simp [ep]at h;done));cases b<;>(try (simp [ep]at h;done));rename_i k x f y;simp only [ep,jf]at h;by_cases g:k=f
     . subst g;simp only [decide_true,cond_true]at h;cases d:ep l m with
       |none=>simp [d]at h| some q=>
         rw [d]at h;simp only []at h;obtain⟨i,j,n,o⟩:=e m d;refine⟨fun v c=>?_,fun v c=>?_,by simp [n],?_⟩
         . rcases List.mem_cons.1 c with rfl|c
           . rfl
           . exact i v c
         . rcases List.mem_cons.1 c with rfl|c
           . rfl
           . exact j v c
         grind[jh]
     grind
theorem DK: ∀(l m:List Value) {r:Bool},ep l m=some r->ep m l=some r:=by
 intro l
 induction l with
 | nil=>grind[ep]| cons a l e=>
   intro m r h;cases m with
   |nil=>cases a<;>simp [ep]at h
   | cons b m=>
     cases a<;>(try (simp [ep]at h;done));cases b<;>(try (simp [ep]at h;done));rename_i k x c y;simp only [ep,jf]at h⊢;by_cases d:k=c
     . subst d;simp only [decide_true,cond_true]at h⊢;grind[ep,jh,Bool.beq_comm]
     grind
theorem sameBits_self(h:qG v=true)(n:Nat):Instr.sameBits n v v=true:=by cases v<;>simp only [qG]at h<;>(try (cases h;done));cases n<;>simp [Instr.sameBits]
theorem sT{a b:Value}(h:dL a b=some true): ∀n,Instr.sameBits (n+1) a b=true:=by
 intro n;unfold dL at h;cases a<;>(try (simp at h;done))<;>cases b<;>(try (simp at h;done))
 . rename_i x y;cases x<;>cases y<;>simp at h<;>rfl
 . grind[jf,jh,Instr.sameBits]
 . rename_i s u;simp only []at h;rw [kV]at h;simp at h;have:s=u:=(by cases s;cases u;simp [aU]at h;simp [h]);subst this;have d:(s==s)=true:=(by show(s.data==s.data)=true;simp);simp [Instr.sameBits,d]
 . rename_i x y;simp only []at h;obtain⟨f,_,_,i⟩:=tS _ _ h;have e:x=y:=(by simp_all);subst e;simp only [Instr.sameBits,beq_self_eq_true,Bool.true_and,Xe];have: ∀(l:List Value),(∀v∈l,qG v=true)-> ∀p∈l.zip l,Instr.sameBits n p.1 p.2=true:=by
    intro l
    induction l with
    |nil=>simp_all| cons v l j=>
      intro g p c;rw [List.zip_cons_cons]at c;rcases List.mem_cons.1 c with rfl|c
      . exact sameBits_self (g v (by simp)) n
      grind
   exact this _ f
theorem zz{a b:Value}(t:Bool)(h:dL a b=some t):dL b a=some t:=by
 unfold dL at*
 grind[jf,jh,Bool.beq_comm,kV,DK]
def ja:TypeDesc->Bool
 | .array _ _=>true|_=>false
theorem uX{kt:TypeId}{d:TypeDesc}{t:Bool}(c:ja d=false)(e:E.und kt=some d)(hf:cG E kt k=true)(h:dL k k'=some t):Instr.sameNow d k k'=some t:=by
 unfold cG at hf;simp only [e]at hf;unfold dL at h;cases d<;>simp only []at hf<;>try (cases hf;done)
 . cases k<;>simp only []at hf<;>try (cases hf;done)
   cases k'<;>simp only []at h<;>try (cases h;done)
   rename_i a b;cases h;cases a<;>cases b<;>rfl
 . grind[hf,jf,jh,Instr.sameNow]
 . cases k<;>simp only []at hf<;>try (cases hf;done)
   cases k'<;>simp only []at h<;>try (cases h;done)
   rename_i a b;rw [kV]at h;cases h;simp only [Instr.sameNow];congr 1;rw [show(a==b)=(a.data==b.data)from rfl,<-Array.beq_toList];rfl
 . cases c
theorem pL{kt e:TypeId}(g:E.und kt=some (.array n e))(hf:cG E kt k=true): ∃(cs:Array Value) (kd:IntKind),k=.agg cs/\E.agg e=some false/\E.sz e=some 1/\cs.toList.length=n/\E.und e=some (.int kd)/\ ∀v∈cs.toList,∃x,v=.int kd x:=by
 unfold cG at hf;simp only [g]at hf;cases k<;>simp only []at hf<;>try (cases hf;done)
 rename_i cs;cases a:E.agg e with
 |none=>simp [a]at hf| some b=>
   cases b with
   |true=>simp [a]at hf| false =>
     cases h:E.sz e with
     |none=>grind| some s=>
       cases i:E.und e with
       |none=>grind| some d=>
         rw [a,h,i]at hf;cases d<;>simp only []at hf<;>try (cases hf;done)
         rename_i kd;simp only [dJ]at hf;by_cases c:s=1
         . by_cases f:cs.toList.length=n
           . simp only [c,f,decide_true,cond_true,Xe]at hf;refine⟨cs,kd,rfl,rfl,by rw [c],f,rfl,fun v j=>?_⟩;have:=hf v j;cases v<;>simp only [isKd]at this<;>try (cases this;done)
             rename_i l x;rw [jf]at this;grind
           grind
         grind
theorem fits_ok{kt:TypeId}(hf:cG E kt k=true):xa k=true:=by
 cases a:E.und kt with
 |none=>unfold cG at hf;simp [a]at hf| some d=>
   cases b:ja d with
   | true=>
     cases d<;>simp only [ja]at b<;>try (cases b;done)
     obtain⟨e,f,rfl,_,_,_,_,c⟩:=pL a hf;simp only [xa,Xe];intro v h;obtain⟨x,rfl⟩:=c v h;rfl
   | false=>
     unfold cG at hf;simp only [a]at hf;cases d<;>simp only []at hf<;>(try (cases hf;done))<;>(try (cases b;done))<;>(cases k<;>simp only []at hf<;>(try (cases hf;done))<;>rfl)
include ok in
theorem ku{kt:TypeId}(hf:cG E kt k=true)(b:Bool)(w:World):(Instr.checkKey b 10000 kt k).run P w=.ok () w:=by
 cases f:E.und kt with
 |none=>unfold cG at hf;simp [f]at hf| some d=>
   show((Instr.checkKey b (9998+1+1) kt k)).run P w=_;cases h:ja d with
   | true=>
     cases d<;>simp only [ja]at h<;>try (cases h;done)
     rename_i n e;obtain⟨a,A,rfl,o,l,B,p,q⟩:=pL f hf;unfold Instr.checkKey;simp only [Sem.run_bind,cd ok f,Result.andThen_ok,fd ok l];have g: ∀i,i<n-> ∃v,(part e a (i*1)).run P w=.ok v w/\(Instr.checkKey b (9998+1) e v).run P w=.ok () w:=by
      intro i r;have hlt:i<a.toList.length:=(by omega);obtain⟨x,t⟩:=q _ (XH hlt);refine⟨a.toList[i],?_,?_⟩
      . unfold part;have:a[i]? =some a.toList[i]:=(by grind);rw [XX];simp only [Sem.run_bind,wY ok o,Result.andThen_ok];simp_all
      . rw [t];unfold Instr.checkKey;simp only [Sem.run_bind,cd ok p,Result.andThen_ok];rfl
     have u: ∀(m i:Nat),i+m<=n->(forIn (Xx i m) PUnit.unit (fun i _=>do
      let s<-sizeOf e
      let c<-part e a (i*s)
      Instr.checkKey b (9998+1) e c
      pure (ForInStep.yield PUnit.unit)):Sem PUnit).run P w=.ok PUnit.unit w:=by
      intro m
      induction m with
      |zero=>intro i _;simp| succ m j=>
        intro i r;obtain⟨v,y,z⟩:=g i (by omega);simp only [XG,Xu,Sem.run_bind,fd ok l,y,z,Result.andThen_ok];simpa using j (i+1) (by omega)
     simp_all
   | false=>
     unfold cG at hf;simp only [f]at hf;unfold Instr.checkKey;simp only [Sem.run_bind,cd ok f,Result.andThen_ok];cases d<;>simp only []at hf<;>(try (cases hf;done))<;>(try (cases h;done))
     all_goals rfl
theorem elems_arr{e:TypeId}{kd:IntKind}(g:E.agg e=some false)(w:E.und e=some (.int kd)): ∀(l m:List Value) {r:Bool},ep l m=some r->(∀v∈l,∃x,v=.int kd x)-> ∀(p q:List Value),p.length=q.length->qg E (fo E 39) e 1 (p++l) (q++m) l.length p.length=some r:=by
 intro l
 induction l with
 | nil=>
   intro m r h _ p q _;cases m with
   |nil=>simp only [ep]at h;cases h;rfl
   |cons b m=>simp [ep]at h
 | cons a l j=>
   intro m r h i p q c;obtain⟨x,rfl⟩:=i a (by simp);cases m with
   |nil=>simp [ep]at h| cons b m=>
     cases b<;>(try (simp [ep]at h;done));rename_i d y;simp only [ep]at h;have k:partOf E e (p++ .int kd x::l) (p.length*1)=some (.int kd x):=(by unfold partOf;rw [g];simp);have n:partOf E e (q++ .int d y::m) (p.length*1)=some (.int d y):=(by unfold partOf;rw [g,c];simp);cases o:kr kd d with
     |false=>grind| true=>
       rw [o]at h;simp only [cond_true]at h;have s:fo E 39 e (.int kd x) (.int d y)=some (iW x y):=(by show fo E (38+1) e _ _=_;unfold fo;grind);cases f:ep l m with
       |none=>simp [f]at h| some z=>
         rw [f]at h;simp only []at h;simp only [Xk,qg,k,n,s];cases t:iW x y with
         |false=>grind| true=>
           rw [t]at h;simp only [cond_true]at h;simp only [];cases h;have:=j m f (fun v u=>i v (by simp [u])) (p++[.int kd x]) (q++[.int d y]) (by simp [c]);simpa using this
theorem aC.ints(mu:Mu)(h: ∀v∈cs.toList,qG v=true):aC mu (.agg cs) (.agg cs):=by
 refine .agg rfl fun i v c b a=>?_;rw [b]at a;cases a;have:=h v (XR b);cases v<;>simp only [qG]at this<;>try (cases this;done)
 exact .int _ _
include ok in
theorem AG{kt e:TypeId}{t:Bool}(mu:Mu)(c:E.und kt=some (.array n e))(hf:cG E kt k=true)(h:dL k k'=some t)(w:World):(Op.equal kt k k').run P w=.ok t w:=by
 obtain⟨a,o,rfl,d,f,p,g,i⟩:=pL c hf;unfold dL at h;cases k'<;>simp only []at h<;>try (cases h;done)
 rename_i b;obtain⟨j,l,_,_⟩:=tS _ _ h;have m:fo E 40 kt (.agg a) (.agg b)=some t:=by show fo E (39+1) kt (.agg a) (.agg b)=some t;unfold fo;simp only [c,f];have:=elems_arr d g a.toList b.toList h i [] [] rfl;grind
 exact CC ok 40 Op.maxDepth (by decide) m (aC.ints mu j) (aC.ints mu l) w
theorem CS{kt:TypeId}{d:TypeDesc}(m:ja d=false)(o:E.und kt=some d)(hf:cG E kt k=true){f:List (Value×Value×Nat)}{c:List MapEntry}(j:oa mu f c)(h:dA k f=some none)(i:Nat):Instr.findNow d k c i=some none:=by
 induction f generalizing c i with
 |nil=>rw [j.nil_left];rfl| cons e f p=>
   obtain⟨s,r,rfl,l,q⟩:=LR.cons_left j;obtain⟨a,b,n⟩:=e;simp only [dA]at h;cases g:dL k a with
   |none=>simp [g]at h| some t=>
     cases t with
     |true=>simp [g]at h| false=>simp only [g]at h;have:=uX m o hf g;simp only []at l;simp only [Instr.findNow,l.1,this];exact p q h _
include ok in
theorem Cr{kt e:TypeId}(l:E.und kt=some (.array n e))(hf:cG E kt k=true){d:List (Value×Value×Nat)}{c:List MapEntry}(g:oa mu d c)(h:dA k d=some none)(i:Nat)(w:World):(Instr.findAsking kt k c i).run P w=.ok none w:=by
 induction d generalizing c i with
 |nil=>rw [g.nil_left];rfl| cons x d o=>
   obtain⟨s,r,rfl,j,p⟩:=LR.cons_left g;obtain⟨a,b,m⟩:=x;simp only [dA]at h;cases f:dL k a with
   |none=>simp [f]at h| some t=>
     cases t with
     |true=>simp [f]at h| false=>simp only [f]at h;simp only []at j;have q:=AG ok mu l hf f w;simp only [Instr.findAsking,Sem.run_bind,j.1,q,Result.andThen_ok];simpa using o p h (i+1)
theorem xX{d:TypeDesc}{kt:TypeId}(a:ja d=true)(c:E.und kt=some d)(hf:cG E kt k=true)(x:MapEntry)(b:List MapEntry)(i:Nat):Instr.findNow d k (x::b) i=none:=by
 cases d<;>simp only [ja]at a<;>try (cases a;done)
 rfl
include ok in
theorem px{kt:TypeId}{d:TypeDesc}(b:E.und kt=some d)(hf:cG E kt k=true){e:List (Value×Value×Nat)}{a:List MapEntry}(f:oa mu e a)(h:dA k e=some none)(w:World):(Instr.findKey kt k a).run P w=.ok none w:=by
 unfold Instr.findKey;simp only [Sem.run_bind,cd ok b,Result.andThen_ok];cases c:ja d with
 |false=>rw [CS c b hf f h 0];rfl| true=>
   cases a with
   |nil=>rfl| cons x a=>
     rw [xX c b hf];cases d<;>simp only [ja]at c<;>try (cases c;done)
     exact Cr ok b hf f h 0 w
include ok in
theorem find_some{kt:TypeId}{d:TypeDesc}(z:E.und kt=some d)(hf:cG E kt k=true){p:List (Value×Value×Nat)}{c:List MapEntry}(B:oa mu p c)(h:dA k p=some (some (v,n)))(w:World)(i:Nat):
 ∃ j l,c[j]? =some l/\(ja d=false->Instr.findNow d k c i=some (some (i+j,l.val)))/\(ja d=true->(Instr.findAsking kt k c i).run P w=.ok (some (i+j,l.val)) w)/\aC mu v l.val/\l.born=n/\dL k l.key=some true/\
   (∀q f,aC mu q f->oa mu (oy k q p) (c.set j {l with key:=k,val:=f}))/\oa mu (mL k p) (c.eraseIdx j):=by
 have ask:ja d=true-> ∀{a:Value} {t:Bool},dL k a=some t->(Op.equal kt k a).run P w=.ok t w:=fun A a t g=>by
  cases d<;>simp only [ja]at A<;>try (cases A;done)
  exact AG ok mu z hf g w
 induction p generalizing c i with
 |nil=>simp [dA]at h| cons e p C=>
   obtain⟨l,r,rfl,o,u⟩:=LR.cons_left B;obtain⟨a,b,m⟩:=e;simp only [dA]at h;simp only []at o;cases g:dL k a with
   |none=>simp [g]at h| some t=>
     cases t with
     | true=>
       simp only [g]at h;cases h;have x:xa k=true:=fits_ok hf;refine⟨0,l,rfl,fun s=>by simp [Instr.findNow,o.1,uX s z hf g],fun s=>by simp [Instr.findAsking,Sem.run_bind,o.1,ask s g],o.2.2.1,o.2.2.2,by grind,?_,?_⟩
       . intro q f y;simp only [oy,g,List.set_cons_zero];exact LR.cons ⟨rfl,x,y,o.2.2.2⟩ u
       . simp only [mL,g,List.eraseIdx_zero];exact u
     | false=>
       simp only [g]at h;obtain⟨j,D,F,L,G,H,g4,I,J,K⟩:=C u h (i+1);refine⟨j+1,D,by simpa using F,fun s=>?_,fun s=>?_,H,g4,I,?_,?_⟩
       . grind[Instr.findNow,uX,hf]
       . grind[Instr.findAsking,Sem.run_bind,ask,Result.andThen_ok]
       . intro q f y;simp only [oy,g,List.set_cons_succ];exact LR.cons o (J q f y)
       . simp only [mL,g,List.eraseIdx_cons_succ];exact LR.cons o K
include ok in
theorem pA{kt:TypeId}{d:TypeDesc}(g:E.und kt=some d)(hf:cG E kt k=true){f:List (Value×Value×Nat)}{a:List MapEntry}(p:oa mu f a)(h:dA k f=some (some (v,n)))(w:World):
 ∃ j b,a[j]? =some b/\(Instr.findKey kt k a).run P w=.ok (some (j,b.val)) w/\aC mu v b.val/\b.born=n/\dL k b.key=some true/\
   (∀l c,aC mu l c->oa mu (oy k l f) (a.set j {b with key:=k,val:=c}))/\oa mu (mL k f) (a.eraseIdx j):=by
 obtain⟨j,b,m,o,e,q,r,s,t,u⟩:=find_some ok g hf p h w 0;refine⟨j,b,m,?_,q,r,s,t,u⟩;unfold Instr.findKey;simp only [Sem.run_bind,cd ok g,Result.andThen_ok];rw [XV]at o e;cases i:ja d with
 |false=>rw [o i];rfl| true=>
   cases a with
   |nil=>simp at m|cons x a=>rw [xX i g hf];exact e i
theorem ED(p:aC mu v v'){d:List (Value×Value×Nat)}{c:List MapEntry}(q:oa mu d c)(h:jR n v d=some es2):
 ∃j i,c.findIdx? (fun e=>(e.born:Int)==(n:Int))=some j/\c[j]? =some i/\oa mu es2 (c.set j {i with val:=v'}):=by
 induction d generalizing c es2 with
 |nil=>simp [jR]at h| cons e d s=>
   obtain⟨i,r,rfl,f,o⟩:=LR.cons_left q;obtain⟨a,b,m⟩:=e;simp only [jR,dJ]at h;simp only []at f;by_cases g:m=n
   . subst g;simp only [decide_true,cond_true]at h;cases h;refine⟨0,i,?_,rfl,?_⟩
     . grind
     . exact LR.cons ⟨f.1,f.2.1,p,f.2.2.2⟩ o
   . simp only [g,decide_false,cond_false]at h;cases k:jR n v d with
     |none=>simp [k]at h| some l=>
       simp only [k]at h;cases h;obtain⟨j,t,x,u,w⟩:=s o k;refine⟨j+1,t,?_,by simpa using u,?_⟩
       . grind
       . simp only [List.set_cons_succ];exact LR.cons f w
end
def oJ(mu:Mu)(d e:Deferred):Prop:=match d.target with
 | .fn (.func f) g=> ∃a,e.target=.fn (.func f) a/\VL mu g.toList a.toList/\VL mu d.args.toList e.args.toList| .collected b=> ∃c,e.target=.collected c/\eQ mu b c|_=>False
theorem u6{a:Type}{l:List a}{e:a}(h:l[j]? =some e)(f:a->a):l.modify j f=l.set j (f e):=by apply List.ext_getElem?;grind
section
variable{E:Env}{P:Program}(ok:EOk E P)
def Res(P:Program)(mu:Mu)(h:Hp)(w:World)(s:Sem Next)(h':Hp):d6->Prop
 | .val v=> ∃j e i,s.run P w=.ok (.value j) i/\bE e h' i/\Ext mu h w e h' i/\aC e v j| .skip=> ∃e i,s.run P w=.ok .skip i/\bE e h' i/\Ext mu h w e h' i| .call f g=>h'=h/\ ∃a,s.run P w=(callFunc f a).run P w/\VL mu g a.toList| .yield b g=>h'=h/\ ∃c a,s.run P w=(Instr.yield c a).run P w/\eQ mu b c/\VL mu g a.toList| .recov=>h'=h/\s.run P w=.ok .recover w| .defer d=>h'=h/\ ∃k,s.run P w=.ok (.defer k) w/\oJ mu d k| .panic v=>h'=h/\ ∃j,s.run P w=.halt (.panic j) w/\aC mu v j
theorem CU{r:Nat}(h: ∃q,w.heap[r]? =some q):WSet w {w with heap:=w.heap.setIfInBounds r o} r o:=by obtain⟨q,a⟩:=h;have b:r<w.heap.size:=(Array.getElem?_eq_some_iff.1 a).1;refine⟨by simp,by simp [b],fun j c=>?_,rfl,rfl,rfl⟩;grind
theorem zR{h:Hp}(g:bE mu h w)(e:eQ mu b c){i:List (Value×Value×Nat)}{a:Nat}(l:h.get b=some (.map i a)):
 ∃top d,mu b=.blk c 0 top/\w.heap[c]? =some (.map d a)/\oa mu i d.toList:=by
 unfold eQ at e;cases f:mu b with
 |none=>grind|dead=>have:=g.dead _ f;grind| blk n j top=>
   rw [f]at e;obtain⟨rfl,rfl⟩:=e;obtain⟨y,o,k,p,m⟩:=g.blk _ c 0 top f;rw [l]at k;cases k;obtain⟨_,d,rfl,q⟩:=m;grind
theorem pY{h:Hp}(f:bE mu h w){a clock2:Nat}(k:h.get b=some (.map g a))(i:mu b=.blk c 0 top){d es2':Array MapEntry}(e:w.heap[c]? =some (.map d a))(j:oa mu es2 es2'.toList):(setObj c (.map es2' clock2)).run P w=.ok () {w with heap:=w.heap.setIfInBounds c (.map es2' clock2)}/\
 bE mu (h.put b (.map es2 clock2)) {w with heap:=w.heap.setIfInBounds c (.map es2' clock2)}/\Ext mu h w mu (h.put b (.map es2 clock2)) {w with heap:=w.heap.setIfInBounds c (.map es2' clock2)}:=by
 refine⟨by simp [setObj,Sem.run,e],?_⟩;exact yg f i (by grind) (CU ⟨_,e⟩) ⟨rfl,es2',rfl,j⟩
theorem kL{b:Array MapEntry}{a:Nat}(d:w.heap[c]? =some (.map b a)):(getObj c).run P w=.ok (.map b a) w:=by simp [getObj,Sem.run,d]
include ok
theorem Bh{h:Hp}(o:bE mu h w){t:TypeId}(c:gm E h t x=some v)(p:aC mu x x'):
 ∃v',(Instr.loadAt t x').run P w=.ok v' w/\aC mu v v':=by
 unfold gm at c;cases p<;>(try simp only []at c)<;>try (cases c;done)
 rename_i a q e;unfold Instr.loadAt;simp only [Instr.sureAddr,Sem.run_bind,Sem.run_pure,Result.andThen_ok];unfold loadVar;cases g:E.agg t with
 |none=>simp [g]at c| some b=>
   simp only [Sem.run_bind,wY ok g,Result.andThen_ok];cases b with
   | true=>
     simp only [g]at c;cases j:E.sz t with
     |none=>simp [j]at c| some n=>
       simp only [j]at c;cases d:h.load a.block a.off n with
       |none=>simp [d]at c| some l=>
         simp only [d]at c;cases c;obtain⟨k,i,f,m⟩:=xY o e d;have:=run_loadCells_list (P:=P) w q i m;have s:i.length=n:=(by rw [<-f.1];exact k);rw [s]at this;exact⟨.agg i.toArray,by simp [fd ok j,this],.agg f.1 f.2⟩
   | false=>
     simp only [g]at c;cases d:h.load a.block a.off 1 with
     |none=>simp [d]at c| some l=>
       simp only [d]at c;obtain⟨k,i,f,m⟩:=xY o e d
       match l,k with
       | [u],_=>
         simp only []at c;cases c;obtain⟨y,r,rfl,z,A⟩:=f.cons_left;have:=m 0 y (by simp);simp_all[Addr.add]
theorem Fj{h h':Hp}(k:bE mu h w){t:TypeId}(c:jT E h t x v=some h')(l:aC mu x x')(m:aC mu v v'):
 ∃w',(Instr.storeAt t x' v').run P w=.ok () w'/\bE mu h' w'/\Ext mu h w mu h' w':=by
 unfold jT at c;cases l<;>(try simp only []at c)<;>try (cases c;done)
 rename_i a r e;cases f:E.sz t with
 |none=>simp [f]at c| some n=>
   simp only [f]at c;have g: ∀y,v≠ .chan y:=(by grind);have b:(bif zB (ae v).length n then h.store a.block a.off (ae v)else none)=some h':=(by grind);rw [dJ]at b;by_cases j:(ae v).length=n
   . simp only [j,decide_true,cond_true]at b;have d:=m.cells g;obtain⟨w',o,p,q⟩:=tD (P:=P) k e b d;refine⟨w',?_,p,q⟩;have i:v'.cells.size=n:=(by rw [<-j];exact d.1.symm);simp [Instr.storeAt,Instr.sureAddr,storeVar,fd ok f,i,o]
   grind
omit ok in
theorem wS{kt:TypeId}(hf:cG E kt k=true)(e:aC mu k k'):k'=k/\xa k=true/\ ∃kd,E.und kt=some kd:=by
 unfold cG at hf;cases a:E.und kt with
 |none=>simp [a]at hf| some kd=>
   cases b:ja kd with
   | true=>
     cases kd<;>simp only [ja]at b<;>try (cases b;done)
     have c:=fits_ok (E:=E) (kt:=kt) (k:=k) (by unfold cG;exact hf);obtain⟨h,kd,rfl,_,_,_,_,j⟩:=pL a (by unfold cG;exact hf);refine⟨?_,c,_,rfl⟩;cases e with
     | @agg _ f l m=>
       have:h.toList=f.toList:=(by refine List.ext_getElem l fun i g d=>?_;obtain⟨x,n⟩:=j _ (XH g);have:=m i _ _ (Xc g) (Xc d);rw [n]at this⊢;generalize f.toList[i]=u at this;cases this;rfl);simp_all
   | false=>
     simp only [a]at hf;cases kd<;>simp only []at hf<;>(try (cases hf;done))<;>(try (cases b;done))<;>(cases e<;>simp only []at hf<;>(try (cases hf;done))<;>exact⟨rfl,rfl,_,rfl⟩)
theorem DO{h:Hp}(M:bE mu h w){t:TypeId}{H:Value}{q:Bool}(a:fi E h t m k q=some v)(N:aC mu m H)(O:aC mu k k'):
 ∃v',(Instr.lookup t H k' q).run P w=.ok v' w/\aC mu v v':=by
 unfold fi at a;cases o:E.und t with
 |none=>simp [o]at a| some d=>
   simp only [o]at a;cases d<;>simp only []at a<;>try (cases a;done)
   rename_i I s;cases hf:cG E I k with
   |false=>simp [hf]at a| true=>
     simp only [hf,cond_true]at a;have A:k'=k:=(wS (E:=E) hf O).1;subst A;have B: ∀{z y:Value},aC mu z y-> ∀b,aC mu (bif q then .tuple #[z,.bool b]else z) (if q then .tuple #[y,.bool b]else y):=by
      intro z y i b;cases q with
      |false=>exact i| true=>have:VL mu [z,.bool b] [y,.bool b]:=LR.cons i (LR.cons (.bool b) LR.nil);exact .tuple this.1 this.2
     obtain⟨J,g⟩: ∃J,E.und I=some J:=(by unfold cG at hf;grind);have f:(match E.zeroV s with|none=>none|some z=>some (bif q then .tuple #[z,.bool false]else z))=some v->
      ∃z,(zeroValue s).run P w=.ok z w/\aC mu v (if q then .tuple #[z,.bool false]else z):=by
      intro i;cases l:E.zeroV s with
      |none=>simp [l]at i| some z=>simp only [l]at i;grind[s8]
     unfold Instr.lookup;simp only [Sem.run_bind,cd ok o,Result.andThen_ok];cases N<;>(try simp only []at a)<;>try (cases a;done)
     . obtain⟨z,C,D⟩:=f a;refine⟨_,?_,D⟩;simp [ku ok hf,Instr.findKey,cd ok g,Instr.findNow,C]
     . rename_i b c Q;cases F:h.get b with
       |none=>simp [F]at a| some x=>
         simp only [F]at a;cases x<;>simp only []at a<;>try (cases a;done)
         rename_i R G;obtain⟨S,T,W,K,L⟩:=zR M Q F;cases e:dA k' R with
         |none=>simp [e]at a| some r=>
           cases r with
           | none=>
             simp only [e]at a;obtain⟨z,C,D⟩:=f a;refine⟨_,?_,D⟩;simp [ku ok hf,kL K,px ok g hf L e,C]
           | some p=>
             obtain⟨u,n⟩:=p;simp only [e]at a;cases a;obtain⟨j,X,Y,U,V,_⟩:=pA ok g hf L e w;refine⟨_,?_,B V true⟩;simp [ku ok hf,kL K,U]
omit ok in
theorem wI{h:Hp}(n:bE mu h w){t:TypeId}{j:Value}{r a:Nat}{el:TypeId}(e:mq E h t m k=some (r,g,a,el))(o:aC mu m j)(p:aC mu k k'): ∃kt kd c top f,E.und t=some (.map kt el)/\E.und kt=some kd/\cG E kt k=true/\k'=k/\xa k=true/\j=.map (some c)/\h.get r=some (.map g a)/\
  mu r=.blk c 0 top/\w.heap[c]? =some (.map f a)/\oa mu g f.toList:=by
 unfold mq at e;cases l:E.und t with
 |none=>simp [l]at e| some d=>
   simp only [l]at e;cases d<;>simp only []at e<;>try (cases e;done)
   rename_i kt q;cases hf:cG E kt k with
   |false=>simp [hf]at e| true=>
     simp only [hf,cond_true]at e;obtain⟨u,v,kd,y⟩:=wS (E:=E) hf p;cases o<;>(try simp only []at e)<;>try (cases e;done)
     rename_i b c s;cases i:h.get b with
     |none=>simp [i]at e| some x=>
       simp only [i]at e;cases x<;>simp only []at e<;>try (cases e;done)
       cases e;obtain⟨top,f,z,A,B⟩:=zR n s i;grind
theorem yW{h h':Hp}(g:bE mu h w){t:TypeId}{o:Value}(d:ki E h t m k v=some h')(y:aC mu m o)(z:aC mu k k')(A:aC mu v v'):
 ∃w',(Instr.mapUpdate t o k' v').run P w=.ok () w'/\bE mu h' w'/\Ext mu h w mu h' w':=by
 unfold ki at d;cases i:mq E h t m k with
 |none=>simp [i]at d| some q=>
   obtain⟨r,l,a,J⟩:=q;simp only [i]at d;obtain⟨K,L,c,B,f,C,s,e3,rfl,e5,rfl,e7,e8,e9,e10⟩:=wI g i y z;unfold Instr.mapUpdate;simp only [Sem.run_bind,cd ok C,Result.andThen_ok,kL e9,ku ok e3];cases b:dA k' l with
   |none=>simp [b]at d| some p=>
     cases p with
     | none=>
       simp only [b]at d;cases d;have D:=px ok s e3 e10 b w;obtain⟨F,G,H⟩:=pY (P:=P) g e7 e8 e9 (es2:=l++[(k',v,a)]) (es2':=f.push {key:=k',val:=v',born:=a}) (clock2:=a+1) (by
        simp only [Array.toList_push];exact LR.append e10 (LR.cons ⟨rfl,e5,A,rfl⟩ LR.nil))
       simp_all
     | some u=>
       obtain⟨u,n⟩:=u;simp only [b]at d;cases d;obtain⟨j,x,M,N,O,Q,R,S,T⟩:=pA ok s e3 e10 b w;have U:f[j]? =some x:=(by grind);have I:(Instr.keyThatStays x.key k').run P w=.ok k' w:=(by simp_all[Instr.keyThatStays,Instr.sameBits,sT,zz]);obtain⟨F,G,H⟩:=pY (P:=P) g e7 e8 e9 (es2:=oy k' v l) (es2':=f.modify j fun e=>{e with key:=k',val:=v'}) (clock2:=a) (by
        grind[Xv,u6])
       simp_all
end
section
variable{E:Env}{P:Program}(ok:EOk E P)
include ok
theorem EB{h h':Hp}(g:bE mu h w){t ty:TypeId}{ts:Array TypeId}(A:ts[0]? =some t)(i:xs[0]? =some v)(o:xs[1]? =some k')(d:oZ E h t m k=some h')(B:aC mu m v)(C:aC mu k k'):
 ∃w',(Builtin.delete_ ts ty xs).run P w=.ok (.tuple #[]) w'/\bE mu h' w'/\Ext mu h w mu h' w':=by
 unfold oZ at d;cases s:mq E h t m k with
 |none=>simp [s]at d| some q=>
   obtain⟨r,e,a,K⟩:=q;simp only [s]at d;obtain⟨L,M,c,D,f,F,y,e3,rfl,e5,rfl,e7,e8,e9,e10⟩:=wI g s B C;unfold Builtin.delete_;simp only [A,i,o,Sem.run_bind,cd ok F,Result.andThen_ok,kL e9,ku ok e3];cases b:dA k' e with
   |none=>simp [b]at d| some p=>
     simp only [b]at d;cases d;cases p with
     | none=>
       have G:=px ok y e3 e10 b w;have z:mL k' e=e:=by
        have: ∀l:List (Value×Value×Nat),dA k' l=some none->mL k' l=l:=by
         intro l
         induction l with
         |nil=>intro _;rfl| cons x l N=>grind[dA,mL,dL]
        grind
       obtain⟨H,I,J⟩:=pY (P:=P) g e7 e8 e9 (es2:=mL k' e) (es2':=f) (clock2:=a) (by grind);simp_all
     | some u=>
       obtain⟨u,n⟩:=u;obtain⟨j,O,Q,R,S,T,U,V,W⟩:=pA ok y e3 e10 b w;obtain⟨H,I,J⟩:=pY (P:=P) g e7 e8 e9 (es2:=mL k' e) (es2':=f.eraseIdxIfInBounds j) (clock2:=a) (by
        simp_all)
       simp_all
theorem Ew{h h':Hp}(i:bE mu h w){t:TypeId}{F:Value}(d:k9 E h t m k=some (h',v))(J:aC mu m F)(K:aC mu k k'):
 ∃v' w',(Instr.mapEntry t F k').run P w=.ok v' w'/\bE mu h' w'/\Ext mu h w mu h' w'/\aC mu v v':=by
 have l: ∀{z y:Value},aC mu z y-> ∀n:Nat,aC mu (.tuple #[z,.int .i64 (.ofNat n)]) (.tuple #[y,goInt (n:Int)]):=by intro z y g n;have:VL mu [z,.int .i64 (.ofNat n)] [y,goInt (n:Int)]:=LR.cons g (LR.cons (.int _ _) LR.nil);exact .tuple this.1 this.2
 unfold k9 at d;cases o:mq E h t m k with
 |none=>simp [o]at d| some q =>
   obtain⟨r,s,a,L⟩:=q;simp only [o]at d;obtain⟨S,T,c,M,f,N,G,e3,rfl,e5,rfl,e7,e8,e9,e10⟩:=wI i o J K;unfold Instr.mapEntry;simp only [Sem.run_bind,cd ok N,Result.andThen_ok,kL e9,ku ok e3];cases b:dA k' s with
   |none=>simp [b]at d| some p=>
     cases p with
     | none=>
       simp only [b]at d;cases g:E.zeroV L with
       |none=>simp [g]at d| some z=>
         simp only [g]at d;cases d;obtain⟨O,H⟩:=s8 ok g w mu;have x:=px ok G e3 e10 b w;obtain⟨A,B,C⟩:=pY (P:=P) i e7 e8 e9 (es2:=s++[(k',z,a)]) (es2':=f.push {key:=k',val:=z,born:=a}) (clock2:=a+1) (by
          simp only [Array.toList_push];exact LR.append e10 (LR.cons ⟨rfl,e5,H,rfl⟩ LR.nil))
         exact⟨_,_,by simp [x,O,A],B,C,l H a⟩
     | some u=>
       obtain⟨u,n⟩:=u;simp only [b]at d;cases d;obtain⟨j,I,U,Q,V,W,X,Y,Z⟩:=pA ok G e3 e10 b w;have R:f[j]? =some I:=(by grind);have D:(Instr.keyThatStays I.key k').run P w=.ok k' w:=(by simp_all[Instr.keyThatStays,Instr.sameBits,sT,zz]);obtain⟨A,B,C⟩:=pY (P:=P) i e7 e8 e9 (es2:=oy k' u s) (es2':=f.modify j fun e=>{e with key:=k'}) (clock2:=a) (by
        grind[Xv,u6])
       refine⟨_,_,by simp [Q,R,D,A];rfl,B,C,?_⟩;grind
omit ok in
theorem CM{h h':Hp}(r:bE mu h w){t:TypeId}{u:Value}(a:oI h m s v=some h')(y:aC mu m u)(hs:aC mu s s')(z:aC mu v v'):
 ∃w',(Instr.entryStore t u s' v').run P w=.ok () w'/\bE mu h' w'/\Ext mu h w mu h' w':=by
 unfold oI at a;cases y<;>(try simp only []at a)<;>try (cases a;done)
 rename_i b c A;cases o:h.get b with
 |none=>simp [o]at a| some x=>
   simp only [o]at a;cases x<;>(try simp only []at a)<;>try (cases a;done)
   rename_i B d;obtain⟨C,f,e8,e9,e10⟩:=zR r A o;cases hs<;>(try simp only []at a)<;>try (cases a;done)
   rename_i k i;cases p:gM i with
   |none=>simp [p]at a| some n=>
     have:=sJ p;subst this;simp only [p]at a;cases g:jR n v B with
     |none=>simp [g]at a| some es2=>
       simp only [g]at a;cases a;obtain⟨j,I,D,J,K⟩:=ED z e10 g;obtain⟨F,G,H⟩:=pY (P:=P) r o e8 e9 (es2:=es2) (es2':=f.modify j fun e=>{e with val:=v'}) (clock2:=d) (by
        grind[Xv,u6])
       have q:f.findIdx? (fun e=>(e.born:Int)==(n:Int))=some j:=(by obtain⟨l⟩:=f;simpa using D);exact⟨_,by simp [Instr.entryStore,kL e9,asInt,asIntOf,q,F],G,H⟩
omit ok in
theorem qq(a:List Value)(n:Nat):(bA a n).length=n*a.length:=by
 induction n with
 |zero=>simp [bA]|succ n b=>simp [bA,b,Nat.succ_mul];omega
omit ok in
theorem C3(b:List Value)(n i:Nat)(h:i<n*b.length):(bA b n)[i]? =b[i%b.length]? :=by
 induction n generalizing i with
 |zero=>simp at h| succ n d=>
   simp only [bA];by_cases c:i<b.length
   . rw [Xs c,XE c]
   . rw [Xr (by omega),d _ (by grind)];rw [Nat.mod_eq_sub_mod (a:=i) (by omega)]
omit ok in
theorem Bm{z:Value}{a:List Value}(d:z.cells.toList=a)(j:a.all dI=true)(c:Nat):VL mu (bA a c) ((XK (c*a.length)).map (z.cells[· %z.cells.size]!)).toList:=by
 have e:z.cells.size=a.length:=by rw [<-d];rfl
 refine⟨by simp [qq],fun i v k f g=>?_⟩;have h:i<c*a.length:=by grind
 rw [C3 _ _ _ h]at f;have b:0<a.length:=by grind
 have l:i%a.length<a.length:=XQ _ b;grind[Xq,Array.toList_range,List.getElem?_range,List.getElem?_eq_some_iff,Xe,aC.const]
omit ok in
theorem Df(h:natV v=some n)(a:aC mu v v'): ∃k,v'=.int k (n:Int):=by
 unfold natV at h;cases a<;>(try simp only []at h)<;>try (cases h;done)
 rename_i k i;exact⟨k,by rw [sJ h]⟩
omit ok in
theorem wrap_small(h:n<=70368744177664):IntKind.i64.wrap (n:Int)=n:=by rw [<-jI];show(bif Xa n 9223372036854775808 then _ else _)=_;grind[jD]
omit ok in
theorem jd(w:World)(o:Obj):WNew w {w with heap:=w.heap.push o} o:=⟨rfl,rfl,rfl,rfl⟩
omit ok in
theorem AJ(mu:Mu)(b c top n cap cap' k:Nat)(h:n<=cap)(a:cap<=cap')(d:cap'*k<=top):aC (upd mu b (.blk c 0 top)) (.slice (some ⟨b,0,some k⟩) n cap) (.slice (some ⟨c,0,none⟩) n cap'):=by refine .slice h ?_;simp_all[fC,upd_same,trivial]
omit ok in
theorem rm(mu:Mu)(b c top n cap:Nat)(h:n<=cap):aC (upd mu b (.blk c 0 top)) (.slice (some ⟨b,0,none⟩) n cap) (.slice (some ⟨c,0,none⟩) n cap):=by refine .slice h ?_;grind[fC,upd_same]
theorem Ae{h h':Hp}(D:bE mu h w){t:TypeId}{l l' c N:Value}(b:kP E h t l c=some (h',v))(S:aC mu l l')(T:aC mu c N):
 ∃v' r w',(Instr.makeSlice t l' N).run P w=.ok v' w'/\bE r h' w'/\Ext mu h w r h' w'/\aC r v v':=by
 unfold kP at b;cases F:E.und t with
 |none=>simp [F]at b| some d=>
   simp only [F]at b;cases d<;>(try simp only []at b)<;>try (cases b;done)
   rename_i e;cases G:natV l with
   |none=>simp [G]at b| some n=>
     cases O:natV c with
     |none=>grind| some m=>
       obtain⟨U,rfl⟩:=Df G S;obtain⟨V,rfl⟩:=Df O T;simp only [G,O]at b;cases A:E.ty e with
       |none=>simp [A]at b| some i =>
         simp only [A,fH]at b;by_cases s:n<=m/\m*(i.bytes+1)<=70368744177664
         . obtain ⟨B,W⟩:=s;simp only [B,W,decide_true,Xm,cond_true]at b;cases H:E.zero e with
           |none=>simp [H]at b| some I=>
             simp only [H,dJ]at b;by_cases g:I.length=i.size
             . simp only [g,decide_true,cond_true]at b;obtain⟨z,C,X,z3,Y⟩:=pX ok H w;have J:m<=70368744177664:=(by grind);have K:n<=70368744177664:=(by omega);have Z: ¬((i.bytes:Int)*(m:Int)>2 ^48):=(by grind);have u:E.sz e=some i.size:=(by unfold Env.sz;rw [A]);have a:=Bm (mu:=mu) X Y m;obtain⟨k,L⟩: ∃k,k=(XK (m*I.length)).map (z.cells[· %z.cells.size]!):=⟨_,rfl⟩;rw [<-L]at a;have x:(Instr.makeSlice t (.int U n) (.int V m)).run P w=.ok (.slice (some ⟨w.heap.size,0,none⟩) n m) {w with heap:=w.heap.push (.cells k e)}:=by
                unfold Instr.makeSlice;simp only [Sem.run_bind,cd ok F,Result.andThen_ok,asInt,asIntOf,Sem.run_pure,pV ok A,wrap_small J,wrap_small K];have c1:(decide ((m:Int)<0)||decide ((i.bytes:Int)*(m:Int)>2 ^48))=false:=(by grind);have c2:((decide ((m:Int)<0)||decide ((i.bytes:Int)*(m:Int)>2 ^48))||decide ((n:Int)<0)||decide ((n:Int)>(m:Int)))=false:=(by grind);rw [if_neg (by rw [c2];simp)];simp only [Sem.run_bind,run_askRoom,Result.andThen_ok,fd ok u,XB];by_cases y:m*i.size=0
                . have:k=#[]:=(by grind);rw [if_pos y];simp [newRow,y,this];grind
                simp_all[if_neg,newRow]
               rw [x];have Q:k.size=m*i.size:=by grind
               match I,b,a,g with
               | [],b,a,g=>
                 cases b;have f:(bA [] m).length=m*i.size:=(by rw [qq,<-g]);obtain⟨o,p⟩:=rR (w':={w with heap:=w.heap.push (.cells k e)}) D (l:=bA [] m) (l':=k) (el:=e) a (jd w _) (t:=Tr.ofList (bA [] m)) (Tr.sized_ofList _) (Tr.get_ofList _);rw [f]at o p;exact⟨_,_,_,rfl,o,p,rm mu h.n w.heap.size k.size n m B⟩
               | [q],b,a,g=>
                 cases b;have f:(bA [q] m).length=m:=(by rw [qq];simp);obtain⟨o,p⟩:=rR (w':={w with heap:=w.heap.push (.cells k e)}) D (l:=bA [q] m) (l':=k) (el:=e) a (jd w _) (t:=Tr.blank q m m) (by simp_all[Tr.sized_blank,zM]) (by
                  intro j;rw [Tr.get_blank q m m (zM _)];by_cases R:j<m
                  . rw [if_pos R,C3 _ _ _ (by simpa using R)];grind
                  grind)
                 rw [f]at o p;exact⟨_,_,_,rfl,o,p,rm mu h.n w.heap.size k.size n m B⟩
               | q::C::M,b,a,g=>
                 cases b;have f:(bA (q::C::M) m).length=m*i.size:=(by rw [qq,<-g]);obtain⟨o,p⟩:=rR (w':={w with heap:=w.heap.push (.cells k e)}) D (l:=bA (q::C::M) m) (l':=k) (el:=e) a (jd w _) (t:=Tr.ofList (bA (q::C::M) m)) (Tr.sized_ofList _) (Tr.get_ofList _);rw [f]at o p;exact⟨_,_,_,rfl,o,p,rm mu h.n w.heap.size k.size n m B⟩
             grind
         grind
theorem zG{h h':Hp}(B:bE mu h w){t:TypeId}{b a:List (Nat×Value)}(c:li E h t n b=some (h',v))(hq:PL mu b a):
 ∃v' f w',(Instr.buildSlice t n a.toArray).run P w=.ok v' w'/\bE f h' w'/\Ext mu h w f h' w'/\aC f v v':=by
 unfold li at c;cases o:E.und t with
 |none=>simp [o]at c| some d=>
   simp only [o]at c;cases d<;>(try simp only []at c)<;>try (cases c;done)
   rename_i e;cases p:E.sz e with
   |none=>simp [p]at c| some k=>
     simp only [p,fH]at c;by_cases C:n*k<=16777216
     . simp only [C,decide_true,cond_true]at c;cases s:E.zero e with
       |none=>simp [s]at c| some u =>
         simp only [s,dJ]at c;by_cases x:u.length=k
         . simp only [x,decide_true,cond_true]at c;cases hf:my (fun i=>some (i*k,k)) (bA u n) b with
           |none=>simp [hf]at c| some A=>
             simp only [hf]at c;cases c;obtain⟨z,L,D,M,F⟩:=pX ok s w;have g:=Bm (mu:=mu) D F n;obtain⟨m,G,H⟩:=we (place':=fun i=>some (i*k,k)) (fun i r I=>I) hf g hq;have j:(Instr.buildSlice t n a.toArray).run P w=.ok (.slice (some ⟨w.heap.size,0,none⟩) n n) {w with heap:=w.heap.push (.cells m e)}:=by
              unfold Instr.buildSlice;simp only [Sem.run_bind,cd ok o,Result.andThen_ok,fd ok p];rw [if_neg (by omega)];by_cases y:n*k=0
              . have e3: ∀q:Array Value,(XK (n*k)).map (q[· %q.size]!)=(XK (n*u.length)).map (z.cells[· %z.cells.size]!):=(by grind);rw [if_pos y];simp only [Sem.run_bind,Sem.run_pure,Result.andThen_ok];rw [e3,G];simp [newRow]
              simp_all[if_neg,Sem.run_bind,Result.andThen_ok,Sem.run_pure,newRow]
             rw [j];obtain⟨J,K⟩:=rR (w':={w with heap:=w.heap.push (.cells m e)}) B (l:=A) (l':=m) (el:=e) H (jd w _) (t:=Tr.ofList A) (Tr.sized_ofList _) (Tr.get_ofList _);exact⟨_,_,_,rfl,J,K,rm mu h.n w.heap.size m.size n n (zM _)⟩
         grind
     grind
end
section
variable{E:Env}{P:Program}(ok:EOk E P)
theorem DG{b:Tr Value}{a m:Nat}{new:List Value}(hs:b.Sized a)(h:kX b a off m new=some (t2,s2)):off+m<=a/\s2=m+new.length/\t2.Sized s2/\(∀i,i<m->t2.get i=b.get (off+i))/\ ∀i,m<=i->t2.get i=new[i-m]? :=by
 unfold kX at h;rw [dJ,dJ]at h;by_cases d:off=0/\m=a
 . obtain⟨rfl,rfl⟩:=d;simp only [decide_true,Xm,cond_true]at h;cases h;refine⟨by omega,rfl,Tr.sized_pushAll _ hs,fun i c=>?_,fun i c=>?_⟩
   . rw [Tr.get_pushAll _ _ _ hs,if_pos c,XV]
   simp_all[Tr.get_pushAll,if_neg]
 . have:(decide (off=0)&&decide (m=a))=false:=(by grind);rw [this,fH]at h;simp only [cond_false]at h;by_cases hle:off+m<=a
   . simp only [hle,decide_true,cond_true]at h;grind[Tr.slice_spec,List.length_append,Tr.sized_ofList,Tr.get_ofList,Xs,Xr]
   grind
theorem rE{d:Addr}(hs:fC mu a cap d cap')(h:cap≠0):fV mu a d:=by
 unfold fC at hs;unfold fV;cases e:mu a.block with
 |none=>grind|dead=>trivial| blk c b g=>
   rw [e]at hs;cases f:a.spot with
   |none=>grind| some q=>
     rw [f]at hs;simp only []at hs⊢;obtain⟨_,i,j,_,k⟩:=hs;have:d.off=b+a.off:=(by omega);cases d;grind
theorem nu{h:Hp}(p:bE mu h w){e:Addr}{k:Nat}(q:len<=cap)(hs:fC mu a cap e cap')(b:h.load a.block a.off (len*k)=some l):l.length=len*k/\ ∃l',VL mu l l'/\ ∀c:World,c.heap=w.heap->(Builtin.firstCells k len (.slice (some e) len cap')).run P c=.ok l'.toArray c:=by
 by_cases r:cap=0
 . have :len=0:=(by omega);subst this;have s:l.length=0:=by
    unfold Hp.load at b;cases i:h.get a.block with
    |none=>simp [i]at b| some x=>
      simp only [i]at b;cases x<;>(try simp only []at b)<;>try (cases b;done)
      rename_i t u v y;rw [fH]at b;by_cases f:a.off+0*k<=u
      . simp only [f,decide_true,cond_true]at b;grind[Tr.slice_spec]
      grind
   have:l=[]:=(by grind);subst this;exact⟨by simp,[],LR.nil,fun c _=>by simp [Builtin.firstCells,loadCells,loadCellsFrom]⟩
 . have g:=rE hs r;obtain⟨m,l',n,z⟩:=xY p g b;refine⟨m,l',n,fun c A=>?_⟩;have d: ∀(j:Nat) o,l'[j]? =some o->c.cell? (e.add j)=some o:=(by grind[World.cell?]);have:=run_loadCells_list (P:=P) c e l' d;rw [show l'.length=len*k by rw [<-n.1];exact m]at this;simp [Builtin.firstCells,this]
theorem Dg{h:Hp}(m:bE mu h w){k:Nat}{new:List Value}(d:aF h k x=some (n,new))(o:aC mu x x'):new.length=n*k/\(∀c:World,(Builtin.lenOf x').run P c=.ok n c)/\ ∃new',VL mu new new'/\ ∀c:World,c.heap=w.heap->(Builtin.firstCells k n x').run P c=.ok new'.toArray c:=by
 unfold aF at d;cases o<;>(try simp only []at d)<;>try (cases d;done)
 . rename_i s;rw [dJ]at d;by_cases p:k=1
   . subst p;simp only [decide_true,cond_true]at d;cases d;refine⟨by simp [aU],fun c=>rfl,(aU s).map fun b=>.int .u8 (.ofNat b.toNat),LR.mapSame _ fun b=>.int _ _,fun c _=>?_⟩;simp only [Builtin.firstCells,Sem.run_pure];congr 1;apply XD;simp [aU]
   grind
 . cases d;exact⟨by simp,fun c=>rfl,[],LR.nil,fun c _=>rfl⟩
 . rename_i a y f q j g i;cases e:h.load a.block a.off (f*k)with
   |none=>simp [e]at d| some l=>
     simp only [e]at d;cases d;obtain⟨r,t,u,v⟩:=nu (P:=P) m g i e;exact⟨r,fun c=>rfl,t,u,v⟩
theorem hrel_move{h:Hp}(q:bE mu h w){base2:Nat}{x:Blk}(u:mu b=.blk c base top)(v: ∀t z el,h.get b≠some (.cells t z el 0))(G:WSet w w' c o)(M:oz (upd mu b .dead) x base2 top o):bE (upd (upd mu b .dead) h.n (.blk c base2 top)) ((h.put b .dead).new x) w'/\Ext mu h w (upd (upd mu b .dead) h.n (.blk c base2 top)) ((h.put b .dead).new x) w':=by
 obtain⟨k,j⟩:=sZ q u v G;have N:=q.lt b (by rw [u];simp);have A:(h.put b .dead).n=h.n:=rfl;have hle:Le (upd mu b .dead) (upd (upd mu b .dead) h.n (.blk c base2 top)):=by intro e i;left;exact bG _ _ (by have:=k.lt e i;omega)
 have n:=(h.put b .dead).get_new x k.sized;have B: ∀e d f,upd mu b .dead e≠ .blk c d f:=by
  intro e d f a;have p:e≠b:=by grind[upd_same]
  rw [bG _ _ p]at a;exact p (q.inj e b c _ _ _ _ a u)
 refine⟨⟨Tr.sized_push x k.sized,?_,?_,?_,?_⟩,?_⟩
 . intro e l d f a;by_cases g:e=h.n
   . subst g;rw [upd_same]at a;cases a;exact⟨x,o,by grind,G.at_,M.mono hle⟩
   . rw [bG _ _ g]at a;obtain⟨y,O,r,m,Q⟩:=k.blk e l d f a;exact⟨y,O,by grind,m,Q.mono hle⟩
 . intro e a;by_cases g:e=h.n
   . grind[upd_same]
   . rw [bG _ _ g]at a;rw [n,A,if_neg g];exact k.dead e a
 . intro H I l C J s K r m;by_cases R:H=h.n
   . grind[upd_same,bG,absurd]
   . rw [bG _ _ R]at r;by_cases S:I=h.n
     . grind[upd_same,absurd]
     . rw [bG _ _ S]at m;exact k.inj H I l _ _ _ _ r m
 . intro e a;show e<h.n+1;by_cases g:e=h.n
   . omega
   . rw [bG _ _ g]at a;have:=k.lt e a;omega
 . refine⟨by show h.n<=h.n+1;omega,?_,?_,j.lo,?_,j.frame,?_,j.wsize,j.os,j.tape,j.output,fun e r m=>by
    have T:e<h.n+1:=m;grind[upd_same]⟩
   . intro e i;rw [bG _ _ (by omega)];exact j.old e i
   . intro e l d f i a;by_cases g:e=h.n
     . grind[upd_same,bG]
     . rw [bG _ _ g]at a;exact absurd (k.lt e (by rw [a];simp)) (by rw [A];omega)
   . intro e i D;rw [n,A,if_neg (by omega)];exact j.same e i D
   . intro e l d f t z el a F;obtain⟨U,W,V⟩:=j.ro e l d f t z el a F;have L:=q.lt e (by rw [a];simp);exact⟨U,by grind,by rw [bG _ _ (by omega)];exact V⟩
theorem Fg(h:c<n):Builtin.nextslicecap n c<=3*n:=by grind[Builtin.nextslicecap,Builtin.growBy]
end
theorem BI{el:TypeId}{b:Nat×Nat}(o:Nat)(vs:List Value)(h:w.heap[c]? =some (.cells cs el b)):
 ∃a,WSet w (w.setCells c o vs) c (.cells a el b)/\a.toList=bN cs.toList o vs:=setCells_at c vs o w cs el b h
section
variable{E:Env}{P:Program}(ok:EOk E P)
include ok
omit ok in
theorem A0{t:TypeId}(h:fj E t=some false): ∃d,E.und t=some d/\(match d with| .int _=>true|_=>false)=false:=by unfold fj at h;grind
theorem ym{h:Hp}(s:bE mu h w){e:TypeId}{i:TypeInfo}{t:List Value}(y:E.zero e=some t)(A:t.length=i.size){old' new':List Value}(B: ∀d:World,d.heap=w.heap->(Builtin.firstCells i.size len s').run P d=.ok old'.toArray d)(C: ∀d:World,d.heap=w.heap->(Builtin.firstCells i.size n x').run P d=.ok new'.toArray d)(D:old'.length=len*i.size)(F:new'.length=n*i.size)(G:t2.Sized s2)(H:s2=old'.length+new'.length)(u: ∀j v,t2.get j=some v-> ∃v',(old'++new')[j]? =some v'/\aC mu v v'):
 ∃ v' f w',((do
   let a<-choose (.appendCap (len+n) cap' e)
   askRoom (a*i.bytes)
   let l<-Builtin.firstCells i.size len s'
   let new<-Builtin.firstCells i.size n x'
   let rest:=Builtin.zeroCells (<-zeroValue e).cells (a-(len+n))
   pure (Value.slice (some (<-newRow e (l++new++rest))) (len+n) a):Sem Value)).run P w=.ok v' w'/\
   bE f (h.new (.cells t2 s2 e 1)) w'/\Ext mu h w f (h.new (.cells t2 s2 e 1)) w'/\aC f (.slice (some ⟨h.n,0,some i.size⟩) (len+n) (len+n)) v':=by
 obtain⟨z,I,O,Q,R⟩:=pX ok y {w with drawn:=w.drawn+1};obtain⟨g,m⟩: ∃g,g=(Question.appendCap (len+n) cap' e).cut (w.tape w.drawn (.appendCap (len+n) cap' e)):=⟨_,rfl⟩;have J:len+n<=g:=by grind[Question.cut]
 have p:z.cells.size=i.size:=by grind
 obtain⟨rest,b⟩: ∃rest,rest=Builtin.zeroCells z.cells (g-(len+n)):=⟨_,rfl⟩;have q:rest.size=(g-(len+n))*i.size:=by rw [b];simp [Builtin.zeroCells,p]
 obtain⟨c,k⟩: ∃c,c=old'.toArray++new'.toArray++rest:=⟨_,rfl⟩;have K:c.size=g*i.size:=by rw [k];simp only [Array.size_append,List.size_toArray,D,F,q];rw [<-XY,<-XY];congr 1;omega
 have r:s2<=c.size:=by grind
 have L:bE mu h {w with drawn:=w.drawn+1}:=sW s rfl;obtain⟨M,N⟩:=pR (x:=.cells t2 s2 e 1) (base:=0) (top:=c.size) (o:=.cells c e) L (jd {w with drawn:=w.drawn+1} (.cells c e)) ⟨c,e,(0,0),rfl,rfl,by omega,G,by
  grind,by omega⟩
 refine⟨.slice (some ⟨w.heap.size,0,none⟩) (len+n) g,_,_,?_,M,(uL (w':={w with drawn:=w.drawn+1}) s rfl rfl rfl rfl).trans N,?_⟩
 . have hf:(Question.appendCap (len+n) cap' e).forced=false:=rfl;simp only [Sem.run_bind,run_choose,hf,Xd,if_false,Result.andThen_ok,run_askRoom,B {w with drawn:=w.drawn+1} rfl,C {w with drawn:=w.drawn+1} rfl,I,<-m,<-b,newRow,run_newObj,Sem.run_pure,<-k]
 simp_all[AJ,zM]
theorem y7{ts:Array TypeId}{ty t k e:TypeId}{i:TypeInfo}{base:Option Addr}(b:ts[0]? =some t)(c:ts[1]? =some k)(d:xs[0]? =some (.slice base len cap'))(f:xs[1]? =some x')(g:fj E k=some false)(l:E.und t=some (.slice e))(m:E.ty e=some i)(o:(Builtin.lenOf x').run P w=.ok n w)(p:len+n<=cap'):(Builtin.append_ ts ty xs).run P w=((do
  let new<-Builtin.firstCells i.size n x'
  match base with
   |some a=>do storeCells (a.add (len*i.size)) new.toList;pure (Value.slice base (len+n) cap')
   |none=>pure (Value.slice base (len+n) cap'):Sem Value)).run P w:=by
 have h:E.sz e=some i.size:=by unfold Env.sz;rw [m]
 obtain⟨q,j,r⟩:=A0 g;unfold Builtin.append_;simp only [b,c,d,f,Sem.run_bind,cd ok l,Result.andThen_ok,fd ok h,cd ok j,Sem.run_pure];cases q<;>first
  |(simp at r;done)
  | (simp only [Xd,if_false,Sem.run_bind,o,Result.andThen_ok,Xw,if_true,if_pos p]
     cases base<;>rfl)
theorem tU{ts:Array TypeId}{ty t l e:TypeId}{i:TypeInfo}{base:Option Addr}(b:ts[0]? =some t)(c:ts[1]? =some l)(d:xs[0]? =some (.slice base len cap'))(f:xs[1]? =some x')(g:fj E l=some false)(o:E.und t=some (.slice e))(m:E.ty e=some i)(p:(Builtin.lenOf x').run P w=.ok n w)(x:0<i.bytes)(q: ¬len+n<=cap')(r: ¬Builtin.nextslicecap (len+n) cap'*i.bytes>2 ^48):(Builtin.append_ ts ty xs).run P w=((do
  let a<-choose (.appendCap (len+n) cap' e)
  askRoom (a*i.bytes)
  let h<-Builtin.firstCells i.size len (.slice base len cap')
  let new<-Builtin.firstCells i.size n x'
  let rest:=Builtin.zeroCells (<-zeroValue e).cells (a-(len+n))
  pure (Value.slice (some (<-newRow e (h++new++rest))) (len+n) a):Sem Value)).run P w:=by
 have j:E.sz e=some i.size:=by unfold Env.sz;rw [m]
 obtain⟨s,k,u⟩:=A0 g;have v: ¬(((len+n:Nat):Int)>IntKind.i64.max/\(False\/i.bytes=0)):=by grind
 unfold Builtin.append_;simp only [b,c,d,f,Sem.run_bind,cd ok o,Result.andThen_ok,fd ok j,cd ok k,Sem.run_pure];cases s<;>first
  |(simp at u;done)
  | (simp only [Xd,if_false,Sem.run_bind,p,Result.andThen_ok,Xw,if_true,if_neg q,pV ok m,if_neg v,if_neg r,run_choose,show(Question.appendCap (len+n) cap' e).forced=false from rfl]
     try rfl)
theorem DI{h h' : Hp}(B:bE mu h w){ts:Array TypeId}{ty:TypeId}(G:xs[0]? =some s')(H:xs[1]? =some x')(f:dP E h ts.toList s x=some (h',v))(hs:aC mu s s')(hx:aC mu x x'):
 ∃v' I w',(Builtin.append_ ts ty xs).run P w=.ok v' w'/\bE I h' w'/\Ext mu h w I h' w'/\aC I v v':=by
 unfold dP at f;cases J:ts.toList with
 |nil=>simp [J]at f| cons t a4 =>
   cases a4 with
   |nil=>simp [J]at f| cons tx bi =>
     have K:ts[0]? =some t:=(by rw [<-zO,J];rfl);have L:ts[1]? =some tx:=(by rw [<-zO,J];rfl);simp only [J]at f;cases m:fj E tx with
     |none=>simp [m]at f| some b =>
       cases b with
       |true=>simp [m]at f| false =>
         simp only [m]at f;unfold lC at f;cases X:E.und t with
         |none=>simp [X]at f| some d=>
           simp only [X]at f;cases d<;>(try simp only []at f)<;>try (cases f;done)
           rename_i e;cases Y:E.ty e with
           |none=>simp [Y]at f| some i=>
             simp only [Y]at f;have a5: ∃a len C,s=.slice a len C:=(by grind);obtain⟨a,len,C,rfl⟩:=a5;simp only []at f;cases T:aF h i.size x with
             |none=>grind| some q=>
               obtain⟨n,D⟩:=q;simp only [T]at f;obtain⟨l1,l2,new',F,l4⟩:=Dg (P:=P) B T hx;unfold ie at f;rw [fH,fH,jD]at f;have ai: ∃r cap',s'=.slice r len cap'/\C<=cap'/\len<=C:=by
                cases hs with
                |nils=>grind|slice h1 O=>exact⟨some _,_,rfl,O.caps,h1⟩
               obtain⟨r,cap',rfl,bk,bl⟩:=ai;by_cases A:len+n<=C
               . simp only [A,decide_true,cond_true]at f;rw [y7 ok K L G H m X Y (l2 w) (by omega)];have hf:=l4 w rfl;cases hs with
                 | nils=>
                   simp only []at f;cases f;have ak:n=0:=(by omega);subst ak;exact⟨.slice none 0 0,mu,w,by simp [hf],B,Ext.refl mu h w B,.nils⟩
                 | slice h1 O=>
                   rename_i a r;simp only []at f;simp only [Sem.run_bind,hf,Result.andThen_ok];cases D with
                   | nil=>
                     simp only []at f;cases f;rw [F.nil_left];exact⟨.slice (some r) (len+n) cap',mu,w,by rfl,B,Ext.refl mu h w B,.slice A O⟩
                   | cons x0 xr=>
                     simp only []at f;have ak:n≠0:=(by grind);cases Z:h.store a.block (a.off+len*i.size) (x0::xr)with
                     |none=>simp [Z]at f| some M=>
                       simp only [Z]at f;cases f;have a6:=qv (rE O (by omega)) (len*i.size);obtain⟨w',g1,g2,g3⟩:=tD (P:=P) (a:=iR a (len*i.size)) B a6 Z F;exact⟨.slice (some r) (len+n) cap',mu,w',by simp [g1],g2,g3,.slice A O⟩
               . simp only [A,decide_false,cond_false]at f;by_cases hb:(len+n)*(i.bytes+1)<=70368744177664/\0<i.bytes
                 . simp only [hb.1, hb.2,decide_true,Xm,cond_true]at f;cases hz:E.zero e with
                   |none=>simp [hz]at f| some zs =>
                     simp only [hz,dJ]at f;by_cases Q:zs.length=i.size
                     . simp only [Q, decide_true,cond_true]at f;have u: ∀c,c<len+n-> ¬Builtin.nextslicecap (len+n) c*i.bytes>2 ^48:=(by intro c hc;have:=Fg hc;have h3:Builtin.nextslicecap (len+n) c*i.bytes<=3*(len+n)*i.bytes:=Xp _ this;grind);unfold qx at f;cases hs with
                       | nils=>
                         simp only [dJ,decide_true,cond_true]at f;cases f;rw [tU ok K L G H m X Y (l2 w) hb.2 (by omega) (u 0 (by omega))];have:=ym ok B (e:=e) (i:=i) hz Q (len:=0) (n:=n) (cap':=0) (s':=.slice none 0 0) (x':=x') (old':=[]) (new':=new') (fun w2 _=>rfl) l4 (by simp) (by rw [<-F.1];exact l1) (t2:=Tr.ofList D) (s2:=D.length) (Tr.sized_ofList _) (by rw [F.1];simp) (by
                          intro j v l;rw [Tr.get_ofList]at l;exact F.get l)
                         grind
                       | slice h1 O=>
                         rename_i a r;simp only []at f;cases hg:h.get a.block with
                         |none=>simp [hg]at f| some y=>
                           simp only [hg]at f;cases y<;>(try simp only []at f)<;>try (cases f;done)
                           rename_i tr sz el md;cases aa:kX tr sz a.off (len*i.size) D with
                           |none=>simp [aa]at f| some p =>
                             obtain⟨t2,s2⟩:=p;simp only [aa]at f;have a7: ∃c g N cs R fz,mu a.block=.blk c g N/\w.heap[c]? =some (.cells cs R fz)/\CRel mu tr sz md g N cs fz:=by
                              unfold fC at O;cases hm:mu a.block with
                              |none=>grind|dead=>have:=B.dead _ hm;grind| blk c g N=>
                                obtain⟨y,o,k1,k2,k3⟩:=B.blk _ c g N hm;rw [hg]at k1;cases k1;obtain⟨cs,R,fz,rfl,k4⟩:=k3;grind
                             obtain⟨c,g,N,cs,R,fz,hm,hw,cr⟩:=a7;obtain⟨q1,q2,q3,q4,q5⟩:=DG cr.sized aa
                             -- the al cells
                             obtain⟨al,an⟩:=Tr.slice_mk (t:=tr) (i:=a.off) (n:=len*i.size) (fun k hk=>by
                              obtain⟨v,l⟩:=Tr.get_some cr.sized (show a.off+k<sz by omega);rw [l];rfl)
                             have ac:h.load a.block a.off (len*i.size)=some al:=(by simp_all[Hp.load,fH,decide_true,cond_true]);obtain⟨o1,old',o2,o3⟩:=nu (P:=P) B h1 O ac;have U: ∀j v,t2.get j=some v-> ∃v',(old'++new')[j]? =some v'/\aC mu v v':=by
                              intro j v l;by_cases S:j<len*i.size
                              . rw [q4 j S,(Tr.slice_spec an).2 j S]at l;obtain⟨v',V,W⟩:=LR.get o2 l;grind
                              . rw [q5 j (by omega)]at l;obtain⟨v',V,W⟩:=LR.get F l;exact⟨v',by rw [Xr (by rw [<-o2.1,o1];omega),<-o2.1,o1];exact V,W⟩
                             have aL:s2=old'.length+new'.length:=(by rw [<-o2.1,<-F.1,o1];exact q2);cases ad:a.spot with
                             | none=>
                               simp only [ad]at f;cases f;have bm:cap'=C:=(by grind[fC]);rw [tU ok K L G H m X Y (l2 w) hb.2 (by omega) (u cap' (by omega))];exact ym ok B hz Q o3 l4 (by rw [<-o2.1];exact o1) (by rw [<-F.1];exact l1) q3 aL U
                             | some k' =>
                               simp only [ad,dJ]at f;by_cases hk:k'=i.size/\md≠0/\D.all jx=true
                               . obtain⟨rfl,af,a8⟩:=hk;simp only [af,a8,decide_true,decide_false,Xw,Xm,cond_true]at f;cases f;have a0: ∀t sz el,h.get a.block≠some (.cells t sz el 0):=(by grind);by_cases z:len+n<=cap'
                                 . -- it fits all the same
                                   rw [y7 ok K L G H m X Y (l2 w) z];simp only [Sem.run_bind,l4 w rfl,Result.andThen_ok];have M:=O;unfold fC at M;rw [hm]at M;simp only [ad]at M;obtain⟨s1,ba,s3,s4,s5⟩:=M;have bn:(len+n)*i.size<=cap'*i.size:=Xp _ z;have bd:len*i.size+n*i.size=(len+n)*i.size:=(XY _ _ _).symm;have bp:new'.length=n*i.size:=(by rw [<-F.1];exact l1);have be:=cr.whole;have a1: ∀v∈new',v.oneCell'=true:=(by intro v l;obtain⟨j,S⟩:=List.mem_iff_getElem?.1 l;have bb:j<D.length:=(by grind);have:=F.2 j _ v (Xc bb) S;refine this.flat ?_;grind);have a2:=run_storeCells_cells (P:=P) c (r.off+len*i.size) new' 0 w (fun j S=>by
                                    grind[World.cell?]) (fun j S=>by
                                    simp only [World.frozen?,hw];have:=cr.free af (r.off+len*i.size+0+j) (by omega);grind) a1
                                   rw [Nat.add_zero]at a2;have bf:r.add (len*i.size)=⟨c,r.off+len*i.size,none⟩:=(by rw [qh _ _ s3,ba]);obtain⟨a3,ws,e2⟩:=BI (r.off+len*i.size) new' hw;have bc:a3.size=cs.size:=(by grind[tP]);have hle:Le mu (upd mu a.block .dead):=(by intro b' _;grind[upd_same,bG]);obtain⟨g1,g2⟩:=hrel_move B (x:=.cells t2 s2 e 1) (base2:=r.off) hm a0 ws ⟨a3,R,fz,rfl,by omega,by omega,q3,by
                                    intro j v l;rw [<-zO,e2,B8 _ _ _ _ (show r.off+len*i.size+new'.length<=cs.toList.length by grind)];by_cases S:j<len*i.size
                                    . rw [if_neg (by omega)];rw [q4 j S]at l;obtain⟨v',V,W⟩:=cr.get _ _ l;have bh:r.off=g+a.off:=(by grind);exact⟨v',by grind,W.mono hle⟩
                                    . rw [q5 j (by omega)]at l;obtain⟨v',V,W⟩:=LR.get F l;have br:j-len*i.size<new'.length:=(List.getElem?_eq_some_iff.1 V).1;rw [if_pos (by omega),show r.off+j-(r.off+len*i.size)=j-len*i.size by omega];exact⟨v',V,W.mono hle⟩,fun _=>by
                                    intro j S;exact cr.free af j (by omega)⟩
                                   refine⟨.slice (some r) (len+n) cap',_,_,?_,g1,g2,.slice (zM _) ?_⟩
                                   . simp_all
                                   grind[fC,upd_same]
                                 . rw [tU ok K L G H m X Y (l2 w) hb.2 z (u cap' (by omega))];have hle:Le mu (upd mu a.block .dead):=(by intro b' _;grind[upd_same,bG]);obtain⟨k1,k2⟩:=sZ B hm a0 (w':=w) ⟨rfl,hw,fun _ _=>rfl,rfl,rfl,rfl⟩;obtain⟨v',I,w',g1,g2,g3,g4⟩:=ym ok k1 hz Q o3 l4 (by rw [<-o2.1];exact o1) (by rw [<-F.1];exact l1) q3 aL (fun j v l=>by
                                    obtain⟨v',V,W⟩:=U j v l;exact⟨v',V,W.mono hle⟩)
                                   exact⟨v',I,w',g1,g2,k2.trans g3,g4⟩
                               grind
                     grind
                 grind
end
section
variable{E:Env}{P:Program}(ok:EOk E P)
include ok
omit ok in
theorem oO(a b:Nat):eK a b=Xt a b:=by unfold eK;rw [fH];grind
theorem copyV_run{h h':Hp}(j:bE mu h w){ts:Array TypeId}{ty:TypeId}(B:xs[0]? =some s')(C:xs[1]? =some x')(c:copyV E h ts.toList s x=some (h',v))(hs:aC mu s s')(V:aC mu x x'):
 ∃v' o w',(Builtin.copy_ ts ty xs).run P w=.ok v' w'/\bE o h' w'/\Ext mu h w o h' w'/\aC o v v':=by
 unfold copyV at c;cases p:ts.toList with
 |nil=>simp [p]at c| cons t W=>
   have D:ts[0]? =some t:=(by rw [<-zO,p];rfl);simp only [p]at c;cases F:E.und t with
   |none=>simp [F]at c| some d =>
     simp only [F]at c;cases d<;>(try simp only []at c)<;>try (cases c;done)
     rename_i e;cases q:E.sz e with
     |none=>simp [q]at c| some k=>
       simp only [q]at c;have G: ∃a len g,s=.slice a len g:=(by grind);obtain⟨a,len,g,rfl⟩:=G;have A: ∃r n,s'=.slice r len n/\len<=g:=by
        cases hs with
        |nils=>grind|slice X R=>grind
       obtain⟨r,n,rfl,Y⟩:=A;unfold Builtin.copy_;simp only [D,B,C,Sem.run_bind,cd ok F,Result.andThen_ok];simp only []at c;cases V<;>(try simp only []at c)<;>try (cases c;done)
       . rename_i s;rw [dJ]at c;by_cases H:k=1
         . subst H;simp only [decide_true,cond_true]at c;have z:(Builtin.firstCells 1 (Xt s.size len) (.string s)).run P w=.ok ((((aU s).map fun b=>Value.int .u8 (.ofNat b.toNat)).take (eK s.size len)).toArray) w:=(by simp only [Builtin.firstCells,Sem.run_pure];congr 1;apply XD;rw [oO];simp [aU,List.map_take]);have S:VL mu (((aU s).map fun b=>Value.int .u8 (.ofNat b.toNat)).take (eK s.size len)) (((aU s).map fun b=>Value.int .u8 (.ofNat b.toNat)).take (eK s.size len)):=(by rw [<-List.map_take];exact LR.mapSame _ fun b=>.int _ _);generalize((aU s).map fun b=>Value.int .u8 (.ofNat b.toNat)).take (eK s.size len)=l at c z S;cases l with
           | nil=>
             simp only []at c;cases c;refine⟨goInt (Xt s.size len:Nat),mu,w,?_,j,Ext.refl mu h w j,by rw [oO];exact .int _ _⟩;cases r<;>simp [Builtin.lenOf,fd ok q,z,storeCells]
           | cons y I=>
             simp only []at c;cases a with
             |none=>simp at c| some a=>
               cases hs with
               | slice Z J=>
                 rename_i r;simp only []at c;cases f:h.store a.block a.off (y::I)with
                 |none=>simp [f]at c| some K=>
                   simp only [f]at c;cases c;have i:g≠0:=(by intro e0;simp_all[Xt,Nat.min_zero,Builtin.firstCells]);obtain⟨w',L,M,N⟩:=tD (P:=P) j (rE J i) f S;refine⟨goInt (Xt s.size len:Nat),mu,w',?_,M,N,by rw [oO];exact .int _ _⟩;simp [Builtin.lenOf,fd ok q,z,L]
         grind
       . cases c;refine⟨goInt 0,mu,w,?_,j,Ext.refl mu h w j,.int _ _⟩;have:Xt 0 len=0:=Nat.zero_min len;cases r<;>simp [Builtin.lenOf,fd ok q,Builtin.firstCells,this,storeCells]
       . rename_i b b' m cp O X R;cases u:h.load b.block b.off (eK m len*k)with
         |none=>simp [u]at c| some l=>
           simp only [u]at c;have Q:eK m len<=cp:=(by rw [oO];grind);obtain⟨o1,T,U,o3⟩:=nu (P:=P) j (len:=eK m len) Q R u;have z:(Builtin.firstCells k (Xt m len) (.slice (some b') m O)).run P w=.ok T.toArray w:=(by rw [<-oO];exact o3 w rfl);cases l with
           | nil=>
             simp only []at c;cases c;have:T=[]:=U.nil_left;subst this;refine⟨goInt (Xt m len:Nat),mu,w,?_,j,Ext.refl mu h w j,by rw [oO];exact .int _ _⟩;cases r<;>simp [Builtin.lenOf,fd ok q,z,storeCells]
           | cons y I=>
             simp only []at c;cases a with
             |none=>simp at c| some a=>
               cases hs with
               | slice Z J=>
                 rename_i r;simp only []at c;cases f:h.store a.block a.off (y::I)with
                 |none=>simp [f]at c| some K=>
                   simp only [f]at c;cases c;have i:g≠0:=(by intro e0;simp_all[oO,Xt,Nat.min_zero]);obtain⟨w',L,M,N⟩:=tD (P:=P) j (rE J i) f U;refine⟨goInt (Xt m len:Nat),mu,w',?_,M,N,by rw [oO];exact .int _ _⟩;simp [Builtin.lenOf,fd ok q,z,L]
omit ok in
theorem Ef{r:List UInt8}(h:bytesOf l=some r)(a:VL mu l l')(s:ByteArray)(w:World)(m:String):(forIn l' s (fun c s=>match c with| .int .u8 n=>pure (ForInStep.yield (s.push (UInt8.ofNat n.toNat)))|_=>do stuck m;pure (ForInStep.yield s)):Sem ByteArray).run P w=.ok (iB (aU s++r)) w:=by
 induction l generalizing l' r s with
 | nil=>rw [a.nil_left];simp_all[bytesOf,iB,aU]| cons x l f=>
   obtain⟨g,q,rfl,b,i⟩:=a.cons_left;have: ∃n:Nat,x=.int .u8 (n:Int):=(by unfold bytesOf at h;grind);obtain⟨n,rfl⟩:=this;cases b;have d:(match bytesOf l with|none=>none|some r=>some (UInt8.ofNat n::r))=some r:=h;cases e:bytesOf l with
   |none=>simp [e]at d| some j=>simp_all[Xu,Sem.run_bind,Sem.run_pure,Result.andThen_ok,XB,iB,aU]
omit ok in
theorem Ft(w:World)(cs:Array Value)(e:TypeId):WNew w ({w with heap:=w.heap.push (.cells cs e)}.freeze {block:=w.heap.size,off:=cs.size} 1) (.cells cs e (cs.size,cs.size+1)):=by
 refine⟨?_,rfl,rfl,rfl⟩;simp only [World.freeze,if_neg (show¬(1:Nat)=0 by omega)];grind
theorem convV_run{h h':Hp}(C:bE mu h w){i c:TypeId}(t:aV E h i c x=some (h',v))(M:aC mu x x'):
 ∃v' y w',(convert i c x').run P w=.ok v' w'/\bE y h' w'/\Ext mu h w y h' w'/\aC y v v':=by
 unfold aV at t;cases g:ax E i c with
 |none=>simp [g]at t| some q =>
   obtain⟨n,e⟩:=q;unfold ax at g;cases G:E.und i with
   |none=>simp [G]at g| some d =>
     simp only [G]at g;have z:(∀e,d≠ .slice e)->n=0-> ∃v' y w',(convert i c x').run P w=.ok v' w'/\bE y h' w'/\Ext mu h w y h' w'/\aC y v v':=by
      intro N hn;subst hn;have O:ax E i c=some (0,e):=(by grind[ax]);simp only [O]at t;cases Q:a9 E c x with
      |none=>simp [Q]at t| some u=>
        simp only [Q]at t;cases t;obtain⟨Z,g2⟩:=convP_run ok G N Q M w;grind[Ext.refl]
     cases d<;>(try simp only []at g)<;>(try (cases g;exact z (by intro e R;cases R) rfl))
     case string=>
      cases o:E.und c with
      |none=>simp [o]at g| some S=>
        simp only [o]at g;cases S<;>(try simp only []at g)<;>(try (cases g;exact z (by intro e R;cases R) rfl));rename_i I;cases p:E.und I with
        |none=>simp [p]at g| some T=>
          simp only [p]at g;have D:T=.int .u8/\n=2/\e=I:=(by grind);obtain⟨rfl,rfl,rfl⟩:=D;have F:ax E i c=some (2,e):=(by grind[ax]);simp only [F]at t;cases M<;>(try simp only []at t)<;>try (cases t;done)
          rename_i s;rw [fH]at t;by_cases U:s.size<=1099511627776
          . simp only [U,decide_true,cond_true,bytesV]at t;cases t;obtain⟨H,V⟩: ∃H,H=(Question.appendCap s.size 0 e).cut (w.tape w.drawn (.appendCap s.size 0 e)):=⟨_,rfl⟩;have ad:s.size<=H:=(by grind[Question.cut]);obtain⟨A,J⟩: ∃A:Array Value,A=(s.data.map fun b=>Value.int .u8 b.toNat)++Xn (H-s.size) (.int .u8 0):=⟨_,rfl⟩;have W:A.size=H:=(by simp_all);have N:bE mu h {w with drawn:=w.drawn+1}:=sW C rfl;have X:=Ft {w with drawn:=w.drawn+1} A e;have aa:(aU s).length=s.size:=rfl;obtain⟨Z,g2⟩:=pR (x:=.cells (Tr.ofList ((aU s).map fun b=>.int .u8 (.ofNat b.toNat))) s.size e 1) (base:=0) (top:=A.size) N X ⟨A,e,(A.size,A.size+1),rfl,rfl,by omega,by
             grind[Tr.sized_ofList,aU,List.length_map],by
             intro j v L;rw [Tr.get_ofList]at L;have hj:j<s.size:=(by grind);refine⟨v,?_,?_⟩
             . rw [XV,<-zO,J];simp only [Xl,Xq];rw [Xs (by grind)];exact L
             . simp only [List.getElem?_map,Option.map_eq_some_iff]at L;obtain⟨b,_,rfl⟩:=L;exact .int _ _,by omega⟩
            refine⟨.slice (some ⟨w.heap.size,0,none⟩) s.size H,_,_,?_,Z,(uL (w':={w with drawn:=w.drawn+1}) C rfl rfl rfl rfl).trans g2,?_⟩
            . have hf:(Question.appendCap s.size 0 e).forced=false:=rfl;have B:World.shape? {w with drawn:=w.drawn+1,heap:=w.heap.push (.cells A e)} w.heap.size=some (e,A.size):=(by simp [World.shape?]);simp only [convert,Sem.run_bind,cd ok G,cd ok o,cd ok p,Result.andThen_ok,Conv.stringToBytes,run_choose,hf,Xd,if_false,<-V,newRow,run_newObj,Sem.run_pure,<-J,markStringish,run_shape,B,run_freeze]
            simp_all[AJ,zM]
          grind
     case slice I=>
      cases o:E.und c with
      |none=>simp [o]at g| some S =>
        simp only [o]at g;cases S<;>(try simp only []at g)<;>try (cases g;done)
        cases p:E.und I with
        |none=>simp [p]at g| some T =>
          simp only [p]at g;have D:T=.int .u8/\n=1/\e=I:=(by grind);obtain⟨rfl,rfl,rfl⟩:=D;have F:ax E i c=some (1,e):=(by grind[ax]);simp only [F]at t;cases f:strOf h x with
          |none=>simp [f]at t| some u=>
            simp only [f]at t;cases t;unfold strOf at f;cases M<;>(try simp only []at f)<;>try (cases f;done)
            . cases f;refine⟨.string .empty,mu,w,?_,C,Ext.refl mu h w C,.string _⟩;simp [convert,cd ok G,cd ok o,cd ok p,Conv.bytesToString]
            . rename_i a a' len af ac h1 h2;cases K:h.load a.block a.off len with
              |none=>grind| some l=>
                simp only [K]at f;cases Y:bytesOf l with
                |none=>simp [Y]at f| some r=>
                  simp only [Y]at f;cases f;obtain⟨o1,l',o2,o3⟩:=nu (P:=P) C (len:=len) (k:=1) h1 h2 (by rw [XX];exact K);have o4:=o3 w rfl;simp only [Builtin.firstCells,XX]at o4;have hf:=fun m=>Ef (P:=P) Y o2 ByteArray.empty w m;refine⟨.string (iB r),mu,w,?_,C,Ext.refl mu h w C,.string _⟩;simp only [convert,Sem.run_bind,cd ok G,cd ok o,cd ok p,Result.andThen_ok,Conv.bytesToString,o4];rw [List.forIn_toArray];refine(congrArg (fun q=>Result.andThen q (fun a w'=>Sem.run P (pure (Value.string a)) w')) (hf _)).trans ?_;simp [aU]
omit ok in
theorem EY{f:Value}{args:List Value}{i:d6}{h:Hp}(a:target f args=some i)(hf:aC mu f e)(j:VL mu args args'.toList):Res P mu h w (do let d<-Deferred.ofValue e args';invoke d.target d.args) h i:=by
 unfold target at a;cases hf<;>(try simp only []at a)<;>try (cases a;done)
 . rename_i g x k y l m n o p;cases a;refine⟨rfl,k++args'++l,by rfl,?_⟩;simp only [Xl];exact LR.append (LR.append ⟨m,n⟩ j) ⟨o,p⟩
 . rename_i b c q;simp at a;subst a;exact⟨rfl,c,args',by simp [Deferred.ofValue,invoke],q,j⟩
theorem aop_run{h h':Hp}(G:bE mu h w){B:Operand->Value}(u: ∀x,aC mu (ρ x) (B x)){o:Oper}{U:d6}(i:aop E ρ h o.op=some (U,h')):Res P mu h w (execOp B o) h' U:=by
 have Z: ∀l:List Operand,VL mu (l.map ρ) (l.map B):=fun l=>LR.mapSame l u;have S: ∀{v:Value},pop E ρ o.op=some v->Res P mu h w (execOp B o) h (.val v):=by intro v C;obtain⟨O,F,D⟩:=pop_run ok u C w;exact⟨O,mu,w,F,G,Ext.refl mu h w G,D⟩
 have wr: ∀{r:Option Value},dp h r=some (U,h')-> ∃v,r=some v/\U=.val v/\h'=h:=by
  intro r N;cases r with
  |none=>cases N
  |some v=>cases N;grind
 have Y: ∀{r:Option (Hp×Value)},dK r=some (U,h')-> ∃v,r=some (h',v)/\U=.val v:=by
  intro r N;cases r with
  |none=>cases N
  |some q=>obtain⟨a,b⟩:=q;cases N;grind
 have wu: ∀{r:Option Hp},iH r=some (U,h')->r=some h'/\U=.skip:=by
  intro r N;cases r with
  |none=>cases N
  |some q=>cases N;grind
 obtain⟨aL,op,Q,pos,af,guard⟩:=o;simp only []at i S;unfold execOp;simp only [];cases op
 case load t a=>
  obtain⟨v,C,rfl,rfl⟩:=wr i;obtain⟨O,F,D⟩:=Bh ok G C (u a);exact⟨O,mu,w,by simp [F],G,Ext.refl mu _ w G,D⟩
 case store t a x=>
  obtain⟨C,rfl⟩:=wu i;obtain⟨H,F,D,I⟩:=Fj ok G C (u a) (u x);exact⟨mu,H,by simp [F],D,I⟩
 case convert s d x=>
  obtain⟨v,C,rfl⟩:=Y i;obtain⟨O,J,H,F,D,I,g4⟩:=convV_run ok G C (u x);exact⟨O,J,H,by simp [F],D,I,g4⟩
 case alloc e=>
  simp only [aop]at i;cases hz:E.zero e with
  |none=>simp [hz]at i| some z=>
    simp only [hz]at i;obtain⟨v,C,rfl⟩:=Y i;cases C;obtain⟨zv,z1,z2,z3,z4⟩:=pX ok hz w;have N:VL mu z zv.cells.toList:=(by grind[LR.refl,aC.const,Xe]);obtain⟨F,D⟩:=rR G (el:=e) N (jd w (.cells zv.cells e)) (Tr.sized_ofList z) (Tr.get_ofList z);exact⟨.pointer (some ⟨w.heap.size,0,none⟩),_,_,by simp [Instr.alloc,z1,newVar,newRow],F,D,.ptr (zZ mu h.n w.heap.size 0 _)⟩
 case box e x=>
  simp only [aop]at i;have ai: ∀y,ρ x≠ .chan y:=by grind
  have ak:dK (some (uJ h (ae (ρ x)) e))=some (U,h'):=by grind
  obtain⟨v,C,rfl⟩:=Y ak;cases C;have N:=(u x).cells ai;obtain⟨F,D⟩:=rR G (el:=e) N (jd w (.cells (B x).cells e)) (Tr.sized_ofList _) (Tr.get_ofList _);exact⟨.pointer (some ⟨w.heap.size,0,none⟩),_,_,by rfl,F,D,.ptr (zZ mu h.n w.heap.size 0 _)⟩
 case buildSlice t n K=>
  obtain⟨v,C,rfl⟩:=Y i;have hq:PL mu (K.toList.map fun p=>(p.1,ρ p.2)) (K.toList.map fun p=>(p.1,B p.2)):=LR.mapSame _ fun p=>⟨rfl,u p.2⟩;obtain⟨O,J,H,F,D,I,g4⟩:=zG ok G C hq;have e:(K.map fun(x:Nat×Operand)=>(x.1,B x.2))=(K.toList.map fun p=>(p.1,B p.2)).toArray:=by apply XD;simp
  refine⟨O,J,H,?_,D,I,g4⟩;simp_all
 case makeSlice t l c=>
  obtain⟨v,C,rfl⟩:=Y i;obtain⟨O,J,H,F,D,I,g4⟩:=Ae ok G C (u l) (u c);exact⟨O,J,H,by simp [F],D,I,g4⟩
 case makeMap t r=>
  cases r with
  |some x=>simp only [aop]at i;obtain⟨v,C,rfl,rfl⟩:=wr i;cases C
  | none=>
    cases i;obtain⟨F,D⟩:=pR (x:=.map [] 0) (base:=0) (top:=0) G (jd w (.map #[] 0)) ⟨rfl,#[],rfl,LR.nil⟩;exact⟨.map (some w.heap.size),_,_,by rfl,F,D,.map (by unfold eQ;rw [upd_same];omega)⟩
 case lookup t m k q=>
  obtain⟨v,C,rfl,rfl⟩:=wr i;obtain⟨O,F,D⟩:=DO ok G C (u m) (u k);exact⟨O,mu,w,by simp [F],G,Ext.refl mu _ w G,D⟩
 case mapUpdate t m k x=>
  obtain⟨C,rfl⟩:=wu i;obtain⟨H,F,D,I⟩:=yW ok G C (u m) (u k) (u x);exact⟨mu,H,by simp [F],D,I⟩
 case insert t m k x=>
  obtain⟨C,rfl⟩:=wu i;obtain⟨H,F,D,I⟩:=yW ok G C (u m) (u k) (u x);exact⟨mu,H,by simp [F],D,I⟩
 case mapEntry t m k=>
  obtain⟨v,C,rfl⟩:=Y i;obtain⟨O,H,F,D,I,g4⟩:=Ew ok G C (u m) (u k);exact⟨O,mu,H,by simp [F],D,I,g4⟩
 case entryStore t m s x=>
  obtain⟨C,rfl⟩:=wu i;obtain⟨H,F,D,I⟩:=CM (P:=P) (t:=t) G C (u m) (u s) (u x);exact⟨mu,H,by simp [F],D,I⟩
 case panic x=>
  simp only [aop]at i;have V:=u x;revert i;cases N:ρ x<;>intro i<;>(try simp only []at i)<;>try (cases i;done)
  cases i;rw [N]at V;cases R:B x<;>rw [R]at V<;>cases V;rename_i C;exact⟨rfl,_,by simp only [R];rfl,.iface C⟩
 case defer c=>
  simp only [aop]at i;obtain⟨L,A,j⟩:=c;cases L<;>(try simp only []at i)<;>try (cases i;done)
  rename_i f;have V:=u f;revert i;cases N:ρ f<;>intro i<;>(try simp only []at i)<;>try (cases i;done)
  rename_i fn a b;cases fn<;>(try simp only []at i)<;>try (cases i;done)
  rename_i g;cases i;rw [N]at V;cases R:B f<;>rw [R]at V<;>cases V;rename_i a' b' h1 h2 h3 h4;refine⟨rfl,{target:=.fn (.func g) b',args:=a'++A.map B},?_,?_⟩
  . simp only [resolve,R,Deferred.ofValue];simp
  . refine⟨b',rfl,⟨h3,h4⟩,?_⟩;simp only [Xl,Xq];exact LR.append ⟨h1,h2⟩ (Z _)
 case call c=>
  obtain⟨L,A,j⟩:=c;simp only [aop]at i;cases L<;>(try simp only []at i)<;>try (cases i;done)
  case value f=>
   cases W:target (ρ f) (A.toList.map ρ)with
   |none=>simp [W]at i| some x=>
     simp only [W]at i;cases i;have:=EY (P:=P) (h:=h) (w:=w) (args':=A.map B) W (u f) (by simp_all);exact this
  case builtin b =>
   have T: ∀{x:Operand} {l:List Operand},A.toList=x::l->(A.map B)[0]? =some (B x):=(by intro x l e;rw [<-zO,Xq,e];rfl);have X: ∀{x y:Operand} {l:List Operand},A.toList=x::y::l->(A.map B)[1]? =some (B y):=(by intro x y l e;rw [<-zO,Xq,e];rfl);have aa: ∀{v:Value},pop E ρ (.call ⟨.builtin b,A,j⟩)=some v->U=.val v->h'=h->Res P mu h w (do let d<-resolve B ⟨.builtin b,A,j⟩ Q;invoke d.target d.args) h' U:=(by intro v C e1 e2;subst e1;subst e2;exact S C);cases b
   case append=>
    simp only []at i;cases M:A.toList with
    |nil=>simp [M]at i| cons x l=>
      cases l with
      |nil=>simp [M]at i| cons y l=>
        simp only [M]at i;obtain⟨v,C,rfl⟩:=Y i;obtain⟨O,J,H,F,D,I,g4⟩:=DI ok G (ty:=Q) (T M) (X M) C (u x) (u y);exact⟨O,J,H,by simp [resolve,invoke,builtin,F],D,I,g4⟩
   case copy=>
    simp only []at i;cases M:A.toList with
    |nil=>simp [M]at i| cons x l=>
      cases l with
      |nil=>simp [M]at i| cons y l=>
        simp only [M]at i;obtain⟨v,C,rfl⟩:=Y i;obtain⟨O,J,H,F,D,I,g4⟩:=copyV_run ok G (ty:=Q) (T M) (X M) C (u x) (u y);exact⟨O,J,H,by simp [resolve,invoke,builtin,F],D,I,g4⟩
   case delete=>
    simp only []at i;cases W:j.toList with
    |nil=>simp [W]at i| cons t ts=>
      cases M:A.toList with
      |nil=>grind| cons x l=>
        cases l with
        |nil=>grind| cons y l=>
          simp only [W,M]at i;cases hd:oZ E h t (ρ x) (ρ y)with
          |none=>simp [hd]at i| some h2=>
            simp only [hd]at i;cases i;obtain⟨H,F,D,I⟩:=EB ok G (ty:=Q) (ts:=j) (by rw [<-zO,W];rfl) (T M) (X M) hd (u x) (u y);exact⟨.tuple #[],mu,H,by simp [resolve,invoke,builtin,F],D,I,.tuple rfl (by grind)⟩
   case recover=>
    simp only []at i;cases i;exact⟨rfl,by rfl⟩
   case len =>
    simp only []at i;cases hp:pop E ρ (.call ⟨.builtin .len,A,j⟩)with
    |some v=>grind| none=>
      simp only [hp]at i;cases M:A.toList with
      |nil=>simp [M]at i| cons x l =>
        simp only [M]at i;have V:=u x;revert i;cases N:ρ x<;>intro i<;>(try simp only []at i)<;>try (cases i;done)
        rename_i r;cases r with
        |none=>simp at i| some r =>
          simp only []at i;rw [N]at V;cases hg:h.get r with
          |none=>simp [hg]at i| some y=>
            simp only [hg]at i;cases y<;>(try simp only []at i)<;>try (cases i;done)
            rename_i es al;cases W:j.toList with
            |nil=>simp [W]at i| cons t ts=>
              simp only [W]at i;cases hu:E.und t with
              |none=>simp [hu]at i| some d=>
                simp only [hu]at i;cases d<;>(try simp only []at i)<;>try (cases i;done)
                cases i;cases R:B x<;>rw [R]at V<;>cases V;rename_i c an;obtain⟨top,ac,k1,k2,k3⟩:=zR G an hg;have e0:j[0]? =some t:=(by rw [<-zO,W];rfl);have e1:=T M;rw [R]at e1;have ad:es.length=ac.size:=k3.1;refine⟨.int .i64 ac.size,mu,w,?_,G,Ext.refl mu _ w G,by rw [ad];exact .int _ _⟩;have:(Builtin.len_ j Q (A.map B)).run P w=.ok (.int .i64 ac.size) w:=(by unfold Builtin.len_;simp only [e0,e1,Sem.run_bind,cd ok hu,Result.andThen_ok,kL k2];rfl);simp [resolve,invoke,builtin,this]
   all_goals (simp only []at i;obtain⟨v,C,e1,e2⟩:=wr i;exact aa C e1 e2)
 all_goals (simp only [aop]at i;obtain⟨v,C,rfl,rfl⟩:=wr i;exact S C)
end
noncomputable section
structure Loc where
 regs:Tr Value
 dfs:List Deferred
 rc:Option (Value×Bool)
def Loc.ev(l:Loc):Operand->Value
 | .tmp t=>match l.regs.get t with
   |some v=>v|none=>.tuple #[]
 | .const v=>bif dI v then v else poison
 | .global g=>bif Xa g 16 then .pointer (some ⟨g,0,none⟩)else poison
 | .func f=>.func (.func f) #[] #[]
def Loc.put(l:Loc)(d:Option Tmp)(v:Value):Loc:=match d with
 |none=>l|some t=>{l with regs:=l.regs.set t v}
inductive Ex where
 |normal
 |exit (id:Nat)
 |ret
 |pan (v:Value)
inductive Out where
 |ret (v:Value)
 |pan (v:Value)
structure Cx where
 fn:FuncId
 nr:Nat
 round:Option Nat
structure Rec where
 call:FuncId->List Value->Option (Value×Bool)->Hp->Option (Out×Option (Value×Bool)×Hp)
 code:Cx->Code->Loc->Hp->Option (Ex×Loc×Hp)
def qE(a:Tr Value):List Tmp->List Value->Option (Tr Value)
 | [],[]=>some a|t::b,v::c=>qE (a.set t v) b c|_,_=>none
def kG(E:Env)(R:Rec)(b:Nat)(args:List Value)(h:Hp):Option (Out×Hp):=match h.get b with
 | some (.loop r)=>bif (E.fn r.fn).isSome then match r.st with
   | 0 =>match qE r.regs r.params.toList args with
     |none=>none| some c=>match R.code ⟨r.fn,r.nr,some b⟩ r.assign ⟨c,[],none⟩ h with
       | some (.normal,l,e)=>match e.get b with
         | some (.loop f)=>match f.st with
           | 0 =>match R.code ⟨r.fn,r.nr,some b⟩ r.body l (e.put b (.loop {f with st:=1}))with
             | some (.normal,_,a)=>match a.get b with
               |some (.loop d)=>some (.ret (.bool true),a.put b (.loop {d with st:=0,pending:=none}))
               |_=>none
             | some (.exit id,_,a)=>match a.get b with
               |some (.loop d)=>some (.ret (.bool false),a.put b (.loop {d with st:=2,pending:=some (.exit id)}))
               |_=>none
             | some (.ret,_,a)=>match a.get b with
               |some (.loop d)=>some (.ret (.bool false),a.put b (.loop {d with st:=2,pending:=some .ret}))
               |_=>none
             | some (.pan v,g,a)=>match g.dfs with
               | []=>some (.pan v,a)|_=>none
             |none=>none
           |_=>none
         |_=>none
       |_=>none
   |_=>none
   else none
 |_=>none
def cU(ops:List Oper)(c:Tr Value)(o:Oper):Option Bool:=match o.guard with
 |none=>some true| some (j,a)=>match ops[j]? with
   |none=>some false| some e=>match e.dst with
     |none=>some false| some d=>match c.get d with
       |some (.bool b)=>some (bif b then a else !a)
       |some (.tuple _)=>some false|_=>none
def dc(E:Env)(R:Rec):Option (d6×Hp)->Option (Out×Hp)
 |some (.val v,c)=>some (.ret v,c)|some (.skip,c)=>some (.ret (.tuple #[]),c)| some (.call f a,c)=>match R.call f a none c with
   |some (x,_,d)=>some (x,d)|none=>none
 |some (.yield b a,c)=>kG E R b a c|some (.panic v,c)=>some (.pan v,c)|some (.recov,_)=>none|some (.defer _,_)=>none|none=>none
def qD(o:Oper)(l:Loc):Option (Out×Hp)->Option (Ex×Loc×Hp)
 |some (.ret v,a)=>some (.normal,l.put o.dst v,a)|some (.pan v,a)=>some (.pan v,l,a)|none=>none
def fm(E:Env)(R:Rec)(cx:Cx)(o:Oper)(l:Loc)(h:Hp):Option (Ex×Loc×Hp):=match aop E l.ev h o.op with
 | some (.recov,a)=>match cx.round with
   |some _=>none| none=>match l.rc with
     |some (v,false)=>some (.normal,({l with rc:=some (v,true)}:Loc).put o.dst v,a)
     |_=>some (.normal,l.put o.dst .nilIface,a)
 | some (.defer d,a)=>match cx.round with
   |some _=>none|none=>some (.normal,({l with dfs:=d::l.dfs}:Loc).put o.dst (.tuple #[]),a)
 |r=>qD o l (dc E R r)
def jy(E:Env)(R:Rec)(cx:Cx)(ops:List Oper):List Oper->Loc->Hp->Option (Ex×Loc×Hp)
 | [],l,h=>some (.normal,l,h)| o ::a,l,h=>match cU ops l.regs o with
   |none=>none|some false=>jy E R cx ops a (l.put o.dst (.tuple #[])) h| some true=>match fm E R cx o l h with
     |some (.normal,b,c)=>jy E R cx ops a b c|r=>r
def cls(E:Env):Op->Nat
 | .move _| .assign _| .pick .. | .nilCheck _| .binOp .. | .unOp .. | .makeInterface .. | .makeFunc .. | .slice .. | .fieldAddr .. | .field ..
 | .indexAddr .. | .index .. | .extract .. | .build .. | .typeAssert .. =>0| .convert a b _=>match E.und a,E.und b with
   |some (.slice _),_=>1|some .string,some (.slice _)=>4|_,_=>0
 | .load .. | .lookup .. =>1| .store .. | .insert .. | .mapUpdate .. | .mapEntry .. | .entryStore .. =>2
 | .alloc _| .box .. | .buildSlice .. | .makeSlice .. | .makeMap .. =>4| .call c=>match c.callee with
   | .builtin .min| .builtin .max=>0| .builtin .len=>1| .builtin .delete| .builtin .copy=>2
   | .builtin .append=>5|_=>3
 |_=>3
def touch(ρ:Operand->Value):Op->Option Nat
 | .load _ a| .store _ a _=>match ρ a with
   | .pointer (some a)=>some a.block|_=>none
 | .lookup _ m _ _| .insert _ m _ _| .mapUpdate _ m _ _| .mapEntry _ m _| .entryStore _ m _ _=>match ρ m with
   | .map r=>r|_=>none
 | .convert _ _ x=>match ρ x with
   | .slice (some a) _ _=>some a.block|_=>none
 | .call c=>match c.args.toList with
   | x::_=>match ρ x with
     | .map r=>r| .slice (some a) _ _=>some a.block|_=>none
   |_=>none
 |_=>none
def befs :List Oper->List Nat->Option (List Nat)
 | [],a=>some a| o ::b,a=>match(o.after.toList.foldl (fun s e=>match s with
     |none=>none| some s=>match e.ground with
       | .textOnly _=>some s| .gcOnly _=>some s| _=>match a[a.length-1-e.on]? with
         |none=>none|some m=>bif Xa e.on a.length then some (Xg (Xg s (Xh 2 e.on)) m)else none) (some 0))with
   |none=>none|some s=>befs b (s::a)
def iA(ops:List Oper)(o:Oper):List Tmp:=
 o.dst.toList++(o.op.operands.toList.filterMap fun x=>match x with| .tmp t=>some t|_=>none)++
  (match o.guard with
    |none=>[]| some (j,_)=>match ops[j]? with
      |none=>[]|some a=>a.dst.toList)
def memb(t:Nat):List Nat->Bool
 | []=>false|x::l=>zB t x||memb t l
def nK(ops:List Oper)(o p:Oper):Bool:=
 (match o.dst with|none=>true|some t=>!memb t (iA ops p))&&(match p.dst with|none=>true|some t=>!memb t (iA ops o))
def rW:Op->Op->Bool
 | .mapEntry t _ _,.lookup a _ _ b=>!b&&zB t a|_,_=>false
def ef:Op->Bool
 | .call c=>match c.callee with
   | .builtin _=>false|_=>true
 |_=>false
def ic:Op->Bool
 | .alloc _=>true|_=>false
def isMk:Op->Bool
 | .makeMap .. =>true|_=>false
def mapArg:Op->Option Tmp
 | .insert _ (.tmp t) _ _=>some t| .mapUpdate _ (.tmp t) _ _=>some t|_=>none
def dstIs(t:Tmp)(o:Oper):Bool:=match o.dst with
 |some d=>zB d t|none=>false
def atIs(f:Oper->Bool)(ops:List Oper)(k:Nat):Bool:=match ops[k]? with
 |some o=>f o|none=>false
def qI(ops:List Oper)(o:Oper)(n i:Nat):Bool:=match mapArg o.op with
 |some t=>(Xf n).any fun k=>Xa i k&&(atIs (fun p=>isMk p.op&&dstIs t p) ops k&&(Xf n).all fun j=>Xb j k|| !atIs (dstIs t) ops j)
 |none=>false
def kE(E:Env)(ops:List Oper)(o:Oper)(m n:Nat):List Oper->Nat->Nat×List (Nat×Nat)->Option (Nat×List (Nat×Nat))
 | [],_,r=>some r| p ::a,i,(q,l)=>bif Xy m i then kE E ops o m n a (i+1) (q,l)else
   bif nK ops o p then
    match cls E o.op,cls E p.op with
    |0,_=>kE E ops o m n a (i+1) (q,l)|_,0=>kE E ops o m n a (i+1) (q,l)|1,1=>kE E ops o m n a (i+1) (q,l)|2,1=>kE E ops o m n a (i+1) (q,bif rW o.op p.op then l else(i,n)::l)
    |1,2=>kE E ops o m n a (i+1) (q,bif rW p.op o.op then l else(i,n)::l)
    |5,1=>kE E ops o m n a (i+1) (q,(i,n)::l)|1,5=>kE E ops o m n a (i+1) (q,(i,n)::l)|3,1=>bif ef o.op then kE E ops o m n a (i+1) (q,(i,n)::l)else kE E ops o m n a (i+1) (Xg (Xh 2 n) q,l)
    |1,3=>bif ef p.op then kE E ops o m n a (i+1) (q,(i,n)::l)else kE E ops o m n a (i+1) (Xg (Xh 2 i) q,l)
    |3,4=>bif ef o.op&&ic p.op then kE E ops o m n a (i+1) (q,(i,n)::l)else kE E ops o m n a (i+1) (Xg (Xh 2 n) q,l)
    |2,3=>bif qI ops o n i then kE E ops o m n a (i+1) (Xg (Xh 2 i) q,l)else none
    |2,_=>none|_,2=>none|c,d=>kE E ops o m n a (i+1)
     (Xg (bif zB d 3||zB d 5 then Xh 2 i else 0) (Xg (bif zB c 3||zB c 5 then Xh 2 n else 0) q),l)
   else none
def xy(E:Env)(ops:List Oper):List Oper->List Nat->Nat->Nat×List (Nat×Nat)->Option (Nat×List (Nat×Nat))
 | [],_,_,r=>some r| o::a,m::b,n,r=>match kE E ops o m n (ops.take n) 0 r with
   |none=>none|some (q,l)=>xy E ops a b (n+1) (bif zB (cls E o.op) 4 then Xg (Xh 2 n) q else q,l)
 |_,[],_,_=>none
def im(E:Env)(ops:List Oper):Option (Nat×List (Nat×Nat)):=match befs ops []with
 |none=>none|some a=>xy E ops ops a.reverse 0 (0,[])
def tmpsOf:List Operand->List Tmp
 | []=>[]| .tmp t::l=>t::tmpsOf l|_::l=>tmpsOf l
def Loc.evD(l:Loc)(ts:List Tmp):Operand->Value
 | .tmp t=>bif memb t ts then l.ev (.tmp t)else poison
 |x=>l.ev x
def fI(E:Env)(q i:Nat)(o:Op):Bool:=Xy q i&&Xb 3 (cls E o)
def dw(E:Env)(R:Rec)(ρ:Operand->Value)(a:Bool)(o:Oper)(h:Hp):Option (Value×Hp):=
 bif a then
  match dc E R (aop E ρ {h with lo:=h.n} o.op)with
  |some (.ret v,b)=>bif Xb h.n b.lo then some (v,{b with lo:=h.lo})else none
  |_=>none
 else match dc E R (aop E ρ h o.op)with
  |some (.ret v,b)=>some (v,b)|_=>none
inductive Tch where
 |blk (b:Nat)
 |run (h h':Hp)
def mU(ρ:Operand->Value)(op:Op)(h:Hp):Option Nat:=bif ic op then some h.n else touch ρ op
def dr(ρ:Operand->Value)(a:Bool)(op:Op)(h h':Hp):Option Tch:=
 bif ef op then(bif a then none else some (.run h h'))else match mU ρ op h with
  |none=>none|some b=>some (.blk b)
def iF(i:Nat)(a:List (Nat×Tch)):Option Tch->List (Nat×Tch)
 |none=>a|some b=>(i,b)::a
def cD(E:Env)(R:Rec)(ops:List Oper)(q:Nat):List Oper->Nat->Loc->Hp->List (Nat×Tch)->Option (Loc×Hp×List (Nat×Tch))
 | [],_,l,h,a=>some (l,h,a)| o ::b,i,l,h,a=>match cU ops l.regs o with
   |none=>none|some false=>cD E R ops q b (i+1) (l.put o.dst (.tuple #[])) h a| some true=>match dw E R (l.evD (tmpsOf o.op.operands.toList)) (fI E q i o.op) o h with
     |none=>none|some (v,c)=>cD E R ops q b (i+1) (l.put o.dst v) c (iF i a (dr (l.evD (tmpsOf o.op.operands.toList)) (fI E q i o.op) o.op h c))
def di(i:Nat):List (Nat×Tch)->Option Tch
 | []=>none|(k,b)::l=>bif zB i k then some b else di i l
def sameAddr(a b:Addr):Bool:=zB a.block b.block&&zB a.off b.off&&(match a.spot,b.spot with
 |none,none=>true|some i,some j=>zB i j|_,_=>false)
def um(a b:Value):Bool:=match dL a b with
 |some t=>t| none=>match a,b with
   | .pointer none,.pointer none=>true| .pointer (some x),.pointer (some y)=>sameAddr x y| .slice none n m,.slice none c d=>zB n c&&zB m d| .slice (some x) n m,.slice (some y) c d=>sameAddr x y&&(zB n c&&zB m d)| .map none,.map none=>true| .map (some x),.map (some y)=>zB x y| .nilFunc,.nilFunc=>true| .nilIface,.nilIface=>true|_,_=>false
def vV:List Value->List Value->Bool
 | [],[]=>true|x::l,y::m=>um x y&&vV l m|_,_=>false
def zi(a b:Value):Bool:=match a,b with
 | .func (.func g) x y,.func (.func c) d e=>zB g c&&(vV x.toList d.toList&&vV y.toList e.toList)| .iface t x,.iface f y=>zB t f&&um x y|_,_=>um a b
def sameT:Tr Value->Tr Value->Bool
 | .nil,.nil=>true| .node x l r,.node a b c=>zi x a&&(sameT l b&&sameT r c)|_,_=>false
def sameE:List (Value×Value×Nat)->List (Value×Value×Nat)->Bool
 | [],[]=>true|(k,x,n)::l,(a,y,m)::b=>um k a&&(zi x y&&(zB n m&&sameE l b))|_,_=>false
def sameB(x y:Blk):Bool:=(match x,y with
 | .cells t n e m,.cells b d f g=>sameT t b&&(zB n d&&(zB e f&&zB m g))| .map h c,.map a i=>zB c i&&sameE h a|_,_=>false)|| @decide (x=y) (Classical.propDecidable _)
def leaves(h h':Hp)(b:Nat):Bool:=match h.get b,h'.get b with
 |some x,some y=>sameB x y|none,none=>true|_,_=>false
def mK:Option Tch->Option Tch->Bool
 |some (.blk a),some (.blk b)=>!Nat.beq a b|some (.blk a),some (.run h c)=>leaves h c a|some (.run h c),some (.blk a)=>leaves h c a|some (.run _ _),some (.run _ _)=>false|_,_=>true
def dH(a:List (Nat×Tch)):List (Nat×Nat)->Bool
 | []=>true|(i,j)::l=>mK (di i a) (di j a)&&dH a l
def wQ(o:Oper):Bool:=ic o.op&&o.guard.isNone
def yI(ops:List Oper)(i:Nat):Bool:=match ops[i]? with
 |some o=>wQ o|none=>false
def lates:List Oper->List Bool->List Bool
 | [],a=>a|o::b,a=>lates b ((isMk o.op||o.after.toList.any fun e=>Xa e.on a.length&&a.getD (a.length-1-e.on) false)::a)
def wC(ops:List Oper):Bool:=ops.any (fun o=>ef o.op)&&(ops.any (fun o=>isMk o.op)&&ops.any fun o=>(mapArg o.op).isSome)
def lateAt(ops:List Oper)(i:Nat):Bool:=wC ops&&(lates ops []).reverse.getD i false
def ordL(ops:List Oper):List Nat:=(Xf ops.length).filter (yI ops)++((Xf ops.length).filter (fun i=>!yI ops i&& !lateAt ops i)++(Xf ops.length).filter fun i=>!yI ops i&&lateAt ops i)
def hU(i:Nat):List Nat->Nat
 | []=>0|x::l=>bif zB i x then 0 else hU i l+1
def reix(ord:List Nat)(o:Oper):Oper:={o with after:=o.after.map fun e=>{e with on:=hU e.on ord},guard:=match o.guard with
 |none=>none|some (j,w)=>some (hU j ord,w)}
def gQ(ops:List Oper)(ord:List Nat):List Nat->List Oper
 | []=>[]| i::l=>match ops[i]? with
   |none=>gQ ops ord l|some o=>reix ord o::gQ ops ord l
def jH(n:Nat)(o:Oper):Bool:=match o.guard with
 |none=>true|some (j,_)=>Xa j n
def dy(ops:List Oper):List Oper:=bif (ops.any wQ||wC ops)&&ops.all (jH ops.length)then gQ ops (ordL ops) (ordL ops)else ops
def fullM(ops:List Oper)(n:Nat):Bool:=match befs ops []with
 |some (m::_)=>(Xf n).all fun i=>Xy m i
 |_=>false
def lN(ops:List Oper)(n:Nat):Bool:=fullM ops n&&(ops.take n).all (jH n)
def tail2(ops:List Oper):Bool:=match ops.reverse with
 |a::b::_=>!ef a.op&&ef b.op|_=>false
def cutN(ops:List Oper):Nat:=bif tail2 ops&&lN (ops.take (ops.length-1)) (ops.length-1-1)then ops.length-1-1 else ops.length-1
def wE(E:Env)(R:Rec)(cx:Cx)(ops:List Oper)(l:Loc)(h:Hp):Option (Ex×Loc×Hp):=bif lN ops (ops.length-1)then
    match im E (dy (ops.take (cutN ops)))with
    |none=>none| some (q,a)=>match cD E R (dy (ops.take (cutN ops))) q (dy (ops.take (cutN ops))) 0 l h []with
      |none=>none|some (b,c,d)=>bif dH d a then jy E R cx ops (ops.drop (cutN ops)) b c else none
 else none
def tZ(E:Env)(ops:List Oper):Bool:=false
def behD(ops:List Oper)(j i:Nat):Bool:=match befs ops []with
 | some a=>match a.reverse[i]? with
   |some m=>Xy m j|none=>false
 |none=>false
def g9(ops:List Oper):Nat:=ops.findIdx fun o=>ef o.op
def qZ(ops:List Oper):List Nat:=(Xf ops.length).filter (fun i=>!(zB i (g9 ops)||behD ops (g9 ops) i))++(Xf ops.length).filter fun i=>zB i (g9 ops)||behD ops (g9 ops) i
def lV(ops:List Oper):List Oper:=gQ ops (qZ ops) (qZ ops)
def readsO(E:Env)(o:Oper):Bool:=Xb (cls E o.op) 1&&o.guard.isNone
def midOk(E:Env)(os:List Oper)(n:Nat):Bool:=(os.take n).all (readsO E)&&(atIs (fun o=>ef o.op&&o.guard.isNone) os n&&(Xf os.length).all fun i=>Xb i n||behD os n i)
def pJ(os:List Oper)(l:Loc):Loc:=os.foldl (fun l o=>l.put o.dst poison) l
def xw(E:Env)(R:Rec)(os:List Oper)(q:Nat)(ps:List (Nat×Nat))(n:Nat)(d:Loc):Option (Loc×Hp×List (Nat×Tch))->Option (Ex×Loc×Hp)
 |none=>none| some (l,h,e)=>match os[n]? with
   |none=>none| some o=>match dc E R (aop E (l.evD (tmpsOf o.op.operands.toList)) h o.op)with
     |none=>none|some (.pan v,a)=>some (.pan v,pJ os d,a)| some (.ret v,a)=>match cD E R os q (os.drop (n+1)) (n+1) (l.put o.dst v) a (iF n e (dr (l.evD (tmpsOf o.op.operands.toList)) false o.op h a))with
       |none=>none|some (f,b,c)=>bif dH c ps then some (.normal,f,b)else none
def oR(E:Env)(ops:List Oper):Bool:=atIs (fun o=>zB (cls E o.op) 2) ops (ops.length-1)&&(ops.all (jH ops.length)&&midOk E (lV ops) (g9 (lV ops)))
def midD(E:Env)(R:Rec)(ops:List Oper)(l:Loc)(h:Hp):Option (Ex×Loc×Hp):=match im E (lV ops)with
 |none=>none|some (q,a)=>bif Xy q (g9 (lV ops))then none else xw E R (lV ops) q a (g9 (lV ops)) l (cD E R (lV ops) q ((lV ops).take (g9 (lV ops))) 0 l h [])
def cutD(E:Env)(R:Rec)(cx:Cx)(ops:List Oper)(l:Loc)(h:Hp):Option (Ex×Loc×Hp):=bif oR E ops then midD E R ops l h else wE E R cx ops l h
def jS(R:Rec)(cx:Cx)(f:Value)(params:Array Tmp)(assign body:Code)(l:Loc)(h:Hp):Option (Ex×Loc×Hp):=
 match f with
 | .func (.func g) a b=>
   match(match cx.round with
    |none=>some (h.new .dfr,h.n,({target:=.collected h.n,args:=#[]}:Deferred)::l.dfs)| some r=>match h.get r with
      |some (.loop x)=>some (h,x.defers,l.dfs)|_=>none)with
   |none=>none| some (e,d,c)=>
     match R.call g (a.toList++[.func (.yield e.n) #[] #[]]++b.toList) none
      (e.new (.loop {fn:=cx.fn,regs:=l.regs,nr:=cx.nr,params,assign,body,st:=0,pending:=none,defers:=d}))with
     |none=>none|some (.pan v,_,i)=>some (.pan v,{l with dfs:=c},i)
     | some (.ret _,_,i)=>match i.get e.n with
       | some (.loop x)=>match x.st with
         |1=>none| _=>match x.pending with
           |none=>some (.normal,{l with dfs:=c},i.put e.n .dead)
           |some (.exit id)=>some (.exit id,{l with dfs:=c},i.put e.n .dead)
           |some .ret=>some (.ret,{l with dfs:=c},i.put e.n .dead)
           |_=>none
       |_=>none
 |_=>none
def aX(E:Env)(R:Rec)(cx:Cx):Code->Loc->Hp->Option (Ex×Loc×Hp)
 | .skip,l,h=>some (.normal,l,h)| .label _,l,h=>some (.normal,l,h)| .region _ d m,l,h=>bif m then
  bif E.cut cx.fn then cutD E R cx d.toList l h else match im E (dy d.toList)with
  |none=>none| some (q,o)=>match cD E R (dy d.toList) q (dy d.toList) 0 l h []with
    |none=>none|some (j,k,p)=>bif dH p o then some (.normal,j,k)else none
   else jy E R cx d.toList d.toList l h
 | .seq a b,l,h=>match aX E R cx a l h with
   |some (.normal,j,k)=>aX E R cx b j k|r=>r
 | .cond c a b,l,h=>match l.ev c with
   | .bool t=>bif t then aX E R cx a l h else aX E R cx b l h
   |_=>none
 | .block id b,l,h=>match aX E R cx b l h with
   |some (.exit i,j,k)=>bif zB i id then some (.normal,j,k)else some (.exit i,j,k)
   |r=>r
 | .loop b,l,h=>match aX E R cx b l h with
   |some (.normal,j,k)=>R.code cx (.loop b) j k|r=>r
 | .rangeFunc f e g n,l,h=>jS R cx (l.ev f) e g n l h| .exit id,l,h=>some (.exit id,l,h)| .scope b,l,h=>aX E R cx b l h| .goto _,_,_=>none| .ret,l,h=>some (.ret,l,h)| .refuse _,_,_=>none
def cM(R:Rec):List Deferred->Option Value->Hp->Option (Option Value×Hp)
 | [],m,h=>some (m,h)| d ::a,m,h=>match d.target with
   | .collected b=>match h.get b with
     |some .dfr=>cM R a m (h.put b .dead)|_=>none
   | .fn (.func f) c=>match R.call f (d.args.toList++c.toList) (match m with|none=>none|some v=>some (v,false)) h with
     | some (.ret _,g,e)=>match m,g with
       |none,none=>cM R a none e|some _,some (_,true)=>cM R a none e|some _,some (v,false)=>cM R a (some v) e|_,_=>none
     |_=>none
   |_=>none
def cu(E:Env)(b:Tr Value)(h:Hp):List ResultVar->Option (List Value)
 | []=>some []| .tmp t::c=>match cu E b h c with
   |none=>none|some l=>some ((match b.get t with|some v=>v|none=>.tuple #[])::l)
 | .cell a t::c=>match gm E h t (match b.get a with|some v=>v|none=>.tuple #[])with
   |none=>none| some v=>match cu E b h c with
     |none=>none|some l=>some (v::l)
def ab:List Value->Value
 | [v]=>v|l=>.tuple ⟨l⟩
def mP(E:Env)(R:Rec)(f:FuncId)(args:List Value)(rc:Option (Value×Bool))(h:Hp):Option (Out×Option (Value×Bool)×Hp):=
 match E.fn f with
 |none=>none| some b=>match b.body with
   |none=>none| some c=>
     bif Xb args.length b.ntmps then
     match R.code ⟨f,b.ntmps,none⟩ c ⟨(Tr.blank (.tuple #[]) b.ntmps b.ntmps).setAll 0 args,[],rc⟩ h with
     |none=>none|some (.exit _,_,_)=>none| some (.pan v,l,d)=>match cM R l.dfs (some v) d with
       |none=>none|some (some v,a)=>some (.pan v,l.rc,a)| some (none,a)=>match cu E l.regs a b.results.toList with
         |none=>none|some e=>some (.ret (ab e),l.rc,a)
     | some (_,l,d)=>match cM R l.dfs none d with
       | some (none,a)=>match cu E l.regs a b.results.toList with
         |none=>none|some e=>some (.ret (ab e),l.rc,a)
       |_=>none
     else none
def jU(E:Env)(R:Rec)(f:FuncId)(args:List Value)(rc:Option (Value×Bool))(h:Hp):Option (Out×Option (Value×Bool)×Hp):=
 match E.orc f args with
 |none=>mP E R f args rc h| some v=>match rc with
   |none=>some (.ret v,none,h)|some _=>none
def next(E:Env)(R:Rec):Rec:={call:=jU E R,code:=aX E R}
def bot:Rec:={call:=fun _ _ _ _=>none,code:=fun _ _ _ _=>none}
def run(E:Env):Nat->Rec
 |0=>bot|n+1=>next E (run E n)
end
structure FC where
 fn:FuncId
 kind:CallKind
 round:Option Nat
variable{F:FC}
def FC.mk'(F:FC)(tmps:Array Value)(dfs:List Deferred)(todo:List Item):Frame:=
 {fn:=F.fn,tmps,todo,defers:=dfs,mode:=.run,kind:=F.kind,roundOf:=F.round}
section steps
variable{P:Program}{F:FC}{tmps:Array Value}{dfs:List Deferred}{k:List Item}{cs:List Frame}{w:World}
theorem st_skip:step P (lone (F.mk' tmps dfs (.code .skip::k)) cs w)=.next (lone (F.mk' tmps dfs k) cs w):=step_lone_go (by rfl)
theorem st_label{l:Nat}:step P (lone (F.mk' tmps dfs (.code (.label l)::k)) cs w)=.next (lone (F.mk' tmps dfs k) cs w):=step_lone_go (by rfl)
theorem Fe:step P (lone (F.mk' tmps dfs (.inBlock id::k)) cs w)=.next (lone (F.mk' tmps dfs k) cs w):=step_lone_go (by rfl)
theorem EH{b:Code}:step P (lone (F.mk' tmps dfs (.inScope b::k)) cs w)=.next (lone (F.mk' tmps dfs k) cs w):=step_lone_go (by rfl)
theorem st_seq{a b:Code}:step P (lone (F.mk' tmps dfs (.code (.seq a b)::k)) cs w)=.next (lone (F.mk' tmps dfs (.code a:: .code b::k)) cs w):=step_lone_go (by rfl)
theorem st_block{b:Code}:step P (lone (F.mk' tmps dfs (.code (.block id b)::k)) cs w)=.next (lone (F.mk' tmps dfs (.code b:: .inBlock id::k)) cs w):=step_lone_go (by rfl)
theorem st_loop{b:Code}:step P (lone (F.mk' tmps dfs (.code (.loop b)::k)) cs w)=.next (lone (F.mk' tmps dfs (.code b:: .inLoop b::k)) cs w):=step_lone_go (by rfl)
theorem st_inLoop{b:Code}:step P (lone (F.mk' tmps dfs (.inLoop b::k)) cs w)=.next (lone (F.mk' tmps dfs (.code b:: .inLoop b::k)) cs w):=step_lone_go (by rfl)
theorem st_scope{b:Code}:step P (lone (F.mk' tmps dfs (.code (.scope b)::k)) cs w)=.next (lone (F.mk' tmps dfs (.code b:: .inScope b::k)) cs w):=step_lone_go (by rfl)
theorem st_exit{k':List Item}(h:exitTo id k=some k'):step P (lone (F.mk' tmps dfs (.code (.exit id)::k)) cs w)=.next (lone (F.mk' tmps dfs k') cs w):=step_lone_go (by simp [stepG,stepG.exec,FC.mk',h])
theorem st_region:step P (lone (F.mk' tmps dfs (.code (.region id ops false)::k)) cs w)=.next (lone (F.mk' tmps dfs (.inRegion ops (Xf ops.size)::k)) cs w):=step_lone_go (by rfl)
theorem z9:step P (lone (F.mk' tmps dfs (.code (.region id ops true)::k)) cs w)=
 .next (lone (F.mk' tmps dfs (.inRegion ops (Region.schedule (P.follows .mixedOrders) ops (w.tape w.drawn (.order F.fn id)))::k)) cs {w with drawn:=w.drawn+1}):=
 step_lone_go (by rfl)
theorem qU:step P (lone (F.mk' tmps dfs (.inRegion ops []::k)) cs w)=.next (lone (F.mk' tmps dfs k) cs w):=step_lone_go (by rfl)
def eo(tmps:Array Value):Operand->Value
 | .tmp t=>tmps.getD t undef| .const v=>v| .global g=>.pointer (some ⟨g,0,none⟩)| .func f=>.func (.func f) #[] #[]
theorem zY(todo:List Item):(F.mk' tmps dfs todo).eval=eo tmps:=by rfl
theorem st_cond{c:Operand}{a b:Code}{t:Bool}(h:eo tmps c=.bool t):step P (lone (F.mk' tmps dfs (.code (.cond c a b)::k)) cs w)=.next (lone (F.mk' tmps dfs (.code (if t then a else b)::k)) cs w):=
 step_lone_go (by
  have:=congrFun (zY (F:=F) (tmps:=tmps) (dfs:=dfs) (.code (.cond c a b)::k)) c;simp_all[FC.mk',stepG,stepG.exec])
def iO(tmps:Array Value)(d:Option Tmp)(v:Value):Array Value:=match d with
 |some d=>tmps.setIfInBounds d v|none=>tmps
theorem mG(v:Value):(F.mk' tmps dfs (.inRegion ops (i::rest)::k)).finish v=F.mk' (iO tmps ((ops[i]?).bind (·.dst)) v) dfs (.inRegion ops rest::k):=by rfl
theorem yP(h:((ops[i]?).map (Region.wanted · (yielded ops tmps))).getD false=false):step P (lone (F.mk' tmps dfs (.inRegion ops (i::rest)::k)) cs w)=.next (lone (F.mk' (iO tmps ((ops[i]?).bind (·.dst)) undef) dfs (.inRegion ops rest::k)) cs w):=by
 rw [<-mG];exact step_lone_go (by
  simp_all[FC.mk',stepG,stepG.exec])
theorem qK{o:Oper}(a:ops[i]? =some o)(b:Region.wanted o (yielded ops tmps)=true)(d:F.round=none\/ ∀c,o.op≠ .defer c):stepG P true {frame:=F.mk' tmps dfs (.inRegion ops (i::rest)::k),callers:=cs,status:=.running,dying:=none} w=
  stepG.apply P true (F.mk' tmps dfs (.inRegion ops (i::rest)::k)) cs none (execOp (eo tmps) o) w:=by
 grind[zY,FC.mk',stepG,stepG.exec,stepG.oper,Frame.oper?]
section op
variable{ops:Array Oper}{i:Nat}{rest:List Nat}{o:Oper}{w':World}
theorem Dh(a:ops[i]? =some o)(b:Region.wanted o (yielded ops tmps)=true)(d:F.round=none\/ ∀c,o.op≠ .defer c)(e:(execOp (eo tmps) o).run P w=.ok (.value v) w'):step P (lone (F.mk' tmps dfs (.inRegion ops (i::rest)::k)) cs w)=.next (lone (F.mk' (iO tmps o.dst v) dfs (.inRegion ops rest::k)) cs w'):=by
 have:F.mk' (iO tmps o.dst v) dfs (.inRegion ops rest::k)=(F.mk' tmps dfs (.inRegion ops (i::rest)::k)).finish v:=by rw [mG,a];rfl
 rw [this];exact step_lone_go (by rw [qK a b d];simp [stepG.apply,e])
theorem st_opskip(a:ops[i]? =some o)(b:Region.wanted o (yielded ops tmps)=true)(d:F.round=none\/ ∀c,o.op≠ .defer c)(e:(execOp (eo tmps) o).run P w=.ok .skip w'):step P (lone (F.mk' tmps dfs (.inRegion ops (i::rest)::k)) cs w)=.next (lone (F.mk' (iO tmps o.dst undef) dfs (.inRegion ops rest::k)) cs w'):=by
 have:F.mk' (iO tmps o.dst undef) dfs (.inRegion ops rest::k)=(F.mk' tmps dfs (.inRegion ops (i::rest)::k)).finish undef:=by rw [mG,a];rfl
 rw [this];exact step_lone_go (by rw [qK a b d];simp [stepG.apply,e])
theorem st_enter(a:ops[i]? =some o)(b:Region.wanted o (yielded ops tmps)=true)(d:F.round=none\/ ∀c,o.op≠ .defer c){f:FuncId}(e:(execOp (eo tmps) o).run P w=.ok (.enter f args) w'):step P (lone (F.mk' tmps dfs (.inRegion ops (i::rest)::k)) cs w)=.next (lone (Frame.enter P f args .normal) (F.mk' tmps dfs (.inRegion ops (i::rest)::k)::cs) w'):=
 step_lone_go (by rw [qK a b d];simp [stepG.apply,e,FC.mk'])
theorem st_round(e:ops[i]? =some o)(g:Region.wanted o (yielded ops tmps)=true)(h:F.round=none\/ ∀c,o.op≠ .defer c){l:Nat}{f:FuncId}{d:Array Value}{a b:Code}(j:(execOp (eo tmps) o).run P w=.ok (.round l f d a b) w'):step P (lone (F.mk' tmps dfs (.inRegion ops (i::rest)::k)) cs w)=.next (lone (Frame.round l f d a b .normal) (F.mk' tmps dfs (.inRegion ops (i::rest)::k)::cs) w'):=
 step_lone_go (by rw [qK e g h];simp [stepG.apply,j,FC.mk'])
theorem st_defer(a:ops[i]? =some o)(b:Region.wanted o (yielded ops tmps)=true)(c:F.round=none){d:Deferred}(e:(execOp (eo tmps) o).run P w=.ok (.defer d) w'):step P (lone (F.mk' tmps dfs (.inRegion ops (i::rest)::k)) cs w)=.next (lone (F.mk' (iO tmps o.dst undef) (d::dfs) (.inRegion ops rest::k)) cs w'):=by
 have:F.mk' (iO tmps o.dst undef) (d::dfs) (.inRegion ops rest::k)=(F.mk' tmps (d::dfs) (.inRegion ops (i::rest)::k)).finish undef:=by rw [mG,a];rfl
 rw [this];exact step_lone_go (by rw [qK a b (.inl c)];simp [stepG.apply,e,FC.mk'])
theorem st_panic(a:ops[i]? =some o)(b:Region.wanted o (yielded ops tmps)=true)(d:F.round=none\/ ∀c,o.op≠ .defer c)(e:(execOp (eo tmps) o).run P w=.halt (.panic v) w'):step P (lone (F.mk' tmps dfs (.inRegion ops (i::rest)::k)) cs w)=.next (lone {F.mk' tmps dfs (.inRegion ops (i::rest)::k)with mode:=.panicking [{v,recovered:=false}]} cs w'):=
 step_lone_go (by rw [qK a b d];simp [stepG.apply,e,Frame.raise,FC.mk'])
theorem yV(a:ops[i]? =some o)(d:Region.wanted o (yielded ops tmps)=true)(b:F.round=none)(e:(execOp (eo tmps) o).run P w=.ok .recover w')(f:tryRecover (F.mk' tmps dfs (.inRegion ops (i::rest)::k)) cs=none):step P (lone (F.mk' tmps dfs (.inRegion ops (i::rest)::k)) cs w)=.next (lone (F.mk' (iO tmps o.dst .nilIface) dfs (.inRegion ops rest::k)) cs w'):=by
 have:F.mk' (iO tmps o.dst .nilIface) dfs (.inRegion ops rest::k)=(F.mk' tmps dfs (.inRegion ops (i::rest)::k)).finish .nilIface:=by rw [mG,a];rfl
 rw [this];have c:(F.mk' tmps dfs (.inRegion ops (i::rest)::k)).roundOf=none:=b;exact step_lone_go (by simp_all[qK,stepG.apply])
theorem yM(b:ops[i]? =some o)(e:Region.wanted o (yielded ops tmps)=true)(c:F.round=none)(f:(execOp (eo tmps) o).run P w=.ok .recover w'){a:List Frame}(g:tryRecover (F.mk' tmps dfs (.inRegion ops (i::rest)::k)) cs=some (v,a)):step P (lone (F.mk' tmps dfs (.inRegion ops (i::rest)::k)) cs w)=.next (lone (F.mk' (iO tmps o.dst v) dfs (.inRegion ops rest::k)) a w'):=by
 have:F.mk' (iO tmps o.dst v) dfs (.inRegion ops rest::k)=(F.mk' tmps dfs (.inRegion ops (i::rest)::k)).finish v:=by rw [mG,b];rfl
 rw [this];have d:(F.mk' tmps dfs (.inRegion ops (i::rest)::k)).roundOf=none:=c;exact step_lone_go (by simp_all[qK,stepG.apply])
end op
structure LeaveP(P:Program)(fr:Frame)(kind:CallKind)(v:Value):Prop where
 mode:fr.mode=.panicking [{v,recovered:=false}]
 defers:fr.defers=[]
 kind:fr.kind=kind
 fn: ∃fn,P.funcs[fr.fn]? =some fn
theorem Cs{a c:Frame}(h:ug P a w .normal v):step P (lone a (c::cs) w)=.next (lone (c.finish v) cs w):=by obtain⟨d,hf,b⟩:=h.res;exact step_lone_go (by simp [stepG,unwind,doReturn,h.mode,h.defers,h.kind,hf,b])
theorem qj{b c:Frame}{a:CallKind}(h:LeaveP P b a v):step P (lone b (c::cs) w)=.next (lone (c.raise [{v,recovered:=false}]) cs w):=by obtain⟨d,hf⟩:=h.fn;exact step_lone_go (by simp [stepG,unwind,Frame.catches,h.mode,h.defers,hf])
end steps
section
variable{P:Program}{F:FC}{tmps:Array Value}{dfs:List Deferred}{k:List Item}{cs:List Frame}{w:World}
def setW(w:World)(c:Nat)(o:Obj):World:={w with heap:=w.heap.setIfInBounds c o}
def Plain:Obj->Prop
 | .cells .. =>False|_=>True
theorem rK(a:w.heap[c]? =some q)(hq:Plain q):(setObj c o).run P w=.ok () (setW w c o):=by cases q<;>first|exact hq.elim|simp [setObj,Sem.run,a,setW]
theorem zE(a:w.heap[c]? =some q)(hq:Plain q):(getObj c).run P w=.ok q w:=by cases q<;>first|exact hq.elim|simp [getObj,Sem.run,a]
theorem nJ(a:w.heap[c]? =some (.loop r)):(Instr.getLoop c).run P w=.ok r w:=by unfold Instr.getLoop;simp only [Sem.run_bind,zE a trivial,Result.andThen_ok,Sem.run_pure]
theorem Ah(a:w.heap[c]? =some (.loop r))(hs:r.state=.ready):(Instr.beginRound c).run P w=.ok () (setW w c (.loop {r with state:=.busy})):=by
 unfold Instr.beginRound;simp only [Sem.run_bind,nJ a,Result.andThen_ok,rK a trivial,hs,Sem.run_pure]
theorem Ca(b:w.heap[c]? =some (.loop r))(a:Option Code):(Instr.endRound c a).run P w=.ok (.bool a.isNone) (setW w c (.loop {r with state:=if a.isNone then .ready else .done,pending:=a})):=by
 unfold Instr.endRound;simp only [Sem.run_bind,nJ b,Result.andThen_ok,rK b trivial,Sem.run_pure]
theorem DJ(a:w.heap[c]? =some (.loop r))(hs:r.state≠ .busy):(Instr.endLoop c).run P w=.ok r.pending (setW w c (.loop {r with state:=.exhausted})):=by
 unfold Instr.endLoop;have:(r.state==LoopState.busy)=false:=by grind
 simp only [Sem.run_bind,nJ a,Result.andThen_ok,this,Xd,if_false,rK a trivial,Sem.run_pure]
theorem ye{a:List Deferred}(b:w.heap[c]? =some (.deferred (some a))):(Instr.takeDeferred c).run P w=.ok a (setW w c (.deferred none)):=by
 unfold Instr.takeDeferred;simp only [Sem.run_bind,zE b trivial,Result.andThen_ok,rK b trivial,Sem.run_pure]
theorem BE(a:F.round=some c)(b:w.heap[c]? =some (.loop r))(hs:r.state=.ready):step P (lone (F.mk' tmps dfs (.beginRound::k)) cs w)=.next (lone (F.mk' tmps dfs k) cs (setW w c (.loop {r with state:=.busy}))):=by
 refine step_lone_go ?_;simp_all[Ah,stepG,stepG.exec,stepG.apply,FC.mk',Frame.finish]
def CN(todo:List Item)(a:Option Code):Prop:=
 (todo=[]/\a=none)\/(∃b,todo=.code .ret::b/\a=some .ret)\/(∃id b,todo=.code (.exit id)::b/\exitTo id b=none/\a=some (.exit id))
theorem BC(b:F.round=some c)(d:F.kind=.normal)(f:w.heap[c]? =some (.loop r)){a:Option Code}(g:CN todo a){c0:Frame}:step P (lone (F.mk' tmps dfs todo) (c0::cs) w)=
  .next (lone (c0.finish (.bool a.isNone)) cs (setW w c (.loop {r with state:=if a.isNone then .ready else .done,pending:=a}))):=by
 refine step_lone_go ?_;have e:=Ca (P:=P) f a;rcases g with⟨rfl,rfl⟩|⟨h,rfl,rfl⟩|⟨id,h,rfl,i,rfl⟩
 . simp [stepG,stepG.exec,FC.mk',b,e,doReturn,d]
 . simp [stepG,stepG.exec,FC.mk',b,e,doReturn,d]
 simp_all[stepG,stepG.exec,FC.mk',doReturn]
theorem Fs(a:F.round=none)(c:todo=[]\/ ∃b,todo=.code .ret::b):step P (lone (F.mk' tmps dfs todo) cs w)=.next (lone {F.mk' tmps dfs todo with mode:=.returning} cs w):=by
 refine step_lone_go ?_;rcases c with rfl|⟨b,rfl⟩
 . simp [stepG,stepG.exec,FC.mk',a]
 . simp [stepG,stepG.exec,FC.mk',a]
theorem DR(a:w.heap[c]? =some (.loop r))(hs:r.state≠ .busy):step P (lone (F.mk' tmps dfs (.endRangeFunc c::k)) cs w)=.next (lone (F.mk' tmps dfs ((r.pending.map Item.code).toList++k)) cs (setW w c (.loop {r with state:=.exhausted}))):=by
 refine step_lone_go ?_;simp_all[DJ,stepG,stepG.exec,FC.mk']
def pj(w:World)(o:Obj):World:={w with heap:=w.heap.push o}
theorem zk:(newObj o).run P w=.ok w.heap.size (pj w o):=by rfl
theorem CL:
 (Instr.enterLoop F.fn tmps params assign body none).run P w=.ok (w.heap.size+1,[{target:=.collected w.heap.size,args:=#[]}])
  (pj (pj w (.deferred (some []))) (.loop {state:=.ready,pending:=none,fn:=F.fn,tmps,params,assign,body,defers:=w.heap.size})):=by
 unfold Instr.enterLoop;simp only [Sem.run_bind,zk,Result.andThen_ok,Sem.run_pure];simp [pj]
theorem yX(a:w.heap[c]? =some (.loop r)):(Instr.enterLoop F.fn tmps params assign body (some c)).run P w=.ok (w.heap.size,[])
  (pj w (.loop {state:=.ready,pending:=none,fn:=F.fn,tmps,params,assign,body,defers:=r.defers})):=by
 unfold Instr.enterLoop;simp only [Sem.run_bind,zk,Result.andThen_ok,Sem.run_pure,nJ a]
theorem st_range{f:Operand}{g:FuncId}{x y:Array Value}(hf:eo tmps f=.func (.func g) x y)(e: ∀args w,(callFunc g args).run P w=.ok (.enter g args) w){mark:List Deferred}{b:World}(i:(Instr.enterLoop F.fn tmps params assign body F.round).run P w=.ok (c,mark) b):step P (lone (F.mk' tmps dfs (.code (.rangeFunc f params assign body)::k)) cs w)=
  .next (lone (Frame.enter P g (x++#[.func (.yield c) #[] #[]]++y) .normal) (F.mk' tmps (mark++dfs) (.inRangeFunc c::k)::cs) b):=by
 refine step_lone_go ?_;have h:=zY (F:=F) (tmps:=tmps) (dfs:=mark++dfs) (.inRangeFunc c::k);simp only [FC.mk']at h;have j: ∀a,(do let d<-resolve (eo tmps) {callee:=.value f,args:=#[.const (.func (.yield c) #[] #[])],argTypes:=#[]} 0;invoke d.target d.args).run P a=
  .ok (.enter g (x++#[.func (.yield c) #[] #[]]++y)) a:=by
  intro a;simp [resolve,hf,Deferred.ofValue,invoke,e,show∀v,eo tmps (.const v)=v from fun _=>rfl]
 simp_all[stepG,stepG.exec,FC.mk',stepG.apply]
end
def tK(mu:Mu):Option (Value×Bool)->Option (Value×Bool)->Prop
 |none,none=>True|some (v,b),some (a,c)=>b=c/\aC mu v a|_,_=>False
theorem tK.mono{mu c:Mu}(h:Le mu c){a b:Option (Value×Bool)}(k:tK mu a b):tK c a b:=by
 cases a<;>cases b<;>simp only [tK]at*
 exact⟨k.1,k.2.mono h⟩
theorem oJ.mono{mu d:Mu}(h:Le mu d){a b:Deferred}(k:oJ mu a b):oJ d a b:=by
 unfold oJ at*
 split
 . grind[VL.mono]
 . rename_i b e;rw [e]at k;obtain⟨c,f,g⟩:=k;exact⟨c,f,g.mono h⟩
 grind
abbrev DL(mu:Mu):=LR (oJ mu)
def bg:Option (Value×Bool)->List Frame->List Frame
 |none,a=>a|some (v,b),c::r=>{c with mode:=.panicking [{v,recovered:=b}]}::r
 |some _,[]=>[]
def KOk(a:CallKind)(b:List Frame):Option (Value×Bool)->Prop
 |none=>a=.normal\/(a=.deferred/\ ∃c r,b=c::r/\c.mode=.returning)|some _=>a=.deferred/\b≠ []
def RdRel(mu:Mu):Option Nat->Option Nat->Prop
 |none,none=>True|some b,some c=>eQ mu b c|_,_=>False
theorem RdRel.mono{mu c:Mu}(h:Le mu c){a b:Option Nat}(k:RdRel mu a b):RdRel c a b:=by
 cases a<;>cases b<;>simp only [RdRel]at*
 exact k.mono h
theorem ev_rel{l:Loc}(c:ke mu l.regs n tmps)(x:Operand)(a: ∀g,g<16->fV mu ⟨g,0,none⟩ ⟨g,0,none⟩):aC mu (l.ev x) (eo tmps x):=by
 cases x with
 | tmp t=>
   simp only [Loc.ev,eo];cases d:l.regs.get t with
   | none=>
     have:n<=t:=by
      rcases XW t n with b|b
      . obtain⟨v,e⟩:=Tr.get_some c.sized b;grind
      . exact b
     rw [Xz,XL (by rw [c.size];exact this)];exact .tuple rfl (by grind)
   | some v=>
     obtain⟨i,b,e⟩:=c.get t v d;simp_all
 | const v=>
   simp only [Loc.ev,eo];cases h:dI v with
   |true=>simp only [cond_true];exact aC.const mu h|false=>simp only [cond_false];exact .poison v
 | global g=>
   simp only [Loc.ev,eo];cases j:Xa g 16 with
   |true=>simp only [cond_true];exact .ptr (a g (by simp_all))|false=>simp only [cond_false];exact .poison _
 |func f=>exact .fn rfl (by grind) rfl (by grind)
theorem wZ(a:ke mu t n tmps)(d:Option Tmp)(f:aC mu v v'):ke mu (match d with|none=>t|some d=>t.set d v) n (iO tmps d v'):=by
 cases d with
 |none=>exact a| some d=>
   refine⟨by simp [iO,a.size],Tr.sized_set d v a.sized,fun i u b=>?_⟩;rw [Tr.get_set]at b;simp only [iO];by_cases c:d=i/\(t.get i).isSome
   . rw [if_pos c]at b;cases b;obtain⟨rfl,e⟩:=c;have:d<tmps.size:=(by rw [a.size];exact(a.sized d).1 e);grind
   . rw [if_neg c]at b;obtain⟨g,h,j⟩:=a.get i u b;grind
abbrev oq(mu:Mu):Prop:= ∀g,g<16->fV mu ⟨g,0,none⟩ ⟨g,0,none⟩
theorem oq.mono{mu a:Mu}(h:Le mu a)(k:oq mu):oq a:=fun g b=>(k g b).mono h
structure SR(P:Program)(cx:Cx)(l:Loc)(h:Hp)(mu:Mu)(w:World)(F:FC)(cs0:List Frame)(tmps:Array Value)(dfs:List Deferred)(rcC:Option (Value×Bool)):Prop where
 hr:bE mu h w
 glob:oq mu
 regs:ke mu l.regs cx.nr tmps
 dfs:DL mu l.dfs dfs
 rc:tK mu l.rc rcC
 ko:KOk F.kind cs0 rcC
 fn:F.fn=cx.fn
 rd:RdRel mu cx.round F.round
 rn:F.round≠none->F.kind=.normal
 fs:(P.funcs[F.fn]?).isSome=true
theorem SR.step{cx:Cx}{l:Loc}{h h':Hp}{a:Mu}{b:List Frame}{c:Option (Value×Bool)}(s:SR P cx l h mu w F b tmps dfs c)(e:bE a h' w')(d:Le mu a):SR P cx l h' a w' F b tmps dfs c:=
 ⟨e,s.glob.mono d,s.regs.mono d,LR.mono s.dfs fun _ _=>oJ.mono d,s.rc.mono d,s.ko,s.fn,s.rd.mono d,s.rn,s.fs⟩
theorem SR.put{P:Program}{cx:Cx}{l:Loc}{h:Hp}{mu:Mu}{w:World}{F:FC}{a:List Frame}{tmps:Array Value}{dfs:List Deferred}{b:Option (Value×Bool)}(s:SR P cx l h mu w F a tmps dfs b)(d:Option Tmp){v v':Value}(c:aC mu v v'):SR P cx (l.put d v) h mu w F a (iO tmps d v') dfs b:=by
 cases d with
 |none=>exact s|some d=>exact⟨s.hr,s.glob,wZ s.regs (some d) c,s.dfs,s.rc,s.ko,s.fn,s.rd,s.rn,s.fs⟩
def Reach(P:Program)(F:FC)(d:List Frame)(m:Machine)(k:List Item)(g:Mu)(w':World)(a:Array Value)(b:List Deferred)(c:Option (Value×Bool)):Ex->Prop
 | .normal=>Steps P m (lone (F.mk' a b k) (bg c d) w')| .exit id=> ∃f,exitTo id f=exitTo id k/\Steps P m (lone (F.mk' a b (.code (.exit id)::f)) (bg c d) w')| .ret=> ∃f,Steps P m (lone (F.mk' a b (.code .ret::f)) (bg c d) w')| .pan v=> ∃h e,aC g v h/\Steps P m (lone {F.mk' a b e with mode:=.panicking [{v:=h,recovered:=false}]} (bg c d) w')
def Sim(P:Program)(cx:Cx)(h:Hp)(mu:Mu)(w:World)(F:FC)(d:List Frame)(tmps:Array Value)(dfs:List Deferred)(f:Option (Value×Bool))(todo k:List Item)(x:Ex)(l':Loc)(h':Hp):Prop:=
 ∃ e g a b c,SR P cx l' h' e g F d a b c/\Ext mu h w e h' g/\
   Reach P F d (lone (F.mk' tmps dfs todo) (bg f d) w) k e g a b c x
def kf(P:Program)(f:Cx->Code->Loc->Hp->Option (Ex×Loc×Hp)):Prop:=
 ∀ j c l h x m n,f j c l h=some (x,m,n)-> ∀o w F e d g i k a,SR P j l h o w F e d g i->
   (a=.code c::k\/ ∃b,c=.loop b/\a=.inLoop b::k)->Sim P j h o w F e d g i a k x m n
def CallEnd(P:Program)(d:Frame)(w':World)(a:CallKind)(b:Mu):Out->Prop
 | .ret v=> ∃c,ug P d w' a c/\aC b v c| .pan v=> ∃c,LeaveP P d a c/\aC b v c
def iX(E:Env)(P:Program)(f:FuncId->List Value->Option (Value×Bool)->Hp->Option (Out×Option (Value×Bool)×Hp)):Prop:=
 ∀ g i q h o k n,f g i q h=some (o,k,n)->(∃r,E.fn g=some r/\r.body.isSome=true)/\
   ∀ l w b j d a,bE l h w->oq l->VL l i b.toList->tK l q j->KOk a d j->
     ∃ e m c p,bE e n m/\Ext l h w e n m/\tK e k c/\KOk a d c/\
       Steps P (lone (Frame.enter P g b a) (bg j d) w) (lone p (bg c d) m)/\
       CallEnd P p m a e o/\p.fn=g
def OutTo(P:Program)(a:Mu)(m:Machine)(b bad:Value->Machine):Out->Prop
 | .ret v=> ∃c,aC a v c/\Steps P m (b c)| .pan v=> ∃c,aC a v c/\Steps P m (bad c)
def BT(P:Program)(F:FC)(d:List Frame)(m:Machine)(ops:Array Oper)(rest:List Nat)(k:List Item)(e:Mu)(w':World)(a:Array Value)(b:List Deferred)(c:Option (Value×Bool)):Ex->Prop
 | .normal=>Steps P m (lone (F.mk' a b (.inRegion ops rest::k)) (bg c d) w')| .pan v=>Reach P F d m k e w' a b c (.pan v)|_=>False
theorem KOk.normal{b:List Frame}{a:Option (Value×Bool)}(h:KOk .normal b a):a=none:=by
 cases a with
 |none=>rfl|some x=>exact absurd h.1 (by simp)
theorem ue{h:Hp}(f:bE mu h w)(a:eQ mu b c){r:iI}(j:h.get b=some (.loop r)):
 ∃top d,mu b=.blk c 0 top/\w.heap[c]? =some (.loop d)/\pg mu r d:=by
 unfold eQ at a;cases e:mu b with
 |none=>grind|dead=>have:=f.dead _ e;grind| blk l g top=>
   rw [e]at a;obtain⟨rfl,rfl⟩:=a;obtain⟨y,o,i,m,k⟩:=f.blk _ c 0 top e;rw [j]at i;cases i;obtain⟨_,d,rfl,n⟩:=k;grind
theorem wW(h:w.heap[c]? =some q):WSet w (setW w c o) c o:=CU ⟨_,h⟩
theorem Di{h:Hp}(e:bE mu h w)(f:mu b=.blk c 0 top){r d:iI}(k:h.get b=some (.loop r)){g a:Loop}(i:w.heap[c]? =some (.loop g))(j:pg mu d a):bE mu (h.put b (.loop d)) (setW w c (.loop a))/\Ext mu h w mu (h.put b (.loop d)) (setW w c (.loop a)):=
 yg e f (by grind) (wW i) ⟨rfl,a,rfl,j⟩
theorem vp{mu:Mu}{n:Nat}: ∀(ps:List Tmp) (args args':List Value) (a:Tr Value) (tmps:Array Value) (b:Tr Value),qE a ps args=some b->ke mu a n tmps->VL mu args args'->
 ps.length=args'.length/\ke mu b n ((ps.zip args').foldl (fun tmps (x:Tmp×Value)=>tmps.setIfInBounds x.1 x.2) tmps)
 | [],[],args',a,tmps,b,h,c,d=>by
   rw [d.nil_left];cases h;exact⟨rfl,c⟩
 | [],_::_,_,_,_,_,h,_,_=>by cases h
 |_::_,[],_,_,_,_,h,_,_=>by cases h
 | t::ts,v::vs,args',a,tmps,b,h,c,d=>by obtain⟨v',e,rfl,f,g⟩:=d.cons_left;have i:=wZ c (some t) f;obtain⟨j,k⟩:=vp ts vs e (a.set t v) (tmps.setIfInBounds t v') b h i g;exact⟨by simp [j],k⟩
section
variable{E:Env}{P:Program}(ok:EOk E P){R:Rec}(hc:iX E P R.call)(hcode:kf P R.code)
theorem yield_run(a:w.heap[c]? =some (.loop r))(hs:r.params.toList.length=args.toList.length):(Instr.yield c args).run P w=.ok (.round c r.fn ((r.params.toList.zip args.toList).foldl (fun tmps (x:Tmp×Value)=>tmps.setIfInBounds x.1 x.2) r.tmps) r.assign r.body) w:=by
 unfold Instr.yield;have b:args.size=r.params.size:=by grind
 simp only [Sem.run_bind,nJ a,Result.andThen_ok,b,ne_eq,not_true_eq_false,if_false,Sem.run_pure];rw [<-XU,Array.toList_zip]
include ok hcode in
theorem round_sim{h h':Hp}(hh:bE mu h w)(hg:oq mu)(hp:eQ mu b c){args:List Value}(ha:VL mu args args'.toList){out:Out}(g:kG E R b args h=some (out,h'))(c0:Frame)(cs:List Frame):
 ∃ f tm x y,(Instr.yield c args').run P w=.ok (.round c f tm x y) w/\ ∃u w',bE u h' w'/\Ext mu h w u h' w'/\
   OutTo P u (lone (Frame.round c f tm x y .normal) (c0::cs) w) (fun v'=>lone (c0.finish v') cs w') (fun v'=>lone (c0.raise [{v:=v',recovered:=false}]) cs w') out:=by
 unfold kG at g
 split at g
 next r V=>
  obtain⟨bd,l,hm,hw,q⟩:=ue hh hp V;cases ak:(E.fn r.fn).isSome with
  |false=>grind|true=>
  rw [ak]at g;simp only [cond_true]at g
  split at g
  next W=>
   split at g
   next=>cases g
   next Q T=>
    obtain⟨al,an⟩:=vp r.params.toList args args'.toList r.regs l.tmps Q T q.regs ha;have hy:=yield_run (P:=P) hw (args:=args') (by rw [q.params];exact al);refine⟨_,_,_,_,hy,?_⟩
    let F:FC:=⟨l.fn,.normal,some c⟩
    have X:(P.funcs[l.fn]?).isSome=true:=by
     rw [q.fn];cases he:E.fn r.fn with
     |none=>grind|some fn=>rw [ok.fn _ _ he];rfl
    have sr:SR P ⟨r.fn,r.nr,some b⟩ ⟨Q,[],none⟩ h mu w F (c0::cs) ((l.params.toList.zip args'.toList).foldl (fun tmps (x:Tmp×Value)=>tmps.setIfInBounds x.1 x.2) l.tmps) [] none:=
     ⟨hh,hg,by rw [q.params];exact an,LR.nil,trivial,.inl rfl,q.fn,hp,fun _=>rfl,X⟩
    split at g
    next l1 h1 K=>
     obtain⟨z,w1,A,D,be,G,e1,s1⟩:=hcode _ _ _ _ _ _ _ K mu w F (c0::cs) _ [] none [.beginRound,.code l.body] [.code l.assign,.beginRound,.code l.body] sr (.inl (by rw [q.assign]));have Y:=G.ko.normal;subst Y
     split at g
     next r1 H=>
      obtain⟨bb,C,aL,Z,m⟩:=ue G.hr (show eQ z b c from G.rd) H
      split at g
      next aa=>
       have L:C.state=.ready:=(by have:=m.st;rw [aa]at this;cases hs:C.state<;>rw [hs]at this<;>first|rfl|cases this);have b1:=BE (P:=P) (F:=F) (tmps:=A) (dfs:=D) (k:=[.code l.body]) (cs:=c0::cs) (c:=c) rfl Z L;have a0:pg z {r1 with st:=1} {C with state:=.busy}:=⟨m.fn,m.regs,m.params,m.assign,m.body,rfl,m.pending⟩;obtain⟨a1,e2⟩:=Di G.hr aL H Z a0;have M:=G.step a1 (Le.refl _);have e12:=Ext.trans e1 e2;have ac:Steps P (lone (Frame.round c l.fn ((l.params.toList.zip args'.toList).foldl (fun tmps (x:Tmp×Value)=>tmps.setIfInBounds x.1 x.2) l.tmps) l.assign l.body .normal) (c0::cs) w)
        (lone (F.mk' A D [.code l.body]) (c0::cs) (setW w1 c (.loop {C with state:=.busy}))):=Steps.trans s1 (.one b1)
       have B: ∀{J:Hp} {i:Mu} {N:World} {d:Array Value} {n:List Deferred} {s:List Item} {j:Option Code} {S:iI} {pe:Option Code} {st:Nat},bE i J N->eQ i b c->J.get b=some (.loop S)->
        Ext z (h1.put b (.loop {r1 with st:=1})) (setW w1 c (.loop {C with state:=.busy})) i J N->
        Steps P (lone (F.mk' A D [.code l.body]) (c0::cs) (setW w1 c (.loop {C with state:=.busy}))) (lone (F.mk' d n s) (c0::cs) N)->
        CN s j->pe=j->st=(if j.isNone then 0 else 2)->
        ∃ u w',bE u (J.put b (.loop {S with st:=st,pending:=pe})) w'/\Ext mu h w u (J.put b (.loop {S with st:=st,pending:=pe})) w'/\
          ∃v',aC u (.bool j.isNone) v'/\Steps P (lone (Frame.round c l.fn ((l.params.toList.zip args'.toList).foldl (fun tmps (x:Tmp×Value)=>tmps.setIfInBounds x.1 x.2) l.tmps) l.assign l.body .normal) (c0::cs) w) (lone (c0.finish v') cs w'):=by
        intro J i N d n s j S pe st ad a2 I e3 O a3 a4 W;obtain⟨bc,a5,a6,af,t⟩:=ue ad a2 I;have b3:=BC (P:=P) (F:=F) (tmps:=d) (dfs:=n) (cs:=cs) (c:=c) rfl rfl af a3 (c0:=c0);have a7:pg i {S with st:=st,pending:=pe} {a5 with state:=if j.isNone then .ready else .done,pending:=j}:=
         ⟨t.fn,t.regs,t.params,t.assign,t.body,by subst W;cases j<;>rfl,a4.symm⟩
        obtain⟨a8,e4⟩:=Di ad a6 I af a7;exact⟨i,_,a8,Ext.trans e12 (Ext.trans e3 e4),_,.bool _,Steps.trans ac (Steps.trans O (.one b3))⟩
       split at g
       next l3 J a=>
        obtain⟨i,N,d,n,U,e,e3,O⟩:=hcode _ _ _ _ _ _ _ a z _ F (c0::cs) _ _ none [] [.code l.body] M (.inl (by rw [q.body]));have o:=e.ko.normal;subst o
        split at g
        next S p=>
         cases g;exact B e.hr (show eQ i b c from e.rd) p e3 O (.inl ⟨rfl,rfl⟩) rfl rfl
        next=>cases g
       next id l3 J a=>
        obtain⟨i,N,d,n,U,e,e3,k0,ba,O⟩:=hcode _ _ _ _ _ _ _ a z _ F (c0::cs) _ _ none [] [.code l.body] M (.inl (by rw [q.body]));have o:=e.ko.normal;subst o
        split at g
        next S p=>
         cases g;exact B e.hr (show eQ i b c from e.rd) p e3 O (.inr (.inr ⟨id,k0,rfl,ba.trans rfl,rfl⟩)) rfl rfl
        next=>cases g
       next l3 J a=>
        obtain⟨i,N,d,n,U,e,e3,k0,O⟩:=hcode _ _ _ _ _ _ _ a z _ F (c0::cs) _ _ none [] [.code l.body] M (.inl (by rw [q.body]));have o:=e.ko.normal;subst o
        split at g
        next S p=>
         cases g;exact B e.hr (show eQ i b c from e.rd) p e3 O (.inr (.inl ⟨k0,rfl,rfl⟩)) rfl rfl
        next=>cases g
       next v l3 J a=>
        obtain⟨i,N,d,n,U,e,e3,v',s,hv,O⟩:=hcode _ _ _ _ _ _ _ a z _ F (c0::cs) _ _ none [] [.code l.body] M (.inl (by rw [q.body]));have o:=e.ko.normal;subst o
        split at g
        next hd=>
         cases g;have ai:=e.dfs;rw [hd]at ai;have:=LR.nil_left ai;subst this;have lv:LeaveP P {F.mk' d [] s with mode:=.panicking [{v:=v',recovered:=false}]} .normal v':=⟨rfl,rfl,rfl,by
          obtain⟨fn,h⟩:=Option.isSome_iff_exists.1 X;exact⟨fn,h⟩⟩
         exact⟨i,N,e.hr,Ext.trans e12 e3,v',hv,Steps.trans ac (Steps.trans O (.one (qj lv)))⟩
        next=>cases g
       next=>cases g
      next=>cases g
     next=>cases g
    next=>cases g
  next=>cases g
 next=>cases g
end
section
variable{E:Env}{P:Program}(ok:EOk E P){R:Rec}(hc:iX E P R.call)(hcode:kf P R.code)
include ok hc hcode in
theorem sS{h h':Hp}(z:bE mu h w)(O:oq mu)(H: ∀x,aC mu (ρ x) (eo tmps x)){k:List Item}{cs:List Frame}{o:Oper}(t:ops[i]? =some o)(A:Region.wanted o (yielded ops tmps)=true){out:Out}(e:dc E R (aop E ρ h o.op)=some (out,h')):
 ∃ a w',bE a h' w'/\Ext mu h w a h' w'/\
   OutTo P a (lone (F.mk' tmps dfs (.inRegion ops (i::rest)::k)) cs w) (fun v'=>lone (F.mk' (iO tmps o.dst v') dfs (.inRegion ops rest::k)) cs w')
    (fun v'=>lone {F.mk' tmps dfs (.inRegion ops (i::rest)::k)with mode:=.panicking [{v:=v',recovered:=false}]} cs w') out:=by
 have B:F.round=none\/ ∀c,o.op≠ .defer c:=by
  right;intro c I;rw [I]at e;simp only [aop]at e
  split at e
  . split at e<;>cases e
  . cases e
 have C: ∀v,(F.mk' tmps dfs (.inRegion ops (i::rest)::k)).finish v=F.mk' (iO tmps o.dst v) dfs (.inRegion ops rest::k):=by intro v;rw [mG,t];rfl
 cases J:aop E ρ h o.op with
 |none=>rw [J]at e;cases e
 | some q=>
   obtain⟨U,h1⟩:=q;rw [J]at e;have g:=aop_run (P:=P) ok z H (o:=o) J;cases U with
   | val v=>
     cases e;obtain⟨v',a,w',m,n,D,g4⟩:=g;exact⟨a,w',n,D,v',g4,.one (Dh t A B m)⟩
   | skip=>
     cases e;obtain⟨a,w',m,n,D⟩:=g;exact⟨a,w',n,D,undef,.tuple rfl (by grind),.one (st_opskip t A B m)⟩
   | call f G=>
     obtain⟨rfl,j,m,n⟩:=g;simp only [dc]at e
     split at e
     next x V h2 p=>
      cases e;obtain⟨⟨W,K,r⟩,X⟩:=hc _ _ _ _ _ _ _ p;obtain⟨a,w',Q,fr,L,M,N,Y,S,T,_⟩:=X mu w j none (F.mk' tmps dfs (.inRegion ops (i::rest)::k)::cs) .normal z O n trivial (.inl rfl);have:=Y.normal;subst this;have l:=st_enter (P:=P) (F:=F) (dfs:=dfs) (k:=k) (cs:=cs) (rest:=rest) t A B (m.trans (ok.call f W j w K r));refine⟨a,w',L,M,?_⟩;cases out with
      | ret v=>
        obtain⟨v',u,s⟩:=T;refine⟨v',s,Steps.trans (.one l) (Steps.trans S (.one ?_))⟩;show step P _=.next (lone (F.mk' (iO tmps o.dst v') dfs (.inRegion ops rest::k)) cs w')
        rw [<-C];exact Cs u
      | pan v=>
        obtain⟨v',u,s⟩:=T;exact⟨v',s,Steps.trans (.one l) (Steps.trans S (.one (qj u)))⟩
     next=>cases e
   | yield b G=>
     obtain⟨rfl,c,j,m,n,D⟩:=g;simp only [dc]at e;obtain⟨f,tm,x,y,Z,a,w',L,M,N⟩:=round_sim ok hcode z O n D e (F.mk' tmps dfs (.inRegion ops (i::rest)::k)) cs;have l:=st_round (P:=P) (F:=F) (dfs:=dfs) (k:=k) (cs:=cs) (rest:=rest) t A B (m.trans Z);refine⟨a,w',L,M,?_⟩;cases out with
     | ret v=>
       obtain⟨v',s,u⟩:=N;refine⟨v',s,Steps.trans (.one l) ?_⟩;grind
     | pan v=>
       obtain⟨v',s,u⟩:=N;exact⟨v',s,Steps.trans (.one l) u⟩
   | panic v=>
     cases e;obtain⟨rfl,v',m,n⟩:=g;exact⟨mu,w,z,Ext.refl mu _ w z,v',n,.one (st_panic t A B m)⟩
   |recov=>cases e
   |defer d=>cases e
include ok hc hcode in
theorem EE{cx :Cx}{l l':Loc}{h h':Hp}{e:List Frame}{g:Option (Value×Bool)}(s:SR P cx l h mu w F e tmps dfs g){k:List Item}{o:Oper}(L:ops[i]? =some o)(M:Region.wanted o (yielded ops tmps)=true){x:Ex}(t:fm E R cx o l h=some (x,l',h')):
 ∃ j w' a m n,SR P cx l' h' j w' F e a m n/\Ext mu h w j h' w'/\
   BT P F e (lone (F.mk' tmps dfs (.inRegion ops (i::rest)::k)) (bg g e) w) ops rest k j w' a m n x:=by
 have H: ∀x,aC mu (l.ev x) (eo tmps x):=fun x=>ev_rel s.regs x s.glob;unfold fm at t;have Q: ∀{r:Option (d6×Hp)},aop E l.ev h o.op=r->qD o l (dc E R r)=some (x,l',h')-> ∃j w' a m n,SR P cx l' h' j w' F e a m n/\Ext mu h w j h' w'/\
  BT P F e (lone (F.mk' tmps dfs (.inRegion ops (i::rest)::k)) (bg g e) w) ops rest k j w' a m n x:=by
  intro r B t;cases C:dc E R r with
  |none=>rw [C]at t;cases t
  | some q=>
    obtain⟨S,N⟩:=q;rw [C]at t;rw [<-B]at C;obtain⟨j,w',G,I,X⟩:=sS ok hc hcode s.hr s.glob H (F:=F) (dfs:=dfs) (k:=k) (cs:=bg g e) (rest:=rest) L M C;have Y:=s.step G (I.le s.hr);cases S with
    | ret v=>
      cases t;obtain⟨v',T,U⟩:=X;exact⟨j,w',_,dfs,g,Y.put o.dst T,I,U⟩
    | pan v=>
      cases t;obtain⟨v',T,U⟩:=X;exact⟨j,w',tmps,dfs,g,Y,I,v',_,T,U⟩
 cases Z:aop E l.ev h o.op with
 |none=>grind| some q =>
   obtain⟨nx,N⟩:=q;rw [Z]at t;have A:=aop_run (P:=P) ok s.hr H (o:=o) Z;cases nx with
   |val v=>grind|skip=>grind|call f J=>grind|yield b J=>grind|panic v=>grind| recov =>
     obtain⟨rfl,G⟩:=A;simp only []at t;cases B:cx.round with
     |some r=>grind| none=>
       rw [B]at t;simp only []at t;have O:F.round=none:=by
        have:=s.rd;rw [B]at this;cases hf:F.round with
        |none=>rfl|some c=>rw [hf]at this;exact this.elim
       have u:=s.rc;have p:tryRecover (F.mk' tmps dfs (.inRegion ops (i::rest)::k)) (bg g e)=none->
        ∃ j w' a m n,SR P cx (l.put o.dst .nilIface) N j w' F e a m n/\Ext mu N w j N w'/\
          Steps P (lone (F.mk' tmps dfs (.inRegion ops (i::rest)::k)) (bg g e) w) (lone (F.mk' a m (.inRegion ops rest::k)) (bg n e) w'):=by
        intro V;exact⟨mu,w,_,dfs,g,s.put o.dst .nili,Ext.refl mu _ w s.hr,.one (yV L M O G V)⟩
       cases K:l.rc with
       | none=>
         rw [K]at t u;cases t;apply p;cases g with
         |some y=>exact u.elim| none=>
           rcases s.ko with D|⟨D,c,r,rfl,hm⟩
           . simp [tryRecover,FC.mk',D]
           . simp [tryRecover,FC.mk',D,bg,hm]
       | some y =>
         obtain⟨v,b⟩:=y;rw [K]at t u;cases g with
         |none=>exact u.elim| some z=>
           obtain⟨v',b'⟩:=z;obtain⟨rfl,C⟩:=u;obtain⟨D,aa⟩:=s.ko;cases e with
           |nil=>grind| cons c r=>
             cases b with
             | true=>
               cases t;apply p;simp [tryRecover,FC.mk',D,bg]
             | false=>
               cases t;have V:tryRecover (F.mk' tmps dfs (.inRegion ops (i::rest)::k)) (bg (some (v',false)) (c::r))=some (v',bg (some (v',true)) (c::r)):=(by simp [tryRecover,FC.mk',D,bg]);have W:SR P cx {l with rc:=some (v,true)} h' mu w F (c::r) tmps dfs (some (v',true)):=
                ⟨s.hr,s.glob,s.regs,s.dfs,⟨rfl,C⟩,⟨D,by simp⟩,s.fn,s.rd,s.rn,s.fs⟩
               exact⟨mu,w,_,dfs,_,W.put o.dst C,Ext.refl mu _ w s.hr,.one (yM L M O G V)⟩
   | defer d=>
     obtain⟨rfl,d',G,I⟩:=A;simp only []at t;cases B:cx.round with
     |some r=>grind| none=>
       rw [B]at t;cases t;have O:F.round=none:=by
        have:=s.rd;rw [B]at this;cases hf:F.round with
        |none=>rfl|some c=>rw [hf]at this;exact this.elim
       have W:SR P cx {l with dfs:=d::l.dfs} h' mu w F e tmps (d'::dfs) g:=
        ⟨s.hr,s.glob,s.regs,LR.cons I s.dfs,s.rc,s.ko,s.fn,s.rd,s.rn,s.fs⟩
       exact⟨mu,w,_,_,g,W.put o.dst (v':=undef) (.tuple rfl (by grind)),Ext.refl mu _ w s.hr,.one (st_defer L M O G)⟩
omit ok in
theorem AY(h:ke mu t n tmps){o:Oper}{b:Bool}(a:cU ops.toList t o=some b):Region.wanted o (yielded ops tmps)=b:=by
 unfold cU at a;unfold Region.wanted;cases c:o.guard with
 |none=>grind| some q=>
   obtain⟨j,i⟩:=q;rw [c]at a;simp only []at a⊢;unfold yielded;cases k:ops[j]? with
   |none=>grind| some l=>
     rw [zO,k]at a;simp only [Option.bind_some]at a⊢;cases m:l.dst with
     |none=>grind| some d=>
       rw [m]at a;simp only [Option.bind_some]at a⊢
       split at a
       next r e=>
        obtain⟨p,f,g⟩:=h.get d _ e;cases g;rw [f];cases a;grind
       next x e=>
        obtain⟨p,f,g⟩:=h.get d _ e;rw [f];cases a;cases g;rfl
       next=>cases a
include ok hc hcode in
theorem AS{cx:Cx}{p:List Frame}{k:List Item}: ∀(os:List Oper) (i:Nat) (l l':Loc) (h h':Hp) (mu:Mu) (w:World) (tmps:Array Value) (dfs:List Deferred) (e:Option (Value×Bool)) (x:Ex),
 ops.toList.drop i=os->SR P cx l h mu w F p tmps dfs e->jy E R cx ops.toList os l h=some (x,l',h')->
 Sim P cx h mu w F p tmps dfs e (.inRegion ops (Xx i os.length)::k) k x l' h':=by
 intro os
 induction os with
 | nil=>
   intro i l l' h h' mu w tmps dfs e x B s f;simp only [jy]at f;cases f;exact⟨mu,w,tmps,dfs,e,s,Ext.refl mu h w s.hr,.one qU⟩
 | cons o os J=>
   intro i l l' h h' mu w tmps dfs e x B s f;have K:ops[i]? =some o:=(by have:=congrArg (·[0]?) B;simpa using this);have y:ops.toList.drop (i+1)=os:=(by have:=congrArg (List.drop 1) B;simpa [Nat.add_comm]using this);simp only [jy]at f;rw [Xk,XG];cases L:cU ops.toList l.regs o with
   |none=>grind| some b=>
     have Q:=AY s.regs L;rw [L]at f;cases b with
     | false=>
       simp only []at f;have c:=yP (P:=P) (F:=F) (tmps:=tmps) (dfs:=dfs) (k:=k) (cs:=bg e p) (w:=w) (ops:=ops) (i:=i) (rest:=Xx (i+1) os.length) (by grind);rw [K]at c;obtain⟨r,C,d,g,j,D,G,m⟩:=J (i+1) _ _ _ _ _ _ _ _ _ _ y (s.put o.dst (v':=undef) (.tuple rfl (by grind))) f;refine⟨r,C,d,g,j,D,G,?_⟩;cases x with
       |normal=>exact .head c m|exit id=>obtain⟨t,a,b⟩:=m;exact⟨t,a,.head c b⟩
       |ret=>obtain⟨t,b⟩:=m;exact⟨t,.head c b⟩
       |pan v=>obtain⟨v',H,a,b⟩:=m;exact⟨v',H,a,.head c b⟩
     | true=>
       simp only []at f;cases M:fm E R cx o l h with
       |none=>grind| some q=>
         obtain⟨S,U,V⟩:=q;rw [M]at f;obtain⟨I,T,u,z,A,N,O,n⟩:=EE ok hc hcode s (k:=k) (rest:=Xx (i+1) os.length) K Q M;cases S with
         | normal=>
           simp only []at f n;obtain⟨r,C,d,g,j,D,G,m⟩:=J (i+1) _ _ _ _ _ _ _ _ _ _ y N f;refine⟨r,C,d,g,j,D,Ext.trans O G,?_⟩;cases x with
           |normal=>exact Steps.trans n m|exit id=>obtain⟨t,a,b⟩:=m;exact⟨t,a,Steps.trans n b⟩
           |ret=>obtain⟨t,b⟩:=m;exact⟨t,Steps.trans n b⟩
           |pan v=>obtain⟨v',H,a,b⟩:=m;exact⟨v',H,a,Steps.trans n b⟩
         |exit id=>exact n.elim|ret=>exact n.elim| pan v=>
           cases f;exact⟨I,T,u,z,A,N,O,n⟩
end
theorem Reach.pre{f:List Frame}{m m1:Machine}{k:List Item}{g:Mu}{c:Array Value}{d:List Deferred}{e:Option (Value×Bool)}{x:Ex}(h:Steps P m m1)(r:Reach P F f m1 k g w' c d e x):Reach P F f m k g w' c d e x:=by
 cases x with
 |normal=>exact Steps.trans h r|exit id=>obtain⟨i,a,b⟩:=r;exact⟨i,a,Steps.trans h b⟩
 |ret=>obtain⟨i,b⟩:=r;exact⟨i,Steps.trans h b⟩
 |pan v=>obtain⟨j,l,a,b⟩:=r;exact⟨j,l,a,Steps.trans h b⟩
theorem Sim.pre{P:Program}{cx:Cx}{h t:Hp}{mu m:Mu}{w q:World}{F:FC}{g:List Frame}{tmps d:Array Value}{dfs i:List Deferred}{n j:Option (Value×Bool)}{todo f k:List Item}{x:Ex}{l':Loc}{h':Hp}(hs:Steps P (lone (F.mk' tmps dfs todo) (bg n g) w) (lone (F.mk' d i f) (bg j g) q))(e:Ext mu h w m t q)(s:Sim P cx t m q F g d i j f k x l' h'):Sim P cx h mu w F g tmps dfs n todo k x l' h':=by
 obtain⟨r,u,l,o,p,a,b,c⟩:=s;exact⟨r,u,l,o,p,a,Ext.trans e b,c.pre hs⟩
theorem Reach.out{f:List Frame}{m:Machine}{k k2:List Item}{g:Mu}{c:Array Value}{d:List Deferred}{e:Option (Value×Bool)}{x:Ex}(h: ∀id,x=.exit id->exitTo id k=exitTo id k2)(j:x≠ .normal)(r:Reach P F f m k g w' c d e x):Reach P F f m k2 g w' c d e x:=by
 cases x with
 |normal=>grind|exit id=>obtain⟨i,a,b⟩:=r;exact⟨i,a.trans (h id rfl),b⟩
 |ret=>exact r|pan v=>exact r
def DrawOk(E:Env)(P:Program)(R:Rec):Prop:=
 ∀ f id a l h g i q j m,im E (dy a.toList)=some (q,j)->cD E R (dy a.toList) q (dy a.toList) 0 l h []=some (g,i,m)->dH m j=true-> ∀n w F c b d e k,SR P f l h n w F c b d e->
   Sim P f h n w F c b d e (.code (.region id a true)::k) k .normal g i
def yp(E:Env)(P:Program)(R:Rec):Prop:=
 ∀ f id (b:Array Oper) l h g i x,cutD E R f b.toList l h=some (x,g,i)-> ∀j w F c a d e k,SR P f l h j w F c a d e->
   Sim P f h j w F c a d e (.code (.region id b true)::k) k x g i
section
variable{E:Env}{P:Program}(ok:EOk E P){R:Rec}(hc:iX E P R.call)(hcode:kf P R.code)
theorem dead_at{h:Hp}(e:bE mu h w)(a:eQ mu b c)(f:h.get b=some .dfr): ∃top,mu b=.blk c 0 top/\w.heap[c]? =some (.deferred (some [])):=by
 unfold eQ at a;cases d:mu b with
 |none=>grind|dead=>have:=e.dead _ d;rw [f]at this;cases this
 | blk l g top=>
   rw [d]at a;obtain⟨rfl,rfl⟩:=a;obtain⟨y,o,i,j,k⟩:=e.blk _ c 0 top d;rw [f]at i;cases i;obtain⟨_,rfl⟩:=k;exact⟨top,rfl,j⟩
theorem zx(w:World)(o:Obj):WNew w (pj w o) o:=⟨rfl,rfl,rfl,rfl⟩
theorem Ce{h:Hp}(b:bE mu h w){r:iI}{a:Loop}(c:pg mu r a):bE (upd mu h.n (.blk w.heap.size 0 0)) (h.new (.loop r)) (pj w (.loop a))/\Ext mu h w (upd mu h.n (.blk w.heap.size 0 0)) (h.new (.loop r)) (pj w (.loop a)):=
 pR b (zx w _) ⟨rfl,a,rfl,c⟩
theorem dfr_new{h:Hp}(a:bE mu h w):bE (upd mu h.n (.blk w.heap.size 0 0)) (h.new .dfr) (pj w (.deferred (some [])))/\Ext mu h w (upd mu h.n (.blk w.heap.size 0 0)) (h.new .dfr) (pj w (.deferred (some []))):=
 pR a (zx w _) ⟨rfl,rfl⟩
theorem DW{cx:Cx}{l:Loc}{h n:Hp}{d:Nat}{e:List Deferred}(b:(match cx.round with
   |none=>some (h.new .dfr,h.n,({target:=.collected h.n,args:=#[]}:Deferred)::l.dfs)| some r=>match h.get r with
     |some (.loop x)=>some (h,x.defers,l.dfs)|_=>none)=some (n,d,e)){g:List Frame}{i:Option (Value×Bool)}(s:SR P cx l h mu w F g tmps dfs i):
 ∃ f o c mark,(Instr.enterLoop F.fn tmps params assign body F.round).run P w=.ok (c,mark) o/\eQ f n.n c/\
   SR P cx {l with dfs:=e} (n.new (.loop {fn:=cx.fn,regs:=l.regs,nr:=cx.nr,params,assign,body,st:=0,pending:=none,defers:=d})) f o F g tmps (mark++dfs) i/\
   Ext mu h w f (n.new (.loop {fn:=cx.fn,regs:=l.regs,nr:=cx.nr,params,assign,body,st:=0,pending:=none,defers:=d})) o:=by
 cases j:cx.round with
 | none=>
   rw [j]at b;cases b;have v:F.round=none:=by
    have:=s.rd;rw [j]at this;cases hf:F.round with
    |none=>rfl|some c=>rw [hf]at this;exact this.elim
   obtain⟨p,u⟩:=dfr_new s.hr;have k:=s.step p (u.le s.hr);have q:pg (upd mu h.n (.blk w.heap.size 0 0)) {fn:=cx.fn,regs:=l.regs,nr:=cx.nr,params,assign,body,st:=0,pending:=none,defers:=h.n}
    {state:=.ready,pending:=none,fn:=F.fn,tmps,params,assign,body,defers:=w.heap.size}:=⟨s.fn,k.regs,rfl,rfl,rfl,rfl,rfl⟩
   obtain⟨t,m⟩:=Ce p q;have a:=k.step t (m.le p);refine⟨_,_,_,_,by rw [v];exact CL,?_,?_,Ext.trans u m⟩
   . show eQ (upd _ (h.n+1) _) (h.n+1) (w.heap.size+1);unfold eQ;rw [upd_same];exact⟨by simp [pj],rfl⟩
   . refine⟨a.hr,a.glob,a.regs,LR.cons ⟨w.heap.size,rfl,?_⟩ a.dfs,a.rc,a.ko,a.fn,a.rd,a.rn,a.fs⟩;show eQ (upd (upd mu h.n (.blk w.heap.size 0 0)) (h.n+1) _) h.n w.heap.size;unfold eQ;rw [bG _ _ (by omega),upd_same];omega
 | some r=>
   rw [j]at b;simp only []at b
   split at b
   next x y=>
    cases b;cases hf:F.round with
    |none=>have:=s.rd;rw [j,hf]at this;exact this.elim| some c=>
      have z:eQ mu r c:=(by have:=s.rd;rw [j,hf]at this;exact this);obtain⟨A,B,D,C,G⟩:=ue s.hr z y;have q:pg mu {fn:=cx.fn,regs:=l.regs,nr:=cx.nr,params,assign,body,st:=0,pending:=none,defers:=x.defers}
       {state:=.ready,pending:=none,fn:=F.fn,tmps,params,assign,body,defers:=B.defers}:=⟨s.fn,s.regs,rfl,rfl,rfl,rfl,rfl⟩
      obtain⟨t,m⟩:=Ce s.hr q;have a:=s.step t (m.le s.hr);refine⟨_,_,_,[],yX C,?_,a,m⟩;unfold eQ;rw [upd_same];omega
   grind
include ok hc in
theorem Bz{cx:Cx}{f:Operand}{l l':Loc}{h h':Hp}{x:Ex}(m:jS R cx (l.ev f) params assign body l h=some (x,l',h')){j:List Frame}{i:Option (Value×Bool)}{k:List Item}(s:SR P cx l h mu w F j tmps dfs i):Sim P cx h mu w F j tmps dfs i (.code (.rangeFunc f params assign body)::k) k x l' h':=by
 unfold jS at m;have hf:=ev_rel s.regs f s.glob
 split at m
 next fv g a b S=>
  rw [S]at hf;cases C:eo tmps f<;>rw [C]at hf<;>cases hf;rename_i a' b' f1 f2 f3 f4
  split at m
  next=>cases m
  next M d ad D=>
   obtain⟨G,w2,c,mark,h0,hp,t,T⟩:=DW (params:=params) (assign:=assign) (body:=body) D s;cases n:R.call g (a.toList++[.func (.yield M.n) #[] #[]]++b.toList) none (M.new (.loop {fn:=cx.fn,regs:=l.regs,nr:=cx.nr,params,assign,body,st:=0,pending:=none,defers:=d}))with
   |none=>grind| some q=>
     obtain⟨U,ak,h2⟩:=q;rw [n]at m;obtain⟨⟨fn,V,y⟩,hs⟩:=hc _ _ _ _ _ _ _ n;have H:=st_range (P:=P) (F:=F) (dfs:=dfs) (k:=k) (cs:=bg i j) C (fun I w=>ok.call g fn I w V y) h0;have z:VL G (a.toList++[.func (.yield M.n) #[] #[]]++b.toList) (a'++#[Value.func (.yield c) #[] #[]]++b').toList:=(by simp only [Xl];have le:=T.le s.hr;exact LR.append (LR.append (VL.mono le ⟨f1,f2⟩) (LR.cons (.yield hp) LR.nil)) (VL.mono le ⟨f3,f4⟩));obtain⟨J,N,af,fr,O,W,k3,k4,k5,k6,_⟩:=hs G w2 (a'++#[.func (.yield c) #[] #[]]++b') none (F.mk' tmps (mark++dfs) (.inRangeFunc c::k)::bg i j) .normal t.hr t.glob z trivial (.inl rfl);have:=k4.normal;subst this;have K:=W.le t.hr;have L:=t.step O K;cases U with
     | pan v=>
       cases m;obtain⟨v',X,l2⟩:=k6;exact⟨J,N,tmps,mark++dfs,i,L,Ext.trans T W,v',.inRangeFunc c::k,l2,Steps.trans (.one H) (Steps.trans k5 (.one (qj X (c:=F.mk' tmps (mark++dfs) (.inRangeFunc c::k)) (cs:=bg i j))))⟩
     | ret v=>
       obtain⟨v',X,l2⟩:=k6;simp only []at m
       split at m
       next x1 Y=>
        have Z:eQ J M.n c:=hp.mono K;obtain⟨ai,u,g1,g2,Q⟩:=ue O Z Y;have p:Steps P (lone (F.mk' tmps dfs (.code (.rangeFunc f params assign body)::k)) (bg i j) w) (lone (F.mk' tmps (mark++dfs) (.endRangeFunc c::k)) (bg i j) N):=
         Steps.trans (.one H) (Steps.trans k5 (.one (Cs X (c:=F.mk' tmps (mark++dfs) (.inRangeFunc c::k)) (cs:=bg i j))))
        split at m
        next=>cases m
        next aa=>
         have ac:u.state≠ .busy:=(by intro e;have:=Q.st;rw [e]at this;exact aa this.symm);have al:=DR (P:=P) (F:=F) (tmps:=tmps) (dfs:=mark++dfs) (k:=k) (cs:=bg i j) g2 ac;obtain⟨a1,a2⟩:=sZ O g1 (by grind) (wW (o:=.loop {u with state:=.exhausted}) g2);have A:=L.step a1 (a2.le O);have e4:=Ext.trans T (Ext.trans W a2);have B: ∀td,(u.pending.map Item.code).toList++k=td->step P (lone (F.mk' tmps (mark++dfs) (.endRangeFunc c::k)) (bg i j) N)=
          .next (lone (F.mk' tmps (mark++dfs) td) (bg i j) (setW N c (.loop {u with state:=.exhausted}))):=by
          grind
         split at m
         next r=>
          cases m;exact⟨_,_,tmps,mark++dfs,i,A,e4,Steps.trans p (.one (B _ (by rw [Q.pending,r];rfl)))⟩
         next id r=>
          cases m;exact⟨_,_,tmps,mark++dfs,i,A,e4,k,rfl,Steps.trans p (.one (B _ (by rw [Q.pending,r];rfl)))⟩
         next r=>
          cases m;exact⟨_,_,tmps,mark++dfs,i,A,e4,k,Steps.trans p (.one (B _ (by rw [Q.pending,r];rfl)))⟩
         next=>cases m
       next=>cases m
 next=>cases m
include ok hc hcode in
theorem BK(T:DrawOk E P R)(L:yp E P R):kf P (aX E R):=by
 intro V c
 induction c with
 | skip=>
   intro l h x J K j B w F p e dfs o k A s C;rcases C with rfl|⟨b,D,_⟩
   . cases j;exact⟨B,w,e,dfs,o,s,Ext.refl B _ w s.hr,.one st_skip⟩
   . cases D
 | label n=>
   intro l h x J K j B w F p e dfs o k A s C;rcases C with rfl|⟨b,D,_⟩
   . cases j;exact⟨B,w,e,dfs,o,s,Ext.refl B _ w s.hr,.one st_label⟩
   . cases D
 | region id ops W=>
   intro l h x J K j B w F p e dfs o k A s C;rcases C with rfl|⟨b,D,_⟩
   . simp only [aX]at j;cases W with
     | false=>simp only [cond_false]at j;have r:=AS ok hc hcode (ops:=ops) (k:=k) ops.toList 0 _ _ _ _ _ _ _ _ _ _ rfl s j;rw [Array.length_toList,<-List.range_eq_range']at r;exact r.pre (.one st_region) (Ext.refl B h w s.hr)| true=>
       simp only [cond_true]at j;cases Q:E.cut V.fn with
       | true=>rw [Q]at j;exact L V id ops l h _ _ _ j B w F p e dfs o k s| false =>
         rw [Q]at j;simp only [cond_false]at j;cases hp:im E (dy ops.toList)with
         |none=>grind| some q=>
           obtain⟨q,ps⟩:=q;rw [hp]at j;simp only []at j;cases he:cD E R (dy ops.toList) q (dy ops.toList) 0 l h []with
           |none=>grind| some q3=>
             obtain⟨l1,h1,tr⟩:=q3;rw [he]at j;simp only []at j;cases X:dH tr ps with
             |false=>grind| true=>
               rw [X]at j;cases j;exact T V id ops l h _ _ q ps tr hp he X B w F p e dfs o k s
   . cases D
 | seq a b M N=>
   intro l h x J K j B w F p e dfs o k A s C;rcases C with rfl|⟨b,D,_⟩
   . simp only [aX]at j;cases S:aX E R V a l h with
     |none=>grind| some q=>
       obtain⟨Y,l1,h1⟩:=q;rw [S]at j;obtain⟨u,G,d,g,y,H,I,U⟩:=M _ _ _ _ _ S B w F p e dfs o (.code b::k) _ s (.inl rfl);have z:=Reach.pre (.one st_seq) U;cases Y with
       | normal=>exact Sim.pre z I (N _ _ _ _ _ j u G F p d g y k _ H (.inl rfl))|exit id=>cases j;exact⟨u,G,d,g,y,H,I,z.out (fun id _=>rfl) (by simp)⟩
       |ret=>cases j;exact⟨u,G,d,g,y,H,I,z.out (fun id _=>rfl) (by simp)⟩
       |pan v=>cases j;exact⟨u,G,d,g,y,H,I,z.out (fun id _=>rfl) (by simp)⟩
   . cases D
 | cond c a b M N=>
   intro l h x J K j B w F p e dfs o k A s C;rcases C with rfl|⟨b,D,_⟩
   . simp only [aX]at j;have hv:=ev_rel s.regs c s.glob
     split at j
     next t af=>
      rw [af]at hv;cases Z:eo e c<;>rw [Z]at hv<;>cases hv;have O:=st_cond (P:=P) (F:=F) (dfs:=dfs) (k:=k) (cs:=bg o p) (w:=w) (a:=a) (b:=b) Z;cases t with
      |true=>exact Sim.pre (.one O) (Ext.refl B h w s.hr) (M _ _ _ _ _ j B w F p e dfs o k _ s (.inl rfl))|false=>exact Sim.pre (.one O) (Ext.refl B h w s.hr) (N _ _ _ _ _ j B w F p e dfs o k _ s (.inl rfl))
     next=>cases j
   . cases D
 | block id b ih=>
   intro l h x J K j B w F p e dfs o k A s C;rcases C with rfl|⟨b,D,_⟩
   . simp only [aX]at j;cases S:aX E R V b l h with
     |none=>grind| some q=>
       obtain⟨Y,l1,h1⟩:=q;rw [S]at j;obtain⟨u,G,d,g,y,H,I,U⟩:=ih _ _ _ _ _ S B w F p e dfs o (.inBlock id::k) _ s (.inl rfl);have z:=Reach.pre (.one st_block) U;cases Y with
       |normal=>cases j;exact⟨u,G,d,g,y,H,I,Steps.trans z (.one Fe)⟩
       | exit i=>
         simp only []at j;obtain⟨k0,aa,r2⟩:=z;cases hi:zB i id with
         | true=>
           have:i=id:=XM hi;subst this;rw [hi]at j;cases j;exact⟨u,G,d,g,y,H,I,Steps.trans r2 (.one (st_exit (k':=k) (by rw [aa];simp [exitTo])))⟩
         | false=>
           have ai:id≠i:=(by grind[XS]);rw [hi]at j;cases j;exact⟨u,G,d,g,y,H,I,k0,by rw [aa];simp [exitTo,ai],r2⟩
       |ret=>cases j;exact⟨u,G,d,g,y,H,I,z⟩
       |pan v=>cases j;exact⟨u,G,d,g,y,H,I,z⟩
   . cases D
 | loop b ih=>
   intro l h x J K j B w F p e dfs o k A s C;have O:step P (lone (F.mk' e dfs A) (bg o p) w)=.next (lone (F.mk' e dfs (.code b:: .inLoop b::k)) (bg o p) w):=by
    rcases C with rfl|⟨b2,D,rfl⟩
    . exact st_loop
    . cases D;exact st_inLoop
   simp only [aX]at j;cases S:aX E R V b l h with
   |none=>grind| some q=>
     obtain⟨Y,l1,h1⟩:=q;rw [S]at j;obtain⟨u,G,d,g,y,H,I,U⟩:=ih _ _ _ _ _ S B w F p e dfs o (.inLoop b::k) _ s (.inl rfl);have z:=Reach.pre (.one O) U;cases Y with
     |normal=>exact Sim.pre z I (hcode _ _ _ _ _ _ _ j u G F p d g y k _ H (.inr ⟨b,rfl,rfl⟩))|exit id=>cases j;exact⟨u,G,d,g,y,H,I,z.out (fun id _=>rfl) (by simp)⟩
     |ret=>cases j;exact⟨u,G,d,g,y,H,I,z.out (fun id _=>rfl) (by simp)⟩
     |pan v=>cases j;exact⟨u,G,d,g,y,H,I,z.out (fun id _=>rfl) (by simp)⟩
 | rangeFunc f ac ad ak M N=>
   intro l h x J K j B w F p e dfs o k A s C;rcases C with rfl|⟨b,D,_⟩
   . exact Bz ok hc j s
   . cases D
 | exit id=>
   intro l h x J K j B w F p e dfs o k A s C;rcases C with rfl|⟨b,D,_⟩
   . cases j;exact⟨B,w,e,dfs,o,s,Ext.refl B _ w s.hr,k,rfl,Steps.refl _ _⟩
   . cases D
 | scope b ih=>
   intro l h x J K j B w F p e dfs o k A s C;rcases C with rfl|⟨b,D,_⟩
   . obtain⟨u,G,d,g,y,H,I,U⟩:=ih _ _ _ _ _ j B w F p e dfs o (.inScope b::k) _ s (.inl rfl);have z:=Reach.pre (.one st_scope) U;cases x with
     |normal=>exact⟨u,G,d,g,y,H,I,Steps.trans z (.one EH)⟩|exit id=>exact⟨u,G,d,g,y,H,I,z.out (fun id _=>rfl) (by simp)⟩
     |ret=>exact⟨u,G,d,g,y,H,I,z.out (fun id _=>rfl) (by simp)⟩
     |pan v=>exact⟨u,G,d,g,y,H,I,z.out (fun id _=>rfl) (by simp)⟩
   . cases D
 |goto n=>intro l h x J K j;cases j
 | ret=>
   intro l h x J K j B w F p e dfs o k A s C;rcases C with rfl|⟨b,D,_⟩
   . cases j;exact⟨B,w,e,dfs,o,s,Ext.refl B _ w s.hr,k,Steps.refl _ _⟩
   . cases D
 |refuse m=>intro l h x J K j;cases j
end
theorem wH.hrel(k:wH w w'){h:Hp}(a:bE mu h w):bE mu h w':=
 ⟨a.sized,fun b c d e f=>by
  obtain⟨x,o,g,i,j⟩:=a.blk b c d e f;refine⟨x,o,g,?_,j⟩;rw [k.heap c (by
   grind)]
  exact i,a.dead,a.inj,a.lt⟩
theorem wH.ext(k:wH w w'){h:Hp}(hh:bE mu h w):Ext mu h w mu h w' where
 n:=zM _
 old:=fun _ _=>.inl rfl
 fresh:=fun b c base top hb hm=>absurd (hh.lt b (by rw [hm];simp)) (by omega)
 lo:=zM _
 same:=fun _ _ _=>rfl
 frame:=fun c hc _=>k.heap c hc
 ro:=fun b c base top t sz el hm hg=>by obtain⟨x,o,h1,h2,h3⟩:=hh.blk b c base top hm;refine⟨k.heap c ?_,rfl,rfl⟩;grind
 wsize:=k.size
 os:=k.os
 tape:=k.tape
 output:=k.output
 cover:=fun _ h1 h2=>absurd h2 (by omega)
def uv(mu:Mu):Option Value->FrameMode->Prop
 |none,M=>M=.returning|some v,M=> ∃a,M=.panicking [{v:=a,recovered:=false}]/\aC mu v a
theorem uv.mono{mu c:Mu}(h:Le mu c){m:Option Value}{M:FrameMode}(k:uv mu m M):uv c m M:=by
 cases m with
 |none=>exact k|some v=>obtain⟨d,a,b⟩:=k;exact⟨d,a,b.mono h⟩
def FC.un(F:FC)(tmps:Array Value)(dfs:List Deferred)(todo:List Item)(M:FrameMode):Frame:={F.mk' tmps dfs todo with mode:=M}
section
variable{P:Program}{F:FC}{tmps:Array Value}{dfs:List Deferred}{todo:List Item}{cs:List Frame}{w:World}
theorem B0(e:M≠ .run){a:List Deferred}(d:w.heap[c]? =some (.deferred (some a))):step P (lone (F.un tmps ({target:=.collected c,args}::dfs) todo M) cs w)=.next (lone (F.un tmps (a++dfs) todo M) cs (setW w c (.deferred none))):=by
 refine step_lone_go ?_;have b:=ye (P:=P) d;cases M with
 |run=>grind|returning=>simp [stepG,unwind,FC.un,FC.mk',b]|panicking f=>simp [stepG,unwind,FC.un,FC.mk',b]
theorem tg(b:M≠ .run){f:FuncId}{cap:Array Value}(hf: ∀a w,(callFunc f a).run P w=.ok (.enter f a) w):step P (lone (F.un tmps ({target:=.fn (.func f) cap,args}::dfs) todo M) cs w)=.next (lone (Frame.enter P f (args++cap) .deferred) (F.un tmps dfs todo M::cs) w):=by
 refine step_lone_go ?_;cases M with
 |run=>grind|returning=>simp [stepG,unwind,callDeferred,FC.un,FC.mk',invoke,hf]|panicking c=>simp [stepG,unwind,callDeferred,FC.un,FC.mk',invoke,hf]
theorem q8{b c:Frame}(h:ug P b w .deferred v)(a:c.mode=.returning\/ ∃v',c.mode=.panicking [{v:=v',recovered:=false}]):step P (lone b (c::cs) w)=.next (lone c cs w):=by
 obtain⟨e,hf,d⟩:=h.res;refine step_lone_go ?_;rcases a with a|⟨v',a⟩<;>simp [stepG,unwind,doReturn,h.mode,h.defers,h.kind,hf,d,a]
theorem wK{a c:Frame}(h:ug P a w .deferred v)(b:c.mode=.panicking [{v:=v',recovered:=true}]):step P (lone a (c::cs) w)=.next (lone {c with mode:=.returning} cs w):=by
 obtain⟨e,hf,d⟩:=h.res;exact step_lone_go (by simp [stepG,unwind,doReturn,h.mode,h.defers,h.kind,hf,d,b])
end
section
variable{E:Env}{P:Program}(ok:EOk E P){R:Rec}(hc:iX E P R.call)(hcode:kf P R.code)
include ok hc in
theorem nA{F : FC}{tmps:Array Value}{todo:List Item}{cs:List Frame}: ∀(H:List Deferred) (m C:Option Value) (h h':Hp),cM R H m h=some (C,h')->
 ∀ (mu:Mu) (w:World) (dfs:List Deferred) (M:FrameMode),bE mu h w->oq mu->DL mu H dfs->uv mu m M->
   ∃j w' M',bE j h' w'/\Ext mu h w j h' w'/\uv j C M'/\Steps P (lone (F.un tmps dfs todo M) cs w) (lone (F.un tmps [] todo M') cs w')
 | [],m,C,h,h',i,mu,w,dfs,M,x,I,hd,J=>by
   cases i;rw [hd.nil_left];exact⟨mu,w,M,x,Ext.refl mu h w x,J,Steps.refl _ _⟩
 | d :: H, m,C,h,h',i,mu,w,dfs,M,x,I,hd,J=>by
   obtain⟨d',g,rfl,Q,Y⟩:=hd.cons_left;have hM:M≠ .run:=by
    intro e;subst e;cases m with
    |none=>cases J
    |some v=>obtain⟨_,a,_⟩:=J;cases a
   obtain⟨ai,k⟩:=d';unfold cM at i
   split at i
   next b hb=>
    split at i
    next U=>
     unfold oJ at Q;rw [hb]at Q;obtain⟨c,r,hp⟩:=Q;simp only []at r;subst r;obtain⟨ak,K,D⟩:=dead_at x hp U;obtain⟨a1,a2⟩:=sZ x K (by grind) (wW (o:=.deferred none) D);have s:=a2.le x;obtain⟨j,w',M',S,G,T,k4⟩:=nA H m C _ h' i _ _ g M a1 (I.mono s) (LR.mono Y fun _ _=>oJ.mono s) (J.mono s);exact⟨j,w',M',S,Ext.trans a2 G,T,.head (B0 hM D) k4⟩
    next=>cases i
   next f cap hb=>
    unfold oJ at Q;rw [hb]at Q;obtain⟨n,r,V,t⟩:=Q;simp only []at r t;subst r;have va:VL mu (d.args.toList++cap.toList) (k++n).toList:=(by rw [Xl];exact LR.append t V);cases m with
    | none=>
      have aa:M=.returning:=J;subst aa;simp only []at i;cases l:R.call f (d.args.toList++cap.toList) none h with
      |none=>grind| some q=>
        obtain⟨L,rc,ac⟩:=q;rw [l]at i;obtain⟨⟨fn,N,p⟩,hs⟩:=hc _ _ _ _ _ _ _ l;have A:=tg (P:=P) (F:=F) (tmps:=tmps) (dfs:=g) (todo:=todo) (cs:=cs) (w:=w) hM (cap:=n) (args:=k) (fun a w=>ok.call f fn a w N p);obtain⟨B,Z,u,fr,S,G,T,k4,k5,k6,_⟩:=hs mu w (k++n) none (F.un tmps g todo .returning::cs) .deferred x I va trivial (.inr ⟨rfl,_,_,rfl,rfl⟩);cases L with
        |pan v=>cases i
        | ret v=>
          obtain⟨v',l1,l2⟩:=k6;simp only []at i;cases rc with
          |some y=>cases i
          | none=>
            cases u with
            |some y=>exact T.elim| none=>
              simp only []at i;have s:=G.le x;obtain⟨j,w',M',K,D,W,g4⟩:=nA H none C _ h' i B Z g .returning S (I.mono s) (LR.mono Y fun _ _=>oJ.mono s) rfl;exact⟨j,w',M',K,Ext.trans G D,W,Steps.trans (.one A) (Steps.trans k5 (.head (q8 l1 (.inl rfl)) g4))⟩
    | some pv =>
      obtain⟨X,rfl,ad⟩:=J;simp only []at i;cases l:R.call f (d.args.toList++cap.toList) (some (pv,false)) h with
      |none=>grind| some q=>
        obtain⟨L,rc,ac⟩:=q;rw [l]at i;obtain⟨⟨fn,N,p⟩,hs⟩:=hc _ _ _ _ _ _ _ l;have A:=tg (P:=P) (F:=F) (tmps:=tmps) (dfs:=g) (todo:=todo) (cs:=cs) (w:=w) hM (cap:=n) (args:=k) (fun a w=>ok.call f fn a w N p);obtain⟨B,Z,u,fr,S,G,T,k4,k5,k6,_⟩:=hs mu w (k++n) (some (X,false)) (F.un tmps g todo (.panicking [{v:=X,recovered:=false}])::cs) .deferred x I va ⟨rfl,ad⟩ ⟨rfl,by simp⟩;cases L with
        |pan v=>cases i
        | ret v =>
          obtain⟨v',l1,l2⟩:=k6;simp only []at i;have s:=G.le x;cases rc with
          |none=>cases i
          | some y=>
            obtain⟨v0,b⟩:=y;cases u with
            |none=>exact T.elim| some z=>
              obtain⟨O,b'⟩:=z;obtain⟨rfl,af⟩:=T;cases b with
              | true=>
                simp only []at i;obtain⟨j,w',M',K,D,W,g4⟩:=nA H none C _ h' i B Z g .returning S (I.mono s) (LR.mono Y fun _ _=>oJ.mono s) rfl;refine⟨j,w',M',K,Ext.trans G D,W,Steps.trans (.one A) (Steps.trans k5 (.head (wK l1 rfl) g4))⟩
              | false=>
                simp only []at i;obtain⟨j,w',M',K,D,W,g4⟩:=nA H (some v0) C _ h' i B Z g (.panicking [{v:=O,recovered:=false}]) S (I.mono s) (LR.mono Y fun _ _=>oJ.mono s) ⟨O,rfl,af⟩;refine⟨j,w',M',K,Ext.trans G D,W,Steps.trans (.one A) (Steps.trans k5 (.head (q8 l1 (.inr ⟨O,rfl⟩)) g4))⟩
   next=>cases i
include ok in
theorem Eh{h:Hp}(p:bE mu h w)(i:ke mu t n tmps): ∀(rs:List ResultVar) (vs:List Value),cu E t h rs=some vs->
 ∃ b,(rs.mapM (fun
   | .tmp t=>pure (tmps.getD t undef)| .cell a t=>do loadVar t (<-asAddr (tmps.getD a undef)):ResultVar->Sem Value)).run P w=.ok b w/\VL mu vs b:=by
 have e: ∀a,aC mu (match t.get a with|some v=>v|none=>.tuple #[]) (tmps.getD a undef):=by
  intro a;cases d:t.get a with
  | none=>
    have:n<=a:=by
     rcases XW a n with g|g
     . obtain⟨v,q⟩:=Tr.get_some i.sized g;grind
     . exact g
    rw [Xz,XL (by rw [i.size];exact this)];exact .tuple rfl (by grind)
  | some v=>
    obtain⟨k,g,q⟩:=i.get a v d;simp_all
 intro rs
 induction rs with
 |nil=>intro vs c;cases c;exact⟨[],by simp,LR.nil⟩
 | cons r rs m=>
   intro vs c;cases r with
   | tmp a=>
     simp only [cu]at c;cases f:cu E t h rs with
     |none=>grind| some l=>
       rw [f]at c;cases c;obtain⟨b,s,o⟩:=m l f;grind[undef,LR.cons,Sem.run_bind,Sem.run_pure,Result.andThen_ok]
   | cell a u=>
     simp only [cu]at c
     split at c
     next=>cases c
     next v d=>
      cases f:cu E t h rs with
      |none=>grind| some l=>
        rw [f]at c;cases c;obtain⟨b,s,o⟩:=m l f;obtain⟨k,C,z⟩:=Bh (P:=P) ok p d (e a);refine⟨k::b,?_,LR.cons z o⟩;have D: ∃j,tmps.getD a undef=.pointer (some j):=(by have A: ∀x y,gm E h u x=some v->aC mu x y-> ∃j,y=.pointer (some j):=(by intro x y d B;unfold gm at d;cases B<;>(try simp only []at d)<;>first|(cases d;done)|grind);grind);grind[asAddr,undef,run,Instr.loadAt,Instr.sureAddr,Sem.run_bind,Sem.run_pure,Result.andThen_ok]
include ok in
theorem Ej{h:Hp}(j:bE mu h w)(k:ke mu t n tmps){c:Func}(l:cu E t h c.results.toList=some vs):
 ∃v',(results c tmps).run P w=.ok v' w/\aC mu (ab vs) v':=by
 obtain⟨b,m,d⟩:=Eh (P:=P) ok j k _ _ l;have o:(results c tmps).run P w=.ok (if h:b.toArray.size=1 then b.toArray[0]else .tuple b.toArray) w:=by
  unfold results;rw [XC];simp only [map_eq_pure_bind,Sem.run_bind];refine(congrArg (fun q:Result (List Value)=>(q.andThen fun a e=>(pure a.toArray:Sem (Array Value)).run P e).andThen
   fun a e=>(pure (if h:a.size=1 then a[0]else .tuple a):Sem Value).run P e) m).trans ?_
  simp
 refine⟨_,o,?_⟩;cases vs with
 | nil=>rw [d.nil_left];exact .tuple rfl (by grind)| cons v r=>
   obtain⟨v',B,rfl,p,g⟩:=d.cons_left;cases r with
   | nil=>rw [g.nil_left];simpa [ab]using p| cons C D=>
     obtain⟨s,x,rfl,F,y⟩:=g.cons_left;simp only [ab,List.size_toArray,Xk];rw [dif_neg (by omega)];exact .tuple (by simpa using y.1) (fun i u z A f=>d.2 i u z (by simpa using A) (by simpa using f))
include ok hc hcode in
theorem Dt : iX E P (mP E R):=by
 intro g c rc h o U h' f;unfold mP at f;cases V:E.fn g with
 |none=>grind| some d =>
   rw [V]at f;simp only []at f;cases hb:d.body with
   |none=>grind| some n =>
     rw [hb]at f;simp only []at f;refine⟨⟨d,rfl,by rw [hb];rfl⟩,?_⟩;intro mu w b u l j hh hg ha ac K;have hP:=ok.fn g d V;cases hle:Xb c.length d.ntmps with
     |false=>grind| true =>
       rw [hle]at f;simp only [cond_true]at f;have al:c.length<=d.ntmps:=XN hle;have ad:j=.normal\/j=.deferred:=by
        cases u with
        |none=>rcases K with a|a;exact .inl a;exact .inr a.1
        |some y=>exact .inr K.1
       let F:FC:=⟨g,j,none⟩
       have W:Frame.enter P g b j=F.mk' (b++Xn (d.ntmps-b.size) undef) [] [.code n]:=(by simp [Frame.enter,hP,hb,FC.mk',F]);have an:c.length=b.size:=(by rw [ha.1];simp);have L:ke mu ((Tr.blank (.tuple #[]) d.ntmps d.ntmps).setAll 0 c) d.ntmps (b++Xn (d.ntmps-b.size) undef):=by
        refine⟨by grind,Tr.sized_setAll 0 c (Tr.sized_blank _ _ _ (zM _)),fun i v D=>?_⟩;rw [Tr.get_setAll _ 0 c d.ntmps (Tr.sized_blank _ _ _ (zM _)) (by omega)]at D;by_cases hi:i<c.length
        . rw [if_pos ⟨Nat.zero_le _,by omega⟩]at D;obtain⟨C,g1,g2⟩:=ha.get (i:=i) (by simpa using D);grind
        . rw [if_neg (by omega),Tr.get_blank _ _ _ (zM _)]at D
          split at D
          . cases D;refine⟨undef,?_,.tuple rfl (by grind)⟩;grind
          . cases D
       have sr:SR P ⟨g,d.ntmps,none⟩ ⟨(Tr.blank (.tuple #[]) d.ntmps d.ntmps).setAll 0 c,[],rc⟩ h mu w F l (b++Xn (d.ntmps-b.size) undef) [] u:=
        ⟨hh,hg,L,LR.nil,ac,K,rfl,trivial,fun e=>absurd rfl e,by grind⟩
       rw [W];cases X:R.code ⟨g,d.ntmps,none⟩ n ⟨(Tr.blank (.tuple #[]) d.ntmps d.ntmps).setAll 0 c,[],rc⟩ h with
       |none=>grind| some q =>
         obtain⟨x,G,h1⟩:=q;rw [X]at f;obtain⟨Y,w1,p,z,k,t,e1,r1⟩:=hcode _ _ _ _ _ _ _ X mu w F l _ [] u [] [.code n] sr (.inl rfl);have Z: ∀{r:Array Value} {todo:List Item} {m:Mu} {M:Hp} {I:World} {N:List Value},bE m M I->ke m G.regs d.ntmps r->cu E G.regs M d.results.toList=some N->
          ∃C,ug P (F.un r [] todo .returning) I j C/\aC m (ab N) C:=by
          intro r todo m M I N af ai s;obtain⟨C,g1,g2⟩:=Ej (P:=P) ok af ai s;exact⟨C,⟨rfl,rfl,rfl,d,hP,g1⟩,g2⟩
         have A: ∀{todo:List Item},Steps P (lone (F.mk' (b++Xn (d.ntmps-b.size) undef) [] [.code n]) (bg u l) w) (lone (F.mk' p z todo) (bg k l) w1)->(todo=[]\/ ∃k0,todo=.code .ret::k0)->
          (match cM R G.dfs none h1 with
            | some (none,aa)=>match cu E G.regs aa d.results.toList with
              |none=>none|some N=>some (Out.ret (ab N),G.rc,aa)
            |_=>none)=some (o,U,h')->
          ∃ H w' B fr,bE H h' w'/\Ext mu h w H h' w'/\tK H U B/\KOk j l B/\
            Steps P (lone (F.mk' (b++Xn (d.ntmps-b.size) undef) [] [.code n]) (bg u l) w) (lone fr (bg B l) w')/\
            CallEnd P fr w' j H o/\fr.fn=g:=by
          intro todo st ht f;cases hu:cM R G.dfs none h1 with
          |none=>grind| some q2=>
            obtain⟨m2,M⟩:=q2;rw [hu]at f;cases m2 with
            |some v=>cases f
            | none=>
              simp only []at f;obtain⟨m,I,M2,J,S,k3,k4⟩:=nA ok hc (F:=F) (tmps:=p) (todo:=todo) (cs:=bg k l) _ _ _ _ _ hu Y w1 z .returning t.hr t.glob t.dfs rfl;have O:M2=.returning:=k3;subst O;have le:=S.le t.hr;cases s:cu E G.regs M d.results.toList with
              |none=>grind| some N=>
                rw [s]at f;cases f;have T:=t.step J le;obtain⟨C,f1,f2⟩:=Z (todo:=todo) J T.regs s;exact⟨m,I,k,_,J,Ext.trans e1 S,T.rc,t.ko,Steps.trans st (.head (Fs rfl ht) k4),⟨C,f1,f2⟩,rfl⟩
         cases x with
         |exit id=>cases f
         |normal=>exact A r1 (.inl rfl) f|ret=>obtain⟨k0,r2⟩:=r1;exact A r2 (.inr ⟨k0,rfl⟩) f
         | pan v =>
           obtain⟨C,todo,D,r2⟩:=r1;simp only []at f;cases hu:cM R G.dfs (some v) h1 with
           |none=>grind| some q2=>
             obtain⟨m2,M⟩:=q2;rw [hu]at f;obtain⟨m,I,M2,J,S,k3,k4⟩:=nA ok hc (F:=F) (tmps:=p) (todo:=todo) (cs:=bg k l) _ _ _ _ _ hu Y w1 z (.panicking [{v:=C,recovered:=false}]) t.hr t.glob t.dfs ⟨C,rfl,D⟩;have le:=S.le t.hr;have T:=t.step J le;cases m2 with
             | some v2=>
               cases f;obtain⟨Q,rfl,ak⟩:=k3;exact⟨m,I,k,_,J,Ext.trans e1 S,T.rc,t.ko,Steps.trans r2 k4,⟨Q,⟨rfl,rfl,rfl,d,hP⟩,ak⟩,rfl⟩
             | none=>
               have O:M2=.returning:=k3;subst O;simp only []at f;cases s:cu E G.regs M d.results.toList with
               |none=>grind| some N=>
                 rw [s]at f;cases f;obtain⟨Q,f1,f2⟩:=Z (todo:=todo) J T.regs s;exact⟨m,I,k,_,J,Ext.trans e1 S,T.rc,t.ko,Steps.trans r2 k4,⟨Q,f1,f2⟩,rfl⟩
include ok hc hcode in
theorem Cp:iX E P (jU E R):=by
 intro g a r h o j A d;unfold jU at d;cases k:E.orc g a with
 |none=>rw [k]at d;exact Dt ok hc hcode g a r h o j A d| some v=>
   rw [k]at d;cases r with
   |some x=>cases d
   | none=>
     cases d;obtain⟨l,J,B,C⟩:=ok.orc g a v k;refine⟨l,?_⟩;intro s w b m n e t K p q f;cases m with
     |some x=>exact q.elim| none=>
       have c:b=⟨a⟩:=(by apply XD;refine List.ext_getElem? fun i=>?_;obtain⟨u,y⟩:=p;grind[XW,Xc,dI,Xe,XH,aC.const_eq,List.getElem?_eq_none]);subst c;obtain⟨D,F,z,G,H,I⟩:=C w n e f;exact⟨s,D,none,F,z.hrel t,z.ext t,trivial,f,G,⟨v,H,aC.const s B⟩,I⟩
end
theorem run_ok{E:Env}{P:Program}(d:EOk E P)(e: ∀R,iX E P R.call->kf P R.code->DrawOk E P R/\yp E P R): ∀n,iX E P (run E n).call/\kf P (run E n).code
 | 0=>by
   constructor
   . intro g args rc h o i h' f;cases f
   . intro cx c l h x l' h' f;cases f
 | n+1=>by obtain⟨a,b⟩:=run_ok d e n;exact⟨Cp d a b,BK d a b (e _ a b).1 (e _ a b).2⟩
noncomputable def hp0:Hp:={n:=16,t:=Tr.ofList (XP 16 .dead),lo:=16}
def mu0:Mu:=fun b=>if b<16 then .dead else .none
theorem hrel0(w:World):bE mu0 hp0 w:=by
 refine⟨?_,?_,?_,?_,?_⟩
 . have:=Tr.sized_ofList (XP 16 Blk.dead);rwa [List.length_replicate]at this
 . intro b c a d h;unfold mu0 at h;split at h<;>cases h
 . intro b h;unfold mu0 at h
   split at h
   next e=>show(Tr.ofList (XP 16 Blk.dead)).get b=_;rw [Tr.get_ofList,List.getElem?_replicate,if_pos e]
   next=>cases h
 . intro b i c a d f g h;unfold mu0 at h;split at h<;>cases h
 . intro b h;unfold mu0 at h
   split at h
   next e=>exact e
   next=>exact absurd rfl h
theorem glob0:oq mu0:=by intro g a;unfold fV mu0;simp [a]
theorem A2{h a:Hp}{o:Nat}(e:a.get b=h.get b):h.load b o n=a.load b o n:=by unfold Hp.load;rw [e]
theorem Dp{E : Env}{op:Op}(z:cls E op=0\/cls E op=1):
 ∃f:Hp->Option Value,(∀h,aop E ρ h op=dp h (f h))/\(cls E op=0-> ∀h i,f h=f i)/\(∀h i,(∀b,touch ρ op=some b->i.get b=h.get b)->f h=f i):=by
 have w:(∀h,aop E ρ h op=dp h (pop E ρ op))-> ∃f:Hp->Option Value,(∀h,aop E ρ h op=dp h (f h))/\(cls E op=0-> ∀h i,f h=f i)/\(∀h i,(∀b,touch ρ op=some b->i.get b=h.get b)->f h=f i):=
  fun h=>⟨fun _=>pop E ρ op,h,fun _ _ _=>rfl,fun _ _ _=>rfl⟩
 cases op
 case load t a=>
  refine⟨fun h=>gm E h t (ρ a),fun _=>rfl,fun u=>by simp [cls]at u,fun h i q=>?_⟩;show gm E h t (ρ a)=gm E i t (ρ a);unfold gm;unfold touch at q;simp only []at q
  split at q
  next x G=>
   try rw [G]
   try simp only []
   have e: ∀o n,h.load x.block o n=i.load x.block o n:=fun o n=>A2 (q _ rfl);simp only [e]
  grind
 case lookup t m k b=>
  refine⟨fun h=>fi E h t (ρ m) (ρ k) b,fun _=>rfl,fun u=>by simp [cls]at u,fun h i q=>?_⟩;show fi E h t (ρ m) (ρ k) b=fi E i t (ρ m) (ρ k) b;unfold touch at q;unfold fi;grind
 case convert j g x=>
  have B:cls E (.convert j g x)=0-> ∀p,ax E j g=some p->p.1=0:=by grind[cls,ax]
  have A:cls E (.convert j g x)=1-> ∀p,ax E j g=some p->p.1=0\/p.1=1:=by intro u p H;unfold cls at u;unfold ax at H;grind
  refine⟨fun h=>match ax E j g with
   |some (0,_)=>a9 E g (ρ x)|some (1,_)=>strOf h (ρ x)|_=>none,fun h=>?_,fun u h i=>?_,fun h i q=>?_⟩
  . show dK (aV E h j g (ρ x))=dp h _;unfold aV;cases C:ax E j g with
    |none=>rfl| some p=>
      obtain⟨n,e⟩:=p;have D:n=0\/n=1:=(by grind);rcases D with rfl|rfl
      . simp only [];cases a9 E g (ρ x)<;>rfl
      . simp only [];cases strOf h (ρ x)<;>rfl
  . grind
  . cases C:ax E j g with
    |none=>simp only [C]| some p=>
      obtain⟨n,e⟩:=p;simp only [C]
      match n with
      |0=>rfl| 1=>
        show strOf h (ρ x)=strOf i (ρ x);unfold touch at q;simp only []at q;unfold strOf;cases F:ρ x<;>rw [F]at q<;>(try rfl);rename_i a l c;cases a with
        |none=>rfl|some a=>simp only []at q⊢;rw [A2 (q _ rfl)]
      |n+2=>rfl
 case call c =>
  cases s:c.callee with
  |value f=>simp [cls,s]at z|invoke r n=>simp [cls,s]at z| builtin b =>
    cases b<;>(try (simp [cls,s]at z;done))
    case len =>
     refine ⟨fun h=>match pop E ρ (.call c)with
      |some v=>some v| none => match c.args.toList with
        | x ::_=>match ρ x with
          | .map (some r)=>match h.get r with
            | some (.map I _)=>match c.argTypes.toList with
              | t::_=>match E.und t with
                |some (.map _ _)=>some (.int .i64 (.ofNat I.length))|_=>none
              |_=>none
            |_=>none
          |_=>none
        |_=>none,fun h=>?_,fun u=>by simp [cls,s]at u,fun h i q=>?_⟩
     . simp only [aop,s];cases pop E ρ (.call c)with
       |some v=>rfl| none=>
         simp only [];cases K:c.args.toList with
         |nil=>rfl| cons x L=>
           simp only [];cases F:ρ x<;>(try rfl);rename_i r;cases r with
           |none=>rfl| some r=>
             simp only [];cases M:h.get r with
             |none=>rfl| some y=>
               cases y<;>(try rfl);cases J:c.argTypes.toList with
               |nil=>rfl| cons t N=>
                 simp only [];cases O:E.und t with
                 |none=>rfl|some d=>cases d<;>rfl
     . show _=_;cases pop E ρ (.call c)with
       |some v=>rfl| none=>simp only [];unfold touch at q;grind
    all_goals simp_all[aop]
 all_goals first
  |exact w (fun _=>rfl)|(exfalso;simp [cls]at z;done)
theorem dZ{h:Hp}{a:Nat}{x:Blk}(c:b≠a):(h.put b x).get a=h.get a:=by rw [Hp.get_put,if_neg (fun e=>c e.1)]
theorem uY{h:Hp}{x:Blk}(hs:OZ h)(a:b<h.n):(h.new x).get b=h.get b:=by rw [Hp.get_new h x hs,if_neg (by omega)]
theorem rG{h c:Hp}{o:Nat}(e:h.store b o l=some c){a:Nat}(d:b≠a):c.get a=h.get a:=by grind[Hp.store,dZ]
theorem qJ{E:Env}{h:Hp}{t:TypeId}{r:Nat}{a:List (Value×Value×Nat)}{el:TypeId}(b:mq E h t m k=some (r,a,c,el)):m=.map (some r)/\h.get r=some (.map a c)/\ ∃kt,E.und t=some (.map kt el)/\cG E kt k=true:=by
 unfold mq at b;grind
theorem w_only{E : Env}{op:Op}{h A:Hp}{H:d6}(hs:OZ h)(w:cls E op=2\/cls E op=5)(g:aop E ρ h op=some (H,A)):
 ∀b,b<h.n->touch ρ op≠some b->A.get b=h.get b:=by
 intro b V ht;have I: ∀{r:Option (Hp×Value)},dK r=some (H,A)-> ∃v,r=some (A,v):=by
  intro r B;cases r with
  |none=>cases B
  |some q=>obtain⟨a,b⟩:=q;cases B;grind
 have D: ∀{r:Option Hp},iH r=some (H,A)->r=some A:=by
  intro r B;cases r with
  |none=>cases B
  |some q=>cases B;rfl
 cases op
 case store t a x=>have d:=D g;grind[jT,touch,zB,ae,rG]
 case mapUpdate t m k v=>
  have d:=D g;unfold ki at d
  split at d
  next=>cases d
  next r F c G y=>
   obtain⟨J,_,_⟩:=qJ y;grind[touch,dZ]
 case insert t m k v=>
  have d:=D g;unfold ki at d
  split at d
  next=>cases d
  next r F c G y=>
   obtain⟨J,_,_⟩:=qJ y;grind[touch,dZ]
 case mapEntry t m k=>
  obtain⟨v,d⟩:=I g;unfold k9 at d
  split at d
  next=>cases d
  next r F c G y=>
   obtain⟨J,_,_⟩:=qJ y;grind[touch,dZ]
 case entryStore t m s v=>
  have d:=D g;unfold oI at d
  split at d
  next r B=>
   have j:r≠b:=by grind[touch]
   split at d
   next F c W=>grind[dZ]
   next=>cases d
  next=>cases d
 case call c =>
  cases l:c.callee with
  |value f=>simp [cls,l]at w|invoke r n=>simp [cls,l]at w| builtin X =>
    cases X<;>(try (simp [cls,l]at w;done))
    case append =>
     simp only [aop,l]at g
     split at g
     next s x R o =>
      obtain⟨v,d⟩:=I g;unfold dP at d
      split at d
      next t tx S =>
       split at d
       next =>
        unfold lC at d
        split at d
        next e Y=>
         split at d
         next=>cases d
         next i hi =>
          split at d
          next a z C K=>
           have j: ∀u,a=some u->u.block≠b:=by grind[touch]
           split at d
           next=>cases d
           next n L T=>
            unfold ie at d;cases U:Xb (z+n) C with
            | true=>
              rw [U]at d;simp only [cond_true]at d
              split at d
              next=>cases d;rfl
              next u=>
               split at d
               next=>cases d;rfl
               next=>
                split at d
                next=>cases d
                next M p=>cases d;exact rG p (j _ rfl)
            | false =>
              rw [U]at d;simp only [cond_false]at d;cases N:(Xb ((z+n)*(i.bytes+1)) 70368744177664&&(Xa 0 i.bytes))with
              |false=>grind| true =>
                rw [N]at d;simp only [cond_true]at d
                split at d
                next=>cases d
                next Z hz=>
                 cases O:zB Z.length i.size with
                 |false=>grind| true=>
                   rw [O]at d;simp only [cond_true]at d;unfold qx at d
                   split at d
                   next=>grind[zB,uY]
                   next u=>
                    split at d
                    next tr sz G md W=>
                     split at d
                     next=>cases d
                     next t2 s2 aa=>
                      split at d
                      next k' ac=>
                       cases P:(zB k' i.size&& !Nat.beq md 0&&L.all jx)with
                       |false=>grind| true=>
                         rw [P]at d;cases d;rw [uY (h:=h.put u.block .dead) (Tr.sized_set _ _ hs) V];exact dZ (j _ rfl)
                      grind[uY]
                    next=>cases d
          next=>cases d
        next=>cases d
       next=>cases d
      next=>cases d
     next=>cases g
    case copy =>
     simp only [aop,l]at g
     split at g
     next s x R o=>
      obtain⟨v,d⟩:=I g;unfold copyV at d
      split at d
      next t S=>
       split at d
       next e Y=>
        split at d
        next=>cases d
        next k hk=>
         split at d
         next a z C K=>
          have j: ∀u,a=some u->u.block≠b:=by grind[touch]
          split at d
          next=>cases d;rfl
          next=>
           split at d
           next=>cases d
           next=>cases d;rfl
           next=>
            split at d
            next=>cases d
            next u=>
             split at d
             next=>cases d
             next M p=>cases d;exact rG p (j _ rfl)
          next s=>
           cases Q:zB k 1 with
           |false=>grind| true=>
             rw [Q]at d;simp only [cond_true]at d
             split at d
             next=>cases d;rfl
             next=>
              split at d
              next=>cases d
              next u=>
               split at d
               next=>cases d
               next M p=>cases d;exact rG p (j _ rfl)
          next=>cases d
         next=>cases d
       next=>cases d
      next=>cases d
     next=>cases g
    case delete=>
     simp only [aop,l]at g
     split at g
     next t S m k R af o=>
      split at g
      next=>cases g
      next M d=>
       cases g;unfold oZ at d
       split at d
       next=>cases d
       next r F c G y=>
        obtain⟨J,_,_⟩:=qJ y;grind[touch,dZ]
     next=>cases g
 case convert ai ak x=>grind[cls]
 all_goals first
  |(exfalso;simp [cls]at w;done)
  |(exfalso;unfold cls at w;simp only []at w;split at w<;>simp at w;done)
theorem zQ{a b:Value}(h:dL a b=some true):a=b:=by
 unfold dL at h;cases a<;>(try (simp at h;done))<;>cases b<;>(try (simp at h;done))
 . grind
 . grind[jf,jh]
 . rename_i s u;simp only []at h;rw [kV]at h;simp at h;have:s=u:=(by cases s;cases u;simp [aU]at h;simp [h]);subst this;rfl
 . rename_i x y;simp only []at h;have:=(tS _ _ h).2.2.2.1 rfl;simp_all
theorem A1{kd:IntKind}: ∀(l m:List Value),(∀v∈l,∃x,v=.int kd x)->(∀v∈m,∃x,v=.int kd x)->l.length=m.length-> ∃r,ep l m=some r
 | [],[],_,_,_=>⟨true,rfl⟩| a::l,b::m,c,d,e=>by
   obtain⟨x,rfl⟩:=c a (by simp);obtain⟨y,rfl⟩:=d b (by simp);obtain⟨r,f⟩:=A1 l m (fun v h=>c v (by simp [h])) (fun v h=>d v (by simp [h])) (by simpa using e);simp_all[iW,ep,jf,decide_true,cond_true]
 | [],_::_,_,_,h=>by simp at h|_::_,[],_,_,h=>by simp at h
theorem Fa{E:Env}{kt:TypeId}{a b:Value}(c:cG E kt a=true)(e:cG E kt b=true): ∃r,dL a b=some r:=by
 unfold cG at c e;cases f:E.und kt with
 |none=>simp [f]at c| some d=>
   cases g:ja d with
   | true=>
     cases d<;>simp only [ja]at g<;>try (cases g;done)
     obtain⟨p,q,rfl,_,_,i,j,l⟩:=pL (E:=E) (kt:=kt) (k:=a) f (by unfold cG;exact c);obtain⟨s,m,rfl,_,_,n,h,o⟩:=pL (E:=E) (kt:=kt) (k:=b) f (by unfold cG;exact e);rw [j]at h;cases h;exact A1 _ _ l o (by rw [i,n])
   |false=>
   simp only [f]at c e;cases d<;>simp only []at c e<;>(try (cases c;done))<;>(try (cases g;done))
   . cases a<;>simp only []at c<;>try (cases c;done)
     cases b<;>simp only []at e<;>try (cases e;done)
     exact⟨_,rfl⟩
   . cases a<;>simp only []at c<;>try (cases c;done)
     cases b<;>simp only []at e<;>try (cases e;done)
     simp_all[jf,decide_eq_true_eq,iW,dL]
   . cases a<;>simp only []at c<;>try (cases c;done)
     cases b<;>simp only []at e<;>try (cases e;done)
     exact⟨_,rfl⟩
theorem Bo{k v:Value}{n:Nat}: ∀{a:List (Value×Value×Nat)},dA k a=some (some (v,n))->oy k v a=a
 | [],h=>by cases h
 | (d,e,f)::l,h=>by
   simp only [dA,oy]at h⊢;cases c:dL k d with
   |none=>rw [c]at h;cases h
   | some b=>
     rw [c]at h;cases b with
     |true=>simp only []at h⊢;cases h;rw [zQ c]
     |false=>simp only []at h⊢;rw [Bo h]
theorem vG{k a z:Value}{c:Nat}: ∀(d:List (Value×Value×Nat)),dA k (d++[(a,z,c)])=(match dA k d with
 |none=>none|some (some x)=>some (some x)| some none=>match dL k a with
   |none=>none|some true=>some (some (z,c))|some false=>some none)
 | []=>by rfl| (e,f,g)::l=>by
   simp only [List.cons_append,dA];cases h:dL k e with
   |none=>rfl| some b=>
     cases b with
     |true=>rfl|false=>simp only [];exact vG l
theorem look_ent{E:Env}{t:TypeId}{m k:Operand}{h i:Hp}{s:d6}(f:aop E ρ h (.mapEntry t m k)=some (s,i))(j l:Value):fi E i t j l false=fi E h t j l false:=by
 obtain⟨v,e⟩: ∃v,k9 E h t (ρ m) (ρ k)=some (i,v):=by
  simp only [aop]at f;cases p:k9 E h t (ρ m) (ρ k)with
  |none=>rw [p]at f;cases f
  |some q=>rw [p]at f;obtain⟨a,b⟩:=q;cases f;grind
 unfold k9 at e
 split at e
 next=>cases e
 next r A c B u=>
  obtain⟨C,n,w,x,g4⟩:=qJ u;have d:(h.get r).isSome=true:=by rw [n];rfl
  unfold fi;simp only [x];cases hf:cG E w l with
  |false=>rfl| true =>
    simp only [cond_true,cond_false];cases j<;>(try rfl);rename_i o;cases o with
    |none=>rfl| some o=>
      simp only [];by_cases y:r=o
      . subst y
        split at e
        next=>cases e
        next D F g=>
         cases e;rw [Hp.get_put,if_pos ⟨rfl,d⟩,n,Bo g]
        next g=>
         split at e
         next=>cases e
         next z G=>
          cases e;rw [Hp.get_put,if_pos ⟨rfl,d⟩,n];grind[vG,dA,Fa,hf]
      grind[dZ]
def cut(mu:Mu)(n:Nat):Mu:=fun b=>if b<n then mu b else .none
theorem fK(h:b<n):cut mu n b=mu b:=by simp [cut,h]
theorem qP(h:n<=b):cut mu n b=.none:=by simp [cut,Nat.not_lt.2 h]
theorem fV.in{b:Addr}(h:fV mu a b):mu a.block≠ .none:=by grind[fV]
theorem fC.in{b:Addr}{d:Nat}(h:fC mu a c b d):mu a.block≠ .none:=by grind[fC]
theorem eQ.in(h:eQ mu b c):mu b≠ .none:=by grind[eQ]
theorem fV.cut{mu:Mu}{n:Nat}{a b:Addr}(h:fV mu a b)(c:a.block<n):fV (cut mu n) a b:=by grind[fV,fK]
theorem fC.cut{mu:Mu}{n:Nat}{a b:Addr}{c d:Nat}(h:fC mu a c b d)(e:a.block<n):fC (cut mu n) a c b d:=by grind[fC,fK]
theorem eQ.cut{mu:Mu}{n:Nat}{b c:Nat}(h:eQ mu b c)(a:b<n):eQ (cut mu n) b c:=by grind[eQ,fK]
theorem aC.cut{mu e:Mu}{n:Nat}(f: ∀b,e b≠ .none->b<n){v t:Value}(w:aC e v t): ∀{v':Value},aC mu v v'->aC (cut mu n) v v':=by
 induction w with
 |poison v=>intro v' _;exact .poison v'|bool b=>intro v' h;cases h;exact .bool b
 |int k m=>intro v' h;cases h;exact .int k m
 |string s=>intro v' h;cases h;exact .string s
 |nilp=>intro v' h;cases h;exact .nilp
 |ptr a=>intro v' h;cases h;rename_i c;exact .ptr (c.cut (f _ a.in))
 |nils=>intro v' h;cases h;exact .nils
 |slice l a=>intro v' h;cases h;rename_i g c;exact .slice c (g.cut (f _ a.in))
 |nilm=>intro v' h;cases h;exact .nilm
 |map a=>intro v' h;cases h;rename_i c;exact .map (c.cut (f _ a.in))
 | fn p q y z r A=>
   intro v' h;cases h;rename_i c g x B;refine .fn c (fun i u j o d=>?_) x (fun i u j o d=>?_)
   . grind
   grind
 |yield a=>intro v' h;cases h;rename_i c;exact .yield (c.cut (f _ a.in))
 |nilf=>intro v' h;cases h;exact .nilf
 |nili=>intro v' h;cases h;exact .nili
 |iface _ i=>intro v' h;cases h;rename_i c;exact .iface (i c)
 | agg p q r=>
   intro v' h;cases h;rename_i c g;refine .agg c (fun i u j o d=>?_);grind
 | tuple p q r=>
   intro v' h;cases h;rename_i c g;refine .tuple c (fun i u j o d=>?_);grind
def Sub(q a:Nat):Prop:= ∀i,q.testBit i=true->a.testBit i=true
theorem qz(a b i:Nat):(Xg a b).testBit i=(a.testBit i||b.testBit i):=Nat.testBit_or a b i
theorem tN(n i:Nat):(Xh 2 n).testBit i=decide (n=i):=Nat.testBit_two_pow
def binds(e:Edge):Bool:=Region.binds .any e
def rf(ops:List Oper)(M:List Nat)(i:Nat):Prop:= ∀o,ops[i]? =some o-> ∃m,M[i]? =some m/\(∀e∈o.after.toList,binds e=true->e.on<i)/\
 ∀b,m.testBit b=true-> ∃e∈o.after.toList,binds e=true/\(b=e.on\/ ∃a,M[e.on]? =some a/\a.testBit b=true)
theorem Cg(acc:List Nat): ∀(c:List Edge) (f:Option Nat) (m:Nat),c.foldl (fun s e=>match s with
 |none=>none| some s=>match e.ground with
   | .textOnly _=>some s| .gcOnly _=>some s| _=>match acc[acc.length-1-e.on]? with
     |none=>none|some m=>bif Xa e.on acc.length then some (Xg (Xg s (Xh 2 e.on)) m)else none) f=some m->
 ∃ s,f=some s/\(∀e∈c,binds e=true->e.on<acc.length)/\
   ∀b,m.testBit b=true->s.testBit b=true\/ ∃e∈c,binds e=true/\(b=e.on\/ ∃d,acc.reverse[e.on]? =some d/\d.testBit b=true)
 | [],f,m,h=>⟨m,h,by simp,fun b k=>.inl k⟩
 | e ::c,f,m,h=>by
   rw [List.foldl_cons]at h;obtain⟨l,p,u,q⟩:=Cg acc c _ m h;cases f with
   |none=>cases p
   | some s=>
     refine⟨s,rfl,?_⟩;have skip:binds e=false->l=s->(∀a∈e::c,binds a=true->a.on<acc.length)/\
      ∀b,m.testBit b=true->s.testBit b=true\/ ∃a∈e::c,binds a=true/\(b=a.on\/ ∃d,acc.reverse[a.on]? =some d/\d.testBit b=true):=by
      grind
     have n:binds e=true->(match acc[acc.length-1-e.on]? with
      |none=>none|some m=>bif Xa e.on acc.length then some (Xg (Xg s (Xh 2 e.on)) m)else none)=some l->(∀a∈e::c,binds a=true->a.on<acc.length)/\
      ∀b,m.testBit b=true->s.testBit b=true\/ ∃a∈e::c,binds a=true/\(b=a.on\/ ∃d,acc.reverse[a.on]? =some d/\d.testBit b=true):=by
      intro k g
      split at g
      next=>cases g
      next m0 r=>
       cases hlt:Xa e.on acc.length with
       |false=>grind| true=>
         rw [hlt]at g;cases g;have o:e.on<acc.length:=(by simp_all);refine⟨fun a i t=>?_,fun b j=>?_⟩
         . grind
         . rcases q b j with x|⟨a,i,x⟩
           . rw [qz,qz,tN]at x;grind
           grind
     grind[Option.some.injEq,binds,Region.binds]
theorem xu: ∀(os:List Oper) (acc a:List Nat),befs os acc=some a->a.length=acc.length+os.length/\(∀i,i<acc.length->a.reverse[i]? =acc.reverse[i]?)/\
 ∀ j o,os[j]? =some o-> ∃m,a.reverse[acc.length+j]? =some m/\(∀e∈o.after.toList,binds e=true->e.on<acc.length+j)/\
   ∀b,m.testBit b=true-> ∃e∈o.after.toList,binds e=true/\(b=e.on\/ ∃f,a.reverse[e.on]? =some f/\f.testBit b=true)
 | [],acc,a,h=>by cases h;grind
 | o ::os,acc,a,h=>by
   simp only [befs]at h
   split at h
   next=>cases h
   next s hs=>
    obtain⟨n,g,p,q⟩:=Cg acc _ _ _ hs;cases g;obtain⟨r,t,k⟩:=xu os (s::acc) a h;have c: ∀i,i<acc.length->a.reverse[i]? =acc.reverse[i]? :=(by grind);refine⟨by grind,c,fun j l d=>?_⟩;cases j with
    | zero=>grind| succ j=>
      obtain⟨m,m1,m2,m3⟩:=k j l (by simpa using d);have u:(s::acc).length+j=acc.length+(j+1):=(by simp;omega);simp_all
def Owe(E:Env)(ops:List Oper)(o p:Oper)(i n q:Nat)(l:List (Nat×Nat)):Prop:=
 nK ops o p=true/\(cls E o.op=0\/cls E p.op=0\/(cls E o.op=1/\cls E p.op=1)\/(cls E o.op=2/\cls E p.op=1/\(rW o.op p.op=true\/(i,n)∈l))\/
  (cls E o.op=1/\cls E p.op=2/\(rW p.op o.op=true\/(i,n)∈l))\/(cls E o.op=5/\cls E p.op=1/\(i,n)∈l)\/(cls E o.op=1/\cls E p.op=5/\(i,n)∈l)\/
  (cls E o.op≠2/\cls E p.op≠2/\(cls E p.op=3\/cls E p.op=5->q.testBit i=true)/\(cls E o.op=3\/cls E o.op=5->q.testBit n=true))\/
  (cls E o.op=3/\cls E p.op=1/\ef o.op=true/\(i,n)∈l)\/(cls E o.op=1/\cls E p.op=3/\ef p.op=true/\(i,n)∈l)\/(cls E o.op=3/\cls E p.op=4/\ef o.op=true/\ic p.op=true/\(i,n)∈l)\/
  (cls E o.op=2/\cls E p.op=3/\qI ops o n i=true/\q.testBit i=true))
theorem Owe.mono{E:Env}{ops:List Oper}{o p:Oper}{q e:Nat}{l l':List (Nat×Nat)}(hq:Sub q e)(j: ∀x∈l,x∈l')(h:Owe E ops o p i n q l):Owe E ops o p i n e l':=by
 obtain⟨f,g⟩:=h;refine⟨f,?_⟩;rcases g with h|h|h|⟨a,b,h⟩|⟨a,b,h⟩|⟨a,b,h⟩|⟨a,b,h⟩|⟨a,b,c,d⟩|⟨a,b,c,h⟩|⟨a,b,c,h⟩|⟨a,b,c,d,h⟩|⟨a,b,c,h⟩
 . exact .inl h
 . grind
 . omega
 . grind
 . grind
 . grind
 . grind
 . exact .inr (.inr (.inr (.inr (.inr (.inr (.inr (.inl ⟨a,b,fun x=>hq _ (c x),fun x=>hq _ (d x)⟩)))))))
 . grind
 . grind
 . grind
 . exact .inr (.inr (.inr (.inr (.inr (.inr (.inr (.inr (.inr (.inr (.inr ⟨a,b,c,hq _ h⟩))))))))))
theorem owed_ok{E:Env}{ops:List Oper}{o:Oper}{m n:Nat}: ∀(ps:List Oper) (i:Nat) (q:Nat) (l:List (Nat×Nat)) (g:Nat) (l':List (Nat×Nat)),kE E ops o m n ps i (q,l)=some (g,l')->
 Sub q g/\(∀x∈l,x∈l')/\ ∀j p,ps[j]? =some p->m.testBit (i+j)=false->Owe E ops o p (i+j) n g l'
 | [],i,q,l,g,l',h=>by cases h;exact⟨fun _ x=>x,fun _ x=>x,fun j p y=>by simp at y⟩
 | p :: ps,i,q,l,g,l',h=>by
   have next: ∀{r:Nat} {s:List (Nat×Nat)},kE E ops o m n ps (i+1) (r,s)=some (g,l')->Sub q r->(∀x∈l,x∈s)->(m.testBit i=false->Owe E ops o p i n r s)->
    Sub q g/\(∀x∈l,x∈l')/\ ∀j u,(p::ps)[j]? =some u->m.testBit (i+j)=false->Owe E ops o u (i+j) n g l':=by
    intro r s z A B C;obtain⟨v,w,D⟩:=owed_ok ps (i+1) r s g l' z;refine⟨fun x c=>v x (A x c),fun x c=>w x (B x c),fun j u k t=>?_⟩;cases j with
    | zero=>simp at k;subst k;exact(C t).mono v w| succ j=>have:=D j u (by simpa using k) (by rw [show i+1+j=i+(j+1) by omega];exact t);rwa [show i+1+j=i+(j+1) by omega]at this
   simp only [kE]at h;cases t:m.testBit i with
   | true=>
     rw [t]at h;exact next h (fun _ x=>x) (fun _ x=>x) (fun hf=>by grind)
   | false=>
     rw [t]at h;simp only [cond_false]at h;cases d:nK ops o p with
     |false=>grind| true=>
       rw [d]at h;simp only [cond_true]at h
       split at h
       next a=>exact next h (fun _ x=>x) (fun _ x=>x) (fun _=>⟨d,.inl a⟩)
       next b _=>exact next h (fun _ x=>x) (fun _ x=>x) (fun _=>⟨d,.inr (.inl b)⟩)
       next a b=>exact next h (fun _ x=>x) (fun _ x=>x) (fun _=>⟨d,.inr (.inr (.inl ⟨a,b⟩))⟩)
       next a b=>
        refine next h (fun _ x=>x) ?_ (fun _=>⟨d,.inr (.inr (.inr (.inl ⟨a,b,?_⟩)))⟩)
        . grind
        grind
       next a b=>
        refine next h (fun _ x=>x) ?_ (fun _=>⟨d,.inr (.inr (.inr (.inr (.inl ⟨a,b,?_⟩))))⟩)
        . grind
        grind
       next a b=>
        exact next h (fun _ x=>x) (fun x c=>Xi _ c) (fun _=>⟨d,.inr (.inr (.inr (.inr (.inr (.inl ⟨a,b,Xo⟩)))))⟩)
       next a b=>
        exact next h (fun _ x=>x) (fun x c=>Xi _ c) (fun _=>⟨d,.inr (.inr (.inr (.inr (.inr (.inr (.inl ⟨a,b,Xo⟩))))))⟩)
       next a b=>
        cases f:ef o.op with
        | true=>
          rw [f]at h;exact next h (fun _ x=>x) (fun x c=>Xi _ c) (fun _=>⟨d,.inr (.inr (.inr (.inr (.inr (.inr (.inr (.inr (.inl ⟨a,b,f,Xo⟩))))))))⟩)
        | false=>
          rw [f]at h;refine next h (fun x c=>by simp_all) (fun _ x=>x) (fun _=>⟨d,.inr (.inr (.inr (.inr (.inr (.inr (.inr (.inl ⟨by omega,by omega,fun e=>by omega,fun _=>?_⟩)))))))⟩)
          simp_all
       next a b=>
        cases f:ef p.op with
        | true=>
          rw [f]at h;exact next h (fun _ x=>x) (fun x c=>Xi _ c) (fun _=>⟨d,.inr (.inr (.inr (.inr (.inr (.inr (.inr (.inr (.inr (.inl ⟨a,b,f,Xo⟩)))))))))⟩)
        | false=>
          rw [f]at h;refine next h (fun x c=>by simp_all) (fun _ x=>x) (fun _=>⟨d,.inr (.inr (.inr (.inr (.inr (.inr (.inr (.inl ⟨by omega,by omega,fun _=>?_,fun e=>by omega⟩)))))))⟩)
          simp_all
       next a b=>
        cases f:ef o.op&&ic p.op with
        | true=>
          rw [f]at h;simp only [Bool.and_eq_true]at f;exact next h (fun _ x=>x) (fun x c=>Xi _ c) (fun _=>⟨d,.inr (.inr (.inr (.inr (.inr (.inr (.inr (.inr (.inr (.inr (.inl ⟨a,b,f.1,f.2,Xo⟩))))))))))⟩)
        | false=>
          rw [f]at h;refine next h (fun x c=>by simp_all) (fun _ x=>x) (fun _=>⟨d,.inr (.inr (.inr (.inr (.inr (.inr (.inr (.inl ⟨by omega,by omega,fun e=>by omega,fun _=>?_⟩)))))))⟩)
          simp_all
       next a b=>
        cases f:qI ops o n i with
        | true=>
          rw [f]at h;refine next h (fun x c=>by simp_all) (fun _ x=>x) (fun _=>⟨d,.inr (.inr (.inr (.inr (.inr (.inr (.inr (.inr (.inr (.inr (.inr ⟨a,b,f,?_⟩))))))))))⟩)
          simp_all
        |false=>grind
       next=>cases h
       next=>cases h
       next=>
        refine next h ?_ (fun _ x=>x) (fun _=>⟨d,.inr (.inr (.inr (.inr (.inr (.inr (.inr (.inl ⟨?_,?_,?_,?_⟩)))))))⟩)
        . intro x c;simp_all
        . omega
        . omega
        . grind[qz,zB,cls,tN]
        grind[qz,zB,cls,tN]
end Go.Ab

/- A deterministic evaluator of the model's code, and that the model follows it (part 1). -/
import Derived.Calls
import Derived.Laws.Sem
import Derived.Laws.IdiomCopy
import Derived.RowKit3
open Nat renaming beq->zM,le_refl->zO,blt->Xb,ble->Xc,lor->Xg,pow->Xh,mul_le_mul_right->Xq,min->Xu,add_assoc->XA,mod_eq_of_lt->XE,le_trans->XF,eq_of_beq_eq_true->XM,le_of_ble_eq_true->XN,mod_lt->XQ,beq_refl->XS,zero_add->XV,lt_or_ge->XW,mul_one->XX,add_mul->XY,testBit->XZ
open Array renaming getElem?_toList->Xa,toList_append->Xl,replicate->Xo,toList_map->Xr,toList_modify->Xw,getD_eq_getD_getElem?->Xz,mapM_eq_mapM_toList->XC,ext'->XD,range->XK,getElem?_eq_none->XL,getElem?_modify->XO,foldl_toList->XU
open List renaming getElem?_eq_getElem->Xd,all_eq_true->Xf,mem_cons_of_mem->Xi,length_cons->Xk,range->Xn,mem_cons_self->Xp,getElem?_append_right->Xs,getElem?_append_left->Xt,forIn_cons->Xv,range'->Xy,range'_succ->XG,getElem_mem->XH,head?_eq_getElem?->XJ,replicate->XP,mem_of_getElem?->XR
open Bool renaming false_eq_true->Xe,and_self->Xm,not_false->Xx
open Int renaming ofNat->Xj,toNat_natCast->XB,negSucc->XI
open Option renaming isSome_none->XT
set_option maxHeartbeats 400000
set_option linter.defProp false
set_option linter.unusedVariables false
set_option linter.unusedSimpArgs false
namespace Go.Ab
variable{b base c cap cap' i id j len n off s2 top:Nat}
variable{a f:Addr}
variable{op:BinOp}
variable{d e k k' m s s' v v' x x':Value}
variable{y:Operand}
variable{z:Int}
variable{w w':World}
variable{o q:Obj}
variable{args args' cs tmps xs:Array Value}
variable{r:Loop}
variable{l l' vs:List Value}
variable{mx':Option Value}
variable{ρ:Operand->Value}
variable{es':List MapEntry}
variable{es2:List (Value×Value×Nat)}
variable{ops:Array Oper}
variable{rest:List Nat}
variable{todo:List Item}
variable{params:Array Tmp}
variable{assign body:Code}
variable{P:Program}
variable{dfs:List Deferred}
variable{M:FrameMode}
inductive Tr(α:Type)where
 |nil
 |node (x:α) (l r:Tr α)
variable{t t2:Tr Value}
noncomputable section
namespace Tr
variable{α:Type}
def get(t:Tr α):Nat->Option α:=Tr.rec (motive:=fun _=>Nat->Option α) (fun _=>none)
 (fun x _ _ a b i=>Nat.rec (some x) (fun n _=>Bool.rec (b (n/2)) (a (n/2)) (zM (n%2) 0)) i) t
def set(t:Tr α):Nat->α->Tr α:=Tr.rec (motive:=fun _=>Nat->α->Tr α) (fun _ _=>.nil)
 (fun y l r a b i x=>Nat.rec (.node x l r) (fun n _=>Bool.rec (.node y l (b (n/2) x)) (.node y (a (n/2) x) r) (zM (n%2) 0)) i) t
def push(t:Tr α):Nat->α->Tr α:=Tr.rec (motive:=fun _=>Nat->α->Tr α) (fun _ x=>.node x .nil .nil)
 (fun y l r a b i x=>Nat.rec (.node y l r) (fun n _=>Bool.rec (.node y l (b (n/2) x)) (.node y (a (n/2) x) r) (zM (n%2) 0)) i) t
def pushAll:Tr α->Nat->List α->Tr α
 |t,_,[]=>t|t,n,x::l=>(t.push n x).pushAll (n+1) l
def ofList(l:List α):Tr α:=pushAll .nil 0 l
def slice(t:Tr α):Nat->Nat->Option (List α)
 |_,0=>some []| i,n+1=>match t.get i with
   |none=>none| some x=>match t.slice (i+1) n with
     |none=>none|some l=>some (x::l)
def setAll:Tr α->Nat->List α->Tr α
 |t,_,[]=>t|t,i,x::l=>(t.set i x).setAll (i+1) l
def blank(x:α):Nat->Nat->Tr α
 |0,_=>.nil| f+1,n=>match n with
   |0=>.nil|k+1=>.node x (blank x f ((k+1)/2)) (blank x f (k/2))
def Sized(t:Tr α)(n:Nat):Prop:= ∀i,(t.get i).isSome=true↔i<n
theorem get_nil(i:Nat):(Tr.nil:Tr α).get i=none:=rfl
theorem set_nil(i:Nat)(x:α):(Tr.nil:Tr α).set i x=.nil:=rfl
theorem push_nil(i:Nat)(x:α):(Tr.nil:Tr α).push i x=.node x .nil .nil:=rfl
theorem get_node(x:α)(l r:Tr α)(i:Nat):(Tr.node x l r).get i=match i with
 |0=>some x|n+1=>if n%2=0 then l.get (n/2)else r.get (n/2):=by
 cases i with
 |zero=>rfl| succ n=>
   show Bool.rec (motive:=fun _=>Option α) (r.get (n/2)) (l.get (n/2)) (zM (n%2) 0)=_;by_cases h:n%2=0
   . simp only [h];rfl
   simp_all[zM,if_neg]
theorem set_node(x:α)(l r:Tr α)(i:Nat)(y:α):(Tr.node x l r).set i y=match i with
 |0=>.node y l r|n+1=>if n%2=0 then .node x (l.set (n/2) y) r else .node x l (r.set (n/2) y):=by
 cases i with
 |zero=>rfl| succ n=>
   show Bool.rec (motive:=fun _=>Tr α) (.node x l (r.set (n/2) y)) (.node x (l.set (n/2) y) r) (zM (n%2) 0)=_;by_cases h:n%2=0
   . simp only [h];rfl
   simp_all[zM,if_neg]
theorem push_node(x:α)(l r:Tr α)(i:Nat)(y:α):(Tr.node x l r).push i y=match i with
 |0=>.node x l r|n+1=>if n%2=0 then .node x (l.push (n/2) y) r else .node x l (r.push (n/2) y):=by
 cases i with
 |zero=>rfl| succ n=>
   show Bool.rec (motive:=fun _=>Tr α) (.node x l (r.push (n/2) y)) (.node x (l.push (n/2) y) r) (zM (n%2) 0)=_;by_cases h:n%2=0
   . simp only [h];rfl
   simp_all[zM,if_neg]
theorem get_set(t:Tr α)(i:Nat)(x:α)(j:Nat):(t.set i x).get j=if i=j/\(t.get j).isSome then some x else t.get j:=by
 induction t generalizing i j with
 |nil=>simp [set_nil,get_nil]| node y l r b c=>
   rw [set_node];cases i with
   | zero=>grind[get_node]| succ n=>
     by_cases a:n%2=0
     . simp only [a,if_true];cases j with
       |zero=>simp [get_node]| succ m=>simp only [get_node];grind
     . simp only [a,if_false];cases j with
       |zero=>simp [get_node]| succ m=>simp only [get_node];grind
theorem rU:(Tr.nil:Tr α).Sized 0:=by intro i;simp [get_nil]
theorem EX{x:α}{l r:Tr α}(h:(Tr.node x l r).Sized n): ∃m,n=m+1/\l.Sized ((m+1)/2)/\r.Sized (m/2):=by
 cases n with
 |zero=>have:=(h 0).1 (by simp [get_node]);omega| succ m=>
   refine⟨m,rfl,fun i=>?_,fun i=>?_⟩
   . have:=h (2*i+1);simp only [get_node]at this;grind
   . have:=h (2*i+2);simp only [get_node]at this;grind
theorem get_push(t:Tr α)(n:Nat)(x:α)(a:t.Sized n)(j:Nat):(t.push n x).get j=if j=n then some x else t.get j:=by
 induction t generalizing n j with
 | nil=>
   have:n=0:=by
    cases n with
    |zero=>rfl|succ m=>have:=(a 0).2 (by omega);simp [get_nil]at this
   grind[push_nil,get_node,get_nil]
 | node y l r c d=>
   obtain⟨m,rfl,f,g⟩:=EX a;rw [push_node];by_cases b:m%2=0
   . simp only [b,if_true];have e:l.Sized (m/2):=(by grind);cases j with
     |zero=>simp [get_node]| succ k=>simp only [get_node];grind
   . simp only [b,if_false];cases j with
     |zero=>simp [get_node]| succ k=>simp only [get_node];grind
theorem sized_push{t:Tr α}(x:α)(a:t.Sized n):(t.push n x).Sized (n+1):=by
 intro j;rw [get_push t n x a];by_cases h:j=n
 . simp [h]
 . simp only [h,if_false,a j];omega
theorem sized_set{t:Tr α}(i:Nat)(x:α)(a:t.Sized n):(t.set i x).Sized n:=by
 intro j;rw [get_set]
 split
 . rename_i h;simp;exact(a j).1 h.2
 . exact a j
theorem get_none{t:Tr α}(a:t.Sized n)(h:n<=j):t.get j=none:=by
 cases b:t.get j with
 |none=>rfl|some x=>have:=(a j).1 (by simp [b]);omega
theorem get_some{t:Tr α}(a:t.Sized n)(h:j<n): ∃x,t.get j=some x:=by have:=(a j).2 h;exact Option.isSome_iff_exists.1 this
theorem sized_pushAll{t:Tr α}(l:List α)(a:t.Sized n):(t.pushAll n l).Sized (n+l.length):=by
 induction l generalizing t n with
 |nil=>simpa [pushAll]using a|cons x l b=>grind[pushAll,sized_push]
theorem get_pushAll(t:Tr α)(n:Nat)(l:List α)(a:t.Sized n)(j:Nat):(t.pushAll n l).get j=if j<n then t.get j else l[j-n]? :=by
 induction l generalizing t n with
 | nil=>grind[pushAll,get_none]| cons x l b=>simp only [pushAll];rw [b _ _ (sized_push x a),get_push t n x a];grind
theorem sized_ofList(l:List α):(ofList l).Sized l.length:=by grind[sized_pushAll,rU,ofList]
theorem get_ofList(l:List α)(j:Nat):(ofList l).get j=l[j]? :=by rw [ofList,get_pushAll _ _ _ rU];simp
theorem sized_blank(x:α)(f n:Nat)(h:n<=f):(blank x f n).Sized n:=by
 induction f generalizing n with
 |zero=>grind[blank,rU]| succ f a=>
   cases n with
   |zero=>simpa [blank]using rU| succ k=>
     simp only [blank];intro i;rw [get_node];cases i with
     |zero=>simp| succ m=>
       simp only [];by_cases b:m%2=0
       . simp only [b,if_true];rw [a _ (by omega) (m/2)];omega
       . simp only [b,if_false];rw [a _ (by omega) (m/2)];omega
theorem get_blank(x:α)(f n:Nat)(h:n<=f)(j:Nat):(blank x f n).get j=if j<n then some x else none:=by
 induction f generalizing n j with
 |zero=>grind[blank,get_nil]| succ f a=>
   cases n with
   |zero=>rfl| succ k=>simp only [blank];rw [get_node];grind
theorem slice_spec{t:Tr α}{l:List α}(h:t.slice i n=some l):l.length=n/\ ∀k,k<n->t.get (i+k)=l[k]? :=by
 induction n generalizing i l with
 |zero=>simp [slice]at h;subst h;simp| succ n a=>grind[slice]
theorem slice_mk{t:Tr α}(h: ∀k,k<n->(t.get (i+k)).isSome): ∃l,t.slice i n=some l:=by
 induction n generalizing i with
 |zero=>exact⟨[],by simp [slice]⟩| succ n a=>
   obtain⟨x,b⟩:=Option.isSome_iff_exists.1 (h 0 (by omega));obtain⟨l,c⟩:=a (i:=i+1) (fun k d=>by grind);grind[slice]
theorem sized_setAll{t:Tr α}(i:Nat)(l:List α)(a:t.Sized n):(t.setAll i l).Sized n:=by
 induction l generalizing t i with
 |nil=>simpa [setAll]using a|cons x l b=>grind[setAll,sized_set]
theorem get_setAll(t:Tr α)(i:Nat)(l:List α)(n:Nat)(b:t.Sized n)(c:i+l.length<=n)(j:Nat):(t.setAll i l).get j=if i<=j/\j<i+l.length then l[j-i]? else t.get j:=by
 induction l generalizing t i with
 |nil=>simp_all[setAll,if_neg,List.length_nil]| cons x l d=>
   simp only [Xk]at c;simp only [setAll];rw [d _ _ (sized_set i x b) (by omega),get_set];simp only [Xk];by_cases f:i=j
   . have g: ¬(i+1<=j/\j<i+1+l.length):=(by omega);have e:i<=j/\j<i+(l.length+1):=(by omega);have a:=(b j).2 (by omega);grind
   grind
end Tr
end
noncomputable section
def pw:IntKind->Nat
 | .i8| .u8=>256| .i16| .u16=>65536
 | .i32| .u32=>4294967296| .i64| .u64=>18446744073709551616
def sgn:IntKind->Bool
 | .i8| .i16| .i32| .i64=>true|_=>false
def hf:IntKind->Nat
 | .i8=>128| .i16=>32768| .i32=>2147483648| .i64=>9223372036854775808| .u8=>256| .u16=>65536| .u32=>4294967296| .u64=>18446744073709551616
def am(k:IntKind)(n:Int):Int:=match n with
 | .ofNat m=>bif Xb m (hf k)then .ofNat m else
  bif sgn k then(bif Xb (m%pw k) (hf k)then .ofNat (m%pw k)else .negSucc (pw k-1-m%pw k))else .ofNat (m%pw k)
 | .negSucc m=>bif sgn k then
  (bif Xb m (hf k)then .negSucc m else bif Xb (pw k-1-m%pw k) (hf k)then .ofNat (pw k-1-m%pw k)else .negSucc (m%pw k))
  else .ofNat (pw k-1-m%pw k)
def pj:Int->Int->Bool
 | .ofNat a,.ofNat b=>Xb a b| .ofNat _,.negSucc _=>false| .negSucc _,.ofNat _=>true| .negSucc a,.negSucc b=>Xb b a
def jh:Int->Int->Bool
 | .ofNat a,.ofNat b=>zM a b| .negSucc a,.negSucc b=>zM a b|_,_=>false
def kidx:IntKind->Nat
 | .i8=>0| .i16=>1| .i32=>2| .i64=>3| .u8=>4| .u16=>5| .u32=>6| .u64=>7
def kL(a b:IntKind):Bool:=zM (kidx a) (kidx b)
def jt:Int->Option Nat
 | .ofNat n=>some n| .negSucc _=>none
def jL(op:BinOp)(k:IntKind)(x y:Int):Option Int:=match x,y with
 | .ofNat a,.ofNat b=>bif Xb a (pw k)&&Xb b (pw k)then match op with
  | .and=>some (am k (.ofNat (Nat.land a b)))| .or=>some (am k (.ofNat (Xg a b)))| .xor=>some (am k (.ofNat (Nat.xor a b)))| .andNot=>some (am k (.ofNat (Nat.xor a (Nat.land a b))))|_=>none
   else none
 | .negSucc a,.ofNat b=>bif zM b 1 then match op with
  | .and=>some (.ofNat ((a+1)%2))|_=>none
   else none
 |_,_=>none
def shrI(x:Int)(n:Nat):Int:=match x with
 | .ofNat m=>.ofNat (m/Xh 2 n)| .negSucc m=>.negSucc (m/Xh 2 n)
def bitsOf:IntKind->Nat
 | .i8| .u8=>8| .i16| .u16=>16
 | .i32| .u32=>32| .i64| .u64=>64
def uJ(op:BinOp)(k:IntKind)(x y:Int):Option Int:=match jt y with
 |none=>none| some n=>match op with
   | .shl=>some (am k (x*Xj (Xh 2 (bif Xc n (bitsOf k)then n else bitsOf k))))
   | .shr=>some (shrI x (bif Xc n (bitsOf k)then n else bitsOf k))
   |_=>none
def jj(op:BinOp)(k:IntKind)(x y:Int):Option Value:=match op with
 | .add=>some (.int k (am k (x+y)))| .sub=>some (.int k (am k (x-y)))| .mul=>some (.int k (am k (x*y)))| .quo=>bif jh y 0 then none else some (.int k (am k (x.tdiv y)))
 | .rem=>bif jh y 0 then none else some (.int k (x.tmod y))
 | .and| .or| .xor| .andNot=>(jL op k x y).map (.int k ·)| .eql=>some (.bool (jh x y))| .neq=>some (.bool (!jh x y))| .lss=>some (.bool (pj x y))| .leq=>some (.bool (!pj y x))| .gtr=>some (.bool (pj y x))| .geq=>some (.bool (!pj x y))|_=>none
def poison:Value:=.chan none
def ac:Value->List Value
 | .agg a=>a.toList|v=>[v]
def dA:Value->Bool
 | .bool _| .int _ _| .string _| .pointer none| .slice none 0 0| .map none| .nilFunc| .nilIface=>true|_=>false
def mr:Value->Bool
 | .agg _| .tuple _| .chan _=>false|_=>true
def aS(s:ByteArray):List UInt8:=s.data.toList
def jg(l:List UInt8):ByteArray:=⟨⟨l⟩⟩
def jd:List UInt8->List UInt8->Bool
 | [],[]=>true|a::x,b::y=>zM a.toNat b.toNat&&jd x y|_,_=>false
def m8:List UInt8->List UInt8->Bool
 |_,[]=>false| [],_::_=>true|a::x,b::y=>Xb a.toNat b.toNat||(zM a.toNat b.toNat&&m8 x y)
structure fF where
 fn:FuncId
 regs:Tr Value
 nr:Nat
 params:Array Tmp
 assign:Code
 body:Code
 st:Nat
 pending:Option Code
 defers:Nat
inductive Blk where
 |dead
 |cells (t:Tr Value) (sz:Nat) (elem:TypeId) (md:Nat)
 |map (es:List (Value×Value×Nat)) (clock:Nat)
 |loop (l:fF)
 |dfr
structure Hp where
 n:Nat
 t:Tr Blk
 lo:Nat
abbrev OZ(h:Hp):Prop:=h.t.Sized h.n
def Hp.get(h:Hp)(b:Nat):Option Blk:=h.t.get b
def dV(a b:Nat):Nat:=bif Xc a b then a else b
def Hp.put(h:Hp)(b:Nat)(x:Blk):Hp:={n:=h.n,t:=h.t.set b x,lo:=dV b h.lo}
def Hp.new(h:Hp)(x:Blk):Hp:={n:=h.n+1,t:=h.t.push h.n x,lo:=h.lo}
def Hp.load(h:Hp)(b o n:Nat):Option (List Value):=match h.get b with
 |some (.cells t a _ _)=>bif Xc (o+n) a then t.slice o n else none
 |_=>none
def Hp.store(h:Hp)(b o:Nat)(l:List Value):Option Hp:=match h.get b with
 |some (.cells t a d c)=>bif Xc (o+l.length) a&& !Nat.beq c 0&&l.all mr then some (h.put b (.cells (t.setAll o l) a d c))else none
 |_=>none
structure Env where
 fn:Nat->Option Func
 ty:Nat->Option TypeInfo
 eqok:Nat->Bool
 orc:Nat->List Value->Option Value:=fun _ _=>none
 cut:Nat->Bool:=fun _=>false
def Env.und(E:Env)(t:TypeId):Option TypeDesc:=match E.ty t with
 |none=>none| some i=>match i.desc with
   | .named _ u=>match E.ty u with
     |none=>none|some j=>some j.desc
   |d=>some d
def Env.sz(E:Env)(t:TypeId):Option Nat:=match E.ty t with
 |none=>none|some i=>some i.size
def Env.agg(E:Env)(t:TypeId):Option Bool:=match E.und t with
 |none=>none|some (.struct _)=>some true|some (.array _ _)=>some true|some _=>some false
def Env.zero(E:Env)(t:TypeId):Option (List Value):=match E.ty t with
 |none=>none| some i=>match i.zero with
   |none=>none|some z=>bif (ac z).all dA then some (ac z)else none
def Env.zeroV(E:Env)(t:TypeId):Option Value:=match E.ty t with
 |none=>none| some i=>match i.zero with
   |none=>none|some z=>bif (ac z).all dA then some z else none
def partOf(E:Env)(t:TypeId)(cs:List Value)(off:Nat):Option Value:=match E.agg t with
 |none=>none| some true=>match E.sz t with
   |none=>none|some n=>bif Xc (off+n) cs.length then some (.agg ⟨(cs.drop off).take n⟩)else none
 |some false=>cs[off]?
def eqFields(E:Env)(a:TypeId->Value->Value->Option Bool):List Field->List Value->List Value->Option Bool
 | [],_,_=>some true| f ::d,b,c=>bif f.name== "_" then none else
   match partOf E f.type b f.offset with
   |none=>none| some x=>match partOf E f.type c f.offset with
     |none=>none| some y=>match a f.type x y with
       |some true=>eqFields E a d b c|r=>r
def pq(E:Env)(a:TypeId->Value->Value->Option Bool)(e:TypeId)(k:Nat)(xs ys:List Value):Nat->Nat->Option Bool
 |0,_=>some true| n + 1,i=>match partOf E e xs (i*k)with
   |none=>none| some x=>match partOf E e ys (i*k)with
     |none=>none| some y=>match a e x y with
       |some true=>pq E a e k xs ys n (i+1)|r=>r
def fK(E:Env):Nat->TypeId->Value->Value->Option Bool
 |0,_,_,_=>none| d + 1,t,x,y=>match E.und t with
   | some .bool=>match x,y with
     | .bool a,.bool b=>some (bif a then b else !b)
     |_,_=>none
   | some (.int _)=>match x,y with
     | .int k a,.int h b=>bif kL k h then some (jh a b)else none
     |_,_=>none
   | some .string=>match x,y with
     | .string a,.string b=>some (jd (aS a) (aS b))|_,_=>none
   | some (.pointer _)=>match x,y with
     | .pointer none,.pointer b=>some b.isNone| .pointer (some _),.pointer none=>some false|_,_=>none
   | some (.interface _)=>match x,y with
     | .nilIface,.nilIface=>some true| .nilIface,.iface _ _=>some false| .iface _ _,.nilIface=>some false| .iface c j,.iface l m=>bif zM c l then
       match E.ty c with
       |none=>none|some i=>bif i.comparable then fK E d c j m else none
       else some false
     |_,_=>none
   | some (.struct o)=>match x,y with
     | .agg f,.agg g=>bif E.eqok t then eqFields E (fK E d) o.toList f.toList g.toList else none
     |_,_=>none
   | some (.array n e)=>match x,y with
     | .agg f,.agg g=>match E.sz e with
       |none=>none|some k=>pq E (fK E d) e k f.toList g.toList n 0
     |_,_=>none
   | some (.slice _)=>match x,y with
     | .slice none _ _,.slice b _ _=>some b.isNone| .slice (some _) _ _,.slice none _ _=>some false|_,_=>none
   | some (.map _ _)=>match x,y with
     | .map none,.map b=>some b.isNone| .map (some _),.map none=>some false|_,_=>none
   | some (.func _ _ _)=>match x,y with
     | .nilFunc,.nilFunc=>some true| .nilFunc,.func _ _ _=>some false| .func _ _ _,.nilFunc=>some false|_,_=>none
   |_=>none
def iB(E:Env)(t:TypeId)(x y:Operand)(a b:Value):Option Bool:=match a,b with
 | .chan _,_=>none|_,.chan _=>none| .nilIface,.nilIface=>match x,y with
   | .const _,_=>fK E 40 t .nilIface .nilIface|_,.const _=>fK E 40 t .nilIface .nilIface|_,_=>none
 | .agg _,.agg _=>bif E.eqok t then fK E 40 t a b else none
 |_,_=>fK E 40 t a b
def ce(E:Env)(op:BinOp)(t:TypeId)(x y:Operand)(a b:Value):Option Value:=match a,b with
 | .int k m,.int c n=>match op with
   | .shl=>(uJ .shl k m n).map (.int k ·)| .shr=>(uJ .shr k m n).map (.int k ·)|op=>bif kL k c then jj op k m n else none
 | .string s,.string u=>match op with
   | .add=>bif Xc (s.size+u.size) 1099511627776 then some (.string (jg (aS s++aS u)))else none
   | .eql=>some (.bool (jd (aS s) (aS u)))| .neq=>some (.bool (!jd (aS s) (aS u)))| .lss=>some (.bool (m8 (aS s) (aS u)))| .geq=>some (.bool (!m8 (aS s) (aS u)))| .leq=>some (.bool (m8 (aS s) (aS u)||jd (aS s) (aS u)))
   | .gtr=>some (.bool (!(m8 (aS s) (aS u)||jd (aS s) (aS u))))
   |_=>none
 | a,b=>match op with
   | .eql=>(iB E t x y a b).map (.bool ·)| .neq=>(iB E t x y a b).map fun r=>.bool (!r)
   |_=>none
def unP(op:UnOp)(x:Value):Option Value:=match op,x with
 | .neg,.int k n=>some (.int k (am k (0-n)))| .not,.bool b=>some (.bool (!b))| .xor,.int k n=>bif sgn k then none else(jL .xor k (.ofNat (pw k-1)) n).map (.int k ·)
 |_,_=>none
def gY(v:Value)(y:Nat):Option Nat:=match v with
 | .int _ i=>match jt i with
   |some n=>bif Xc n y then some n else none
   |none=>none
 |_=>none
def ie(len cap:Nat)(b a c:Option Value):Option (Nat×Nat×Nat):=
 match(match c with|some v=>gY v cap|none=>some cap)with
 |none=>none| some m=>match(match a with|some v=>gY v m|none=>bif c.isSome then none else some len)with
   |none=>none| some h=>match(match b with|some v=>gY v h|none=>some 0)with
     |none=>none|some l=>some (l,h,m)
def iu(a:Addr)(n:Nat):Addr:=⟨a.block,a.off+n,none⟩
def iq(E:Env)(t:TypeId)(x:Value)(c b d:Option Value):Option Value:=match E.und t with
 | some .string=>match x with
   | .string s=>bif d.isSome then none else match ie s.size s.size c b none with
     |none=>none|some (l,h,_)=>some (.string (jg (((aS s).drop l).take (h-l))))
   |_=>none
 | some (.slice e)=>match x with
   | .slice a f g=>match ie f g c b d with
     |none=>none| some (l,h,m)=>match E.sz e with
       |none=>none| some k=>match a with
         |none=>some (.slice none (h-l) (m-l))| some a=>match a.spot with
           |none=>some (.slice (some (bif zM m l then a else iu a (l*k))) (h-l) (m-l))
           |some i=>bif zM i k then some (.slice (some ⟨a.block,bif zM m l then a.off else a.off+l*k,some k⟩) (h-l) (m-l))else none
   |_=>none
 | some (.array n e)=>match x with
   | .pointer (some a)=>match ie n n c b d with
     |none=>none| some (l,h,m)=>match E.sz e with
       |none=>none|some k=>some (.slice (some ⟨a.block,bif zM m l then a.off else a.off+l*k,none⟩) (h-l) (m-l))
   |_=>none
 |_=>none
def aG(E:Env)(s:TypeId)(x:Value)(i:Nat):Option Value:=match E.und s with
 | some (.struct b)=>match b.toList[i]? with
   |none=>none| some f=>match E.sz f.type with
     | some (_+1)=>match x with
       | .pointer (some a)=>some (.pointer (some (iu a f.offset)))|_=>none
     |_=>none
 |_=>none
def bG(E:Env)(t:TypeId)(x:Value)(i:Nat):Option Value:=match E.und t with
 | some (.struct a)=>match a.toList[i]? with
   |none=>none| some f=>match x with
     | .agg b=>partOf E f.type b.toList f.offset|_=>none
 |_=>none
def i6(v:Value)(len:Nat):Option Nat:=match v with
 | .int _ i=>match jt i with
   |some n=>bif Xb n len then some n else none
   |none=>none
 |_=>none
def gD(E:Env)(t:TypeId)(x c:Value):Option Value:=match E.und t with
 | some (.slice e)=>match x with
   | .slice (some a) b _=>match i6 c b with
     |none=>none| some i=>match E.sz e with
       |none=>none|some k=>some (.pointer (some (iu a (i*k))))
   |_=>none
 | some (.array n e)=>match x with
   | .pointer (some a)=>match i6 c n with
     |none=>none| some i=>match E.sz e with
       |none=>none|some k=>some (.pointer (some (iu a (i*k))))
   |_=>none
 |_=>none
def jz(E:Env)(t:TypeId)(x a:Value):Option Value:=match E.und t with
 | some (.array n e)=>match x with
   | .agg c=>match i6 a n with
     |none=>none| some i=>match E.sz e with
       |none=>none|some k=>partOf E e c.toList (i*k)
   |_=>none
 | some .string=>match x with
   | .string s=>match i6 a s.size with
     |none=>none| some i=>match(aS s)[i]? with
       |none=>none|some b=>some (.int .u8 (.ofNat b.toNat))
   |_=>none
 |_=>none
def cd:List Value->Nat->List Value->List Value
 |l,_,[]=>l|l,a,v::b=>cd (l.set a v) (a+1) b
def mq(a:Nat->Option (Nat×Nat)):List Value->List (Nat×Value)->Option (List Value)
 |cells,[]=>some cells| cells,(i,v)::c=>match a i with
   |none=>none| some (d,b)=>match v with
     | .chan _=>none|v=>bif zM (ac v).length b&&Xc (d+b) cells.length then mq a (cd cells d (ac v)) c else none
def pI(E:Env):List Field->Option (List (Nat×Nat))
 | []=>some []| f ::a=>match E.sz f.type with
   |none=>none| some n=>match pI E a with
     |none=>none|some l=>some ((f.offset,n)::l)
def jE(E:Env)(t:TypeId)(a:List (Nat×Value)):Option Value:=match E.zero t with
 |none=>none| some z=>match E.und t with
   | some (.struct c)=>match pI E c.toList with
     |none=>none| some d=>match mq (fun i=>d[i]?) z a with
       |none=>none|some b=>some (.agg ⟨b⟩)
   | some (.array _ e)=>match E.sz e with
     |none=>none| some k=>match mq (fun i=>some (i*k,k)) z a with
       |none=>none|some b=>some (.agg ⟨b⟩)
   |_=>none
def jM(E:Env)(a:TypeId)(x:Value):Option Value:=match x with
 | .int _ n=>match E.und a with
   |some (.int k)=>some (.int k (am k n))|_=>none
 | .string s=>match E.und a with
   |some .string=>some (.string s)|_=>none
 |_=>none
def lenP(E:Env)(t:TypeId)(x:Value):Option Value:=match E.und t with
 | some .string=>match x with
   | .string s=>some (.int .i64 (.ofNat s.size))|_=>none
 |some (.array n _)=>some (.int .i64 (.ofNat n))| some (.slice _)=>match x with
   | .slice _ n _=>some (.int .i64 (.ofNat n))|_=>none
 | some (.map _ _)=>match x with
   | .map none=>some (.int .i64 0)|_=>none
 |_=>none
def iR(c:Bool):Value->List Value->Option Value
 |x,[]=>some x| x,y::l=>match x with
   | .int k a=>match y with
     | .int _ b=>iR c (.int k (bif c then(bif pj a b then b else a)else(bif pj b a then b else a))) l
     |_=>none
   |_=>none
def wZ(E:Env)(x:Value)(t:TypeId)(a:Bool):Option Value:=match x with
 | .nilIface=>bif a then(E.zeroV t).map fun z=>.tuple #[z,.bool false]else none
 | .iface u v=>bif zM u t then some (bif a then .tuple #[v,.bool true]else v)else bif a then(E.zeroV t).map fun z=>.tuple #[z,.bool false]else none
 |_=>none
def rh(E:Env)(x:Value)(t:TypeId)(a:Bool):Option Value:=match E.und t with
 |none=>none|some (.interface _)=>none|some _=>wZ E x t a
def pop(E:Env)(ρ:Operand->Value):Op->Option Value
 | .move x=>some (ρ x)| .assign x=>some (ρ x)| .pick c a b=>match ρ c with
   | .bool t=>some (bif t then ρ a else ρ b)
   |_=>none
 | .nilCheck x=>match ρ x with
   | .pointer (some a)=>some (.pointer (some a))| .func (.func f) a b=>some (.func (.func f) a b)|_=>none
 | .binOp e t x y _=>ce E e t x y (ρ x) (ρ y)| .unOp e _ x=>unP e (ρ x)| .makeInterface t x=>match E.und t with
   |none=>none|some (.interface _)=>none|some _=>some (.iface t (ρ x))
 | .makeFunc (.func f) a b=>some (.func (.func f) (a.map ρ) (b.map ρ))| .slice t x l h m=>iq E t (ρ x) (l.map ρ) (h.map ρ) (m.map ρ)| .fieldAddr s x i=>aG E s (ρ x) i| .field t x i=>bG E t (ρ x) i| .indexAddr t x i=>gD E t (ρ x) (ρ i)| .index t x i=>jz E t (ρ x) (ρ i)| .extract t i=>match ρ t with
   | .tuple g=>g.toList[i]?|_=>none
 | .build t d=>jE E t (d.toList.map fun p=>(p.1,ρ p.2))
 | .typeAssert x _ t j=>rh E (ρ x) t j| .call c=>match c.callee with
   | .builtin .len=>match c.argTypes.toList,c.args.toList with
     |t::_,x::_=>lenP E t (ρ x)|_,_=>none
   | .builtin .min=>match c.args.toList.map ρ with
     |x::l=>iR false x l| []=>none
   | .builtin .max=>match c.args.toList.map ρ with
     |x::l=>iR true x l| []=>none
   |_=>none
 |_=>none
end
noncomputable section
inductive dU where
 |val (v:Value)
 |skip
 |call (f:FuncId) (args:List Value)
 |yield (l:Nat) (args:List Value)
 |recov
 |defer (d:Deferred)
 |panic (v:Value)
def gw(E:Env)(h:Hp)(t:TypeId)(x:Value):Option Value:=match x with
 | .pointer (some a)=>match E.agg t with
   |none=>none| some true=>match E.sz t with
     |none=>none| some n=>match h.load a.block a.off n with
       |none=>none|some l=>some (.agg ⟨l⟩)
   | some false=>match h.load a.block a.off 1 with
     |some [v]=>some v|_=>none
 |_=>none
def jH(E:Env)(h:Hp)(t:TypeId)(x v:Value):Option Hp:=match x with
 | .pointer (some a)=>match E.sz t with
   |none=>none| some n=>match v with
     | .chan _=>none|v=>bif zM (ac v).length n then h.store a.block a.off (ac v)else none
 |_=>none
def ptrTo(b:Nat):Value:=.pointer (some ⟨b,0,none⟩)
def tO(h:Hp)(l:List Value)(el:TypeId):Hp×Value:=(h.new (.cells (Tr.ofList l) l.length el 1),ptrTo h.n)
def qx:Value->Bool
 | .int _ _=>true|_=>false
def xd:Value->Bool
 | .int _ _| .string _| .bool _=>true| .agg a=>a.toList.all qx|_=>false
def dN:List Value->List Value->Option Bool
 | [],[]=>some true| .int k x::l,.int a y::b=>bif kL k a then(match dN l b with
   |none=>none|some r=>some (bif jh x y then r else false))else none
 |_,_=>none
def cD(a b:Value):Option Bool:=match a,b with
 | .int k x,.int c y=>bif kL k c then some (jh x y)else none
 | .string s,.string u=>some (jd (aS s) (aS u))| .bool x,.bool y=>some (bif x then y else !y)
 | .agg x,.agg y=>dN x.toList y.toList|_,_=>none
def isKd(kd:IntKind)(v:Value):Bool:=match v with
 | .int a _=>kL kd a|_=>false
def bK(E:Env)(t:TypeId)(k:Value):Bool:=match E.und t with
 | some (.int a)=>match k with
   | .int b _=>kL a b|_=>false
 | some .string=>match k with
   | .string _=>true|_=>false
 | some .bool=>match k with
   | .bool _=>true|_=>false
 | some (.array n e)=>match k with
   | .agg c=>match E.agg e with
     | some false=>match E.sz e with
       | some s=>match E.und e with
         |some (.int a)=>bif zM s 1 then(bif zM c.toList.length n then c.toList.all (isKd a)else false)else false
         |_=>false
       |none=>false
     |_=>false
   |_=>false
 |_=>false
def bF(k:Value):List (Value×Value×Nat)->Option (Option (Value×Nat))
 | []=>some none| (a,v,n)::l=>match cD k a with
   |none=>none|some true=>some (some (v,n))|some false=>bF k l
def kQ(k v:Value):List (Value×Value×Nat)->List (Value×Value×Nat)
 | []=>[]| (a,b,n)::l=>match cD k a with
   |some true=>(k,v,n)::l|_=>(a,b,n)::kQ k v l
def mK(k:Value):List (Value×Value×Nat)->List (Value×Value×Nat)
 | []=>[]| (a,b,n)::l=>match cD k a with
   |some true=>l|_=>(a,b,n)::mK k l
def iF(n:Nat)(v:Value):List (Value×Value×Nat)->Option (List (Value×Value×Nat))
 | []=>none| (b,c,a)::l=>bif zM a n then some ((b,v,a)::l)else match iF n v l with
   |none=>none|some d=>some ((b,c,a)::d)
def jV(E:Env)(h:Hp)(t:TypeId)(m k:Value):Option (Nat×List (Value×Value×Nat)×Nat×TypeId):=match E.und t with
 | some (.map a b)=>bif bK E a k then match m with
   | .map (some r)=>match h.get r with
     |some (.map d c)=>some (r,d,c,b)|_=>none
   |_=>none
   else none
 |_=>none
def cM(E:Env)(h:Hp)(t:TypeId)(m k:Value)(a:Bool):Option Value:=match E.und t with
 | some (.map b c)=>bif bK E b k then
  match(match m with
   | .map none=>some none| .map (some r)=>match h.get r with
     |some (.map d _)=>bF k d|_=>none
   |_=>none)with
  |none=>none|some (some (v,_))=>some (bif a then .tuple #[v,.bool true]else v)
  | some none=>match E.zeroV c with
    |none=>none|some z=>some (bif a then .tuple #[z,.bool false]else z)
   else none
 |_=>none
def ey(E:Env)(h:Hp)(t:TypeId)(m k v:Value):Option Hp:=match jV E h t m k with
 |none=>none| some (r,a,c,_)=>match bF k a with
   |none=>none|some (some _)=>some (h.put r (.map (kQ k v a) c))|some none=>some (h.put r (.map (a++[(k,v,c)]) (c+1)))
def oJ(E:Env)(h:Hp)(t:TypeId)(m k:Value):Option Hp:=match jV E h t m k with
 |none=>none| some (r,a,c,_)=>match bF k a with
   |none=>none|some _=>some (h.put r (.map (mK k a) c))
def jK(E:Env)(h:Hp)(t:TypeId)(m k:Value):Option (Hp×Value):=match jV E h t m k with
 |none=>none| some (r,a,c,b)=>match bF k a with
   |none=>none|some (some (v,n))=>some (h.put r (.map (kQ k v a) c),.tuple #[v,.int .i64 (.ofNat n)])| some none=>match E.zeroV b with
     |none=>none|some z=>some (h.put r (.map (a++[(k,z,c)]) (c+1)),.tuple #[z,.int .i64 (.ofNat c)])
def nT(h:Hp)(m s v:Value):Option Hp:=match m with
 | .map (some r)=>match h.get r with
   | some (.map b c)=>match s with
     | .int _ i=>match jt i with
       |none=>none| some n=>match iF n v b with
         |none=>none|some a=>some (h.put r (.map a c))
     |_=>none
   |_=>none
 |_=>none
def bJ(a:List Value):Nat->List Value
 |0=>[]|n+1=>a++bJ a n
def natV(v:Value):Option Nat:=match v with
 | .int _ i=>jt i|_=>none
def lq(E :Env)(h:Hp)(t:TypeId)(l c:Value):Option (Hp×Value):=match E.und t with
 | some (.slice e)=>match natV l with
   |none=>none| some l=>match natV c with
     |none=>none| some c=>match E.ty e with
       |none=>none| some i=>bif Xc l c&&Xc (c*(i.bytes+1)) 70368744177664 then
        match E.zero e with
        |none=>none| some a=>bif zM a.length i.size then
         match a with
         | [z]=>some (h.new (.cells (Tr.blank z c c) c e 1),.slice (some ⟨h.n,0,none⟩) l c)|a=>some (h.new (.cells (Tr.ofList (bJ a c)) (c*i.size) e 1),.slice (some ⟨h.n,0,none⟩) l c)
          else none
         else none
 |_=>none
def lU(E:Env)(h:Hp)(t:TypeId)(n:Nat)(a:List (Nat×Value)):Option (Hp×Value):=match E.und t with
 | some (.slice e)=>match E.sz e with
   |none=>none| some k=>bif Xc (n*k) 16777216 then
    match E.zero e with
    |none=>none| some b=>bif zM b.length k then
     match mq (fun i=>some (i*k,k)) (bJ b n) a with
     |none=>none|some c=>some (h.new (.cells (Tr.ofList c) c.length e 1),.slice (some ⟨h.n,0,none⟩) n n)
      else none
     else none
 |_=>none
def aR(h:Hp)(k:Nat):Value->Option (Nat×List Value)
 | .slice none 0 _=>some (0,[])| .slice (some a) n _=>match h.load a.block a.off (n*k)with
   |none=>none|some l=>some (n,l)
 | .string s=>bif zM k 1 then some (s.size,(aS s).map fun b=>.int .u8 (.ofNat b.toNat))else none
 |_=>none
def lE(c:Tr Value)(b off m:Nat)(new:List Value):Option (Tr Value×Nat):=
 bif zM off 0&&zM m b then some (c.pushAll b new,b+new.length)else
  bif Xc (off+m) b then match c.slice off m with
   |none=>none|some a=>some (Tr.ofList (a++new),(a++new).length)
  else none
def pY(h:Hp)(e:TypeId)(k:Nat)(a:Option Addr)(len n:Nat)(new:List Value):Option (Hp×Value):=match a with
 |none=>bif zM len 0 then some (h.new (.cells (Tr.ofList new) new.length e 1),.slice (some ⟨h.n,0,some k⟩) n n)else none
 | some a=>match h.get a.block with
   | some (.cells c d _ f)=>match lE c d a.off (len*k) new with
     |none=>none| some (t2,b)=>match a.spot with
       | some g=>bif zM g k&& !Nat.beq f 0&&new.all mr then
        some ((h.put a.block .dead).new (.cells t2 b e 1),.slice (some ⟨h.n,0,some k⟩) (len+n) (len+n))
         else none
       |none=>some (h.new (.cells t2 b e 1),.slice (some ⟨h.n,0,some k⟩) (len+n) (len+n))
   |_=>none
def eS(E:Env)(t:TypeId):Option Bool:=match E.und t with
 |none=>none|some (.int _)=>some true|some _=>some false
def ig(E:Env)(h:Hp)(e:TypeId)(i:TypeInfo)(a:Option Addr)(len cap n:Nat)(new:List Value):Option (Hp×Value):=
 bif Xc (len+n) cap then
  match a with
  |none=>some (h,.slice none (len+n) cap)| some a=>match new with
    | []=>some (h,.slice (some a) (len+n) cap)| new=>match h.store a.block (a.off+len*i.size) new with
      |none=>none|some b=>some (b,.slice (some a) (len+n) cap)
 else bif Xc ((len+n)*(i.bytes+1)) 70368744177664&&(Xb 0 i.bytes)then
  match E.zero e with
  |none=>none|some c=>bif zM c.length i.size then pY h e i.size a len n new else none
 else none
def lZ(E:Env)(h:Hp)(t:TypeId)(s x:Value):Option (Hp×Value):=match E.und t with
 | some (.slice e)=>match E.ty e with
   |none=>none| some i=>match s with
     | .slice a b c=>match aR h i.size x with
       |none=>none|some (n,d)=>ig E h e i a b c n d
     |_=>none
 |_=>none
def dS(E:Env)(h:Hp)(ts:List TypeId)(s x:Value):Option (Hp×Value):=match ts with
 | t::a::_=>match eS E a with
   |some false=>lZ E h t s x|_=>none
 |_=>none
def copyV(E : Env)(h:Hp)(ts:List TypeId)(d s:Value):Option (Hp×Value):=match ts with
 | t :: _ => match E.und t with
   | some (.slice e)=>match E.sz e with
     |none=>none| some k=>match d with
       | .slice a c _=>match s with
         | .slice none 0 _=>some (h,.int .i64 0)| .slice (some b) m _=>match h.load b.block b.off (dV m c*k)with
           |none=>none|some []=>some (h,.int .i64 (.ofNat (dV m c)))| some (x::f)=>match a with
             |none=>none| some a=>match h.store a.block a.off (x::f)with
               |none=>none|some g=>some (g,.int .i64 (.ofNat (dV m c)))
         | .string s=>bif zM k 1 then match((aS s).map fun b=>Value.int .u8 (.ofNat b.toNat)).take (dV s.size c)with
           | []=>some (h,.int .i64 (.ofNat (dV s.size c)))| x ::f=>match a with
             |none=>none| some a=>match h.store a.block a.off (x::f)with
               |none=>none|some g=>some (g,.int .i64 (.ofNat (dV s.size c)))
           else none
         |_=>none
       |_=>none
   |_=>none
 |_=>none
def bytesOf:List Value->Option (List UInt8)
 | []=>some []| .int .u8 (.ofNat n)::l=>match bytesOf l with
   |none=>none|some r=>some (UInt8.ofNat n::r)
 |_=>none
def strOf(h:Hp):Value->Option Value
 | .slice none _ _=>some (.string (jg []))| .slice (some a) n _=>match h.load a.block a.off n with
   |none=>none| some l=>match bytesOf l with
     |none=>none|some r=>some (.string (jg r))
 |_=>none
def bytesV(h:Hp)(e:TypeId)(s:ByteArray):Hp×Value:=
 (h.new (.cells (Tr.ofList ((aS s).map fun b=>.int .u8 (.ofNat b.toNat))) s.size e 1),.slice (some ⟨h.n,0,some 1⟩) s.size s.size)
def cZ(E:Env)(b a:TypeId):Option (Nat×TypeId):=match E.und b with
 |none=>none| some (.slice e)=>match E.und a with
   | some .string=>match E.und e with
     |some (.int .u8)=>some (1,e)|_=>none
   |_=>none
 | some .string=>match E.und a with
   | some (.slice e)=>match E.und e with
     |some (.int .u8)=>some (2,e)|_=>none
   |some _=>some (0,0)|none=>none
 |some _=>some (0,0)
def jJ(E:Env)(h:Hp)(b a:TypeId)(x:Value):Option (Hp×Value):=match cZ E b a with
 | some (0,_)=>match jM E a x with
   |none=>none|some v=>some (h,v)
 | some (1,_)=>match strOf h x with
   |none=>none|some v=>some (h,v)
 | some (2,e)=>match x with
   | .string s=>bif Xc s.size 1099511627776 then some (bytesV h e s)else none
   |_=>none
 |_=>none
def target(f:Value)(args:List Value):Option dU:=match f with
 | .func (.func g) a b=>some (.call g (a.toList++args++b.toList))| .func (.yield l) a b=>bif a.toList.isEmpty&&b.toList.isEmpty then some (.yield l args)else none
 |_=>none
def dH(r:Option (Hp×Value)):Option (dU×Hp):=match r with
 |none=>none|some (h,v)=>some (.val v,h)
def gC(r:Option Hp):Option (dU×Hp):=match r with
 |none=>none|some h=>some (.skip,h)
def di(h:Hp)(r:Option Value):Option (dU×Hp):=match r with
 |none=>none|some v=>some (.val v,h)
def aop(E : Env)(ρ:Operand->Value)(h:Hp):Op->Option (dU×Hp)
 | .load t a=>di h (gw E h t (ρ a))| .convert i j x=>dH (jJ E h i j (ρ x))| .store t a x=>gC (jH E h t (ρ a) (ρ x))| .alloc e=>match E.zero e with
   |none=>none|some z=>dH (some (tO h z e))
 | .box e x=>match ρ x with
   | .chan _=>none|v=>dH (some (tO h (ac v) e))
 | .buildSlice t n d=>dH (lU E h t n (d.toList.map fun p=>(p.1,ρ p.2)))
 | .makeSlice t l c=>dH (lq E h t (ρ l) (ρ c))| .makeMap _ none=>some (.val (.map (some h.n)),h.new (.map [] 0))| .lookup t m k o=>di h (cM E h t (ρ m) (ρ k) o)| .mapUpdate t m k v=>gC (ey E h t (ρ m) (ρ k) (ρ v))| .insert t m k v=>gC (ey E h t (ρ m) (ρ k) (ρ v))| .mapEntry t m k=>dH (jK E h t (ρ m) (ρ k))| .entryStore _ m s v=>gC (nT h (ρ m) (ρ s) (ρ v))| .panic x=>match ρ x with
   | .iface t v=>some (.panic (.iface t v),h)|_=>none
 | .defer c=>match c.callee with
   | .value f=>match ρ f with
     | .func (.func g) a b=>some (.defer {target:=.fn (.func g) b,args:=⟨a.toList++c.args.toList.map ρ⟩},h)|_=>none
   |_=>none
 | .call c =>match c.callee with
   | .value f=>match target (ρ f) (c.args.toList.map ρ)with
     |none=>none|some x=>some (x,h)
   | .builtin .append=>match c.args.toList with
     |s::x::_=>dH (dS E h c.argTypes.toList (ρ s) (ρ x))|_=>none
   | .builtin .copy=>match c.args.toList with
     |s::x::_=>dH (copyV E h c.argTypes.toList (ρ s) (ρ x))|_=>none
   | .builtin .delete=>match c.argTypes.toList,c.args.toList with
     | t::_,m::k::_=>match oJ E h t (ρ m) (ρ k)with
       |none=>none|some q=>some (.val (.tuple #[]),q)
     |_,_=>none
   | .builtin .recover=>some (.recov,h)| .builtin .len=>match pop E ρ (.call c)with
     |some v=>some (.val v,h)| none => match c.args.toList with
       | x ::_=>match ρ x with
         | .map (some r)=>match h.get r with
           | some (.map u _)=>match c.argTypes.toList with
             | t::_=>match E.und t with
               |some (.map _ _)=>some (.val (.int .i64 (.ofNat u.length)),h)|_=>none
             |_=>none
           |_=>none
         |_=>none
       |_=>none
   | .builtin _=>di h (pop E ρ (.call c))| .invoke _ _=>none
 |op=>di h (pop E ρ op)
end
theorem cR(a b:Nat):zM a b=decide (a=b):=by grind[XS,zM,absurd,XM]
theorem fQ(a b:Nat):Xc a b=decide (a<=b):=by grind[Nat.ble_eq_true_of_le,Xc,absurd,XN]
theorem jv(a b:Nat):Xb a b=decide (a<b):=by show Xc (a+1) b=_;rw [fQ];rfl
theorem bits_pw(k:IntKind):(2:Int) ^k.bits=(pw k:Int):=by cases k<;>rfl
theorem bits_hf(k:IntKind)(h:sgn k=true):(2:Int) ^(k.bits-1)=(hf k:Int):=by cases k<;>first|rfl|(simp [sgn]at h)
theorem sgn_eq(k:IntKind):sgn k=k.signed:=by cases k<;>rfl
theorem jy(k:IntKind)(n:Int):am k n=k.wrap n:=by
 have f:k.wrap n=if sgn k=true/\n%(pw k:Int)≥(hf k:Int)then n%(pw k:Int)-(pw k:Int)else n%(pw k:Int):=by grind[IntKind.wrap,bits_pw,sgn_eq,sgn,bits_hf]
 rw [f];cases n with
 | ofNat m=>
   have e:(Xj m)%(pw k:Int)=((m%pw k:Nat):Int):=rfl;rw [e];simp only [am];by_cases c:m<hf k
   . have:Xb m (hf k)=true:=(by simp_all);rw [this];have g:m%pw k=m:=XE (by cases k<;>simp only [hf,pw]at* <;>omega);grind
   . have:Xb m (hf k)=false:=(by rw [jv];simpa using c);rw [this];simp only [cond_false];by_cases b:sgn k=true
     . rw [b];simp only [cond_true];have hlt:m%pw k<pw k:=XQ _ (by cases k<;>simp [pw]);by_cases d:m%pw k<hf k
       . have:Xb (m%pw k) (hf k)=true:=(by simp_all);grind
       . have:Xb (m%pw k) (hf k)=false:=(by rw [jv];simpa using d);grind
     grind
 | negSucc m=>
   have a:0<pw k:=(by cases k<;>simp [pw]);have e:(XI m)%(pw k:Int)=((pw k-1-m%pw k:Nat):Int):=(by have hlt:m%pw k<pw k:=XQ _ a;have h:=Nat.div_add_mod m (pw k);have:XI m=(pw k:Int)*(-((m/pw k:Nat):Int)-1)+((pw k-1-m%pw k:Nat):Int):=(by grind);rw [this,Int.add_comm,Int.add_mul_emod_self_left];exact Int.emod_eq_of_lt (by omega) (by omega));rw [e];simp only [am];have hlt:m%pw k<pw k:=XQ _ a;by_cases b:sgn k=true
   . rw [b];simp only [cond_true];have i:2*hf k=pw k:=(by cases k<;>first|rfl|(simp [sgn]at b));by_cases c:m<hf k
     . have:Xb m (hf k)=true:=(by simp_all);rw [this];have g:m%pw k=m:=XE (by omega);grind
     . have:Xb m (hf k)=false:=(by rw [jv];simpa using c);rw [this];simp only [cond_false];by_cases d:pw k-1-m%pw k<hf k
       . have:Xb (pw k-1-m%pw k) (hf k)=true:=(by simp_all);grind
       . have:Xb (pw k-1-m%pw k) (hf k)=false:=(by rw [jv];simpa using d);grind
   grind
theorem ju(a b:Int):pj a b=decide (a<b):=by
 cases a<;>cases b<;>simp only [pj]
 . grind[Xb,Nat.blt_eq,jv]
 . rfl
 . grind
 grind[Xb,Nat.blt_eq,jv]
theorem je(a b:Int):jh a b=(a==b):=by cases a<;>cases b<;>simp only [jh]<;>first|(grind[cR])|(symm;simp)
theorem kidx_inj{a b:IntKind}(h:kidx a=kidx b):a=b:=by cases a<;>cases b<;>first|rfl|(simp [kidx]at h)
theorem jf(a b:IntKind):kL a b=decide (a=b):=by grind[kL,cR,kidx,kidx_inj]
theorem rN{i:Int}(h:jt i=some n):i=n:=by cases i<;>simp [jt]at h;subst h;rfl
theorem bitsOf_eq(k:IntKind):bitsOf k=k.bits:=by cases k<;>rfl
theorem pw_bits(k:IntKind):pw k=2 ^k.bits:=by cases k<;>rfl
theorem rB(P:Program)(w:World){k:IntKind}{x y:Int}(h:jL op k x y=some z):(Op.intBits op k x y).run P w=.ok (.int k z) w:=by
 unfold jL at h;cases x with
 | negSucc a=>
   cases y with
   |negSucc b=>simp at h| ofNat b=>
     simp only []at h;by_cases d:b=1
     . subst d;rw [XS,cond_true]at h;cases op<;>simp only []at h<;>first|(cases h;done)|skip
       cases h;simp only [Op.intBits];have p:0<k.bits:=(by cases k<;>decide);obtain⟨m,f⟩: ∃m,k.bits=m+1:=⟨k.bits-1,by omega⟩;have g:(BitVec.ofInt k.bits (Xj 1)).toNat=1:=(by simp_all);have i:(BitVec.ofInt k.bits (XI a)).toNat%2=(a+1)%2:=(by rw [BitVec.toNat_ofInt,f,Nat.pow_succ];have j:(0:Int)<((2 ^m*2:Nat):Int):=(by have:=Nat.pow_pos (n:=m) (show 0<2 by omega);omega);have q:=Int.emod_nonneg (XI a) (Int.ne_of_gt j);grind[Int.emod_emod_of_dvd]);rw [BitVec.toNat_and,g,Nat.and_one_is_mod,i];have:k.wrap (((a+1)%2:Nat):Int)=(((a+1)%2:Nat):Int):=(by rcases Nat.mod_two_eq_zero_or_one (a+1)with e|e<;>rw [e]<;>cases k<;>rfl);simp_all
     grind[zM,cR]
 | ofNat a=>
   cases y with
   |negSucc b=>simp at h| ofNat b=>
     simp only []at h;rw [jv,jv,pw_bits]at h;by_cases c:a<2 ^k.bits/\b<2 ^k.bits
     . simp only [c.1,c.2,decide_true,Xm,cond_true]at h;have l:(BitVec.ofInt k.bits (Xj a)).toNat=a:=(by grind);have o:(BitVec.ofInt k.bits (Xj b)).toNat=b:=(by grind);cases op<;>simp only []at h<;>first|(cases h;done)|skip
       . simp_all[Op.intBits,BitVec.toNat_and,jy]
       . simp_all[Op.intBits,BitVec.toNat_or,jy]
       . simp_all[Op.intBits,BitVec.toNat_xor,jy]
       . cases h;simp only [Op.intBits];have:BitVec.ofInt k.bits (Xj a)&&& ~~~ BitVec.ofInt k.bits (Xj b)=BitVec.ofInt k.bits (Xj a) ^^^(BitVec.ofInt k.bits (Xj a)&&& BitVec.ofInt k.bits (Xj b)):=(by grind);rw [this,BitVec.toNat_xor,BitVec.toNat_and,l,o,jy];rfl
     grind
theorem shift_run(P:Program)(w:World){k k':IntKind}{x y:Int}(h:uJ op k x y=some z):(Op.shift op k x k' y).run P w=.ok (.int k z) w:=by
 unfold uJ at h;cases b:jt y with
 |none=>simp [b]at h| some n=>
   have:=rN b;subst this;simp only [b]at h;have a:(bif Xc n (bitsOf k)then n else bitsOf k)=min (n:Int).toNat k.bits:=(by grind[fQ,bitsOf_eq,XB,Nat.min_eq_left]);rw [a]at h;unfold Op.shift;rw [if_neg (by omega)];cases op<;>simp only []at h<;>first|(cases h;done)|skip
   . cases h;simp only [];rw [jy];rfl
   . cases h;simp only [];have:shrI x (min (n:Int).toNat k.bits)=x.fdiv (2 ^(min (n:Int).toNat k.bits)):=by
      generalize min (n:Int).toNat k.bits=j;have c:((2:Int) ^j)=((2 ^j:Nat):Int):=(by simp);rw [c];have d:0<2 ^j:=Nat.pow_pos (by omega);rw [Int.fdiv_eq_ediv_of_nonneg _ (by omega)];cases x with
      |ofNat m=>rfl| negSucc m=>
        simp only [shrI];obtain⟨p,c⟩: ∃p,2 ^j=p+1:=⟨2 ^j-1,by omega⟩;rw [show Xh 2 j=2 ^j from rfl,c];rfl
     rw [this];rfl
theorem arith_run(P:Program)(w:World){k:IntKind}{x y:Int}(h:jj op k x y=some v):(match op with
   | .add| .sub| .mul=>Op.intArith op k x y| .quo| .rem=>Op.intDiv op k x y
   | .and| .or| .xor| .andNot=>Op.intBits op k x y|_=>Op.intCmp op x y).run P w=.ok v w:=by
 cases op<;>simp only [jj]at h⊢
 case add=>cases h;rw [jy];rfl
 case sub=>cases h;rw [jy];rfl
 case mul=>cases h;rw [jy];rfl
 case quo=>
  rw [je]at h;by_cases b:y=0
  . simp [b]at h
  . have:(y==0)=false:=(by simpa using b);simp_all[cond_false,Op.intDiv,if_neg,jy]
 case rem=>
  rw [je]at h;by_cases b:y=0
  . simp [b]at h
  . have:(y==0)=false:=(by simpa using b);simp_all[cond_false,Op.intDiv,if_neg]
 case and=>obtain⟨z,a,rfl⟩:=Option.map_eq_some_iff.1 h;exact rB P w a
 case or=>obtain⟨z,a,rfl⟩:=Option.map_eq_some_iff.1 h;exact rB P w a
 case xor=>obtain⟨z,a,rfl⟩:=Option.map_eq_some_iff.1 h;exact rB P w a
 case andNot=>obtain⟨z,a,rfl⟩:=Option.map_eq_some_iff.1 h;exact rB P w a
 case shl=>cases h
 case shr=>cases h
 case eql=>cases h;rw [je];rfl
 case neq=>cases h;rw [je];rfl
 case lss=>cases h;rw [ju];rfl
 case leq=>cases h;rw [ju];simp [Op.intCmp];grind
 case gtr=>cases h;rw [ju];rfl
 case geq=>cases h;rw [ju];simp [Op.intCmp];grind
theorem lg(x y:List UInt8):jd x y=(x==y):=by
 induction x generalizing y with
 |nil=>cases y<;>simp [jd]
 | cons a x c=>
   cases y with
   |nil=>simp [jd]| cons b y=>grind[jd,cR,decide,UInt8.toNat_inj]
theorem EH(x y:List UInt8):m8 x y=Op.bytesLess x y:=by
 induction x generalizing y with
 |nil=>cases y<;>simp [m8,Op.bytesLess]
 | cons a x c=>
   cases y with
   |nil=>rfl| cons b y=>grind[m8,Op.bytesLess,cR,jv,decide,UInt8.toNat_inj,UInt8.lt_iff_toNat_lt]
inductive Pt where
 |none
 |dead
 |blk (c base top:Nat)
abbrev Mu:=Nat->Pt
variable{g mu:Mu}
def gu(mu:Mu)(a d:Addr):Prop:=match mu a.block with
 | .none=>False| .dead=>True| .blk c b _=>d=⟨c,b+a.off,none⟩
def fm(mu:Mu)(a:Addr)(cap:Nat)(d:Addr)(cap':Nat):Prop:=match mu a.block with
 | .none=>False| .dead=>cap<=cap'| .blk c b e=>match a.spot with
   |none=>cap'=cap/\d=⟨c,b+a.off,none⟩|some k=>cap<=cap'/\d.block=c/\d.spot=none/\d.off+cap'*k<=e/\(cap=0\/d.off=b+a.off)
def dZ(mu:Mu)(b c:Nat):Prop:=match mu b with
 | .none=>False| .dead=>True| .blk d a _=>c=d/\a=0
inductive aC(mu:Mu):Value->Value->Prop
 |poison (v:Value):aC mu (.chan none) v
 |bool (b:Bool):aC mu (.bool b) (.bool b)
 |int (k:IntKind) (n:Int):aC mu (.int k n) (.int k n)
 |string (s:ByteArray):aC mu (.string s) (.string s)
 |nilp:aC mu (.pointer none) (.pointer none)
 |ptr {a a':Addr}:gu mu a a'->aC mu (.pointer (some a)) (.pointer (some a'))
 |nils:aC mu (.slice none 0 0) (.slice none 0 0)
 |slice {a a':Addr} {len cap cap':Nat}:len<=cap->fm mu a cap a' cap'->aC mu (.slice (some a) len cap) (.slice (some a') len cap')
 |nilm:aC mu (.map none) (.map none)
 |map {b c:Nat}:dZ mu b c->aC mu (.map (some b)) (.map (some c))
 |fn {f:FuncId} {x x' y y':Array Value}:x.toList.length=x'.toList.length->(∀(i:Nat) v v',x.toList[i]? =some v->x'.toList[i]? =some v'->aC mu v v')->
  y.toList.length=y'.toList.length->(∀(i:Nat) v v',y.toList[i]? =some v->y'.toList[i]? =some v'->aC mu v v')->aC mu (.func (.func f) x y) (.func (.func f) x' y')
 |yield {b c:Nat}:dZ mu b c->aC mu (.func (.yield b) #[] #[]) (.func (.yield c) #[] #[])
 |nilf:aC mu .nilFunc .nilFunc
 |nili:aC mu .nilIface .nilIface
 |iface {t:TypeId} {v v':Value}:aC mu v v'->aC mu (.iface t v) (.iface t v')
 |agg {x x':Array Value}:x.toList.length=x'.toList.length->(∀(i:Nat) v v',x.toList[i]? =some v->x'.toList[i]? =some v'->aC mu v v')->aC mu (.agg x) (.agg x')
 |tuple {x x':Array Value}:x.toList.length=x'.toList.length->(∀(i:Nat) v v',x.toList[i]? =some v->x'.toList[i]? =some v'->aC mu v v')->aC mu (.tuple x) (.tuple x')
def LR{a b:Type}(R:a->b->Prop)(l:List a)(l':List b):Prop:=l.length=l'.length/\ ∀(i:Nat) v c,l[i]? =some v->l'[i]? =some c->R v c
section lists
variable{α β:Type}{R:α->β->Prop}
theorem LR.nil:LR R [] []:=⟨rfl,by simp⟩
theorem LR.cons{a:α}{b:β}{l:List α}{l':List β}(h:R a b)(t:LR R l l'):LR R (a::l) (b::l'):=by
 refine⟨by simp [t.1],fun i v e d c=>?_⟩;cases i with
 |zero=>grind|succ i=>simp at d c;exact t.2 i v e d c
theorem LR.head{a:α}{b:β}{l:List α}{l':List β}(h:LR R (a::l) (b::l')):R a b:=h.2 0 a b (by simp) (by simp)
theorem LR.tail{a:α}{b:β}{l:List α}{l':List β}(h:LR R (a::l) (b::l')):LR R l l':=
 ⟨by have:=h.1;simpa using this,fun i v d e c=>h.2 (i+1) v d (by simpa using e) (by simpa using c)⟩
theorem LR.nil_left{l':List β}(h:LR R [] l'):l'=[]:=by have:=h.1;grind
theorem LR.cons_left{a:α}{l:List α}{l':List β}(h:LR R (a::l) l'): ∃b r,l'=b::r/\R a b/\LR R l r:=by
 cases l' with
 |nil=>have:=h.1;simp at this|cons b r=>exact⟨b,r,rfl,h.head,h.tail⟩
theorem LR.append{l r:List α}{l' c:List β}(h:LR R l l')(k:LR R r c):LR R (l++r) (l'++c):=by
 induction l generalizing l' with
 |nil=>rw [h.nil_left];exact k| cons a l d=>
   obtain⟨b,g,rfl,e,f⟩:=h.cons_left;exact LR.cons e (d f)
theorem LR.mono{S:α->β->Prop}{l:List α}{l':List β}(h:LR R l l')(k: ∀a b,R a b->S a b):LR S l l':=⟨h.1,fun i v c a b=>k _ _ (h.2 i v c a b)⟩
theorem LR.get{l:List α}{l':List β}(h:LR R l l'){v:α}(b:l[i]? =some v): ∃v',l'[i]? =some v'/\R v v':=by
 have a:i<l'.length:=by rw [<-h.1];grind
 exact⟨l'[i],Xd a,h.2 i v _ b (Xd a)⟩
theorem LR.drop{l:List α}{l':List β}(h:LR R l l')(n:Nat):LR R (l.drop n) (l'.drop n):=
 ⟨by simp [h.1],fun i v c a b=>h.2 (n+i) v c (by simpa using a) (by simpa using b)⟩
theorem LR.take{l:List α}{l':List β}(h:LR R l l')(n:Nat):LR R (l.take n) (l'.take n):=by
 refine⟨by simp [h.1],fun i v c a b=>?_⟩;rw [List.getElem?_take]at a b
 split at a
 . rename_i d;rw [if_pos d]at b;exact h.2 i v c a b
 . cases a
theorem LR.set{l:List α}{l':List β}(h:LR R l l')(n:Nat){a:α}{b:β}(e:R a b):LR R (l.set n a) (l'.set n b):=by
 refine⟨by simp [h.1],fun i v f d c=>?_⟩;rw [List.getElem?_set]at d c
 split at d
 . grind
 . rename_i g;rw [if_neg g]at c;exact h.2 i v f d c
theorem LR.mapSame{b:Type}{f:b->α}{g:b->β}(l:List b)(k: ∀a,R (f a) (g a)):LR R (l.map f) (l.map g):=by
 induction l with
 |nil=>exact LR.nil|cons a l c=>exact LR.cons (k a) c
theorem LR.refl{S:α->α->Prop}{l:List α}(h: ∀a∈l,S a a):LR S l l:=by refine⟨rfl,fun i v c d b=>?_⟩;grind
end lists
def Le(mu a:Mu):Prop:= ∀b,mu b≠ .none->a b=mu b\/a b=.dead
theorem Le.refl(mu:Mu):Le mu mu:=fun _ _=>.inl rfl
theorem gu.mono{b:Mu}(h:Le mu b)(k:gu mu a f):gu b a f:=by
 unfold gu at*
 cases d:mu a.block with
 |none=>grind|dead=>rcases h a.block (by rw [d];simp)with e|e<;>(try rw [e,d])<;>(try rw [e])<;>trivial
 | blk c g i=>
   rw [d]at k;rcases h a.block (by rw [d];simp)with e|e
   . grind
   grind
theorem fm.caps{b:Addr}(k:fm mu a cap b cap'):cap<=cap':=by grind[fm]
theorem fm.mono{b:Mu}(h:Le mu b)(k:fm mu a cap f cap'):fm b a cap f cap':=by
 have i:=k.caps;unfold fm at*
 cases d:mu a.block with
 |none=>grind|dead=>rcases h a.block (by rw [d];simp)with e|e<;>(try rw [e,d])<;>(try rw [e])<;>exact i
 | blk c g j=>
   rw [d]at k;rcases h a.block (by rw [d];simp)with e|e
   . grind
   grind
theorem dZ.mono{a:Mu}(h:Le mu a)(k:dZ mu b c):dZ a b c:=by
 unfold dZ at*
 cases d:mu b with
 |none=>grind|dead=>rcases h b (by rw [d];simp)with e|e<;>(try rw [e,d])<;>(try rw [e])<;>trivial
 | blk c f g=>
   rw [d]at k;rcases h b (by rw [d];simp)with e|e
   . grind
   grind
theorem aC.mono{mu c:Mu}(h:Le mu c){v v':Value}(k:aC mu v v'):aC c v v':=by
 induction k with
 |poison v=>exact .poison v|bool b=>exact .bool b|int k n=>exact .int k n|string s=>exact .string s|nilp=>exact .nilp|ptr a=>exact .ptr (a.mono h)|nils=>exact .nils|slice l a=>exact .slice l (a.mono h)|nilm=>exact .nilm|map a=>exact .map (a.mono h)|fn a _ b _ d e=>exact .fn a d b e|yield a=>exact .yield (a.mono h)|nilf=>exact .nilf|nili=>exact .nili|iface _ i=>exact .iface i|agg a _ i=>exact .agg a i|tuple a _ i=>exact .tuple a i
abbrev VL(mu:Mu):=LR (aC mu)
theorem VL.mono{mu a:Mu}(h:Le mu a){l l':List Value}(k:VL mu l l'):VL a l l':=LR.mono k fun _ _=>aC.mono h
theorem aC.const(mu:Mu)(h:dA v=true):aC mu v v:=by
 unfold dA at h
 split at h<;>first|exact .bool _|exact .int _ _|exact .string _|exact .nilp|exact .nils|exact .nilm|exact .nilf|exact .nili|(cases h)
theorem aC.const_eq(h:dA v=true)(k:aC mu v v'):v'=v:=by cases k<;>first|rfl|(simp [dA]at h)
theorem aC.cells{mu:Mu}{v v':Value}(h:aC mu v v')(c: ∀x,v≠ .chan x):VL mu (ac v) v'.cells.toList:=by
 cases h<;>first
  |exact absurd rfl (c _)
  |(rename_i a b;exact⟨a,b⟩)
  |(exact LR.cons (by first|assumption|(constructor<;>assumption)|constructor) LR.nil)
theorem aC.flat(h:aC mu v v')(hf:mr v=true):v'.oneCell'=true:=by cases h<;>first|rfl|(simp [mr]at hf)
def nU(mu:Mu):List (Value×Value×Nat)->List MapEntry->Prop:=LR fun x e=>e.key=x.1/\xd x.1=true/\aC mu x.2.1 e.val/\e.born=x.2.2
structure kD(mu:Mu)(t:Tr Value)(n:Nat)(tmps:Array Value):Prop where
 size:tmps.size=n
 sized:t.Sized n
 get: ∀i v,t.get i=some v-> ∃v',tmps[i]? =some v'/\aC mu v v'
def stOf:LoopState->Nat
 | .ready=>0| .busy=>1| .done=>2| .exhausted=>3
structure oZ(mu:Mu)(l:fF)(l':Loop):Prop where
 fn:l'.fn=l.fn
 regs:kD mu l.regs l.nr l'.tmps
 params:l'.params=l.params
 assign:l'.assign=l.assign
 body:l'.body=l.body
 st:stOf l'.state=l.st
 pending:l'.pending=l.pending
structure CRel(mu:Mu)(t:Tr Value)(sz md base top:Nat)(cs:Array Value)(fz:Nat×Nat):Prop where
 whole:cs.size=top
 fits:base+sz<=top
 sized:t.Sized sz
 get: ∀i v,t.get i=some v-> ∃v',cs[base+i]? =some v'/\aC mu v v'
 free:md≠0-> ∀i,i<cs.size-> ¬(fz.1<=i/\i<fz.2)
def n8(mu:Mu)(x:Blk)(base top:Nat)(o:Obj):Prop:=match x with
 | .dead=>False| .cells t f _ g=> ∃c h d,o=.cells c h d/\CRel mu t f g base top c d| .map i a=>base=0/\ ∃b,o=.map b a/\nU mu i b.toList| .loop l=>base=0/\ ∃e,o=.loop e/\oZ mu l e| .dfr=>base=0/\o=.deferred (some [])
theorem kD.mono{mu c:Mu}(h:Le mu c){t:Tr Value}{n:Nat}{tmps:Array Value}(k:kD mu t n tmps):kD c t n tmps:=
 ⟨k.size,k.sized,fun i v d=>let⟨e,a,b⟩:=k.get i v d;⟨e,a,b.mono h⟩⟩
theorem oZ.mono{mu a:Mu}(h:Le mu a){l:fF}{l':Loop}(k:oZ mu l l'):oZ a l l':=
 ⟨k.fn,k.regs.mono h,k.params,k.assign,k.body,k.st,k.pending⟩
theorem CRel.mono{mu c:Mu}(h:Le mu c){t:Tr Value}{d md base top:Nat}{cs:Array Value}{e:Nat×Nat}(k:CRel mu t d md base top cs e):CRel c t d md base top cs e:=
 ⟨k.whole,k.fits,k.sized,fun i v f=>let⟨g,a,b⟩:=k.get i v f;⟨g,a,b.mono h⟩,k.free⟩
theorem n8.mono{mu d:Mu}(h:Le mu d){x:Blk}{base top:Nat}{o:Obj}(k:n8 mu x base top o):n8 d x base top o:=by
 cases x with
 |dead=>exact k|cells t p q s=>obtain⟨j,f,m,e,r⟩:=k;exact⟨j,f,m,e,r.mono h⟩
 |map u c=>obtain⟨g,i,e,r⟩:=k;exact⟨g,i,e,LR.mono r fun a b x=>⟨x.1,x.2.1,x.2.2.1.mono h,x.2.2.2⟩⟩
 |loop l=>obtain⟨g,n,e,r⟩:=k;exact⟨g,n,e,r.mono h⟩
 |dfr=>exact k
structure aZ(mu:Mu)(h:Hp)(w:World):Prop where
 sized:OZ h
 blk: ∀b c base top,mu b=.blk c base top-> ∃x o,h.get b=some x/\w.heap[c]? =some o/\n8 mu x base top o
 dead: ∀b,mu b=.dead->h.get b=some .dead
 inj: ∀b b' c base top base' top',mu b=.blk c base top->mu b'=.blk c base' top'->b=b'
 lt: ∀b,mu b≠ .none->b<h.n
structure Ext(mu:Mu)(h:Hp)(w:World)(mu':Mu)(h':Hp)(w':World):Prop where
 n:h.n<=h'.n
 old: ∀b,b<h.n->mu' b=mu b\/(mu b≠ .none/\mu' b=.dead)
 fresh: ∀b c base top,h.n<=b->mu' b=.blk c base top->w.heap.size<=c\/ ∃b0 base0 top0,b0<h.n/\mu b0=.blk c base0 top0/\mu' b0=.dead
 lo:h'.lo<=h.lo
 same: ∀b,b<h.n->b<h'.lo->h'.get b=h.get b
 frame: ∀c,c<w.heap.size->(∀b base top,mu b≠ .blk c base top)->w'.heap[c]? =w.heap[c]?
 ro: ∀b c base top t sz el,mu b=.blk c base top->h.get b=some (.cells t sz el 0)->w'.heap[c]? =w.heap[c]? /\h'.get b=h.get b/\mu' b=mu b
 wsize:w.heap.size<=w'.heap.size
 os:w'.os=w.os
 tape:w'.tape=w.tape
 output:w'.output=w.output
 cover: ∀b,h.n<=b->b<h'.n->mu' b≠ .none
theorem Ext.refl(mu:Mu)(h:Hp)(w:World)(hh:aZ mu h w):Ext mu h w mu h w where
 n:=zO _
 old:=fun _ _=>.inl rfl
 fresh:=fun b c base top hb hm=>absurd (hh.lt b (by rw [hm];simp)) (by omega)
 lo:=zO _
 same:=fun _ _ _=>rfl
 frame:=fun _ _ _=>rfl
 ro:=fun _ _ _ _ _ _ _ _ _=>⟨rfl,rfl,rfl⟩
 wsize:=zO _
 os:=rfl
 tape:=rfl
 output:=rfl
 cover:=fun _ h1 h2=>absurd h2 (by omega)
theorem Ext.le{a:Mu}{h h':Hp}(e:Ext mu h w a h' w')(c:aZ mu h w):Le mu a:=by
 intro b d;rcases e.old b (c.lt b d)with x|x
 . exact .inl x
 grind
theorem Ext.trans{mu mu1 mu2:Mu}{h h1 h2:Hp}{w w1 w2:World}(a:Ext mu h w mu1 h1 w1)(b:Ext mu1 h1 w1 mu2 h2 w2):Ext mu h w mu2 h2 w2 where
 n:=XF a.n b.n
 old:=by
  intro x hx;rcases a.old x hx with e|⟨e,f⟩
  . rcases b.old x (by have:=a.n;omega)with e2|⟨e2,f2⟩
    . grind
    grind
  . rcases b.old x (by have:=a.n;omega)with e2|⟨e2,f2⟩
    . grind
    grind
 fresh:=by
  intro x c base top hx hm;have dd: ∀b0,b0<h.n->mu1 b0=.dead->mu2 b0=.dead:=by
   intro b0 hb0 hd;rcases b.old b0 (by have:=a.n;omega)with e|⟨_,f⟩
   . exact e.trans hd
   . exact f
  by_cases hx1:h1.n<=x
  . rcases b.fresh x c base top hx1 hm with hc|⟨b0,base0,top0,hb0,hm0,hd0⟩
    . exact .inl (XF a.wsize hc)
    . by_cases hb1:b0<h.n
      . rcases a.old b0 hb1 with e|⟨_,f⟩
        . grind
        grind
      . rcases a.fresh b0 c base0 top0 (by omega) hm0 with hc|⟨b2,base2,top2,hb2,hm2,hd2⟩
        . exact .inl hc
        grind
  . rcases b.old x (by omega)with e|⟨_,f⟩
    . rcases a.fresh x c base top hx (by grind)with hc|⟨b2,base2,top2,hb2,hm2,hd2⟩
      . exact .inl hc
      grind
    grind
 lo:=XF b.lo a.lo
 same:=fun x hx hl=>(b.same x (by have:=a.n;omega) hl).trans (a.same x hx (by have:=b.lo;omega))
 frame:=by
  intro c hc hn;have h1:=a.frame c hc hn;rw [<-h1];refine b.frame c (by grind) ?_;intro x base top hm;by_cases hx:x<h.n
  . rcases a.old x hx with e|⟨_,f⟩
    . grind
    grind
  . rcases a.fresh x c base top (by omega) hm with hc2|⟨b2,base2,top2,_,hm2,_⟩
    . omega
    grind
 ro:=by intro x c base top t sz el hm hg;obtain⟨h1,h2,h3⟩:=a.ro x c base top t sz el hm hg;obtain⟨k1,k2,k3⟩:=b.ro x c base top t sz el (h3.trans hm) (h2.trans hg);grind
 wsize:=XF a.wsize b.wsize
 os:=b.os.trans a.os
 tape:=b.tape.trans a.tape
 output:=b.output.trans a.output
 cover:=by
  intro x h1' h2';by_cases hx:x<h1.n
  . have:=a.cover x h1' hx;rcases b.old x hx with e|⟨_,e⟩
    . grind
    . rw [e];simp
  . exact b.cover x (by omega) h2'
def upd(mu:Mu)(b:Nat)(p:Pt):Mu:=fun x=>if x=b then p else mu x
theorem upd_same(mu:Mu)(b:Nat)(p:Pt):upd mu b p b=p:=by simp [upd]
theorem a9(mu:Mu){x:Nat}(p:Pt)(h:x≠b):upd mu b p x=mu x:=by simp [upd,h]
theorem aZ.none_ge{h:Hp}(a:aZ mu h w)(g:h.n<=b):mu b=.none:=by
 cases d:mu b with
 |none=>rfl|dead=>exact absurd (a.lt b (by rw [d];simp)) (by omega)|blk c e f=>exact absurd (a.lt b (by rw [d];simp)) (by omega)
theorem aZ.clt{h:Hp}(a:aZ mu h w)(d:mu b=.blk c base top):c<w.heap.size:=by obtain⟨x,o,_,e,_⟩:=a.blk b c base top d;grind
theorem Hp.get_new(h:Hp)(x:Blk)(a:OZ h)(b:Nat):(h.new x).get b=if b=h.n then some x else h.get b:=Tr.get_push h.t h.n x a b
theorem Hp.get_put(h:Hp)(b:Nat)(x:Blk)(a:Nat):(h.put b x).get a=if b=a/\(h.get a).isSome then some x else h.get a:=Tr.get_set h.t b x a
theorem Hp.put_lo(h:Hp)(b:Nat)(x:Blk):(h.put b x).lo<=h.lo/\(h.put b x).lo<=b:=by show dV b h.lo<=h.lo/\dV b h.lo<=b;grind[dV,fQ]
structure WNew(w w':World)(o:Obj):Prop where
 heap:w'.heap=w.heap.push o
 os:w'.os=w.os
 tape:w'.tape=w.tape
 output:w'.output=w.output
structure WSet(w w':World)(c:Nat)(o:Obj):Prop where
 size:w'.heap.size=w.heap.size
 at_:w'.heap[c]? =some o
 other: ∀j,j≠c->w'.heap[j]? =w.heap[j]?
 os:w'.os=w.os
 tape:w'.tape=w.tape
 output:w'.output=w.output
theorem pL{h:Hp}(f:aZ mu h w){x:Blk}(n:WNew w w' o)(r:n8 mu x base top o):aZ (upd mu h.n (.blk w.heap.size base top)) (h.new x) w'/\Ext mu h w (upd mu h.n (.blk w.heap.size base top)) (h.new x) w':=by
 have p: ∀j,w'.heap[j]? =if j=w.heap.size then some o else w.heap[j]? :=by intro j;rw [n.heap,Array.getElem?_push]
 have hle:Le mu (upd mu h.n (.blk w.heap.size base top)):=by intro b r;left;exact a9 _ _ (by have:=f.lt b r;omega)
 have q:=h.get_new x f.sized;refine⟨⟨Tr.sized_push x f.sized,?_,?_,?_,?_⟩,?_⟩
 . intro b c e g d;by_cases a:b=h.n
   . subst a;rw [upd_same]at d;cases d;exact⟨x,o,by rw [q];simp,by rw [p];simp,r.mono hle⟩
   . rw [a9 _ _ a]at d;obtain⟨y,B,l,k,C⟩:=f.blk b c e g d;have:=f.clt d;exact⟨y,B,by grind,by grind,C.mono hle⟩
 . intro b d;by_cases a:b=h.n
   . grind[upd_same]
   . rw [a9 _ _ a]at d;rw [q,if_neg a];exact f.dead b d
 . intro b s c u z v A l k;by_cases m:b=h.n
   . by_cases i:s=h.n
     . rw [m,i]
     . subst m;rw [upd_same]at l;rw [a9 _ _ i]at k;cases l;have:=f.clt k;omega
   . rw [a9 _ _ m]at l;by_cases i:s=h.n
     . subst i;rw [upd_same]at k;cases k;have:=f.clt l;omega
     . rw [a9 _ _ i]at k;exact f.inj b s c _ _ _ _ l k
 . intro b d;show b<h.n+1;by_cases a:b=h.n
   . omega
   . rw [a9 _ _ a]at d;have:=f.lt b d;omega
 . refine⟨Nat.le_succ _,?_,?_,zO _,?_,?_,?_,?_,n.os,n.tape,n.output,?_⟩
   . grind[a9]
   . intro b c e g r d;by_cases a:b=h.n
     . simp_all[upd_same,zO]
     . rw [a9 _ _ a]at d;exact absurd (f.lt b (by rw [d];simp)) (by omega)
   . grind
   . grind
   . intro b c e g t F G d H;have:=f.clt d;have D:=f.lt b (by rw [d];simp);exact⟨by grind,by grind,a9 _ _ (by omega)⟩
   . rw [n.heap];simp
   . intro b l k;have E:b<h.n+1:=k;grind[upd_same]
theorem yg{h:Hp}(j:aZ mu h w){x:Blk}(m:mu b=.blk c base top)(z: ∀t v el,h.get b≠some (.cells t v el 0))(k:WSet w w' c o)(A:n8 mu x base top o):aZ mu (h.put b x) w'/\Ext mu h w mu (h.put b x) w':=by
 have p:=h.get_put b x;have B:=j.lt b (by rw [m];simp);have q:(h.get b).isSome=true:=by obtain⟨y,_,r,_⟩:=j.blk b c base top m;rw [r];rfl
 refine⟨⟨Tr.sized_set b x j.sized,?_,?_,j.inj,j.lt⟩,?_⟩
 . intro g n d i a;by_cases f:b=g
   . subst f;rw [m]at a;cases a;exact⟨x,o,by grind,k.at_,A⟩
   . obtain⟨y,C,r,s,D⟩:=j.blk g n d i a;have l:n≠c:=fun e=>f (j.inj b g c _ _ _ _ m (by rw [<-e];exact a));exact⟨y,C,by grind,by rw [k.other _ l];exact s,D⟩
 . intro g a;have f:b≠g:=(by grind);rw [p,if_neg (fun e=>f e.1)];exact j.dead g a
 . have u:=h.put_lo b x;refine⟨zO _,fun _ _=>.inl rfl,?_,u.1,?_,?_,?_,by rw [k.size];omega,k.os,k.tape,k.output,fun b r s=>absurd (show b<h.n from s) (by omega)⟩
   . intro g n d i E a;exact absurd (j.lt g (by rw [a];simp)) (by omega)
   . grind
   . intro n _ F;exact k.other _ (fun e=>F b base top (by rw [e];exact m))
   . intro g n d i t v el a G;have f:b≠g:=(by grind);have l:n≠c:=fun e=>f (j.inj b g c _ _ _ _ m (by rw [<-e];exact a));exact⟨k.other _ l,by grind,rfl⟩
theorem qr{h:Hp}(j:aZ mu h w)(q:mu b=.blk c base top)(F: ∀t A el,h.get b≠some (.cells t A el 0))(l:WSet w w' c o):aZ (upd mu b .dead) (h.put b .dead) w'/\Ext mu h w (upd mu b .dead) (h.put b .dead) w':=by
 have r:=h.get_put b .dead;have s:=j.lt b (by rw [q];simp);have u:(h.get b).isSome=true:=by obtain⟨y,_,n,_⟩:=j.blk b c base top q;rw [n];rfl
 have hle:Le mu (upd mu b .dead):=by intro f _;grind[upd_same,a9]
 refine⟨⟨Tr.sized_set b _ j.sized,?_,?_,?_,?_⟩,?_⟩
 . intro f k g i a;by_cases d:f=b
   . grind[upd_same]
   . rw [a9 _ _ d]at a;obtain⟨y,G,n,p,H⟩:=j.blk f k g i a;have m:k≠c:=fun e=>d (j.inj f b c _ _ _ _ (by rw [<-e];exact a) q);exact⟨y,G,by grind,by rw [l.other _ m];exact p,H.mono hle⟩
 . intro f a;by_cases d:f=b
   . grind
   . rw [a9 _ _ d]at a;rw [r,if_neg (fun e=>d e.1.symm)];exact j.dead f a
 . intro B C k v D x E n p;have I:B≠b:=(by grind[upd_same]);have J:C≠b:=(by grind[upd_same]);rw [a9 _ _ I]at n;rw [a9 _ _ J]at p;exact j.inj B C k _ _ _ _ n p
 . intro f a;by_cases d:f=b
   . subst d;exact s
   . rw [a9 _ _ d]at a;exact j.lt f a
 . have z:=h.put_lo b .dead;refine⟨zO _,?_,?_,z.1,?_,?_,?_,by rw [l.size];omega,l.os,l.tape,l.output,fun b n p=>absurd (show b<h.n from p) (by omega)⟩
   . grind[upd_same,a9]
   . intro f k g i K a;have d:f≠b:=(by omega);rw [a9 _ _ d]at a;exact absurd (j.lt f (by rw [a];simp)) (by omega)
   . grind
   . intro k _ L;exact l.other _ (fun e=>L b base top (by rw [e];exact q))
   . intro f k g i t A el a M;have d:b≠f:=(by grind);have m:k≠c:=fun e=>d (j.inj b f c _ _ _ _ q (by rw [<-e];exact a));exact⟨l.other _ m,by grind,a9 _ _ (Ne.symm d)⟩
theorem uW{h:Hp}(d:aZ mu h w)(e:w'.heap=w.heap):aZ mu h w':=
 ⟨d.sized,fun b c f g i=>let⟨x,o,a,j,k⟩:=d.blk b c f g i;⟨x,o,a,by rw [e];exact j,k⟩,d.dead,d.inj,d.lt⟩
theorem yf{h:Hp}(hh:aZ mu h w)(e:w'.heap=w.heap)(e1:w'.os=w.os)(e2:w'.tape=w.tape)(e3:w'.output=w.output):Ext mu h w mu h w' where
 n:=zO _
 old:=fun _ _=>.inl rfl
 fresh:=fun b c base top hb hm=>absurd (hh.lt b (by rw [hm];simp)) (by omega)
 lo:=zO _
 same:=fun _ _ _=>rfl
 frame:=fun _ _ _=>by rw [e]
 ro:=fun _ _ _ _ _ _ _ _ _=>⟨by rw [e],rfl,rfl⟩
 wsize:=by grind
 os:=e1
 tape:=e2
 output:=e3
 cover:=fun _ h1 h2=>absurd h2 (by omega)
structure te(P:Program)(fr:Frame)(w:World)(kind:CallKind)(v:Value):Prop where
 mode:fr.mode=.returning
 defers:fr.defers=[]
 kind:fr.kind=kind
 res: ∃fn,P.funcs[fr.fn]? =some fn/\(results fn fr.tmps).run P w=.ok v w
structure uK(w w':World):Prop where
 heap: ∀c,c<w.heap.size->w'.heap[c]? =w.heap[c]?
 size:w.heap.size<=w'.heap.size
 os:w'.os=w.os
 tape:w'.tape=w.tape
 output:w'.output=w.output
def OrcAt(P:Program)(g:FuncId)(args:List Value)(v:Value):Prop:=
 args.all dA=true/\dA v=true/\ ∀(w:World) (b:List Frame) (a:CallKind),(a=.normal\/(a=.deferred/\ ∃c r,b=c::r/\c.mode=.returning))->
  ∃d e,uK w d/\Steps P (lone (Frame.enter P g ⟨args⟩ a) b w) (lone e b d)/\te P e d a v/\e.fn=g
structure EOk(E:Env)(P:Program):Prop where
 fn: ∀f fn,E.fn f=some fn->P.funcs[f]? =some fn
 call: ∀f fn args w,E.fn f=some fn->fn.body.isSome=true->(callFunc f args).run P w=.ok (.enter f args) w
 ty: ∀t i,E.ty t=some i->P.info? t=some i
 eq: ∀t,E.eqok t=true->P.stoodInHeld t=false/\P.eqGuardType P.depth t=false
 mixed:P.follows .mixedOrders=true
 orc: ∀g args v,E.orc g args=some v->(∃fn,E.fn g=some fn/\fn.body.isSome=true)/\OrcAt P g args v
section
variable{E:Env}{P:Program}(ok:EOk E P)
include ok
theorem und_eq{t:TypeId}{d:TypeDesc}(h:E.und t=some d):P.underlying t=some d:=by
 unfold Env.und at h;cases b:E.ty t with
 |none=>simp [b]at h| some i=>
   simp only [b]at h;have e:=ok.ty t i b;obtain⟨a,_,_,_,_,_,_,_,_,_⟩:=i;unfold Program.underlying;rw [e];cases a<;>simp only []at h⊢ <;>try exact h
   rename_i f u;cases c:E.ty u with
   |none=>simp [c]at h|some j=>simp only [c]at h;rw [ok.ty u j c];exact h
theorem bQ{t:TypeId}{d:TypeDesc}(h:E.und t=some d)(w:World):(underlying t).run P w=.ok d w:=by unfold underlying;simp [und_eq ok h]
theorem pO{t:TypeId}{i:TypeInfo}(h:E.ty t=some i)(w:World):(typeInfo t).run P w=.ok i w:=by unfold typeInfo;simp [ok.ty t i h]
theorem ez{t:TypeId}(h:E.sz t=some n)(w:World):(sizeOf t).run P w=.ok n w:=by
 unfold Env.sz at h;cases a:E.ty t with
 |none=>simp [a]at h|some i=>simp only [a]at h;cases h;unfold sizeOf;simp [pO ok a]
theorem wQ{t:TypeId}{b:Bool}(h:E.agg t=some b)(w:World):(isAgg t).run P w=.ok b w:=by
 unfold Env.agg at h;cases a:E.und t with
 |none=>simp [a]at h| some d=>
   simp only [a]at h;unfold isAgg;simp only [Sem.run_bind,bQ ok a,Result.andThen_ok];cases d<;>simp only []at h<;>cases h<;>rfl
theorem py{t:TypeId}{z:List Value}(h:E.zero t=some z)(w:World):
 ∃v,(zeroValue t).run P w=.ok v w/\v.cells.toList=z/\ac v=z/\z.all dA=true:=by
 unfold Env.zero at h;cases a:E.ty t with
 |none=>simp [a]at h| some i=>
   simp only [a]at h;cases b:i.zero with
   |none=>simp [b]at h| some v=>
     simp only [b]at h;cases c:(ac v).all dA with
     |false=>simp [c]at h| true=>
       simp only [c,cond_true]at h;cases h;refine⟨v,?_,?_,rfl,c⟩
       . unfold zeroValue;simp [pO ok a,b]
       . cases v<;>rfl
theorem sf{t:TypeId}{z:Value}(h:E.zeroV t=some z)(w:World)(mu:Mu):(zeroValue t).run P w=.ok z w/\aC mu z z:=by
 unfold Env.zeroV at h;cases c:E.ty t with
 |none=>simp [c]at h| some i=>
   simp only [c]at h;cases d:i.zero with
   |none=>simp [d]at h| some v=>
     simp only [d]at h;cases e:(ac v).all dA with
     |false=>simp [e]at h| true=>
       simp only [e,cond_true]at h;cases h;refine⟨by unfold zeroValue;simp [pO ok c,d],?_⟩;have a: ∀x∈ac z,dA x=true:=(by simpa using e);cases z with
       | agg g=>
         refine .agg rfl fun i x j f b=>?_;rw [f]at b;cases b;exact aC.const mu (a x (XR f))
       |_=>exact aC.const mu (a _ (by simp [ac]))
theorem pK{t:TypeId}{cs:List Value}{a:Array Value}(h:partOf E t cs off=some v)(f:VL mu cs a.toList)(w:World):
 ∃v',(part t a off).run P w=.ok v' w/\aC mu v v':=by
 unfold partOf at h;cases c:E.agg t with
 |none=>simp [c]at h| some b =>
   unfold part;cases b with
   | true =>
     simp only [c]at h;cases d:E.sz t with
     |none=>simp [d]at h| some n=>
       simp only [d,fQ]at h;by_cases g:off+n<=cs.length
       . simp only [g,decide_true,cond_true]at h;cases h;refine⟨.agg (a.extract off (off+n)),by simp [wQ ok c,ez ok d],?_⟩;have:=(f.drop off).take n;have e:(a.extract off (off+n)).toList=(a.toList.drop off).take n:=(by simp_all);exact .agg (by rw [e];exact this.1) (by rw [e];exact this.2)
       grind
   | false=>
     simp only [c]at h;obtain⟨v',j,i⟩:=f.get h;have:a[off]? =some v':=(by grind);exact⟨v',by simp [wQ ok c,this],i⟩
theorem Dy(d D:Nat)(hD:d<=D){t:TypeId}{y R:Value}{b:Bool}(h:fK E d t x y=some b)(p:aC mu x x')(r:aC mu y R)(w:World):(Op.equalIn D t x' R).run P w=.ok b w:=by
 induction d generalizing D t x y x' R b with
 |zero=>simp [fK]at h| succ d ih =>
   obtain⟨D,rfl⟩: ∃k,D=k+1:=⟨D-1,by omega⟩;have O:d<=D:=(by omega);unfold fK at h;unfold Op.equalIn;cases S:E.und t with
   |none=>simp [S]at h| some Q =>
     simp only [S]at h;simp only [Sem.run_bind,bQ ok S,Result.andThen_ok];cases Q<;>simp only []at h<;>try (cases h;done)
     case bool=>
      cases p<;>cases r<;>simp only []at h<;>try (cases h;done)
      cases h;rename_i a c;cases a<;>cases c<;>rfl
     case int k=>
      cases p<;>cases r<;>simp only []at h<;>try (cases h;done)
      rename_i k1 a k2 c;rw [jf,je]at h;by_cases hk:k1=k2
      . simp_all
      grind
     case string=>
      cases p<;>cases r<;>simp only []at h<;>try (cases h;done)
      rename_i a c;cases h;rw [lg];simp only [aS,Sem.run_pure];congr 1;rw [show(a==c)=(a.data==c.data)from rfl,<-Array.beq_toList]
     case pointer e=>
      cases p<;>cases r<;>simp only []at h<;>try (cases h;done)
      all_goals (cases h;rfl)
     case slice e=>
      cases p<;>cases r<;>simp only []at h<;>try (cases h;done)
      all_goals (cases h;rfl)
     case map k e=>
      cases p<;>cases r<;>simp only []at h<;>try (cases h;done)
      all_goals (cases h;rfl)
     case func a c e=>
      cases p<;>cases r<;>simp only []at h<;>try (cases h;done)
      all_goals (cases h;rfl)
     case interface ms=>
      cases p<;>cases r<;>simp only []at h<;>try (cases h;done)
      . cases h;rfl
      . cases h;rfl
      . cases h;rfl
      . rename_i tx vx af ai ty vy ak al;rw [cR]at h;by_cases T:tx=ty
        . subst T;simp only [decide_true,cond_true]at h;cases U:E.ty tx with
          |none=>simp [U]at h| some i=>
            simp only [U]at h;cases s:i.comparable with
            |false=>simp [s]at h| true=>simp only [s,cond_true]at h;simp [pO ok U,s];grind
        simp_all
     case struct fs=>
      cases p<;>cases r<;>simp only []at h<;>try (cases h;done)
      rename_i u j v z A o B C;cases V:E.eqok t with
      |false=>simp [V]at h| true =>
        simp only [V,cond_true]at h;have W:=(ok.eq t V).1;have X:VL mu u.toList j.toList:=⟨v,z⟩;have Y:VL mu A.toList o.toList:=⟨B,C⟩;simp only [Sem.run_bind,run_program,Result.andThen_ok,W,Xe,if_false];have F : ∀(l:List Field),eqFields E (fK E d) l u.toList A.toList=some b->
         (forIn l ((none,()):Option Bool×Unit) (fun f Z=>
           if f.name≠ "_" then do
            let a<-part f.type j f.offset
            let c<-part f.type o f.offset
            let q<-Op.equalIn D f.type a c
            if(!q)=true then pure (ForInStep.done (some false,()))else pure (ForInStep.yield (none,()))
           else pure (ForInStep.yield (none,()))):Sem _).run P w=.ok (if b then(none,())else(some false,())) w:=by
         intro l
         induction l with
         |nil=>simp_all[eqFields]| cons f l ax=>
           intro g;simp only [eqFields]at g;cases hn:(f.name== "_")with
           |true=>simp [hn]at g| false =>
             simp only [hn,cond_false]at g;have ad:f.name≠ "_" :=(by simpa using hn);cases G:partOf E f.type u.toList f.offset with
             |none=>simp [G]at g| some a=>
               simp only [G]at g;cases H:partOf E f.type A.toList f.offset with
               |none=>simp [H]at g| some c=>
                 simp only [H]at g;obtain⟨a',I,J⟩:=pK ok G X w;obtain⟨c',K,L⟩:=pK ok H Y w;cases M:fK E d f.type a c with
                 |none=>simp [M]at g| some q=>
                   have N:=ih D O M J L;simp only [Xv,if_pos ad,Sem.run_bind,I,K,N,Result.andThen_ok];cases q with
                   |false=>simp only [M]at g;cases g;simp
                   |true=>simp_all
        have:=F fs.toList h;simp only [Array.forIn_toList]at this;rw [this];cases b<;>simp
     case array n e=>
      cases p<;>cases r<;>simp only []at h<;>try (cases h;done)
      rename_i u j v z A o B C;have X:VL mu u.toList j.toList:=⟨v,z⟩;have Y:VL mu A.toList o.toList:=⟨B,C⟩;cases hs:E.sz e with
      |none=>simp [hs]at h| some k =>
        simp only [hs]at h;simp only [Sem.run_bind,ez ok hs,Result.andThen_ok];have F : ∀(m i:Nat),pq E (fK E d) e k u.toList A.toList m i=some b->
         (forIn (Xy i m) ((none,()):Option Bool×Unit) (fun i Z=>do
           let a<-part e j (i*k)
           let c<-part e o (i*k)
           let q<-Op.equalIn D e a c
           if(!q)=true then pure (ForInStep.done (some false,()))else pure (ForInStep.yield (none,()))):Sem _).run P w=.ok (if b then(none,())else(some false,())) w:=by
         intro m
         induction m with
         |zero=>simp_all[pq]| succ m ay=>
           intro i g;simp only [pq]at g;cases G:partOf E e u.toList (i*k)with
           |none=>simp [G]at g| some a=>
             simp only [G]at g;cases H:partOf E e A.toList (i*k)with
             |none=>simp [H]at g| some c=>
               simp only [H]at g;obtain⟨a',I,J⟩:=pK ok G X w;obtain⟨c',K,L⟩:=pK ok H Y w;cases M:fK E d e a c with
               |none=>simp [M]at g| some q=>
                 have N:=ih D O M J L;simp only [XG,Xv,Sem.run_bind,I,K,N,Result.andThen_ok];cases q with
                 |false=>simp only [M]at g;cases g;simp
                 |true=>simp_all
        have:=F n 0 h;simp only [Std.Legacy.Range.forIn_eq_forIn_range',Std.Legacy.Range.size];rw [show(n-0+1-1)/1=n by omega,this];cases b<;>simp
end
theorem Ec(a:ByteArray)(n i:Nat)(r:List UInt8)(h:a.size-i=n):ByteArray.toList.loop a i r=r.reverse++a.data.toList.drop i:=by
 induction n generalizing i r with
 | zero=>unfold ByteArray.toList.loop;rw [if_neg (by omega),List.drop_of_length_le (by have:a.size=a.data.toList.length:=rfl;omega)];simp| succ n c=>have f:a.size=a.data.toList.length:=rfl;unfold ByteArray.toList.loop;rw [if_pos (by omega),c _ _ (by omega)];have b:i<a.data.toList.length:=(by omega);rw [List.drop_eq_getElem_cons b];have e:a.get! i=a.data.toList[i]:=(by have d:i<a.data.size:=b;show a.data[i]! =_;grind);grind
theorem rQ(s:ByteArray):s.toList=aS s:=by unfold ByteArray.toList aS;rw [Ec s _ 0 [] rfl];simp
theorem Cj(s u:ByteArray):s++u=jg (aS s++aS u):=by rfl
section
variable{E:Env}{P:Program}(ok:EOk E P)
include ok
theorem guard_run{t:TypeId}{x:Operand}{a b:Value}{r:Bool}(h:iB E t x y a b=some r)(g:aC mu a d)(i:aC mu b e)(w:World):(eqGuard op t x y d e).run P w=.ok () w:=by
 unfold eqGuard;cases c:(!(match op with| .eql| .neq=>true|_=>false):Bool)with
 |true=>rfl| false=>
   unfold iB at h;cases g<;>cases i<;>simp only []at h<;>try (cases h;done)
   all_goals first
    |(cases op<;>simp at c<;>simp;done)
    |skip
   . cases op<;>simp at c<;>(cases x<;>cases y<;>simp only []at h<;>first|(cases h;done)|simp)
   . cases f:E.eqok t with
     |false=>simp [f]at h| true=>have:=(ok.eq t f).2;simp_all
omit ok in
theorem zh{t:TypeId}{x:Operand}{a b:Value}{r:Bool}(h:iB E t x y a b=some r):fK E 40 t a b=some r:=by unfold iB at h;grind
theorem equal_run{t:TypeId}{x:Operand}{a b c:Value}{r:Bool}(h:iB E t x y a b=some r)(e:aC mu a c)(f:aC mu b d)(w:World):(Op.equal t c d).run P w=.ok r w:=Dy ok 40 Op.maxDepth (by decide) (zh h) e f w
theorem binP_run{t:TypeId}{x:Operand}{a b:Value}(h:ce E op t x y a b=some v)(g:aC mu a d)(i:aC mu b e)(w:World):(eqGuard op t x y d e).run P w=.ok () w/\(binOp op t d e).run P w=.ok v w/\aC mu v v:=by
 have j: ∀(r:Bool),iB E t x y a b=some r->(eqGuard op t x y d e).run P w=.ok () w/\(Op.equal t d e).run P w=.ok r w:=
  fun r c=>⟨guard_run ok c g i w,equal_run ok c g i w⟩
 cases g <;> cases i<;>simp only [ce]at h<;>first
  | (rename_i k m o n
     have l: ∀op,(eqGuard op t x y (Value.int k m) (Value.int o n)).run P w=.ok () w:=(by intro op;cases op<;>simp [eqGuard]);refine⟨l op,?_⟩;cases op <;>simp only []at h<;>first
      | (obtain⟨z,F,rfl⟩:=Option.map_eq_some_iff.1 h
         refine⟨?_,.int _ _⟩;grind[binOp,shift_run])
      | (rw [jf] at h
         by_cases p:k=o
         . subst p;simp only [decide_true,cond_true]at h;refine⟨?_,?_⟩
           . have:=arith_run P w h;simpa [binOp]using this
           . unfold jj at h;simp only []at h
             first
              |(cases h;constructor)
              |(obtain⟨z,_,rfl⟩:=Option.map_eq_some_iff.1 h;exact .int _ _)
              | (split at h<;>first|(cases h;done)|skip
                 cases f:jh n 0<;>simp [f]at h;subst h;exact .int _ _)
              |(cases f:jh n 0<;>simp [f]at h;subst h;exact .int _ _)
         . simp [p]at h))
  |skip
 all_goals first
  | (rename_i s u
     have l: ∀op,(eqGuard op t x y (Value.string s) (Value.string u)).run P w=.ok () w:=(by intro op;cases op<;>simp [eqGuard]);refine⟨l op,?_⟩;have q:(s.toList==u.toList)=jd (aS s) (aS u):=(by grind[lg,rQ]);have A:Op.bytesLess s.toList u.toList=m8 (aS s) (aS u):=(by grind[EH,rQ]);cases op<;>simp only []at h<;>first
      |(cases h;done)
      | (rw [fQ]at h
         by_cases f:s.size+u.size<=1099511627776
         . simp only [f,decide_true,cond_true]at h;cases h;refine⟨?_,.string _⟩;have B:s++u=jg (aS s++aS u):=Cj s u;have e4: ¬(((s.size+u.size:Nat):Int)>IntKind.i64.max):=(by rw [show IntKind.i64.max=9223372036854775807 from rfl];omega);simp only [binOp,Op.stringOp,if_neg e4,B,Sem.run_pure]
         grind)
      | (cases h
         refine⟨?_,.bool _⟩;simp only [binOp,Op.stringOp,q,A,Sem.run_pure]))
  |(cases op<;>simp only []at h<;>first
      |(cases h;done)
      | (obtain⟨r,c,rfl⟩:=Option.map_eq_some_iff.1 h
         obtain⟨C,D⟩:=j r c;refine⟨C,?_,.bool _⟩;simp only [binOp,Sem.run_bind,D,Result.andThen_ok,Sem.run_pure])
      | (obtain⟨r,c,rfl⟩:=Option.map_eq_some_iff.1 h
         have:=zh c;exfalso;revert c;simp [iB];done)
      |done)
end
def OR{c d:Type}(R:c->d->Prop):Option c->Option d->Prop
 |none,none=>True|some a,some b=>R a b|_,_=>False
theorem OR.map{b:Type}{ρ:b->Value}{a:b->Value}{mu:Mu}(h: ∀x,aC mu (ρ x) (a x))(o:Option b):OR (aC mu) (o.map ρ) (o.map a):=by cases o<;>simp [OR,h]
section
variable{E:Env}{P:Program}(ok:EOk E P)
theorem kY{y a:Nat}{code:BoundsCode}(h:gY v y=some n)(d:aC mu v v')(e:y<=a)(w:World):(Instr.sliceBound v' a code).run P w=.ok n w/\n<=y:=by
 unfold gY at h;cases d<;>simp only []at h<;>try (cases h;done)
 rename_i k i;cases b:jt i with
 |none=>simp [b]at h| some m=>
   have:=rN b;subst this;simp only [b,fQ]at h;by_cases c:m<=y
   . simp only [c,decide_true,cond_true]at h;cases h;refine⟨?_,c⟩;have:(0:Int)<=(n:Int)/\(n:Int)<=(a:Int):=(by omega);simp_all[Instr.sliceBound,asIntOf,Sem.run_bind,Sem.run_pure,Result.andThen_ok,if_pos]
   grind
theorem pV{l h m:Nat}{j g o f a:Option Value}{b:Bool}(e:ie len cap j g o=some (l,h,m))(n:OR (aC mu) j f)(k:OR (aC mu) g a)(q:OR (aC mu) o mx')(i:cap<=cap')(x:len<=cap)(w:World):(Instr.sliceBounds b len cap' f a mx').run P w=.ok (l,h,if o.isSome then m else cap') w/\l<=h/\h<=m/\m<=cap/\(o.isSome=false->m=cap):=by
 unfold ie at e;unfold Instr.sliceBounds;cases o with
 | some v=>
   cases mx' with
   |none=>exact q.elim| some F =>
     simp only []at e;cases r:gY v cap with
     |none=>simp [r]at e| some m1 =>
       simp only [r]at e;obtain⟨G,H⟩:=kY (P:=P) (code:=(if b then .slice3Acap else .slice3Alen)) r q i w;cases g with
       |none=>simp at e| some u=>
         cases a with
         |none=>exact k.elim| some y =>
           simp only []at e;cases c:gY u m1 with
           |none=>simp [c]at e| some p=>
             simp only [c]at e;obtain⟨s,z⟩:=kY (P:=P) (code:=.slice3B) c k (zO _) w;cases j with
             | none=>
               cases f with
               |some _=>exact n.elim|none=>simp only []at e;cases e;simp_all
             | some t=>
               cases f with
               |none=>exact n.elim| some D=>
                 simp only []at e;cases d:gY t p with
                 |none=>simp [d]at e| some A=>
                   simp only [d]at e;obtain⟨B,C⟩:=kY (P:=P) (code:=.slice3C) d n (zO _) w;simp_all
 | none=>
   cases mx' with
   |some _=>exact q.elim| none=>
     simp only [XT,cond_false]at e;cases j with
     | none=>
       cases f with
       |some _=>exact n.elim| none=>
         cases g with
         | none=>
           cases a with
           |some _=>exact k.elim|none=>simp only []at e;cases e;simp;omega
         | some u=>
           cases a with
           |none=>exact k.elim| some y=>
             simp only []at e;cases c:gY u cap with
             |none=>simp [c]at e| some p=>
               simp only [c]at e;obtain⟨s,z⟩:=kY (P:=P) (code:=(if b then .sliceAcap else .sliceAlen)) c k i w;cases e;simp [s];omega
     | some t=>
       cases f with
       |none=>exact n.elim| some D =>
         cases g with
         | none=>
           cases a with
           |some _=>exact k.elim| none=>
             simp only []at e;cases d:gY t len with
             |none=>simp [d]at e| some A=>
               simp only [d]at e;obtain⟨B,C⟩:=kY (P:=P) (code:=.sliceB) d n (zO _) w;simp_all
         | some u=>
           cases a with
           |none=>exact k.elim| some y=>
             simp only []at e;cases c:gY u cap with
             |none=>simp [c]at e| some p=>
               simp only [c]at e;obtain⟨s,z⟩:=kY (P:=P) (code:=(if b then .sliceAcap else .sliceAlen)) c k i w;cases d:gY t p with
               |none=>simp [d]at e| some A=>
                 simp only [d]at e;obtain⟨B,C⟩:=kY (P:=P) (code:=.sliceB) d n (zO _) w;simp_all
theorem pA(a:Addr)(n:Nat)(h:a.spot=none):a.add n=⟨a.block,a.off+n,none⟩:=by
 unfold Addr.add;by_cases b:n=0
 . subst b;cases a;grind
 . simp [b]
theorem pW{d:Addr}(h:gu mu a d)(n:Nat):gu mu (iu a n) (d.add n):=by
 unfold gu at*
 show match mu a.block with| .none=>False| .dead=>True| .blk c b _=>d.add n=⟨c,b+(a.off+n),none⟩
 cases e:mu a.block with
 |none=>grind|dead=>trivial| blk c b f=>rw [e]at h;simp only []at h⊢;subst h;rw [pA _ _ rfl,XA]
include ok
theorem EN{t:TypeId}{u i D z o:Option Value}(h:iq E t x u i D=some v)(U:aC mu x x')(R:OR (aC mu) u z)(S:OR (aC mu) i o)(T:OR (aC mu) D mx')(w:World):
 ∃v',(Instr.sliceAt t x' z o mx').run P w=.ok v' w/\aC mu v v':=by
 unfold iq at h;cases I:E.und t with
 |none=>simp [I]at h| some d =>
   simp only [I]at h;unfold Instr.sliceAt;simp only [Sem.run_bind,bQ ok I,Result.andThen_ok];cases d<;>simp only []at h<;>try (cases h;done)
   case string=>
    unfold Instr.slice;simp only [Sem.run_bind,bQ ok I,Result.andThen_ok];cases U<;>simp only []at h<;>try (cases h;done)
    rename_i s;cases D with
    |some _=>simp at h| none =>
      cases mx' with
      |some _=>exact T.elim| none=>
        simp only [XT,cond_false]at h;cases p:ie s.size s.size u i none with
        |none=>simp [p]at h| some r=>
          obtain⟨l,A,m⟩:=r;simp only [p]at h;cases h;obtain⟨G,V,W,_,_⟩:=pV (P:=P) (b:=false) p R S (mu:=mu) (mx':=none) trivial (zO _) (zO _) w;have e:s.extract l A=jg (((aS s).drop l).take (A-l)):=(by apply ByteArray.ext;simp [jg,aS,ByteArray.data_extract];grind);refine⟨.string (s.extract l A),by simp [G],by rw [e];exact .string _⟩
   case slice e =>
    unfold Instr.slice;simp only [Sem.run_bind,bQ ok I,Result.andThen_ok];cases U<;>simp only []at h<;>try (cases h;done)
    . cases p:ie 0 0 u i D with
      |none=>simp [p]at h| some r=>
        obtain⟨l,A,m⟩:=r;simp only [p]at h;cases B:E.sz e with
        |none=>simp [B]at h| some k=>
          simp only [B]at h;cases h;obtain⟨G,V,W,r4,r5⟩:=pV (P:=P) (b:=true) p R S T (zO _) (zO _) w;have X:m=0:=(by omega);subst X;have:A=0:=(by omega);subst this;have:l=0:=(by omega);subst this;refine⟨.slice none 0 0,?_,.nils⟩;simp [G,ez ok B]
    . rename_i a H J Y j Z f;cases p:ie J Y u i D with
      |none=>simp [p]at h| some r =>
        obtain⟨l,A,m⟩:=r;simp only [p]at h;cases B:E.sz e with
        |none=>simp [B]at h| some k=>
          simp only [B]at h;obtain⟨G,V,W,r4,r5⟩:=pV (P:=P) (b:=true) p R S T f.caps Z w;have ak:m<=(if D.isSome then m else j):=(by have:=f.caps;grind);have K:(if D.isSome then m else j)<=j:=(by have:=f.caps;grind);generalize hM:(if D.isSome then m else j)=M at*
          have ai: ∀q,(Instr.sliceBounds true J j z o mx').run P w=.ok q w->q=(l,A,M):=(by grind);refine⟨.slice (if M=l then some H else(some H).map (·.add (l*k))) (A-l) (M-l),by simp [G,ez ok B],?_⟩;unfold fm at f;cases C:mu a.block with
          |none=>grind| dead=>
            have hv: ∃q,q.block=a.block/\v=.slice (some q) (A-l) (m-l):=by
             cases y:a.spot with
             |none=>simp only [y]at h;cases h;refine⟨_,?_,rfl⟩;cases zM m l<;>rfl
             | some L=>grind
            obtain⟨q,al,rfl⟩:=hv;by_cases g:M=l
            . rw [if_pos g];exact .slice (by omega) (by grind[fm])
            . rw [if_neg g];exact .slice (by omega) (by grind[fm])
          | blk c N O=>
            rw [C]at f;cases y:a.spot with
            | none=>
              rw [y]at f;simp only []at f;obtain⟨rfl,rfl⟩:=f;have ad:M=m:=(by grind);subst ad;simp only [y]at h;cases h;rw [cR];by_cases g:M=l
              . simp only [g,decide_true,cond_true,if_true];refine .slice (by omega) ?_;unfold fm;grind
              . simp only [g,decide_false,cond_false,if_false,Option.map_some];refine .slice (by omega) ?_;unfold fm;simp only [iu,C];exact⟨trivial,by rw [pA _ _ rfl,XA]⟩
            | some L=>
              rw [y]at f;simp only []at f;obtain⟨s1,s2,s3,s4,s5⟩:=f;simp only [y,cR]at h;by_cases hk:L=k
              . subst hk;simp only [decide_true,cond_true]at h;cases h;have af:H.off+M*L<=O:=(by have:=Xq L K;omega);by_cases g:M=l
                . have Q:m=l:=(by omega);simp only [g,Q,decide_true,cond_true,if_true];refine .slice (by omega) ?_;grind[fm]
                . simp only [g,if_false,Option.map_some];refine .slice (by omega) ?_;unfold fm;simp only [C];rw [pA _ _ s3];refine⟨by omega,s2,rfl,?_,?_⟩
                  . simp only [];rw [Nat.sub_mul];have:=Xq L (show l<=M by omega);omega
                  grind
              grind
   case array n e=>
    cases U<;>simp only []at h<;>try (cases h;done)
    rename_i a H F;cases p:ie n n u i D with
    |none=>simp [p]at h| some r=>
      obtain⟨l,A,m⟩:=r;simp only [p]at h;cases B:E.sz e with
      |none=>simp [B]at h| some k=>
        simp only [B]at h;cases h;obtain⟨G,V,W,r4,r5⟩:=pV (P:=P) (b:=false) p R S T (zO _) (zO _) w;have em:(if D.isSome=true then m else n)=m:=(by grind);rw [em]at G;refine⟨.slice (some (if m=l then H else H.add (l*k))) (A-l) (m-l),by simp [Instr.sureAddr,G,ez ok B],?_⟩;rw [cR];refine .slice (by omega) ?_;unfold gu at F;unfold fm;simp only [];cases C:mu a.block with
        |none=>grind|dead=>omega| blk c N O=>
          rw [C]at F;simp only []at F⊢;subst F;refine⟨trivial,?_⟩;by_cases g:m=l
          . simp [g]
          . simp only [g,if_false,decide_false,cond_false];rw [pA _ _ rfl,XA]
theorem Ao{s:TypeId}(h:aG E s x i=some v)(k:aC mu x x')(w:World):
 ∃v',(Instr.fieldAt s x' i).run P w=.ok v' w/\aC mu v v':=by
 unfold aG at h;cases c:E.und s with
 |none=>simp [c]at h| some d=>
   simp only [c]at h;cases d<;>simp only []at h<;>try (cases h;done)
   rename_i j;cases hf:j.toList[i]? with
   |none=>simp [hf]at h| some f=>
     simp only [hf]at h;have e:j[i]? =some f:=(by grind);cases b:E.sz f.type with
     |none=>simp [b]at h| some n=>
       cases n with
       |zero=>simp [b]at h| succ n=>
         simp only [b]at h;cases k<;>simp only []at h<;>try (cases h;done)
         rename_i a l g;cases h;refine⟨.pointer (some (l.add f.offset)),?_,.ptr (pW g _)⟩;unfold Instr.fieldAt;simp [bQ ok c,e,Instr.sureAddr,fieldPlace,ez ok b]
theorem E5{t:TypeId}(h:bG E t x i=some v)(g:aC mu x x')(w:World):
 ∃v',(Instr.field t x' i).run P w=.ok v' w/\aC mu v v':=by
 unfold bG at h;cases a:E.und t with
 |none=>simp [a]at h| some d=>
   simp only [a]at h;cases d<;>simp only []at h<;>try (cases h;done)
   rename_i e;cases hf:e.toList[i]? with
   |none=>simp [hf]at h| some f=>
     simp only [hf]at h;have b:e[i]? =some f:=(by grind);cases g<;>simp only []at h<;>try (cases h;done)
     rename_i j c k l;obtain⟨v',m,n⟩:=pK ok h (⟨k,l⟩:VL mu j.toList c.toList) w;refine⟨v',?_,n⟩;unfold Instr.field;simp [bQ ok a,b,asAgg,m]
omit ok in
theorem tZ(h:i6 v len=some i)(b:aC mu v v'): ∃k,v'=.int k (i:Int)/\i<len:=by
 unfold i6 at h;cases b<;>simp only []at h<;>try (cases h;done)
 rename_i k n;cases a:jt n with
 |none=>simp [a]at h| some m=>
   have:=rN a;subst this;simp only [a,jv]at h;by_cases c:m<len
   . simp_all
   grind
theorem At{t:TypeId}{o:Value}(h:gD E t x s=some v)(B:aC mu x x')(C:aC mu s o)(w:World):
 ∃v',(Instr.indexAt t x' o).run P w=.ok v' w/\aC mu v v':=by
 unfold gD at h;cases u:E.und t with
 |none=>simp [u]at h| some d=>
   simp only [u]at h;cases d<;>simp only []at h<;>try (cases h;done)
   case array n e=>
    cases B<;>simp only []at h<;>try (cases h;done)
    rename_i a l g;cases b:i6 s n with
    |none=>simp [b]at h| some i=>
      obtain⟨k,rfl,hlt⟩:=tZ b C;simp only [b]at h;cases j:E.sz e with
      |none=>simp [j]at h| some m=>
        simp only [j]at h;cases h;refine⟨.pointer (some (l.add (i*m))),?_,.ptr (pW g _)⟩;have y:(0:Int)<=(i:Int)/\(i:Int)<(n:Int):=(by omega);unfold Instr.indexAt;simp [asIntOf,bQ ok u,Instr.sureAddr,y,ez ok j];omega
   case slice e=>
    cases B<;>simp only []at h<;>try (cases h;done)
    rename_i a l p F D G f;cases b:i6 s p with
    |none=>simp [b]at h| some i =>
      obtain⟨k,rfl,hlt⟩:=tZ b C;simp only [b]at h;cases j:E.sz e with
      |none=>simp [j]at h| some m=>
        simp only [j]at h;cases h;have g:gu mu a l:=by
         unfold fm at f;unfold gu;cases z:mu a.block with
         |none=>grind|dead=>trivial| blk c r H=>
           rw [z]at f;cases A:a.spot with
           |none=>grind| some q=>
             rw [A]at f;simp only []at f⊢;obtain⟨_,I,J,_,K⟩:=f;have:l.off=r+a.off:=(by omega);cases l;grind
        refine⟨.pointer (some (l.add (i*m))),?_,.ptr (pW g _)⟩;have y:(0:Int)<=(i:Int)/\(i:Int)<(p:Int):=(by omega);unfold Instr.indexAt;simp [asIntOf,bQ ok u,y,ez ok j];omega
theorem E8{t:TypeId}{f c:Value}(h:jz E t x f=some v)(p:aC mu x x')(q:aC mu f c)(w:World):
 ∃v',(Instr.index t x' c).run P w=.ok v' w/\aC mu v v':=by
 unfold jz at h;cases g:E.und t with
 |none=>simp [g]at h| some d=>
   simp only [g]at h;cases d<;>simp only []at h<;>try (cases h;done)
   case array n e=>
    cases p<;>simp only []at h<;>try (cases h;done)
    rename_i y l r u;cases a:i6 f n with
    |none=>simp [a]at h| some i=>
      obtain⟨k,rfl,hlt⟩:=tZ a q;simp only [a]at h;cases o:E.sz e with
      |none=>simp [o]at h| some m=>
        simp only [o]at h;obtain⟨v',z,A⟩:=pK ok h (⟨r,u⟩:VL mu y.toList l.toList) w;refine⟨v',?_,A⟩;have B:(0:Int)<=(i:Int)/\(i:Int)<(n:Int):=(by omega);unfold Instr.index;simp [asIntOf,bQ ok g,ez ok o,z];omega
   case string=>
    cases p<;>simp only []at h<;>try (cases h;done)
    rename_i s;cases a:i6 f s.size with
    |none=>simp [a]at h| some i=>
      obtain⟨k,rfl,hlt⟩:=tZ a q;simp only [a]at h;cases j:(aS s)[i]? with
      |none=>simp [j]at h| some b=>
        simp only [j]at h;cases h;refine⟨.int .u8 b.toNat,?_,.int _ _⟩;have e:s[i]? =some b:=(by have r:i<s.data.toList.length:=(List.getElem?_eq_some_iff.1 j).1;have u:=(List.getElem?_eq_some_iff.1 j).2;rw [getElem?_pos s i hlt];congr 1);unfold Instr.index;simp [asIntOf,bQ ok g,e]
end
theorem foldl_set(off:Nat)(vs:List Value)(j:Nat)(a:Array Value):((vs.zipIdx j).foldl (fun cs (x:Value×Nat)=>cs.setIfInBounds (off+x.2) x.1) a).toList=cd a.toList (off+j) vs:=by
 induction vs generalizing j a with
 |nil=>simp [cd]| cons v vs b=>grind[List.zipIdx_cons,cd,Array.toList_setIfInBounds,XA]
theorem sQ(l:List Value)(off:Nat)(vs:List Value):(cd l off vs).length=l.length:=by
 induction vs generalizing l off with
 |nil=>rfl|cons v vs a=>simp [cd,a]
theorem setL_rel(h:VL mu l l')(off:Nat){a:List Value}(k:VL mu vs a):VL mu (cd l off vs) (cd l' off a):=by
 induction vs generalizing l l' off a with
 |nil=>rw [k.nil_left];exact h| cons v vs b=>
   obtain⟨c,r,rfl,d,e⟩:=k.cons_left;grind[cd,LR.set]
abbrev PL(mu:Mu):=LR (fun(a b:Nat×Value)=>a.1=b.1/\aC mu a.2 b.2)
theorem vr{c place':Nat->Option (Nat×Nat)}(u: ∀i r,c i=some r->place' i=some r){a:List Value}{cells':Array Value}{b d:List (Nat×Value)}{r:List Value}(h:mq c a b=some r)(m:VL mu a cells'.toList)(hq:PL mu b d):
 ∃l,Instr.fill place' cells' d=some l/\VL mu r l.toList:=by
 induction b generalizing a cells' d with
 | nil=>
   rw [hq.nil_left];simp only [mq]at h;cases h;exact⟨cells',rfl,m⟩
 | cons p b w=>
   obtain⟨y,q,rfl,z,A⟩:=hq.cons_left;obtain⟨i,v⟩:=p;obtain⟨H,n⟩:=y;obtain⟨rfl,B⟩:=z;simp only [mq]at h;cases j:c i with
   |none=>simp [j]at h| some C=>
     obtain⟨g,f⟩:=C;simp only [j]at h;have o: ∀x,v≠ .chan x:=(by grind);have s:(bif zM (ac v).length f&&Xc (g+f) a.length then mq c (cd a g (ac v)) b else none)=some r:=(by grind);rw [cR,fQ]at s;by_cases e:(ac v).length=f/\g+f<=a.length
     . simp only [e.1,e.2,decide_true,Xm,cond_true]at s;have k:VL mu (ac v) n.cells.toList:=B.cells o;have t:n.cells.size=f:=(by rw [<-e.1];exact k.1.symm);have D:a.length=cells'.size:=m.1;have E:=e.2;obtain⟨l,I,F⟩:=w (cells':=n.cells.zipIdx.foldl (fun G (x:Value×Nat)=>G.setIfInBounds (g+x.2) x.1) cells') s (by
        rw [<-XU,Array.toList_zipIdx,foldl_set];exact setL_rel m _ k) A
       refine⟨l,?_,F⟩;simp only [Instr.fill,u i _ j];grind
     grind
section
variable{E:Env}{P:Program}(ok:EOk E P)
theorem unP_run{op:UnOp}(h:unP op x=some v)(b:aC mu x x')(w:World):(Op.unary op x').run P w=.ok v w/\aC mu v v:=by
 unfold unP at h;cases op<;>cases b<;>simp only []at h<;>try (cases h;done)
 . cases h;refine⟨?_,.int _ _⟩;rw [jy];rfl
 . rename_i k n;cases a:sgn k with
   |true=>simp [a]at h| false=>
     simp only [a,cond_false]at h;obtain⟨z,c,rfl⟩:=Option.map_eq_some_iff.1 h;refine⟨?_,.int _ _⟩;have d:k.signed=false:=(by rw [<-sgn_eq];exact a);have e:k.max=Xj (pw k-1):=(by cases k<;>first|rfl|(simp [sgn]at a));grind[rB,Op.unary]
 . cases h;exact⟨rfl,.bool _⟩
include ok
theorem FI{t:TypeId}{b c:List (Nat×Value)}(h:jE E t b=some v)(hq:PL mu b c)(w:World):
 ∃v',(Instr.build t c.toArray).run P w=.ok v' w/\aC mu v v':=by
 unfold jE at h;cases q:E.zero t with
 |none=>simp [q]at h| some z =>
   simp only [q]at h;obtain⟨C,D,H,I,J⟩:=py ok q w;have j:VL mu z C.cells.toList:=(by grind[LR.refl,aC.const,Xf]);cases s:E.und t with
   |none=>simp [s]at h| some d =>
     simp only [s]at h;unfold Instr.build;simp only [Sem.run_bind,D,Result.andThen_ok,bQ ok s];cases d<;>simp only []at h<;>try (cases h;done)
     case struct p=>
      cases a:pI E p.toList with
      |none=>simp [a]at h| some m =>
        have A:(p.mapM (fun f=>do let n<-sizeOf f.type;pure (f.offset,n)):Sem _).run P w=.ok m.toArray w:=by
         rw [XC];simp only [Sem.run_map];have : (p.toList.mapM (fun f=>do let n<-sizeOf f.type;pure (f.offset,n)):Sem _).run P w=.ok m w:=by
          revert a;generalize p.toList=l;intro a
          induction l generalizing m with
          |nil=>simp_all[pI]| cons f l F=>
            simp only [pI]at a;cases g:E.sz f.type with
            |none=>simp [g]at a| some n=>
              simp only [g]at a;cases u:pI E l with
              |none=>simp [u]at a| some r=>
                simp only [u]at a;cases a;simp only [List.mapM_cons,Sem.run_bind,ez ok g,Result.andThen_ok,Sem.run_pure,F r u]
         simp_all
        simp only [a]at h;cases hf:mq (fun i=>m[i]?) z b with
        |none=>grind| some G=>
          simp only [hf]at h;cases h;obtain⟨x,B,o⟩:=vr (place':=fun i=>m.toArray[i]?) (fun i r y=>by simpa using y) hf j hq;refine⟨.agg x,?_,.agg o.1 o.2⟩;simp_all
     case array n e=>
      cases g:E.sz e with
      |none=>simp [g]at h| some k=>
        simp only [g]at h;cases hf:mq (fun i=>some (i*k,k)) z b with
        |none=>grind| some G=>
          simp only [hf]at h;cases h;obtain⟨x,B,o⟩:=vr (place':=fun i=>some (i*k,k)) (fun i r y=>y) hf j hq;refine⟨.agg x,?_,.agg o.1 o.2⟩;simp only [Sem.run_bind,ez ok g,Result.andThen_ok,B];rfl
theorem convP_run{c b:TypeId}{d:TypeDesc}(g:E.und c=some d)(j: ∀e,d≠ .slice e)(h:jM E b x=some v)(i:aC mu x x')(w:World):(convert c b x').run P w=.ok v w/\aC mu v v:=by
 unfold jM at h;cases i<;>simp only []at h<;>try (cases h;done)
 . rename_i k n;cases a:E.und b with
   |none=>simp [a]at h| some f=>
     simp only [a]at h;cases f<;>simp only []at h<;>try (cases h;done)
     rename_i l;cases h;refine⟨?_,.int _ _⟩;unfold convert;simp only [Sem.run_bind,bQ ok g,bQ ok a,Result.andThen_ok];rw [jy];rfl
 . rename_i s;cases a:E.und b with
   |none=>simp [a]at h| some f=>
     simp only [a]at h;cases f<;>simp only []at h<;>try (cases h;done)
     cases h;refine⟨?_,.string _⟩;unfold convert;simp only [Sem.run_bind,bQ ok g,bQ ok a,Result.andThen_ok];rfl
theorem lenP_run{t ty:TypeId}{ts:Array TypeId}(c:ts.toList.head?=some t)(f:xs.toList.head?=some x')(h:lenP E t x=some v)(a:aC mu x x')(w:World):(Builtin.len_ ts ty xs).run P w=.ok v w/\aC mu v v:=by
 have g:ts[0]? =some t:=by rw [<-Xa];simpa [XJ]using c
 have i:xs[0]? =some x':=by grind[XJ]
 unfold Builtin.len_;simp only [g,i];unfold lenP at h;cases b:E.und t with
 |none=>simp [b]at h| some d=>
   simp only [b]at h;simp only [Sem.run_bind,bQ ok b,Result.andThen_ok];cases d<;>simp only []at h<;>try (cases h;done)
   case string => cases a<;>simp only []at h<;>try (cases h;done)
                  cases h;exact⟨rfl,.int _ _⟩
   case array n e=>cases h;exact⟨rfl,.int _ _⟩
   case slice e => cases a<;>simp only []at h<;>try (cases h;done)
                   all_goals (cases h;exact⟨rfl,.int _ _⟩)
   case map k e => cases a<;>simp only []at h<;>try (cases h;done)
                   cases h;exact⟨rfl,.int _ _⟩
omit ok in
theorem yY(c:Bool)(h:iR c x l=some v)(e:aC mu x x')(d:VL mu l l')(n: ∀y,x≠ .chan y)(w:World):
 ∃v',(l'.foldlM (if c then Builtin.max2 else Builtin.min2) x').run P w=.ok v' w/\aC mu v v':=by
 induction l generalizing x x' l' with
 | nil=>rw [d.nil_left];simp_all[iR]| cons y l f=>
   obtain⟨o,r,rfl,g,i⟩:=d.cons_left;cases e<;>simp only [iR]at h<;>try (cases h;done)
   cases g<;>simp only []at h<;>try (cases h;done)
   rename_i k a j b;obtain⟨v',p,m⟩:=f h (.int _ _) i (by grind);refine⟨v',?_,m⟩;simp only [List.foldlM_cons,Sem.run_bind];have:((if c then Builtin.max2 else Builtin.min2) (.int k a) (.int j b)).run P w=.ok (.int k (bif c then(bif pj a b then b else a)else(bif pj b a then b else a))) w:=by
    cases c
    . simp_all[Xe,if_false,Builtin.min2,cond_false,ju,Sem.run_pure]
    simp_all[if_true,Builtin.max2,cond_true,ju,Sem.run_pure]
   simp_all
theorem DW{s t:TypeId}{q:Bool}(h:rh E x t q=some v)(i:aC mu x x')(w:World):
 ∃v',(Instr.typeAssert x' s t q).run P w=.ok v' w/\aC mu v v':=by
 unfold rh at h;cases g:E.und t with
 |none=>simp [g]at h| some d=>
   simp only [g]at h;have n: ∀j,d≠ .interface j:=(by grind);have k: ∀{z y:Value},aC mu z y-> ∀b,aC mu (.tuple #[z,.bool b]) (.tuple #[y,.bool b]):=(by intro z y e b;have:VL mu [z,.bool b] [y,.bool b]:=LR.cons e (LR.cons (.bool b) LR.nil);exact .tuple this.1 this.2);unfold Instr.typeAssert;simp only [Sem.run_bind,bQ ok g,Result.andThen_ok];have c:wZ E x t q=some v:=(by grind);clear h;unfold wZ at c;cases i<;>simp only []at c<;>try (cases c;done)
   . cases q with
     |false=>simp at c| true=>
       simp only [cond_true]at c;obtain⟨z,e,rfl⟩:=Option.map_eq_some_iff.1 c;obtain⟨l,m⟩:=sf ok e w mu;simp_all
   . rename_i u a o p;rw [cR]at c;by_cases f:u=t
     . subst f;simp only [decide_true,cond_true]at c;cases c;cases q with
       |false=>simp_all|true=>simp_all
     . simp only [f,decide_false,cond_false]at c;cases q with
       |false=>simp at c| true=>
         simp only [cond_true]at c;obtain⟨z,e,rfl⟩:=Option.map_eq_some_iff.1 c;obtain⟨l,m⟩:=sf ok e w mu;simp_all
end
section
variable{E:Env}{P:Program}(ok:EOk E P)
include ok
theorem pop_run{g:Operand->Value}(f: ∀x,aC mu (ρ x) (g x)){o:Oper}(h:pop E ρ o.op=some v)(w:World):
 ∃v',(execOp g o).run P w=.ok (.value v') w/\aC mu v v':=by
 have D: ∀l:List Operand,VL mu (l.map ρ) (l.map g):=fun l=>LR.mapSame l f;unfold execOp;obtain⟨W,op,G,pos,M,guard⟩:=o;simp only []at h⊢;cases op<;>simp only [pop]at h<;>try (cases h;done)
 case move x=>cases h;simp_all
 case assign x=>cases h;simp_all
 case pick c a b=>
  have z:=f c;cases H:ρ c<;>rw [H]at h z<;>(try simp only []at h)<;>try (cases h;done)
  rename_i t;cases r:g c<;>rw [r]at z<;>cases z;cases h;cases t
  . simp_all[asBool]
  simp_all[asBool]
 case nilCheck x=>
  have z:=f x;cases H:ρ x<;>rw [H]at h z<;>(try simp only []at h)<;>try (cases h;done)
  . rename_i a;cases a with
    |none=>simp at h| some a=>
      cases h;cases r:g x<;>rw [r]at z<;>cases z;rename_i X C;exact⟨.pointer (some X),by simp_all,.ptr C⟩
  . rename_i N a b;cases N<;>(try simp only []at h)<;>try (cases h;done)
    cases h;cases r:g x<;>rw [r]at z<;>cases z;rename_i A B T Y;exact⟨_,by simp_all,.fn A B T Y⟩
 case binOp op t x y u=>
  obtain⟨A,B,T⟩:=binP_run ok h (f x) (f y) w;simp_all
 case unOp op t x=>
  obtain⟨A,B⟩:=unP_run (P:=P) h (f x) w;simp_all
 case makeInterface t x=>
  cases O:E.und t with
  |none=>simp [O]at h| some d=>
    simp only [O]at h;cases d<;>(try simp only []at h)<;>try (cases h;done)
    all_goals (cases h;exact⟨.iface t (g x),by simp [Instr.makeInterface,bQ ok O],.iface (f x)⟩)
 case makeFunc N a b=>
  cases N<;>(try simp only []at h)<;>try (cases h;done)
  cases h;refine⟨_,rfl,.fn (by simp) ?_ (by simp) ?_⟩
  . grind
  grind
 case slice t x l Z m=>
  obtain⟨v',A,B⟩:=EN ok h (f x) (OR.map f l) (OR.map f Z) (OR.map f m) w;simp_all
 case fieldAddr t x i=>
  obtain⟨v',A,B⟩:=Ao ok h (f x) w;simp_all
 case field t x i=>
  obtain⟨v',A,B⟩:=E5 ok h (f x) w;simp_all
 case indexAddr t x i=>
  obtain⟨v',A,B⟩:=At ok h (f x) (f i) w;simp_all
 case index t x i=>
  obtain⟨v',A,B⟩:=E8 ok h (f x) (f i) w;simp_all
 case extract t i=>
  have z:=f t;cases H:ρ t<;>rw [H]at h z<;>(try simp only []at h)<;>try (cases h;done)
  cases r:g t<;>rw [r]at z<;>cases z;rename_i vs Q A B;obtain⟨v',U,V⟩:=LR.get (⟨A,B⟩:VL mu vs.toList Q.toList) h;simp_all[Xa,Instr.extract]
 case build t n=>
  have hq:PL mu (n.toList.map fun p=>(p.1,ρ p.2)) (n.toList.map fun p=>(p.1,g p.2)):=LR.mapSame _ fun p=>⟨rfl,f p.2⟩;obtain⟨v',A,B⟩:=FI ok h hq w;have e:(n.map fun(x:Nat×Operand)=>(x.1,g x.2))=(n.toList.map fun p=>(p.1,g p.2)).toArray:=by apply XD;simp
  simp_all
 case typeAssert x s t q=>
  obtain⟨v',A,B⟩:=DW ok (s:=s) h (f x) w;simp_all
 case call c=>
  obtain⟨F,j,k⟩:=c;simp only []at h;cases F<;>(try simp only []at h)<;>try (cases h;done)
  rename_i b;cases b<;>(try simp only []at h)<;>try (cases h;done)
  case len=>
   cases R:k.toList with
   |nil=>simp [R]at h| cons t ts=>
     cases C:j.toList with
     |nil=>grind| cons x xs=>
       simp only [R,C]at h;obtain⟨A,B⟩:=lenP_run ok (ts:=k) (ty:=G) (xs:=j.map g) (by rw [R];rfl) (by simp [C]) h (f x) w;simp_all[resolve,invoke,builtin]
  case min=>
   cases C:j.toList.map ρ with
   |nil=>simp [C]at h| cons x l=>
     simp only [C]at h;have I:=D j.toList;rw [C]at I;obtain⟨S,l',J,K,L⟩:=I.cons_left;cases l with
     | nil=>
       simp only [iR]at h;cases h;rw [L.nil_left]at J;exact⟨S,by simp [resolve,invoke,builtin,Builtin.min_,J],K⟩
     | cons y l=>
       obtain⟨v',U,V⟩:=yY (P:=P) false h K L (by intro c e;subst e;simp [iR]at h) w;simp_all[Xe,if_false,resolve,invoke,builtin,Builtin.min_]
  case max=>
   cases C:j.toList.map ρ with
   |nil=>simp [C]at h| cons x l=>
     simp only [C]at h;have I:=D j.toList;rw [C]at I;obtain⟨S,l',J,K,L⟩:=I.cons_left;cases l with
     | nil=>
       simp only [iR]at h;cases h;rw [L.nil_left]at J;exact⟨S,by simp [resolve,invoke,builtin,Builtin.max_,J],K⟩
     | cons y l=>
       obtain⟨v',U,V⟩:=yY (P:=P) true h K L (by intro c e;subst e;simp [iR]at h) w;simp_all[if_true,resolve,invoke,builtin,Builtin.max_]
end
theorem CN(l:List Value)(off:Nat)(vs:List Value)(i:Nat)(h:off+vs.length<=l.length):(cd l off vs)[i]? =if off<=i/\i<off+vs.length then vs[i-off]? else l[i]? :=by
 induction vs generalizing l off with
 |nil=>simp_all[cd,List.length_nil,if_neg]| cons v vs a=>simp only [cd,Xk]at h⊢;grind
theorem setCells_at(c:Nat)(vs:List Value): ∀(o:Nat) (w:World) (cs:Array Value) (el:TypeId) (b:Nat×Nat),w.heap[c]? =some (.cells cs el b)->
 ∃a,WSet w (w.setCells c o vs) c (.cells a el b)/\a.toList=cd cs.toList o vs:=by
 induction vs with
 |nil=>intro o w cs el b h;exact⟨cs,⟨rfl,h,fun _ _=>rfl,rfl,rfl,rfl⟩,rfl⟩
 | cons v vs e=>
   intro o w cs el b h;have f:(w.setCell ⟨c,o,none⟩ v).heap[c]? =some (.cells (cs.setIfInBounds o v) el b):=(by simp [World.setCell,XO,h]);obtain⟨a,d,g⟩:=e (o+1) (w.setCell ⟨c,o,none⟩ v) _ el b f;refine⟨a,⟨?_,d.at_,?_,d.os,d.tape,d.output⟩,?_⟩
   . show((w.setCell ⟨c,o,none⟩ v).setCells c (o+1) vs).heap.size=_;rw [d.size];simp_all
   . intro j i;show((w.setCell ⟨c,o,none⟩ v).setCells c (o+1) vs).heap[j]? =_;rw [d.other j i];simp_all[World.setCell,XO,if_neg,Ne.symm]
   . rw [g];simp [cd]
section
variable{E:Env}{P:Program}
theorem ptr_at{h:Hp}(e:aZ mu h w)(b:gu mu a f){x:Blk}(g:h.get a.block=some x)(i:x≠ .dead):
 ∃c base top o,mu a.block=.blk c base top/\f=⟨c,base+a.off,none⟩/\w.heap[c]? =some o/\n8 mu x base top o:=by
 unfold gu at b;cases d:mu a.block with
 |none=>grind|dead=>have:=e.dead _ d;grind| blk c base top=>
   rw [d]at b;obtain⟨y,o,j,k,l⟩:=e.blk _ c base top d;grind
theorem yi{h:Hp}(z:aZ mu h w){q:Addr}(g:gu mu a q)(b:h.load a.block a.off n=some l):l.length=n/\ ∃l',VL mu l l'/\(∀(j:Nat) v',l'[j]? =some v'->w.cell? (q.add j)=some v'):=by
 unfold Hp.load at b;cases k:h.get a.block with
 |none=>simp [k]at b| some x=>
   simp only [k]at b;cases x<;>simp only []at b<;>try (cases b;done)
   rename_i t r J K;obtain⟨c,f,A,o,L,rfl,M,B⟩:=ptr_at z g k (by intro e;cases e);obtain⟨C,D,N,rfl,m⟩:=B;rw [fQ]at b;by_cases F:a.off+n<=r
   . simp only [F,decide_true,cond_true]at b;obtain⟨s,G⟩:=Tr.slice_spec b;refine⟨s,(Xn n).map (fun j=>C.getD (f+(a.off+j)) default),?_,?_⟩
     . refine⟨by simp [s],fun i v v' p d=>?_⟩;have H:i<n:=(by grind);have:=G i H;rw [p]at this;obtain⟨u,y,O⟩:=m.get _ _ this;simp_all
     . intro j v' d;have I:j<n:=(by grind);simp [I]at d;obtain⟨v,p⟩:=Tr.get_some m.sized (show a.off+j<r by omega);obtain⟨u,y,_⟩:=m.get _ _ p;rw [y]at d;rw [pA _ _ rfl];grind[World.cell?]
   grind
theorem sG{h h':Hp}(G:aZ mu h w){H:Addr}(z:gu mu a H)(d:h.store a.block a.off l=some h')(A:VL mu l l'):
 ∃w',(storeCells H l').run P w=.ok () w'/\aZ mu h' w'/\Ext mu h w mu h' w':=by
 unfold Hp.store at d;cases B:h.get a.block with
 |none=>simp [B]at d| some x =>
   simp only [B]at d;cases x<;>simp only []at d<;>try (cases d;done)
   rename_i t M W N;obtain⟨c,b,O,o,Q,rfl,I,R⟩:=ptr_at G z B (by intro e;cases e);obtain⟨C,p,J,rfl,g⟩:=R;rw [fQ,cR]at d;by_cases S:a.off+l.length<=M/\N≠0/\l.all mr=true
   . obtain⟨q,k,D⟩:=S;simp only [q,k,D,decide_true,decide_false,Xx,Xm,cond_true]at d;cases d;have K:=A.1;have m:=g.fits;have y:=g.whole;obtain⟨r,T,U⟩:=setCells_at c l' (b+a.off) w C p J I;have s: ∀v∈l',v.oneCell'=true:=(by intro v n;obtain⟨i,L⟩:=List.mem_iff_getElem?.1 n;have F:i<l.length:=(by grind);have:=A.2 i _ v (Xd F) L;refine this.flat ?_;grind);have f:=run_storeCells_cells (P:=P) c (b+a.off) l' 0 w (fun j V=>by
      grind[World.cell?]) (fun j V=>by
      simp only [World.frozen?,I];have:=g.free k (b+a.off+0+j) (by omega);grind) s
     rw [Nat.add_zero]at f;refine⟨_,f,?_⟩;refine yg G Q ?_ T ?_
     . grind
     . refine⟨r,p,J,rfl,?_,m,Tr.sized_setAll _ _ g.sized,?_,?_⟩
       . grind[sQ]
       . intro i v n;rw [Tr.get_setAll _ _ _ _ g.sized q]at n;rw [<-Xa,U,CN _ _ _ _ (show b+a.off+l'.length<=C.toList.length by grind)];by_cases u:a.off<=i/\i<a.off+l.length
         . rw [if_pos u]at n;rw [if_pos (by omega),show b+i-(b+a.off)=i-a.off by omega];exact A.get n
         . rw [if_neg u]at n;rw [if_neg (by omega),Xa];exact g.get _ _ n
       . intro _ i L;have:r.size=C.size:=(by grind[sQ]);exact g.free k i (by omega)
   grind
theorem q8{h:Hp}(d:aZ mu h w){l':Array Value}{el a:TypeId}(b:VL mu l l'.toList)(e:WNew w w' (.cells l' a))(f:t.Sized l.length)(g: ∀i,t.get i=l[i]?):aZ (upd mu h.n (.blk w.heap.size 0 l'.size)) (h.new (.cells t l.length el 1)) w'/\Ext mu h w (upd mu h.n (.blk w.heap.size 0 l'.size)) (h.new (.cells t l.length el 1)) w':=by
 refine pL d e ⟨l',a,(0,0),rfl,rfl,?_,f,?_,?_⟩
 . have:=b.1;grind
 . intro i v c;rw [g]at c;obtain⟨j,k,m⟩:=b.get c;grind
 omega
theorem Ae(mu:Mu)(b c base top:Nat):gu (upd mu b (.blk c base top)) ⟨b,0,none⟩ ⟨c,base,none⟩:=by unfold gu;rw [upd_same];simp
end
section
variable{E:Env}{P:Program}(ok:EOk E P)
theorem sY : ∀(l m:List Value) {r:Bool},dN l m=some r->(∀v∈l,qx v=true)/\(∀v∈m,qx v=true)/\l.length=m.length/\(r=true↔l=m):=by
 intro l
 induction l with
 | nil=>grind[dN]| cons a l e=>
   intro m r h;cases m with
   |nil=>cases a<;>simp [dN]at h
   | cons b m=>
     cases a<;>(try (simp [dN]at h;done));cases b<;>(try (simp [dN]at h;done));rename_i k x f y;simp only [dN,jf]at h;by_cases g:k=f
     . subst g;simp only [decide_true,cond_true]at h;cases d:dN l m with
       |none=>simp [d]at h| some q=>
         rw [d]at h;simp only []at h;obtain⟨i,j,n,o⟩:=e m d;refine⟨fun v c=>?_,fun v c=>?_,by simp [n],?_⟩
         . rcases List.mem_cons.1 c with rfl|c
           . rfl
           . exact i v c
         . rcases List.mem_cons.1 c with rfl|c
           . rfl
           . exact j v c
         grind[je]
     grind
theorem DR: ∀(l m:List Value) {r:Bool},dN l m=some r->dN m l=some r:=by
 intro l
 induction l with
 | nil=>grind[dN]| cons a l e=>
   intro m r h;cases m with
   |nil=>cases a<;>simp [dN]at h
   | cons b m=>
     cases a<;>(try (simp [dN]at h;done));cases b<;>(try (simp [dN]at h;done));rename_i k x c y;simp only [dN,jf]at h⊢;by_cases d:k=c
     . subst d;simp only [decide_true,cond_true]at h⊢;grind[dN,je,Bool.beq_comm]
     grind
theorem sameBits_self(h:qx v=true)(n:Nat):Instr.sameBits n v v=true:=by cases v<;>simp only [qx]at h<;>(try (cases h;done));cases n<;>simp [Instr.sameBits]
theorem rR{a b:Value}(h:cD a b=some true): ∀n,Instr.sameBits (n+1) a b=true:=by
 intro n;unfold cD at h;cases a<;>(try (simp at h;done))<;>cases b<;>(try (simp at h;done))
 . rename_i x y;cases x<;>cases y<;>simp at h<;>rfl
 . grind[jf,je,Instr.sameBits]
 . rename_i s u;simp only []at h;rw [lg]at h;simp at h;have:s=u:=(by cases s;cases u;simp [aS]at h;simp [h]);subst this;have d:(s==s)=true:=(by show(s.data==s.data)=true;simp);simp [Instr.sameBits,d]
 . rename_i x y;simp only []at h;obtain⟨f,_,_,i⟩:=sY _ _ h;have e:x=y:=(by simp_all);subst e;simp only [Instr.sameBits,beq_self_eq_true,Bool.true_and,Xf];have: ∀(l:List Value),(∀v∈l,qx v=true)-> ∀p∈l.zip l,Instr.sameBits n p.1 p.2=true:=by
    intro l
    induction l with
    |nil=>simp_all| cons v l j=>
      intro g p c;rw [List.zip_cons_cons]at c;rcases List.mem_cons.1 c with rfl|c
      . exact sameBits_self (g v (by simp)) n
      grind
   exact this _ f
theorem yO{a b:Value}(t:Bool)(h:cD a b=some t):cD b a=some t:=by
 unfold cD at*
 grind[jf,je,Bool.beq_comm,lg,DR]
def iX:TypeDesc->Bool
 | .array _ _=>true|_=>false
theorem ui{kt:TypeId}{d:TypeDesc}{t:Bool}(c:iX d=false)(e:E.und kt=some d)(hf:bK E kt k=true)(h:cD k k'=some t):Instr.sameNow d k k'=some t:=by
 unfold bK at hf;simp only [e]at hf;unfold cD at h;cases d<;>simp only []at hf<;>try (cases hf;done)
 . cases k<;>simp only []at hf<;>try (cases hf;done)
   cases k'<;>simp only []at h<;>try (cases h;done)
   rename_i a b;cases h;cases a<;>cases b<;>rfl
 . grind[hf,jf,je,Instr.sameNow]
 . cases k<;>simp only []at hf<;>try (cases hf;done)
   cases k'<;>simp only []at h<;>try (cases h;done)
   rename_i a b;rw [lg]at h;cases h;simp only [Instr.sameNow];congr 1;rw [show(a==b)=(a.data==b.data)from rfl,<-Array.beq_toList];rfl
 . cases c
theorem pH{kt e:TypeId}(g:E.und kt=some (.array n e))(hf:bK E kt k=true): ∃(cs:Array Value) (kd:IntKind),k=.agg cs/\E.agg e=some false/\E.sz e=some 1/\cs.toList.length=n/\E.und e=some (.int kd)/\ ∀v∈cs.toList,∃x,v=.int kd x:=by
 unfold bK at hf;simp only [g]at hf;cases k<;>simp only []at hf<;>try (cases hf;done)
 rename_i cs;cases a:E.agg e with
 |none=>simp [a]at hf| some b=>
   cases b with
   |true=>simp [a]at hf| false =>
     cases h:E.sz e with
     |none=>grind| some s=>
       cases i:E.und e with
       |none=>grind| some d=>
         rw [a,h,i]at hf;cases d<;>simp only []at hf<;>try (cases hf;done)
         rename_i kd;simp only [cR]at hf;by_cases c:s=1
         . by_cases f:cs.toList.length=n
           . simp only [c,f,decide_true,cond_true,Xf]at hf;refine⟨cs,kd,rfl,rfl,by rw [c],f,rfl,fun v j=>?_⟩;have:=hf v j;cases v<;>simp only [isKd]at this<;>try (cases this;done)
             rename_i l x;rw [jf]at this;grind
           grind
         grind
theorem fits_ok{kt:TypeId}(hf:bK E kt k=true):xd k=true:=by
 cases a:E.und kt with
 |none=>unfold bK at hf;simp [a]at hf| some d=>
   cases b:iX d with
   | true=>
     cases d<;>simp only [iX]at b<;>try (cases b;done)
     obtain⟨e,f,rfl,_,_,_,_,c⟩:=pH a hf;simp only [xd,Xf];intro v h;obtain⟨x,rfl⟩:=c v h;rfl
   | false=>
     unfold bK at hf;simp only [a]at hf;cases d<;>simp only []at hf<;>(try (cases hf;done))<;>(try (cases b;done))<;>(cases k<;>simp only []at hf<;>(try (cases hf;done))<;>rfl)
include ok in
theorem kC{kt:TypeId}(hf:bK E kt k=true)(b:Bool)(w:World):(Instr.checkKey b 10000 kt k).run P w=.ok () w:=by
 cases f:E.und kt with
 |none=>unfold bK at hf;simp [f]at hf| some d=>
   show((Instr.checkKey b (9998+1+1) kt k)).run P w=_;cases h:iX d with
   | true=>
     cases d<;>simp only [iX]at h<;>try (cases h;done)
     rename_i n e;obtain⟨a,A,rfl,o,l,B,p,q⟩:=pH f hf;unfold Instr.checkKey;simp only [Sem.run_bind,bQ ok f,Result.andThen_ok,ez ok l];have g: ∀i,i<n-> ∃v,(part e a (i*1)).run P w=.ok v w/\(Instr.checkKey b (9998+1) e v).run P w=.ok () w:=by
      intro i r;have hlt:i<a.toList.length:=(by omega);obtain⟨x,t⟩:=q _ (XH hlt);refine⟨a.toList[i],?_,?_⟩
      . unfold part;have:a[i]? =some a.toList[i]:=(by grind);rw [XX];simp only [Sem.run_bind,wQ ok o,Result.andThen_ok];simp_all
      . rw [t];unfold Instr.checkKey;simp only [Sem.run_bind,bQ ok p,Result.andThen_ok];rfl
     have u: ∀(m i:Nat),i+m<=n->(forIn (Xy i m) PUnit.unit (fun i _=>do
      let s<-sizeOf e
      let c<-part e a (i*s)
      Instr.checkKey b (9998+1) e c
      pure (ForInStep.yield PUnit.unit)):Sem PUnit).run P w=.ok PUnit.unit w:=by
      intro m
      induction m with
      |zero=>intro i _;simp| succ m j=>
        intro i r;obtain⟨v,y,z⟩:=g i (by omega);simp only [XG,Xv,Sem.run_bind,ez ok l,y,z,Result.andThen_ok];simpa using j (i+1) (by omega)
     simp_all
   | false=>
     unfold bK at hf;simp only [f]at hf;unfold Instr.checkKey;simp only [Sem.run_bind,bQ ok f,Result.andThen_ok];cases d<;>simp only []at hf<;>(try (cases hf;done))<;>(try (cases h;done))
     all_goals rfl
theorem elems_arr{e:TypeId}{kd:IntKind}(g:E.agg e=some false)(w:E.und e=some (.int kd)): ∀(l m:List Value) {r:Bool},dN l m=some r->(∀v∈l,∃x,v=.int kd x)-> ∀(p q:List Value),p.length=q.length->pq E (fK E 39) e 1 (p++l) (q++m) l.length p.length=some r:=by
 intro l
 induction l with
 | nil=>
   intro m r h _ p q _;cases m with
   |nil=>simp only [dN]at h;cases h;rfl
   |cons b m=>simp [dN]at h
 | cons a l j=>
   intro m r h i p q c;obtain⟨x,rfl⟩:=i a (by simp);cases m with
   |nil=>simp [dN]at h| cons b m=>
     cases b<;>(try (simp [dN]at h;done));rename_i d y;simp only [dN]at h;have k:partOf E e (p++ .int kd x::l) (p.length*1)=some (.int kd x):=(by unfold partOf;rw [g];simp);have n:partOf E e (q++ .int d y::m) (p.length*1)=some (.int d y):=(by unfold partOf;rw [g,c];simp);cases o:kL kd d with
     |false=>grind| true=>
       rw [o]at h;simp only [cond_true]at h;have s:fK E 39 e (.int kd x) (.int d y)=some (jh x y):=(by show fK E (38+1) e _ _=_;unfold fK;grind);cases f:dN l m with
       |none=>simp [f]at h| some z=>
         rw [f]at h;simp only []at h;simp only [Xk,pq,k,n,s];cases t:jh x y with
         |false=>grind| true=>
           rw [t]at h;simp only [cond_true]at h;simp only [];cases h;have:=j m f (fun v u=>i v (by simp [u])) (p++[.int kd x]) (q++[.int d y]) (by simp [c]);simpa using this
theorem aC.ints(mu:Mu)(h: ∀v∈cs.toList,qx v=true):aC mu (.agg cs) (.agg cs):=by
 refine .agg rfl fun i v c b a=>?_;rw [b]at a;cases a;have:=h v (XR b);cases v<;>simp only [qx]at this<;>try (cases this;done)
 exact .int _ _
include ok in
theorem Bm{kt e:TypeId}{t:Bool}(mu:Mu)(c:E.und kt=some (.array n e))(hf:bK E kt k=true)(h:cD k k'=some t)(w:World):(Op.equal kt k k').run P w=.ok t w:=by
 obtain⟨a,o,rfl,d,f,p,g,i⟩:=pH c hf;unfold cD at h;cases k'<;>simp only []at h<;>try (cases h;done)
 rename_i b;obtain⟨j,l,_,_⟩:=sY _ _ h;have m:fK E 40 kt (.agg a) (.agg b)=some t:=by show fK E (39+1) kt (.agg a) (.agg b)=some t;unfold fK;simp only [c,f];have:=elems_arr d g a.toList b.toList h i [] [] rfl;grind
 exact Dy ok 40 Op.maxDepth (by decide) m (aC.ints mu j) (aC.ints mu l) w
theorem Cp{kt:TypeId}{d:TypeDesc}(l:iX d=false)(m:E.und kt=some d)(hf:bK E kt k=true){c:List (Value×Value×Nat)}(g:nU mu c es')(h:bF k c=some none)(i:Nat):Instr.findNow d k es' i=some none:=by
 induction c generalizing es' i with
 |nil=>rw [g.nil_left];rfl| cons e c o=>
   obtain⟨q,r,rfl,j,p⟩:=LR.cons_left g;obtain⟨a,b,n⟩:=e;simp only [bF]at h;cases f:cD k a with
   |none=>simp [f]at h| some t=>
     cases t with
     |true=>simp [f]at h| false=>simp only [f]at h;have:=ui l m hf f;simp only []at j;simp only [Instr.findNow,j.1,this];exact o p h _
include ok in
theorem DA{kt e:TypeId}(j:E.und kt=some (.array n e))(hf:bK E kt k=true){c:List (Value×Value×Nat)}(f:nU mu c es')(h:bF k c=some none)(i:Nat)(w:World):(Instr.findAsking kt k es' i).run P w=.ok none w:=by
 induction c generalizing es' i with
 |nil=>rw [f.nil_left];rfl| cons x c l=>
   obtain⟨q,r,rfl,g,o⟩:=LR.cons_left f;obtain⟨a,b,m⟩:=x;simp only [bF]at h;cases d:cD k a with
   |none=>simp [d]at h| some t=>
     cases t with
     |true=>simp [d]at h| false=>simp only [d]at h;simp only []at g;have p:=Bm ok mu j hf d w;simp only [Instr.findAsking,Sem.run_bind,g.1,p,Result.andThen_ok];simpa using l o h (i+1)
theorem xm{d:TypeDesc}{kt:TypeId}(a:iX d=true)(c:E.und kt=some d)(hf:bK E kt k=true)(x:MapEntry)(b:List MapEntry)(i:Nat):Instr.findNow d k (x::b) i=none:=by
 cases d<;>simp only [iX]at a<;>try (cases a;done)
 rfl
include ok in
theorem oP{kt:TypeId}{d:TypeDesc}(a:E.und kt=some d)(hf:bK E kt k=true){c:List (Value×Value×Nat)}(e:nU mu c es')(h:bF k c=some none)(w:World):(Instr.findKey kt k es').run P w=.ok none w:=by
 unfold Instr.findKey;simp only [Sem.run_bind,bQ ok a,Result.andThen_ok];cases b:iX d with
 |false=>rw [Cp b a hf e h 0];rfl| true=>
   cases es' with
   |nil=>rfl| cons x es'=>
     rw [xm b a hf];cases d<;>simp only [iX]at b<;>try (cases b;done)
     exact DA ok a hf e h 0 w
include ok in
theorem find_some{kt:TypeId}{d:TypeDesc}(y:E.und kt=some d)(hf:bK E kt k=true){o:List (Value×Value×Nat)}(A:nU mu o es')(h:bF k o=some (some (v,n)))(w:World)(i:Nat):
 ∃ j g,es'[j]? =some g/\(iX d=false->Instr.findNow d k es' i=some (some (i+j,g.val)))/\(iX d=true->(Instr.findAsking kt k es' i).run P w=.ok (some (i+j,g.val)) w)/\aC mu v g.val/\g.born=n/\cD k g.key=some true/\
   (∀p c,aC mu p c->nU mu (kQ k p o) (es'.set j {g with key:=k,val:=c}))/\nU mu (mK k o) (es'.eraseIdx j):=by
 have ask:iX d=true-> ∀{a:Value} {t:Bool},cD k a=some t->(Op.equal kt k a).run P w=.ok t w:=fun z a t f=>by
  cases d<;>simp only [iX]at z<;>try (cases z;done)
  exact Bm ok mu y hf f w
 induction o generalizing es' i with
 |nil=>simp [bF]at h| cons e o B=>
   obtain⟨g,r,rfl,l,s⟩:=LR.cons_left A;obtain⟨a,b,m⟩:=e;simp only [bF]at h;simp only []at l;cases f:cD k a with
   |none=>simp [f]at h| some t=>
     cases t with
     | true=>
       simp only [f]at h;cases h;have u:xd k=true:=fits_ok hf;refine⟨0,g,rfl,fun q=>by simp [Instr.findNow,l.1,ui q y hf f],fun q=>by simp [Instr.findAsking,Sem.run_bind,l.1,ask q f],l.2.2.1,l.2.2.2,by grind,?_,?_⟩
       . intro p c x;simp only [kQ,f,List.set_cons_zero];exact LR.cons ⟨rfl,u,x,l.2.2.2⟩ s
       . simp only [mK,f,List.eraseIdx_zero];exact s
     | false=>
       simp only [f]at h;obtain⟨j,C,D,L,F,G,H,I,J,K⟩:=B s h (i+1);refine⟨j+1,C,by simpa using D,fun q=>?_,fun q=>?_,G,H,I,?_,?_⟩
       . grind[Instr.findNow,ui,hf]
       . grind[Instr.findAsking,Sem.run_bind,ask,Result.andThen_ok]
       . intro p c x;simp only [kQ,f,List.set_cons_succ];exact LR.cons l (J p c x)
       . simp only [mK,f,List.eraseIdx_cons_succ];exact LR.cons l K
include ok in
theorem pd{kt:TypeId}{d:TypeDesc}(f:E.und kt=some d)(hf:bK E kt k=true){e:List (Value×Value×Nat)}(o:nU mu e es')(h:bF k e=some (some (v,n)))(w:World):
 ∃ j a,es'[j]? =some a/\(Instr.findKey kt k es').run P w=.ok (some (j,a.val)) w/\aC mu v a.val/\a.born=n/\cD k a.key=some true/\
   (∀i b,aC mu i b->nU mu (kQ k i e) (es'.set j {a with key:=k,val:=b}))/\nU mu (mK k e) (es'.eraseIdx j):=by
 obtain⟨j,a,l,m,c,p,q,r,s,t⟩:=find_some ok f hf o h w 0;refine⟨j,a,l,?_,p,q,r,s,t⟩;unfold Instr.findKey;simp only [Sem.run_bind,bQ ok f,Result.andThen_ok];rw [XV]at m c;cases g:iX d with
 |false=>rw [m g];rfl| true=>
   cases es' with
   |nil=>simp at l|cons x es'=>rw [xm g f hf];exact c g
theorem FK(o:aC mu v v'){c:List (Value×Value×Nat)}(p:nU mu c es')(h:iF n v c=some es2):
 ∃j g,es'.findIdx? (fun e=>(e.born:Int)==(n:Int))=some j/\es'[j]? =some g/\nU mu es2 (es'.set j {g with val:=v'}):=by
 induction c generalizing es' es2 with
 |nil=>simp [iF]at h| cons e c q=>
   obtain⟨g,r,rfl,d,k⟩:=LR.cons_left p;obtain⟨a,b,m⟩:=e;simp only [iF,cR]at h;simp only []at d;by_cases f:m=n
   . subst f;simp only [decide_true,cond_true]at h;cases h;refine⟨0,g,?_,rfl,?_⟩
     . grind
     . exact LR.cons ⟨d.1,d.2.1,o,d.2.2.2⟩ k
   . simp only [f,decide_false,cond_false]at h;cases i:iF n v c with
     |none=>simp [i]at h| some l=>
       simp only [i]at h;cases h;obtain⟨j,s,w,t,u⟩:=q k i;refine⟨j+1,s,?_,by simpa using t,?_⟩
       . grind
       . simp only [List.set_cons_succ];exact LR.cons d u
end
def oY(mu:Mu)(d e:Deferred):Prop:=match d.target with
 | .fn (.func f) g=> ∃a,e.target=.fn (.func f) a/\VL mu g.toList a.toList/\VL mu d.args.toList e.args.toList| .collected b=> ∃c,e.target=.collected c/\dZ mu b c|_=>False
theorem tM{a:Type}{l:List a}{e:a}(h:l[j]? =some e)(f:a->a):l.modify j f=l.set j (f e):=by apply List.ext_getElem?;grind
section
variable{E:Env}{P:Program}(ok:EOk E P)
def Res(P:Program)(mu:Mu)(h:Hp)(w:World)(s:Sem Next)(h':Hp):dU->Prop
 | .val v=> ∃j e i,s.run P w=.ok (.value j) i/\aZ e h' i/\Ext mu h w e h' i/\aC e v j| .skip=> ∃e i,s.run P w=.ok .skip i/\aZ e h' i/\Ext mu h w e h' i| .call f g=>h'=h/\ ∃a,s.run P w=(callFunc f a).run P w/\VL mu g a.toList| .yield b g=>h'=h/\ ∃c a,s.run P w=(Instr.yield c a).run P w/\dZ mu b c/\VL mu g a.toList| .recov=>h'=h/\s.run P w=.ok .recover w| .defer d=>h'=h/\ ∃k,s.run P w=.ok (.defer k) w/\oY mu d k| .panic v=>h'=h/\ ∃j,s.run P w=.halt (.panic j) w/\aC mu v j
theorem Ci{r:Nat}(h: ∃q,w.heap[r]? =some q):WSet w {w with heap:=w.heap.setIfInBounds r o} r o:=by obtain⟨q,a⟩:=h;have b:r<w.heap.size:=(Array.getElem?_eq_some_iff.1 a).1;refine⟨by simp,by simp [b],fun j c=>?_,rfl,rfl,rfl⟩;grind
theorem yR{h:Hp}(f:aZ mu h w)(d:dZ mu b c){g:List (Value×Value×Nat)}{a:Nat}(k:h.get b=some (.map g a)):
 ∃top es',mu b=.blk c 0 top/\w.heap[c]? =some (.map es' a)/\nU mu g es'.toList:=by
 unfold dZ at d;cases e:mu b with
 |none=>grind|dead=>have:=f.dead _ e;grind| blk m i top=>
   rw [e]at d;obtain⟨rfl,rfl⟩:=d;obtain⟨y,o,j,n,l⟩:=f.blk _ c 0 top e;rw [k]at j;cases j;obtain⟨_,es',rfl,p⟩:=l;grind
theorem pS{h:Hp}(e:aZ mu h w){f:List (Value×Value×Nat)}{a clock2:Nat}(j:h.get b=some (.map f a))(g:mu b=.blk c 0 top){es' es2':Array MapEntry}(d:w.heap[c]? =some (.map es' a))(i:nU mu es2 es2'.toList):(setObj c (.map es2' clock2)).run P w=.ok () {w with heap:=w.heap.setIfInBounds c (.map es2' clock2)}/\
 aZ mu (h.put b (.map es2 clock2)) {w with heap:=w.heap.setIfInBounds c (.map es2' clock2)}/\Ext mu h w mu (h.put b (.map es2 clock2)) {w with heap:=w.heap.setIfInBounds c (.map es2' clock2)}:=by
 refine⟨by simp [setObj,Sem.run,d],?_⟩;exact yg e g (by grind) (Ci ⟨_,d⟩) ⟨rfl,es2',rfl,i⟩
theorem lj{b:Array MapEntry}{a:Nat}(d:w.heap[c]? =some (.map b a)):(getObj c).run P w=.ok (.map b a) w:=by simp [getObj,Sem.run,d]
include ok
theorem Bu{h:Hp}(o:aZ mu h w){t:TypeId}(c:gw E h t x=some v)(p:aC mu x x'):
 ∃v',(Instr.loadAt t x').run P w=.ok v' w/\aC mu v v':=by
 unfold gw at c;cases p<;>(try simp only []at c)<;>try (cases c;done)
 rename_i a q e;unfold Instr.loadAt;simp only [Instr.sureAddr,Sem.run_bind,Sem.run_pure,Result.andThen_ok];unfold loadVar;cases g:E.agg t with
 |none=>simp [g]at c| some b=>
   simp only [Sem.run_bind,wQ ok g,Result.andThen_ok];cases b with
   | true=>
     simp only [g]at c;cases j:E.sz t with
     |none=>simp [j]at c| some n=>
       simp only [j]at c;cases d:h.load a.block a.off n with
       |none=>simp [d]at c| some l=>
         simp only [d]at c;cases c;obtain⟨k,i,f,m⟩:=yi o e d;have:=run_loadCells_list (P:=P) w q i m;have s:i.length=n:=(by rw [<-f.1];exact k);rw [s]at this;exact⟨.agg i.toArray,by simp [ez ok j,this],.agg f.1 f.2⟩
   | false=>
     simp only [g]at c;cases d:h.load a.block a.off 1 with
     |none=>simp [d]at c| some l=>
       simp only [d]at c;obtain⟨k,i,f,m⟩:=yi o e d
       match l,k with
       | [u],_=>
         simp only []at c;cases c;obtain⟨y,r,rfl,z,A⟩:=f.cons_left;have:=m 0 y (by simp);simp_all[Addr.add]
theorem EO{h h':Hp}(k:aZ mu h w){t:TypeId}(c:jH E h t x v=some h')(l:aC mu x x')(m:aC mu v v'):
 ∃w',(Instr.storeAt t x' v').run P w=.ok () w'/\aZ mu h' w'/\Ext mu h w mu h' w':=by
 unfold jH at c;cases l<;>(try simp only []at c)<;>try (cases c;done)
 rename_i a r e;cases f:E.sz t with
 |none=>simp [f]at c| some n=>
   simp only [f]at c;have g: ∀y,v≠ .chan y:=(by grind);have b:(bif zM (ac v).length n then h.store a.block a.off (ac v)else none)=some h':=(by grind);rw [cR]at b;by_cases j:(ac v).length=n
   . simp only [j,decide_true,cond_true]at b;have d:=m.cells g;obtain⟨w',o,p,q⟩:=sG (P:=P) k e b d;refine⟨w',?_,p,q⟩;have i:v'.cells.size=n:=(by rw [<-j];exact d.1.symm);simp [Instr.storeAt,Instr.sureAddr,storeVar,ez ok f,i,o]
   grind
omit ok in
theorem vt{kt:TypeId}(hf:bK E kt k=true)(e:aC mu k k'):k'=k/\xd k=true/\ ∃kd,E.und kt=some kd:=by
 unfold bK at hf;cases a:E.und kt with
 |none=>simp [a]at hf| some kd=>
   cases b:iX kd with
   | true=>
     cases kd<;>simp only [iX]at b<;>try (cases b;done)
     have c:=fits_ok (E:=E) (kt:=kt) (k:=k) (by unfold bK;exact hf);obtain⟨h,kd,rfl,_,_,_,_,j⟩:=pH a (by unfold bK;exact hf);refine⟨?_,c,_,rfl⟩;cases e with
     | @agg _ f l m=>
       have:h.toList=f.toList:=(by refine List.ext_getElem l fun i g d=>?_;obtain⟨x,n⟩:=j _ (XH g);have:=m i _ _ (Xd g) (Xd d);rw [n]at this⊢;generalize f.toList[i]=u at this;cases this;rfl);simp_all
   | false=>
     simp only [a]at hf;cases kd<;>simp only []at hf<;>(try (cases hf;done))<;>(try (cases b;done))<;>(cases e<;>simp only []at hf<;>(try (cases hf;done))<;>exact⟨rfl,rfl,_,rfl⟩)
theorem Em{h:Hp}(M:aZ mu h w){t:TypeId}{H:Value}{q:Bool}(a:cM E h t m k q=some v)(N:aC mu m H)(O:aC mu k k'):
 ∃v',(Instr.lookup t H k' q).run P w=.ok v' w/\aC mu v v':=by
 unfold cM at a;cases o:E.und t with
 |none=>simp [o]at a| some d=>
   simp only [o]at a;cases d<;>simp only []at a<;>try (cases a;done)
   rename_i I s;cases hf:bK E I k with
   |false=>simp [hf]at a| true=>
     simp only [hf,cond_true]at a;have A:k'=k:=(vt (E:=E) hf O).1;subst A;have B: ∀{z y:Value},aC mu z y-> ∀b,aC mu (bif q then .tuple #[z,.bool b]else z) (if q then .tuple #[y,.bool b]else y):=by
      intro z y i b;cases q with
      |false=>exact i| true=>have:VL mu [z,.bool b] [y,.bool b]:=LR.cons i (LR.cons (.bool b) LR.nil);exact .tuple this.1 this.2
     obtain⟨J,g⟩: ∃J,E.und I=some J:=(by unfold bK at hf;grind);have f:(match E.zeroV s with|none=>none|some z=>some (bif q then .tuple #[z,.bool false]else z))=some v->
      ∃z,(zeroValue s).run P w=.ok z w/\aC mu v (if q then .tuple #[z,.bool false]else z):=by
      intro i;cases l:E.zeroV s with
      |none=>simp [l]at i| some z=>simp only [l]at i;grind[sf]
     unfold Instr.lookup;simp only [Sem.run_bind,bQ ok o,Result.andThen_ok];cases N<;>(try simp only []at a)<;>try (cases a;done)
     . obtain⟨z,C,D⟩:=f a;refine⟨_,?_,D⟩;simp [kC ok hf,Instr.findKey,bQ ok g,Instr.findNow,C]
     . rename_i b c Q;cases F:h.get b with
       |none=>simp [F]at a| some x=>
         simp only [F]at a;cases x<;>simp only []at a<;>try (cases a;done)
         rename_i R G;obtain⟨S,T,W,K,L⟩:=yR M Q F;cases e:bF k' R with
         |none=>simp [e]at a| some r=>
           cases r with
           | none=>
             simp only [e]at a;obtain⟨z,C,D⟩:=f a;refine⟨_,?_,D⟩;simp [kC ok hf,lj K,oP ok g hf L e,C]
           | some p=>
             obtain⟨u,n⟩:=p;simp only [e]at a;cases a;obtain⟨j,X,Y,U,V,_⟩:=pd ok g hf L e w;refine⟨_,?_,B V true⟩;simp [kC ok hf,lj K,U]
omit ok in
theorem uM{h:Hp}(l:aZ mu h w){t:TypeId}{i:Value}{r a:Nat}{f:List (Value×Value×Nat)}{el:TypeId}(e:jV E h t m k=some (r,f,a,el))(n:aC mu m i)(o:aC mu k k'): ∃kt kd c top es',E.und t=some (.map kt el)/\E.und kt=some kd/\bK E kt k=true/\k'=k/\xd k=true/\i=.map (some c)/\h.get r=some (.map f a)/\
  mu r=.blk c 0 top/\w.heap[c]? =some (.map es' a)/\nU mu f es'.toList:=by
 unfold jV at e;cases j:E.und t with
 |none=>simp [j]at e| some d=>
   simp only [j]at e;cases d<;>simp only []at e<;>try (cases e;done)
   rename_i kt p;cases hf:bK E kt k with
   |false=>simp [hf]at e| true=>
     simp only [hf,cond_true]at e;obtain⟨s,u,kd,v⟩:=vt (E:=E) hf o;cases n<;>(try simp only []at e)<;>try (cases e;done)
     rename_i b c q;cases g:h.get b with
     |none=>simp [g]at e| some x=>
       simp only [g]at e;cases x<;>simp only []at e<;>try (cases e;done)
       cases e;obtain⟨top,es',y,z,A⟩:=yR l q g;grind
theorem zn{h h':Hp}(g:aZ mu h w){t:TypeId}(d:ey E h t m k v=some h')(A:aC mu m s)(B:aC mu k k')(C:aC mu v v'):
 ∃w',(Instr.mapUpdate t s k' v').run P w=.ok () w'/\aZ mu h' w'/\Ext mu h w mu h' w':=by
 unfold ey at d;cases i:jV E h t m k with
 |none=>simp [i]at d| some q=>
   obtain⟨r,l,a,L⟩:=q;simp only [i]at d;obtain⟨M,N,c,D,f,F,x,o,rfl,e5,rfl,y,e8,e9,e10⟩:=uM g i A B;unfold Instr.mapUpdate;simp only [Sem.run_bind,bQ ok F,Result.andThen_ok,lj e9,kC ok o];cases b:bF k' l with
   |none=>simp [b]at d| some p=>
     cases p with
     | none=>
       simp only [b]at d;cases d;have G:=oP ok x o e10 b w;obtain⟨H,I,J⟩:=pS (P:=P) g y e8 e9 (es2:=l++[(k',v,a)]) (es2':=f.push {key:=k',val:=v',born:=a}) (clock2:=a+1) (by
        simp only [Array.toList_push];exact LR.append e10 (LR.cons ⟨rfl,e5,C,rfl⟩ LR.nil))
       simp_all
     | some u=>
       obtain⟨u,n⟩:=u;simp only [b]at d;cases d;obtain⟨j,z,O,Q,R,S,T,U,V⟩:=pd ok x o e10 b w;have W:f[j]? =some z:=(by grind);have K:(Instr.keyThatStays z.key k').run P w=.ok k' w:=(by simp_all[Instr.keyThatStays,Instr.sameBits,rR,yO]);obtain⟨H,I,J⟩:=pS (P:=P) g y e8 e9 (es2:=kQ k' v l) (es2':=f.modify j fun e=>{e with key:=k',val:=v'}) (clock2:=a) (by
        grind[Xw,tM])
       simp_all
end
section
variable{E:Env}{P:Program}(ok:EOk E P)
include ok
theorem ET{h h':Hp}(g:aZ mu h w){t ty:TypeId}{ts:Array TypeId}{y:Value}(C:ts[0]? =some t)(i:xs[0]? =some y)(o:xs[1]? =some k')(d:oJ E h t m k=some h')(D:aC mu m y)(F:aC mu k k'):
 ∃w',(Builtin.delete_ ts ty xs).run P w=.ok (.tuple #[]) w'/\aZ mu h' w'/\Ext mu h w mu h' w':=by
 unfold oJ at d;cases s:jV E h t m k with
 |none=>simp [s]at d| some q=>
   obtain⟨r,e,a,M⟩:=q;simp only [s]at d;obtain⟨N,O,c,G,f,H,z,v,rfl,e5,rfl,A,e8,e9,e10⟩:=uM g s D F;unfold Builtin.delete_;simp only [C,i,o,Sem.run_bind,bQ ok H,Result.andThen_ok,lj e9,kC ok v];cases b:bF k' e with
   |none=>simp [b]at d| some p=>
     simp only [b]at d;cases d;cases p with
     | none=>
       have I:=oP ok z v e10 b w;have B:mK k' e=e:=by
        have: ∀l:List (Value×Value×Nat),bF k' l=some none->mK k' l=l:=by
         intro l
         induction l with
         |nil=>intro _;rfl| cons x l Q=>grind[bF,mK,cD]
        grind
       obtain⟨J,K,L⟩:=pS (P:=P) g A e8 e9 (es2:=mK k' e) (es2':=f) (clock2:=a) (by grind);simp_all
     | some u=>
       obtain⟨u,n⟩:=u;obtain⟨j,R,S,T,U,V,W,X,Y⟩:=pd ok z v e10 b w;obtain⟨J,K,L⟩:=pS (P:=P) g A e8 e9 (es2:=mK k' e) (es2':=f.eraseIdxIfInBounds j) (clock2:=a) (by
        simp_all)
       simp_all
theorem EG{h h':Hp}(i:aZ mu h w){t:TypeId}{G:Value}(d:jK E h t m k=some (h',v))(L:aC mu m G)(M:aC mu k k'):
 ∃v' w',(Instr.mapEntry t G k').run P w=.ok v' w'/\aZ mu h' w'/\Ext mu h w mu h' w'/\aC mu v v':=by
 have l: ∀{z y:Value},aC mu z y-> ∀n:Nat,aC mu (.tuple #[z,.int .i64 (.ofNat n)]) (.tuple #[y,goInt (n:Int)]):=by intro z y g n;have:VL mu [z,.int .i64 (.ofNat n)] [y,goInt (n:Int)]:=LR.cons g (LR.cons (.int _ _) LR.nil);exact .tuple this.1 this.2
 unfold jK at d;cases o:jV E h t m k with
 |none=>simp [o]at d| some q =>
   obtain⟨r,s,a,N⟩:=q;simp only [o]at d;obtain⟨U,V,c,O,f,Q,H,x,rfl,e5,rfl,I,e8,e9,e10⟩:=uM i o L M;unfold Instr.mapEntry;simp only [Sem.run_bind,bQ ok Q,Result.andThen_ok,lj e9,kC ok x];cases b:bF k' s with
   |none=>simp [b]at d| some p=>
     cases p with
     | none=>
       simp only [b]at d;cases g:E.zeroV N with
       |none=>simp [g]at d| some z=>
         simp only [g]at d;cases d;obtain⟨R,J⟩:=sf ok g w mu;have A:=oP ok H x e10 b w;obtain⟨B,C,D⟩:=pS (P:=P) i I e8 e9 (es2:=s++[(k',z,a)]) (es2':=f.push {key:=k',val:=z,born:=a}) (clock2:=a+1) (by
          simp only [Array.toList_push];exact LR.append e10 (LR.cons ⟨rfl,e5,J,rfl⟩ LR.nil))
         exact⟨_,_,by simp [A,R,B],C,D,l J a⟩
     | some u=>
       obtain⟨u,n⟩:=u;simp only [b]at d;cases d;obtain⟨j,K,W,S,X,Y,Z,f6,f7⟩:=pd ok H x e10 b w;have T:f[j]? =some K:=(by grind);have F:(Instr.keyThatStays K.key k').run P w=.ok k' w:=(by simp_all[Instr.keyThatStays,Instr.sameBits,rR,yO]);obtain⟨B,C,D⟩:=pS (P:=P) i I e8 e9 (es2:=kQ k' u s) (es2':=f.modify j fun e=>{e with key:=k'}) (clock2:=a) (by
        grind[Xw,tM])
       refine⟨_,_,by simp [S,T,F,B];rfl,C,D,?_⟩;grind
omit ok in
theorem Dw{h h':Hp}(r:aZ mu h w){t:TypeId}{u:Value}(a:nT h m s v=some h')(y:aC mu m u)(z:aC mu s s')(A:aC mu v v'):
 ∃w',(Instr.entryStore t u s' v').run P w=.ok () w'/\aZ mu h' w'/\Ext mu h w mu h' w':=by
 unfold nT at a;cases y<;>(try simp only []at a)<;>try (cases a;done)
 rename_i b c B;cases o:h.get b with
 |none=>simp [o]at a| some x=>
   simp only [o]at a;cases x<;>(try simp only []at a)<;>try (cases a;done)
   rename_i C d;obtain⟨D,f,e8,e9,e10⟩:=yR r B o;cases z<;>(try simp only []at a)<;>try (cases a;done)
   rename_i k i;cases p:jt i with
   |none=>simp [p]at a| some n=>
     have:=rN p;subst this;simp only [p]at a;cases g:iF n v C with
     |none=>simp [g]at a| some es2=>
       simp only [g]at a;cases a;obtain⟨j,J,F,K,L⟩:=FK A e10 g;obtain⟨G,H,I⟩:=pS (P:=P) r o e8 e9 (es2:=es2) (es2':=f.modify j fun e=>{e with val:=v'}) (clock2:=d) (by
        grind[Xw,tM])
       have q:f.findIdx? (fun e=>(e.born:Int)==(n:Int))=some j:=(by obtain⟨l⟩:=f;simpa using F);exact⟨_,by simp [Instr.entryStore,lj e9,asInt,asIntOf,q,G],H,I⟩
omit ok in
theorem pZ(a:List Value)(n:Nat):(bJ a n).length=n*a.length:=by
 induction n with
 |zero=>simp [bJ]|succ n b=>simp [bJ,b,Nat.succ_mul];omega
omit ok in
theorem Dt(b:List Value)(n i:Nat)(h:i<n*b.length):(bJ b n)[i]? =b[i%b.length]? :=by
 induction n generalizing i with
 |zero=>simp at h| succ n d=>
   simp only [bJ];by_cases c:i<b.length
   . rw [Xt c,XE c]
   . rw [Xs (by omega),d _ (by grind)];rw [Nat.mod_eq_sub_mod (a:=i) (by omega)]
omit ok in
theorem AK{z:Value}{a:List Value}(d:z.cells.toList=a)(j:a.all dA=true)(c:Nat):VL mu (bJ a c) ((XK (c*a.length)).map (z.cells[· %z.cells.size]!)).toList:=by
 have e:z.cells.size=a.length:=by rw [<-d];rfl
 refine⟨by simp [pZ],fun i v k f g=>?_⟩;have h:i<c*a.length:=by grind
 rw [Dt _ _ _ h]at f;have b:0<a.length:=by grind
 have l:i%a.length<a.length:=XQ _ b;grind[Xr,Array.toList_range,List.getElem?_range,List.getElem?_eq_some_iff,Xf,aC.const]
omit ok in
theorem B8(h:natV v=some n)(a:aC mu v v'): ∃k,v'=.int k (n:Int):=by
 unfold natV at h;cases a<;>(try simp only []at h)<;>try (cases h;done)
 rename_i k i;exact⟨k,by rw [rN h]⟩
omit ok in
theorem wrap_small(h:n<=70368744177664):IntKind.i64.wrap (n:Int)=n:=by rw [<-jy];show(bif Xb n 9223372036854775808 then _ else _)=_;grind[jv]
omit ok in
theorem jc(w:World)(o:Obj):WNew w {w with heap:=w.heap.push o} o:=⟨rfl,rfl,rfl,rfl⟩
omit ok in
theorem A7(mu:Mu)(b c top n cap cap' k:Nat)(h:n<=cap)(a:cap<=cap')(d:cap'*k<=top):aC (upd mu b (.blk c 0 top)) (.slice (some ⟨b,0,some k⟩) n cap) (.slice (some ⟨c,0,none⟩) n cap'):=by refine .slice h ?_;simp_all[fm,upd_same,trivial]
omit ok in
theorem qX(mu:Mu)(b c top n cap:Nat)(h:n<=cap):aC (upd mu b (.blk c 0 top)) (.slice (some ⟨b,0,none⟩) n cap) (.slice (some ⟨c,0,none⟩) n cap):=by refine .slice h ?_;grind[fm,upd_same]
theorem Ag{h h':Hp}(D:aZ mu h w){t:TypeId}{l l' c c':Value}(b:lq E h t l c=some (h',v))(R:aC mu l l')(S:aC mu c c'):
 ∃v' r w',(Instr.makeSlice t l' c').run P w=.ok v' w'/\aZ r h' w'/\Ext mu h w r h' w'/\aC r v v':=by
 unfold lq at b;cases F:E.und t with
 |none=>simp [F]at b| some d=>
   simp only [F]at b;cases d<;>(try simp only []at b)<;>try (cases b;done)
   rename_i e;cases G:natV l with
   |none=>simp [G]at b| some n=>
     cases N:natV c with
     |none=>grind| some m=>
       obtain⟨T,rfl⟩:=B8 G R;obtain⟨U,rfl⟩:=B8 N S;simp only [G,N]at b;cases A:E.ty e with
       |none=>simp [A]at b| some i =>
         simp only [A,fQ]at b;by_cases s:n<=m/\m*(i.bytes+1)<=70368744177664
         . obtain ⟨B,V⟩:=s;simp only [B,V,decide_true,Xm,cond_true]at b;cases H:E.zero e with
           |none=>simp [H]at b| some I=>
             simp only [H,cR]at b;by_cases g:I.length=i.size
             . simp only [g,decide_true,cond_true]at b;obtain⟨z,C,W,z3,X⟩:=py ok H w;have J:m<=70368744177664:=(by grind);have K:n<=70368744177664:=(by omega);have Y: ¬((i.bytes:Int)*(m:Int)>2 ^48):=(by grind);have u:E.sz e=some i.size:=(by unfold Env.sz;rw [A]);have a:=AK (mu:=mu) W X m;obtain⟨k,L⟩: ∃k,k=(XK (m*I.length)).map (z.cells[· %z.cells.size]!):=⟨_,rfl⟩;rw [<-L]at a;have x:(Instr.makeSlice t (.int T n) (.int U m)).run P w=.ok (.slice (some ⟨w.heap.size,0,none⟩) n m) {w with heap:=w.heap.push (.cells k e)}:=by
                unfold Instr.makeSlice;simp only [Sem.run_bind,bQ ok F,Result.andThen_ok,asInt,asIntOf,Sem.run_pure,pO ok A,wrap_small J,wrap_small K];have c1:(decide ((m:Int)<0)||decide ((i.bytes:Int)*(m:Int)>2 ^48))=false:=(by grind);have Z:((decide ((m:Int)<0)||decide ((i.bytes:Int)*(m:Int)>2 ^48))||decide ((n:Int)<0)||decide ((n:Int)>(m:Int)))=false:=(by grind);rw [if_neg (by rw [Z];simp)];simp only [Sem.run_bind,run_askRoom,Result.andThen_ok,ez ok u,XB];by_cases y:m*i.size=0
                . have:k=#[]:=(by grind);rw [if_pos y];simp [newRow,y,this];grind
                simp_all[if_neg,newRow]
               rw [x];have O:k.size=m*i.size:=by grind
               match I,b,a,g with
               | [],b,a,g=>
                 cases b;have f:(bJ [] m).length=m*i.size:=(by rw [pZ,<-g]);obtain⟨o,p⟩:=q8 (w':={w with heap:=w.heap.push (.cells k e)}) D (l:=bJ [] m) (l':=k) (el:=e) a (jc w _) (t:=Tr.ofList (bJ [] m)) (Tr.sized_ofList _) (Tr.get_ofList _);rw [f]at o p;exact⟨_,_,_,rfl,o,p,qX mu h.n w.heap.size k.size n m B⟩
               | [q],b,a,g=>
                 cases b;have f:(bJ [q] m).length=m:=(by rw [pZ];simp);obtain⟨o,p⟩:=q8 (w':={w with heap:=w.heap.push (.cells k e)}) D (l:=bJ [q] m) (l':=k) (el:=e) a (jc w _) (t:=Tr.blank q m m) (by simp_all[Tr.sized_blank,zO]) (by
                  intro j;rw [Tr.get_blank q m m (zO _)];by_cases Q:j<m
                  . rw [if_pos Q,Dt _ _ _ (by simpa using Q)];grind
                  grind)
                 rw [f]at o p;exact⟨_,_,_,rfl,o,p,qX mu h.n w.heap.size k.size n m B⟩
               | q::C::M,b,a,g=>
                 cases b;have f:(bJ (q::C::M) m).length=m*i.size:=(by rw [pZ,<-g]);obtain⟨o,p⟩:=q8 (w':={w with heap:=w.heap.push (.cells k e)}) D (l:=bJ (q::C::M) m) (l':=k) (el:=e) a (jc w _) (t:=Tr.ofList (bJ (q::C::M) m)) (Tr.sized_ofList _) (Tr.get_ofList _);rw [f]at o p;exact⟨_,_,_,rfl,o,p,qX mu h.n w.heap.size k.size n m B⟩
             grind
         grind
theorem yU{h h':Hp}(B:aZ mu h w){t:TypeId}{b a:List (Nat×Value)}(c:lU E h t n b=some (h',v))(hq:PL mu b a):
 ∃v' f w',(Instr.buildSlice t n a.toArray).run P w=.ok v' w'/\aZ f h' w'/\Ext mu h w f h' w'/\aC f v v':=by
 unfold lU at c;cases o:E.und t with
 |none=>simp [o]at c| some d=>
   simp only [o]at c;cases d<;>(try simp only []at c)<;>try (cases c;done)
   rename_i e;cases p:E.sz e with
   |none=>simp [p]at c| some k=>
     simp only [p,fQ]at c;by_cases C:n*k<=16777216
     . simp only [C,decide_true,cond_true]at c;cases s:E.zero e with
       |none=>simp [s]at c| some u =>
         simp only [s,cR]at c;by_cases x:u.length=k
         . simp only [x,decide_true,cond_true]at c;cases hf:mq (fun i=>some (i*k,k)) (bJ u n) b with
           |none=>simp [hf]at c| some A=>
             simp only [hf]at c;cases c;obtain⟨z,M,D,N,F⟩:=py ok s w;have g:=AK (mu:=mu) D F n;obtain⟨m,G,H⟩:=vr (place':=fun i=>some (i*k,k)) (fun i r I=>I) hf g hq;have j:(Instr.buildSlice t n a.toArray).run P w=.ok (.slice (some ⟨w.heap.size,0,none⟩) n n) {w with heap:=w.heap.push (.cells m e)}:=by
              unfold Instr.buildSlice;simp only [Sem.run_bind,bQ ok o,Result.andThen_ok,ez ok p];rw [if_neg (by omega)];by_cases y:n*k=0
              . have J: ∀q:Array Value,(XK (n*k)).map (q[· %q.size]!)=(XK (n*u.length)).map (z.cells[· %z.cells.size]!):=(by grind);rw [if_pos y];simp only [Sem.run_bind,Sem.run_pure,Result.andThen_ok];rw [J,G];simp [newRow]
              simp_all[if_neg,Sem.run_bind,Result.andThen_ok,Sem.run_pure,newRow]
             rw [j];obtain⟨K,L⟩:=q8 (w':={w with heap:=w.heap.push (.cells m e)}) B (l:=A) (l':=m) (el:=e) H (jc w _) (t:=Tr.ofList A) (Tr.sized_ofList _) (Tr.get_ofList _);exact⟨_,_,_,rfl,K,L,qX mu h.n w.heap.size m.size n n (zO _)⟩
         grind
     grind
end
section
variable{E:Env}{P:Program}(ok:EOk E P)
theorem Er{b:Tr Value}{a m:Nat}{new:List Value}(c:b.Sized a)(h:lE b a off m new=some (t2,s2)):off+m<=a/\s2=m+new.length/\t2.Sized s2/\(∀i,i<m->t2.get i=b.get (off+i))/\ ∀i,m<=i->t2.get i=new[i-m]? :=by
 unfold lE at h;rw [cR,cR]at h;by_cases e:off=0/\m=a
 . obtain⟨rfl,rfl⟩:=e;simp only [decide_true,Xm,cond_true]at h;cases h;refine⟨by omega,rfl,Tr.sized_pushAll _ c,fun i d=>?_,fun i d=>?_⟩
   . rw [Tr.get_pushAll _ _ _ c,if_pos d,XV]
   simp_all[Tr.get_pushAll,if_neg]
 . have:(decide (off=0)&&decide (m=a))=false:=(by grind);rw [this,fQ]at h;simp only [cond_false]at h;by_cases hle:off+m<=a
   . simp only [hle,decide_true,cond_true]at h;grind[Tr.slice_spec,List.length_append,Tr.sized_ofList,Tr.get_ofList,Xt,Xs]
   grind
theorem qS{e:Addr}(b:fm mu a cap e cap')(i:cap≠0):gu mu a e:=by
 unfold fm at b;unfold gu;cases f:mu a.block with
 |none=>grind|dead=>trivial| blk c d h=>
   rw [f]at b;cases g:a.spot with
   |none=>grind| some q=>
     rw [g]at b;simp only []at b⊢;obtain⟨_,j,k,_,l⟩:=b;have:e.off=d+a.off:=(by omega);cases e;grind
theorem mS{h:Hp}(p:aZ mu h w){e:Addr}{k:Nat}(q:len<=cap)(r:fm mu a cap e cap')(b:h.load a.block a.off (len*k)=some l):l.length=len*k/\ ∃l',VL mu l l'/\ ∀c:World,c.heap=w.heap->(Builtin.firstCells k len (.slice (some e) len cap')).run P c=.ok l'.toArray c:=by
 by_cases s:cap=0
 . have :len=0:=(by omega);subst this;have u:l.length=0:=by
    unfold Hp.load at b;cases i:h.get a.block with
    |none=>simp [i]at b| some x=>
      simp only [i]at b;cases x<;>(try simp only []at b)<;>try (cases b;done)
      rename_i t v y z;rw [fQ]at b;by_cases f:a.off+0*k<=v
      . simp only [f,decide_true,cond_true]at b;grind[Tr.slice_spec]
      grind
   have:l=[]:=(by grind);subst this;exact⟨by simp,[],LR.nil,fun c _=>by simp [Builtin.firstCells,loadCells,loadCellsFrom]⟩
 . have g:=qS r s;obtain⟨m,l',n,A⟩:=yi p g b;refine⟨m,l',n,fun c B=>?_⟩;have d: ∀(j:Nat) o,l'[j]? =some o->c.cell? (e.add j)=some o:=(by grind[World.cell?]);have:=run_loadCells_list (P:=P) c e l' d;rw [show l'.length=len*k by rw [<-n.1];exact m]at this;simp [Builtin.firstCells,this]
theorem Dk{h:Hp}(m:aZ mu h w){k:Nat}{new:List Value}(d:aR h k x=some (n,new))(o:aC mu x x'):new.length=n*k/\(∀c:World,(Builtin.lenOf x').run P c=.ok n c)/\ ∃new',VL mu new new'/\ ∀c:World,c.heap=w.heap->(Builtin.firstCells k n x').run P c=.ok new'.toArray c:=by
 unfold aR at d;cases o<;>(try simp only []at d)<;>try (cases d;done)
 . rename_i s;rw [cR]at d;by_cases p:k=1
   . subst p;simp only [decide_true,cond_true]at d;cases d;refine⟨by simp [aS],fun c=>rfl,(aS s).map fun b=>.int .u8 (.ofNat b.toNat),LR.mapSame _ fun b=>.int _ _,fun c _=>?_⟩;simp only [Builtin.firstCells,Sem.run_pure];congr 1;apply XD;simp [aS]
   grind
 . cases d;exact⟨by simp,fun c=>rfl,[],LR.nil,fun c _=>rfl⟩
 . rename_i a y f q j g i;cases e:h.load a.block a.off (f*k)with
   |none=>simp [e]at d| some l=>
     simp only [e]at d;cases d;obtain⟨r,t,u,v⟩:=mS (P:=P) m g i e;exact⟨r,fun c=>rfl,t,u,v⟩
theorem hrel_move{h:Hp}(q:aZ mu h w){base2:Nat}{x:Blk}(u:mu b=.blk c base top)(v: ∀t z el,h.get b≠some (.cells t z el 0))(G:WSet w w' c o)(M:n8 (upd mu b .dead) x base2 top o):aZ (upd (upd mu b .dead) h.n (.blk c base2 top)) ((h.put b .dead).new x) w'/\Ext mu h w (upd (upd mu b .dead) h.n (.blk c base2 top)) ((h.put b .dead).new x) w':=by
 obtain⟨k,j⟩:=qr q u v G;have N:=q.lt b (by rw [u];simp);have A:(h.put b .dead).n=h.n:=rfl;have hle:Le (upd mu b .dead) (upd (upd mu b .dead) h.n (.blk c base2 top)):=by intro e i;left;exact a9 _ _ (by have:=k.lt e i;omega)
 have n:=(h.put b .dead).get_new x k.sized;have B: ∀e d f,upd mu b .dead e≠ .blk c d f:=by
  intro e d f a;have p:e≠b:=by grind[upd_same]
  rw [a9 _ _ p]at a;exact p (q.inj e b c _ _ _ _ a u)
 refine⟨⟨Tr.sized_push x k.sized,?_,?_,?_,?_⟩,?_⟩
 . intro e l d f a;by_cases g:e=h.n
   . subst g;rw [upd_same]at a;cases a;exact⟨x,o,by grind,G.at_,M.mono hle⟩
   . rw [a9 _ _ g]at a;obtain⟨y,O,r,m,Q⟩:=k.blk e l d f a;exact⟨y,O,by grind,m,Q.mono hle⟩
 . intro e a;by_cases g:e=h.n
   . grind[upd_same]
   . rw [a9 _ _ g]at a;rw [n,A,if_neg g];exact k.dead e a
 . intro H I l C J s K r m;by_cases R:H=h.n
   . grind[upd_same,a9,absurd]
   . rw [a9 _ _ R]at r;by_cases S:I=h.n
     . grind[upd_same,absurd]
     . rw [a9 _ _ S]at m;exact k.inj H I l _ _ _ _ r m
 . intro e a;show e<h.n+1;by_cases g:e=h.n
   . omega
   . rw [a9 _ _ g]at a;have:=k.lt e a;omega
 . refine⟨by show h.n<=h.n+1;omega,?_,?_,j.lo,?_,j.frame,?_,j.wsize,j.os,j.tape,j.output,fun e r m=>by
    have T:e<h.n+1:=m;grind[upd_same]⟩
   . intro e i;rw [a9 _ _ (by omega)];exact j.old e i
   . intro e l d f i a;by_cases g:e=h.n
     . grind[upd_same,a9]
     . rw [a9 _ _ g]at a;exact absurd (k.lt e (by rw [a];simp)) (by rw [A];omega)
   . intro e i D;rw [n,A,if_neg (by omega)];exact j.same e i D
   . intro e l d f t z el a F;obtain⟨U,W,V⟩:=j.ro e l d f t z el a F;have L:=q.lt e (by rw [a];simp);exact⟨U,by grind,by rw [a9 _ _ (by omega)];exact V⟩
theorem Fw(h:c<n):Builtin.nextslicecap n c<=3*n:=by grind[Builtin.nextslicecap,Builtin.growBy]
end
theorem Bz{el:TypeId}{b:Nat×Nat}(o:Nat)(vs:List Value)(h:w.heap[c]? =some (.cells cs el b)):
 ∃a,WSet w (w.setCells c o vs) c (.cells a el b)/\a.toList=cd cs.toList o vs:=setCells_at c vs o w cs el b h
section
variable{E:Env}{P:Program}(ok:EOk E P)
include ok
omit ok in
theorem AL{t:TypeId}(h:eS E t=some false): ∃d,E.und t=some d/\(match d with| .int _=>true|_=>false)=false:=by unfold eS at h;grind
theorem yo{h:Hp}(s:aZ mu h w){e:TypeId}{i:TypeInfo}{t:List Value}(y:E.zero e=some t)(A:t.length=i.size){old' new':List Value}(B: ∀d:World,d.heap=w.heap->(Builtin.firstCells i.size len s').run P d=.ok old'.toArray d)(C: ∀d:World,d.heap=w.heap->(Builtin.firstCells i.size n x').run P d=.ok new'.toArray d)(D:old'.length=len*i.size)(F:new'.length=n*i.size)(G:t2.Sized s2)(H:s2=old'.length+new'.length)(u: ∀j v,t2.get j=some v-> ∃v',(old'++new')[j]? =some v'/\aC mu v v'):
 ∃ v' f w',((do
   let a<-choose (.appendCap (len+n) cap' e)
   askRoom (a*i.bytes)
   let l<-Builtin.firstCells i.size len s'
   let new<-Builtin.firstCells i.size n x'
   let rest:=Builtin.zeroCells (<-zeroValue e).cells (a-(len+n))
   pure (Value.slice (some (<-newRow e (l++new++rest))) (len+n) a):Sem Value)).run P w=.ok v' w'/\
   aZ f (h.new (.cells t2 s2 e 1)) w'/\Ext mu h w f (h.new (.cells t2 s2 e 1)) w'/\aC f (.slice (some ⟨h.n,0,some i.size⟩) (len+n) (len+n)) v':=by
 obtain⟨z,I,O,Q,R⟩:=py ok y {w with drawn:=w.drawn+1};obtain⟨g,m⟩: ∃g,g=(Question.appendCap (len+n) cap' e).cut (w.tape w.drawn (.appendCap (len+n) cap' e)):=⟨_,rfl⟩;have J:len+n<=g:=by grind[Question.cut]
 have p:z.cells.size=i.size:=by grind
 obtain⟨rest,b⟩: ∃rest,rest=Builtin.zeroCells z.cells (g-(len+n)):=⟨_,rfl⟩;have q:rest.size=(g-(len+n))*i.size:=by rw [b];simp [Builtin.zeroCells,p]
 obtain⟨c,k⟩: ∃c,c=old'.toArray++new'.toArray++rest:=⟨_,rfl⟩;have K:c.size=g*i.size:=by rw [k];simp only [Array.size_append,List.size_toArray,D,F,q];rw [<-XY,<-XY];congr 1;omega
 have r:s2<=c.size:=by grind
 have L:aZ mu h {w with drawn:=w.drawn+1}:=uW s rfl;obtain⟨M,N⟩:=pL (x:=.cells t2 s2 e 1) (base:=0) (top:=c.size) (o:=.cells c e) L (jc {w with drawn:=w.drawn+1} (.cells c e)) ⟨c,e,(0,0),rfl,rfl,by omega,G,by
  grind,by omega⟩
 refine⟨.slice (some ⟨w.heap.size,0,none⟩) (len+n) g,_,_,?_,M,(yf (w':={w with drawn:=w.drawn+1}) s rfl rfl rfl rfl).trans N,?_⟩
 . have hf:(Question.appendCap (len+n) cap' e).forced=false:=rfl;simp only [Sem.run_bind,run_choose,hf,Xe,if_false,Result.andThen_ok,run_askRoom,B {w with drawn:=w.drawn+1} rfl,C {w with drawn:=w.drawn+1} rfl,I,<-m,<-b,newRow,run_newObj,Sem.run_pure,<-k]
 simp_all[A7,zO]
theorem yI{ts:Array TypeId}{ty t k e:TypeId}{i:TypeInfo}{base:Option Addr}(b:ts[0]? =some t)(c:ts[1]? =some k)(d:xs[0]? =some (.slice base len cap'))(f:xs[1]? =some x')(g:eS E k=some false)(l:E.und t=some (.slice e))(m:E.ty e=some i)(o:(Builtin.lenOf x').run P w=.ok n w)(p:len+n<=cap'):(Builtin.append_ ts ty xs).run P w=((do
  let new<-Builtin.firstCells i.size n x'
  match base with
   |some a=>do storeCells (a.add (len*i.size)) new.toList;pure (Value.slice base (len+n) cap')
   |none=>pure (Value.slice base (len+n) cap'):Sem Value)).run P w:=by
 have h:E.sz e=some i.size:=by unfold Env.sz;rw [m]
 obtain⟨q,j,r⟩:=AL g;unfold Builtin.append_;simp only [b,c,d,f,Sem.run_bind,bQ ok l,Result.andThen_ok,ez ok h,bQ ok j,Sem.run_pure];cases q<;>first
  |(simp at r;done)
  | (simp only [Xe,if_false,Sem.run_bind,o,Result.andThen_ok,Xx,if_true,if_pos p]
     cases base<;>rfl)
theorem sV{ts:Array TypeId}{ty t l e:TypeId}{i:TypeInfo}{base:Option Addr}(b:ts[0]? =some t)(c:ts[1]? =some l)(d:xs[0]? =some (.slice base len cap'))(f:xs[1]? =some x')(g:eS E l=some false)(o:E.und t=some (.slice e))(m:E.ty e=some i)(p:(Builtin.lenOf x').run P w=.ok n w)(x:0<i.bytes)(q: ¬len+n<=cap')(r: ¬Builtin.nextslicecap (len+n) cap'*i.bytes>2 ^48):(Builtin.append_ ts ty xs).run P w=((do
  let a<-choose (.appendCap (len+n) cap' e)
  askRoom (a*i.bytes)
  let h<-Builtin.firstCells i.size len (.slice base len cap')
  let new<-Builtin.firstCells i.size n x'
  let rest:=Builtin.zeroCells (<-zeroValue e).cells (a-(len+n))
  pure (Value.slice (some (<-newRow e (h++new++rest))) (len+n) a):Sem Value)).run P w:=by
 have j:E.sz e=some i.size:=by unfold Env.sz;rw [m]
 obtain⟨s,k,u⟩:=AL g;have v: ¬(((len+n:Nat):Int)>IntKind.i64.max/\(False\/i.bytes=0)):=by grind
 unfold Builtin.append_;simp only [b,c,d,f,Sem.run_bind,bQ ok o,Result.andThen_ok,ez ok j,bQ ok k,Sem.run_pure];cases s<;>first
  |(simp at u;done)
  | (simp only [Xe,if_false,Sem.run_bind,p,Result.andThen_ok,Xx,if_true,if_neg q,pO ok m,if_neg v,if_neg r,run_choose,show(Question.appendCap (len+n) cap' e).forced=false from rfl]
     try rfl)
theorem D8{h h' : Hp}(B:aZ mu h w){ts:Array TypeId}{ty:TypeId}(G:xs[0]? =some s')(H:xs[1]? =some x')(f:dS E h ts.toList s x=some (h',v))(hs:aC mu s s')(hx:aC mu x x'):
 ∃v' I w',(Builtin.append_ ts ty xs).run P w=.ok v' w'/\aZ I h' w'/\Ext mu h w I h' w'/\aC I v v':=by
 unfold dS at f;cases J:ts.toList with
 |nil=>simp [J]at f| cons t a5 =>
   cases a5 with
   |nil=>simp [J]at f| cons tx bk =>
     have K:ts[0]? =some t:=(by rw [<-Xa,J];rfl);have L:ts[1]? =some tx:=(by rw [<-Xa,J];rfl);simp only [J]at f;cases m:eS E tx with
     |none=>simp [m]at f| some b =>
       cases b with
       |true=>simp [m]at f| false =>
         simp only [m]at f;unfold lZ at f;cases X:E.und t with
         |none=>simp [X]at f| some d=>
           simp only [X]at f;cases d<;>(try simp only []at f)<;>try (cases f;done)
           rename_i e;cases Y:E.ty e with
           |none=>simp [Y]at f| some i=>
             simp only [Y]at f;have a6: ∃a len C,s=.slice a len C:=(by grind);obtain⟨a,len,C,rfl⟩:=a6;simp only []at f;cases T:aR h i.size x with
             |none=>grind| some q=>
               obtain⟨n,D⟩:=q;simp only [T]at f;obtain⟨l1,l2,new',F,l4⟩:=Dk (P:=P) B T hx;unfold ig at f;rw [fQ,fQ,jv]at f;have al: ∃r cap',s'=.slice r len cap'/\C<=cap'/\len<=C:=by
                cases hs with
                |nils=>grind|slice h1 O=>exact⟨some _,_,rfl,O.caps,h1⟩
               obtain⟨r,cap',rfl,bl,bm⟩:=al;by_cases A:len+n<=C
               . simp only [A,decide_true,cond_true]at f;rw [yI ok K L G H m X Y (l2 w) (by omega)];have hf:=l4 w rfl;cases hs with
                 | nils=>
                   simp only []at f;cases f;have ax:n=0:=(by omega);subst ax;exact⟨.slice none 0 0,mu,w,by simp [hf],B,Ext.refl mu h w B,.nils⟩
                 | slice h1 O=>
                   rename_i a r;simp only []at f;simp only [Sem.run_bind,hf,Result.andThen_ok];cases D with
                   | nil=>
                     simp only []at f;cases f;rw [F.nil_left];exact⟨.slice (some r) (len+n) cap',mu,w,by rfl,B,Ext.refl mu h w B,.slice A O⟩
                   | cons x0 xr=>
                     simp only []at f;have ax:n≠0:=(by grind);cases Z:h.store a.block (a.off+len*i.size) (x0::xr)with
                     |none=>simp [Z]at f| some M=>
                       simp only [Z]at f;cases f;have a7:=pW (qS O (by omega)) (len*i.size);obtain⟨w',g1,g2,g3⟩:=sG (P:=P) (a:=iu a (len*i.size)) B a7 Z F;exact⟨.slice (some r) (len+n) cap',mu,w',by simp [g1],g2,g3,.slice A O⟩
               . simp only [A,decide_false,cond_false]at f;by_cases hb:(len+n)*(i.bytes+1)<=70368744177664/\0<i.bytes
                 . simp only [hb.1, hb.2,decide_true,Xm,cond_true]at f;cases hz:E.zero e with
                   |none=>simp [hz]at f| some zs =>
                     simp only [hz,cR]at f;by_cases Q:zs.length=i.size
                     . simp only [Q, decide_true,cond_true]at f;have u: ∀c,c<len+n-> ¬Builtin.nextslicecap (len+n) c*i.bytes>2 ^48:=(by intro c hc;have:=Fw hc;have h3:Builtin.nextslicecap (len+n) c*i.bytes<=3*(len+n)*i.bytes:=Xq _ this;grind);unfold pY at f;cases hs with
                       | nils=>
                         simp only [cR,decide_true,cond_true]at f;cases f;rw [sV ok K L G H m X Y (l2 w) hb.2 (by omega) (u 0 (by omega))];have:=yo ok B (e:=e) (i:=i) hz Q (len:=0) (n:=n) (cap':=0) (s':=.slice none 0 0) (x':=x') (old':=[]) (new':=new') (fun w2 _=>rfl) l4 (by simp) (by rw [<-F.1];exact l1) (t2:=Tr.ofList D) (s2:=D.length) (Tr.sized_ofList _) (by rw [F.1];simp) (by
                          intro j v l;rw [Tr.get_ofList]at l;exact F.get l)
                         grind
                       | slice h1 O=>
                         rename_i a r;simp only []at f;cases hg:h.get a.block with
                         |none=>simp [hg]at f| some y=>
                           simp only [hg]at f;cases y<;>(try simp only []at f)<;>try (cases f;done)
                           rename_i tr sz el md;cases ad:lE tr sz a.off (len*i.size) D with
                           |none=>simp [ad]at f| some p =>
                             obtain⟨t2,s2⟩:=p;simp only [ad]at f;have a8: ∃c g N cs R fz,mu a.block=.blk c g N/\w.heap[c]? =some (.cells cs R fz)/\CRel mu tr sz md g N cs fz:=by
                              unfold fm at O;cases hm:mu a.block with
                              |none=>grind|dead=>have:=B.dead _ hm;grind| blk c g N=>
                                obtain⟨y,o,k1,k2,k3⟩:=B.blk _ c g N hm;rw [hg]at k1;cases k1;obtain⟨cs,R,fz,rfl,k4⟩:=k3;grind
                             obtain⟨c,g,N,cs,R,fz,hm,hw,cr⟩:=a8;obtain⟨q1,q2,q3,q4,q5⟩:=Er cr.sized ad
                             -- the ay cells
                             obtain⟨ay,aL⟩:=Tr.slice_mk (t:=tr) (i:=a.off) (n:=len*i.size) (fun k hk=>by
                              obtain⟨v,l⟩:=Tr.get_some cr.sized (show a.off+k<sz by omega);rw [l];rfl)
                             have af:h.load a.block a.off (len*i.size)=some ay:=(by simp_all[Hp.load,fQ,decide_true,cond_true]);obtain⟨o1,old',o2,o3⟩:=mS (P:=P) B h1 O af;have U: ∀j v,t2.get j=some v-> ∃v',(old'++new')[j]? =some v'/\aC mu v v':=by
                              intro j v l;by_cases S:j<len*i.size
                              . rw [q4 j S,(Tr.slice_spec aL).2 j S]at l;obtain⟨v',V,W⟩:=LR.get o2 l;grind
                              . rw [q5 j (by omega)]at l;obtain⟨v',V,W⟩:=LR.get F l;exact⟨v',by rw [Xs (by rw [<-o2.1,o1];omega),<-o2.1,o1];exact V,W⟩
                             have a0:s2=old'.length+new'.length:=(by rw [<-o2.1,<-F.1,o1];exact q2);cases ai:a.spot with
                             | none=>
                               simp only [ai]at f;cases f;have bn:cap'=C:=(by grind[fm]);rw [sV ok K L G H m X Y (l2 w) hb.2 (by omega) (u cap' (by omega))];exact yo ok B hz Q o3 l4 (by rw [<-o2.1];exact o1) (by rw [<-F.1];exact l1) q3 a0 U
                             | some k' =>
                               simp only [ai,cR]at f;by_cases hk:k'=i.size/\md≠0/\D.all mr=true
                               . obtain⟨rfl,ak,ba⟩:=hk;simp only [ak,ba,decide_true,decide_false,Xx,Xm,cond_true]at f;cases f;have a1: ∀t sz el,h.get a.block≠some (.cells t sz el 0):=(by grind);by_cases z:len+n<=cap'
                                 . -- it fits all the same
                                   rw [yI ok K L G H m X Y (l2 w) z];simp only [Sem.run_bind,l4 w rfl,Result.andThen_ok];have M:=O;unfold fm at M;rw [hm]at M;simp only [ai]at M;obtain⟨s1,bb,s3,s4,s5⟩:=M;have bo:(len+n)*i.size<=cap'*i.size:=Xq _ z;have be:len*i.size+n*i.size=(len+n)*i.size:=(XY _ _ _).symm;have bp:new'.length=n*i.size:=(by rw [<-F.1];exact l1);have bf:=cr.whole;have a2: ∀v∈new',v.oneCell'=true:=(by intro v l;obtain⟨j,S⟩:=List.mem_iff_getElem?.1 l;have bc:j<D.length:=(by grind);have:=F.2 j _ v (Xd bc) S;refine this.flat ?_;grind);have a3:=run_storeCells_cells (P:=P) c (r.off+len*i.size) new' 0 w (fun j S=>by
                                    grind[World.cell?]) (fun j S=>by
                                    simp only [World.frozen?,hw];have:=cr.free ak (r.off+len*i.size+0+j) (by omega);grind) a2
                                   rw [Nat.add_zero]at a3;have bh:r.add (len*i.size)=⟨c,r.off+len*i.size,none⟩:=(by rw [pA _ _ s3,bb]);obtain⟨a4,ws,e2⟩:=Bz (r.off+len*i.size) new' hw;have bd:a4.size=cs.size:=(by grind[sQ]);have hle:Le mu (upd mu a.block .dead):=(by intro b' _;grind[upd_same,a9]);obtain⟨g1,g2⟩:=hrel_move B (x:=.cells t2 s2 e 1) (base2:=r.off) hm a1 ws ⟨a4,R,fz,rfl,by omega,by omega,q3,by
                                    intro j v l;rw [<-Xa,e2,CN _ _ _ _ (show r.off+len*i.size+new'.length<=cs.toList.length by grind)];by_cases S:j<len*i.size
                                    . rw [if_neg (by omega)];rw [q4 j S]at l;obtain⟨v',V,W⟩:=cr.get _ _ l;have bi:r.off=g+a.off:=(by grind);exact⟨v',by grind,W.mono hle⟩
                                    . rw [q5 j (by omega)]at l;obtain⟨v',V,W⟩:=LR.get F l;have bq:j-len*i.size<new'.length:=(List.getElem?_eq_some_iff.1 V).1;rw [if_pos (by omega),show r.off+j-(r.off+len*i.size)=j-len*i.size by omega];exact⟨v',V,W.mono hle⟩,fun _=>by
                                    intro j S;exact cr.free ak j (by omega)⟩
                                   refine⟨.slice (some r) (len+n) cap',_,_,?_,g1,g2,.slice (zO _) ?_⟩
                                   . simp_all
                                   grind[fm,upd_same]
                                 . rw [sV ok K L G H m X Y (l2 w) hb.2 z (u cap' (by omega))];have hle:Le mu (upd mu a.block .dead):=(by intro b' _;grind[upd_same,a9]);obtain⟨k1,k2⟩:=qr B hm a1 (w':=w) ⟨rfl,hw,fun _ _=>rfl,rfl,rfl,rfl⟩;obtain⟨v',I,w',g1,g2,g3,g4⟩:=yo ok k1 hz Q o3 l4 (by rw [<-o2.1];exact o1) (by rw [<-F.1];exact l1) q3 a0 (fun j v l=>by
                                    obtain⟨v',V,W⟩:=U j v l;exact⟨v',V,W.mono hle⟩)
                                   exact⟨v',I,w',g1,g2,k2.trans g3,g4⟩
                               grind
                     grind
                 grind
end
section
variable{E:Env}{P:Program}(ok:EOk E P)
include ok
omit ok in
theorem oE(a b:Nat):dV a b=Xu a b:=by unfold dV;rw [fQ];grind
theorem copyV_run{h h':Hp}(j:aZ mu h w){ts:Array TypeId}{ty:TypeId}(B:xs[0]? =some s')(C:xs[1]? =some x')(c:copyV E h ts.toList s x=some (h',v))(D:aC mu s s')(W:aC mu x x'):
 ∃v' o w',(Builtin.copy_ ts ty xs).run P w=.ok v' w'/\aZ o h' w'/\Ext mu h w o h' w'/\aC o v v':=by
 unfold copyV at c;cases p:ts.toList with
 |nil=>simp [p]at c| cons t X=>
   have F:ts[0]? =some t:=(by rw [<-Xa,p];rfl);simp only [p]at c;cases G:E.und t with
   |none=>simp [G]at c| some d =>
     simp only [G]at c;cases d<;>(try simp only []at c)<;>try (cases c;done)
     rename_i e;cases q:E.sz e with
     |none=>simp [q]at c| some k=>
       simp only [q]at c;have H: ∃a len g,s=.slice a len g:=(by grind);obtain⟨a,len,g,rfl⟩:=H;have A: ∃r n,s'=.slice r len n/\len<=g:=by
        cases D with
        |nils=>grind|slice Y S=>grind
       obtain⟨r,n,rfl,Z⟩:=A;unfold Builtin.copy_;simp only [F,B,C,Sem.run_bind,bQ ok G,Result.andThen_ok];simp only []at c;cases W<;>(try simp only []at c)<;>try (cases c;done)
       . rename_i s;rw [cR]at c;by_cases I:k=1
         . subst I;simp only [decide_true,cond_true]at c;have z:(Builtin.firstCells 1 (Xu s.size len) (.string s)).run P w=.ok ((((aS s).map fun b=>Value.int .u8 (.ofNat b.toNat)).take (dV s.size len)).toArray) w:=(by simp only [Builtin.firstCells,Sem.run_pure];congr 1;apply XD;rw [oE];simp [aS,List.map_take]);have T:VL mu (((aS s).map fun b=>Value.int .u8 (.ofNat b.toNat)).take (dV s.size len)) (((aS s).map fun b=>Value.int .u8 (.ofNat b.toNat)).take (dV s.size len)):=(by rw [<-List.map_take];exact LR.mapSame _ fun b=>.int _ _);generalize((aS s).map fun b=>Value.int .u8 (.ofNat b.toNat)).take (dV s.size len)=l at c z T;cases l with
           | nil=>
             simp only []at c;cases c;refine⟨goInt (Xu s.size len:Nat),mu,w,?_,j,Ext.refl mu h w j,by rw [oE];exact .int _ _⟩;cases r<;>simp [Builtin.lenOf,ez ok q,z,storeCells]
           | cons y J=>
             simp only []at c;cases a with
             |none=>simp at c| some a=>
               cases D with
               | slice q1 K=>
                 rename_i r;simp only []at c;cases f:h.store a.block a.off (y::J)with
                 |none=>simp [f]at c| some L=>
                   simp only [f]at c;cases c;have i:g≠0:=(by intro e0;simp_all[Xu,Nat.min_zero,Builtin.firstCells]);obtain⟨w',M,N,O⟩:=sG (P:=P) j (qS K i) f T;refine⟨goInt (Xu s.size len:Nat),mu,w',?_,N,O,by rw [oE];exact .int _ _⟩;simp [Builtin.lenOf,ez ok q,z,M]
         grind
       . cases c;refine⟨goInt 0,mu,w,?_,j,Ext.refl mu h w j,.int _ _⟩;have:Xu 0 len=0:=Nat.zero_min len;cases r<;>simp [Builtin.lenOf,ez ok q,Builtin.firstCells,this,storeCells]
       . rename_i b b' m cp Q Y S;cases u:h.load b.block b.off (dV m len*k)with
         |none=>simp [u]at c| some l=>
           simp only [u]at c;have R:dV m len<=cp:=(by rw [oE];grind);obtain⟨o1,U,V,o3⟩:=mS (P:=P) j (len:=dV m len) R S u;have z:(Builtin.firstCells k (Xu m len) (.slice (some b') m Q)).run P w=.ok U.toArray w:=(by rw [<-oE];exact o3 w rfl);cases l with
           | nil=>
             simp only []at c;cases c;have:U=[]:=V.nil_left;subst this;refine⟨goInt (Xu m len:Nat),mu,w,?_,j,Ext.refl mu h w j,by rw [oE];exact .int _ _⟩;cases r<;>simp [Builtin.lenOf,ez ok q,z,storeCells]
           | cons y J=>
             simp only []at c;cases a with
             |none=>simp at c| some a=>
               cases D with
               | slice q1 K=>
                 rename_i r;simp only []at c;cases f:h.store a.block a.off (y::J)with
                 |none=>simp [f]at c| some L=>
                   simp only [f]at c;cases c;have i:g≠0:=(by intro e0;simp_all[oE,Xu,Nat.min_zero]);obtain⟨w',M,N,O⟩:=sG (P:=P) j (qS K i) f V;refine⟨goInt (Xu m len:Nat),mu,w',?_,N,O,by rw [oE];exact .int _ _⟩;simp [Builtin.lenOf,ez ok q,z,M]
omit ok in
theorem DY{r:List UInt8}(h:bytesOf l=some r)(a:VL mu l l')(s:ByteArray)(w:World)(m:String):(forIn l' s (fun c s=>match c with| .int .u8 n=>pure (ForInStep.yield (s.push (UInt8.ofNat n.toNat)))|_=>do stuck m;pure (ForInStep.yield s)):Sem ByteArray).run P w=.ok (jg (aS s++r)) w:=by
 induction l generalizing l' r s with
 | nil=>rw [a.nil_left];simp_all[bytesOf,jg,aS]| cons x l f=>
   obtain⟨g,q,rfl,b,i⟩:=a.cons_left;have: ∃n:Nat,x=.int .u8 (n:Int):=(by unfold bytesOf at h;grind);obtain⟨n,rfl⟩:=this;cases b;have d:(match bytesOf l with|none=>none|some r=>some (UInt8.ofNat n::r))=some r:=h;cases e:bytesOf l with
   |none=>simp [e]at d| some j=>simp_all[Xv,Sem.run_bind,Sem.run_pure,Result.andThen_ok,XB,jg,aS]
omit ok in
theorem E9(w:World)(cs:Array Value)(e:TypeId):WNew w ({w with heap:=w.heap.push (.cells cs e)}.freeze {block:=w.heap.size,off:=cs.size} 1) (.cells cs e (cs.size,cs.size+1)):=by
 refine⟨?_,rfl,rfl,rfl⟩;simp only [World.freeze,if_neg (show¬(1:Nat)=0 by omega)];grind
theorem convV_run{h h':Hp}(C:aZ mu h w){i c:TypeId}(t:jJ E h i c x=some (h',v))(M:aC mu x x'):
 ∃v' y w',(convert i c x').run P w=.ok v' w'/\aZ y h' w'/\Ext mu h w y h' w'/\aC y v v':=by
 unfold jJ at t;cases g:cZ E i c with
 |none=>simp [g]at t| some q =>
   obtain⟨n,e⟩:=q;unfold cZ at g;cases G:E.und i with
   |none=>simp [G]at g| some d =>
     simp only [G]at g;have z:(∀e,d≠ .slice e)->n=0-> ∃v' y w',(convert i c x').run P w=.ok v' w'/\aZ y h' w'/\Ext mu h w y h' w'/\aC y v v':=by
      intro N hn;subst hn;have O:cZ E i c=some (0,e):=(by grind[cZ]);simp only [O]at t;cases Q:jM E c x with
      |none=>simp [Q]at t| some u=>
        simp only [Q]at t;cases t;obtain⟨Z,g2⟩:=convP_run ok G N Q M w;grind[Ext.refl]
     cases d<;>(try simp only []at g)<;>(try (cases g;exact z (by intro e R;cases R) rfl))
     case string=>
      cases o:E.und c with
      |none=>simp [o]at g| some S=>
        simp only [o]at g;cases S<;>(try simp only []at g)<;>(try (cases g;exact z (by intro e R;cases R) rfl));rename_i I;cases p:E.und I with
        |none=>simp [p]at g| some T=>
          simp only [p]at g;have D:T=.int .u8/\n=2/\e=I:=(by grind);obtain⟨rfl,rfl,rfl⟩:=D;have F:cZ E i c=some (2,e):=(by grind[cZ]);simp only [F]at t;cases M<;>(try simp only []at t)<;>try (cases t;done)
          rename_i s;rw [fQ]at t;by_cases U:s.size<=1099511627776
          . simp only [U,decide_true,cond_true,bytesV]at t;cases t;obtain⟨H,V⟩: ∃H,H=(Question.appendCap s.size 0 e).cut (w.tape w.drawn (.appendCap s.size 0 e)):=⟨_,rfl⟩;have ai:s.size<=H:=(by grind[Question.cut]);obtain⟨A,J⟩: ∃A:Array Value,A=(s.data.map fun b=>Value.int .u8 b.toNat)++Xo (H-s.size) (.int .u8 0):=⟨_,rfl⟩;have W:A.size=H:=(by simp_all);have N:aZ mu h {w with drawn:=w.drawn+1}:=uW C rfl;have X:=E9 {w with drawn:=w.drawn+1} A e;have ad:(aS s).length=s.size:=rfl;obtain⟨Z,g2⟩:=pL (x:=.cells (Tr.ofList ((aS s).map fun b=>.int .u8 (.ofNat b.toNat))) s.size e 1) (base:=0) (top:=A.size) N X ⟨A,e,(A.size,A.size+1),rfl,rfl,by omega,by
             grind[Tr.sized_ofList,aS,List.length_map],by
             intro j v L;rw [Tr.get_ofList]at L;have hj:j<s.size:=(by grind);refine⟨v,?_,?_⟩
             . rw [XV,<-Xa,J];simp only [Xl,Xr];rw [Xt (by grind)];exact L
             . simp only [List.getElem?_map,Option.map_eq_some_iff]at L;obtain⟨b,_,rfl⟩:=L;exact .int _ _,by omega⟩
            refine⟨.slice (some ⟨w.heap.size,0,none⟩) s.size H,_,_,?_,Z,(yf (w':={w with drawn:=w.drawn+1}) C rfl rfl rfl rfl).trans g2,?_⟩
            . have hf:(Question.appendCap s.size 0 e).forced=false:=rfl;have B:World.shape? {w with drawn:=w.drawn+1,heap:=w.heap.push (.cells A e)} w.heap.size=some (e,A.size):=(by simp [World.shape?]);simp only [convert,Sem.run_bind,bQ ok G,bQ ok o,bQ ok p,Result.andThen_ok,Conv.stringToBytes,run_choose,hf,Xe,if_false,<-V,newRow,run_newObj,Sem.run_pure,<-J,markStringish,run_shape,B,run_freeze]
            simp_all[A7,zO]
          grind
     case slice I=>
      cases o:E.und c with
      |none=>simp [o]at g| some S =>
        simp only [o]at g;cases S<;>(try simp only []at g)<;>try (cases g;done)
        cases p:E.und I with
        |none=>simp [p]at g| some T =>
          simp only [p]at g;have D:T=.int .u8/\n=1/\e=I:=(by grind);obtain⟨rfl,rfl,rfl⟩:=D;have F:cZ E i c=some (1,e):=(by grind[cZ]);simp only [F]at t;cases f:strOf h x with
          |none=>simp [f]at t| some u=>
            simp only [f]at t;cases t;unfold strOf at f;cases M<;>(try simp only []at f)<;>try (cases f;done)
            . cases f;refine⟨.string .empty,mu,w,?_,C,Ext.refl mu h w C,.string _⟩;simp [convert,bQ ok G,bQ ok o,bQ ok p,Conv.bytesToString]
            . rename_i a a' len ak af h1 h2;cases K:h.load a.block a.off len with
              |none=>grind| some l=>
                simp only [K]at f;cases Y:bytesOf l with
                |none=>simp [Y]at f| some r=>
                  simp only [Y]at f;cases f;obtain⟨o1,l',o2,o3⟩:=mS (P:=P) C (len:=len) (k:=1) h1 h2 (by rw [XX];exact K);have o4:=o3 w rfl;simp only [Builtin.firstCells,XX]at o4;have hf:=fun m=>DY (P:=P) Y o2 ByteArray.empty w m;refine⟨.string (jg r),mu,w,?_,C,Ext.refl mu h w C,.string _⟩;simp only [convert,Sem.run_bind,bQ ok G,bQ ok o,bQ ok p,Result.andThen_ok,Conv.bytesToString,o4];rw [List.forIn_toArray];refine(congrArg (fun q=>Result.andThen q (fun a w'=>Sem.run P (pure (Value.string a)) w')) (hf _)).trans ?_;simp [aS]
omit ok in
theorem EY{f:Value}{args:List Value}{nx:dU}{h:Hp}(a:target f args=some nx)(hf:aC mu f e)(i:VL mu args args'.toList):Res P mu h w (do let d<-Deferred.ofValue e args';invoke d.target d.args) h nx:=by
 unfold target at a;cases hf<;>(try simp only []at a)<;>try (cases a;done)
 . rename_i g x j y k l m n o;cases a;refine⟨rfl,j++args'++k,by rfl,?_⟩;simp only [Xl];exact LR.append (LR.append ⟨l,m⟩ i) ⟨n,o⟩
 . rename_i b c p;simp at a;subst a;exact⟨rfl,c,args',by simp [Deferred.ofValue,invoke],p,i⟩
theorem aop_run{h h':Hp}(G:aZ mu h w){B:Operand->Value}(u: ∀x,aC mu (ρ x) (B x)){o:Oper}{nx:dU}(i:aop E ρ h o.op=some (nx,h')):Res P mu h w (execOp B o) h' nx:=by
 have Z: ∀l:List Operand,VL mu (l.map ρ) (l.map B):=fun l=>LR.mapSame l u;have S: ∀{v:Value},pop E ρ o.op=some v->Res P mu h w (execOp B o) h (.val v):=by intro v C;obtain⟨O,F,D⟩:=pop_run ok u C w;exact⟨O,mu,w,F,G,Ext.refl mu h w G,D⟩
 have wr: ∀{r:Option Value},di h r=some (nx,h')-> ∃v,r=some v/\nx=.val v/\h'=h:=by
  intro r N;cases r with
  |none=>cases N
  |some v=>cases N;grind
 have Y: ∀{r:Option (Hp×Value)},dH r=some (nx,h')-> ∃v,r=some (h',v)/\nx=.val v:=by
  intro r N;cases r with
  |none=>cases N
  |some q=>obtain⟨a,b⟩:=q;cases N;grind
 have wu: ∀{r:Option Hp},gC r=some (nx,h')->r=some h'/\nx=.skip:=by
  intro r N;cases r with
  |none=>cases N
  |some q=>cases N;grind
 obtain⟨a0,op,Q,pos,ak,guard⟩:=o;simp only []at i S;unfold execOp;simp only [];cases op
 case load t a=>
  obtain⟨v,C,rfl,rfl⟩:=wr i;obtain⟨O,F,D⟩:=Bu ok G C (u a);exact⟨O,mu,w,by simp [F],G,Ext.refl mu _ w G,D⟩
 case store t a x=>
  obtain⟨C,rfl⟩:=wu i;obtain⟨H,F,D,I⟩:=EO ok G C (u a) (u x);exact⟨mu,H,by simp [F],D,I⟩
 case convert s d x=>
  obtain⟨v,C,rfl⟩:=Y i;obtain⟨O,J,H,F,D,I,U⟩:=convV_run ok G C (u x);exact⟨O,J,H,by simp [F],D,I,U⟩
 case alloc e=>
  simp only [aop]at i;cases hz:E.zero e with
  |none=>simp [hz]at i| some z=>
    simp only [hz]at i;obtain⟨v,C,rfl⟩:=Y i;cases C;obtain⟨zv,z1,z2,z3,z4⟩:=py ok hz w;have N:VL mu z zv.cells.toList:=(by grind[LR.refl,aC.const,Xf]);obtain⟨F,D⟩:=q8 G (el:=e) N (jc w (.cells zv.cells e)) (Tr.sized_ofList z) (Tr.get_ofList z);exact⟨.pointer (some ⟨w.heap.size,0,none⟩),_,_,by simp [Instr.alloc,z1,newVar,newRow],F,D,.ptr (Ae mu h.n w.heap.size 0 _)⟩
 case box e x=>
  simp only [aop]at i;have al: ∀y,ρ x≠ .chan y:=by grind
  have ax:dH (some (tO h (ac (ρ x)) e))=some (nx,h'):=by grind
  obtain⟨v,C,rfl⟩:=Y ax;cases C;have N:=(u x).cells al;obtain⟨F,D⟩:=q8 G (el:=e) N (jc w (.cells (B x).cells e)) (Tr.sized_ofList _) (Tr.get_ofList _);exact⟨.pointer (some ⟨w.heap.size,0,none⟩),_,_,by rfl,F,D,.ptr (Ae mu h.n w.heap.size 0 _)⟩
 case buildSlice t n K=>
  obtain⟨v,C,rfl⟩:=Y i;have hq:PL mu (K.toList.map fun p=>(p.1,ρ p.2)) (K.toList.map fun p=>(p.1,B p.2)):=LR.mapSame _ fun p=>⟨rfl,u p.2⟩;obtain⟨O,J,H,F,D,I,U⟩:=yU ok G C hq;have e:(K.map fun(x:Nat×Operand)=>(x.1,B x.2))=(K.toList.map fun p=>(p.1,B p.2)).toArray:=by apply XD;simp
  refine⟨O,J,H,?_,D,I,U⟩;simp_all
 case makeSlice t l c=>
  obtain⟨v,C,rfl⟩:=Y i;obtain⟨O,J,H,F,D,I,U⟩:=Ag ok G C (u l) (u c);exact⟨O,J,H,by simp [F],D,I,U⟩
 case makeMap t r=>
  cases r with
  |some x=>simp only [aop]at i;obtain⟨v,C,rfl,rfl⟩:=wr i;cases C
  | none=>
    cases i;obtain⟨F,D⟩:=pL (x:=.map [] 0) (base:=0) (top:=0) G (jc w (.map #[] 0)) ⟨rfl,#[],rfl,LR.nil⟩;exact⟨.map (some w.heap.size),_,_,by rfl,F,D,.map (by unfold dZ;rw [upd_same];omega)⟩
 case lookup t m k q=>
  obtain⟨v,C,rfl,rfl⟩:=wr i;obtain⟨O,F,D⟩:=Em ok G C (u m) (u k);exact⟨O,mu,w,by simp [F],G,Ext.refl mu _ w G,D⟩
 case mapUpdate t m k x=>
  obtain⟨C,rfl⟩:=wu i;obtain⟨H,F,D,I⟩:=zn ok G C (u m) (u k) (u x);exact⟨mu,H,by simp [F],D,I⟩
 case insert t m k x=>
  obtain⟨C,rfl⟩:=wu i;obtain⟨H,F,D,I⟩:=zn ok G C (u m) (u k) (u x);exact⟨mu,H,by simp [F],D,I⟩
 case mapEntry t m k=>
  obtain⟨v,C,rfl⟩:=Y i;obtain⟨O,H,F,D,I,U⟩:=EG ok G C (u m) (u k);exact⟨O,mu,H,by simp [F],D,I,U⟩
 case entryStore t m s x=>
  obtain⟨C,rfl⟩:=wu i;obtain⟨H,F,D,I⟩:=Dw (P:=P) (t:=t) G C (u m) (u s) (u x);exact⟨mu,H,by simp [F],D,I⟩
 case panic x=>
  simp only [aop]at i;have V:=u x;revert i;cases N:ρ x<;>intro i<;>(try simp only []at i)<;>try (cases i;done)
  cases i;rw [N]at V;cases R:B x<;>rw [R]at V<;>cases V;rename_i C;exact⟨rfl,_,by simp only [R];rfl,.iface C⟩
 case defer c=>
  simp only [aop]at i;obtain⟨L,A,j⟩:=c;cases L<;>(try simp only []at i)<;>try (cases i;done)
  rename_i f;have V:=u f;revert i;cases N:ρ f<;>intro i<;>(try simp only []at i)<;>try (cases i;done)
  rename_i fn a b;cases fn<;>(try simp only []at i)<;>try (cases i;done)
  rename_i g;cases i;rw [N]at V;cases R:B f<;>rw [R]at V<;>cases V;rename_i a' b' h1 h2 h3 h4;refine⟨rfl,{target:=.fn (.func g) b',args:=a'++A.map B},?_,?_⟩
  . simp only [resolve,R,Deferred.ofValue];simp
  . refine⟨b',rfl,⟨h3,h4⟩,?_⟩;simp only [Xl,Xr];exact LR.append ⟨h1,h2⟩ (Z _)
 case call c=>
  obtain⟨L,A,j⟩:=c;simp only [aop]at i;cases L<;>(try simp only []at i)<;>try (cases i;done)
  case value f=>
   cases W:target (ρ f) (A.toList.map ρ)with
   |none=>simp [W]at i| some x=>
     simp only [W]at i;cases i;have:=EY (P:=P) (h:=h) (w:=w) (args':=A.map B) W (u f) (by simp_all);exact this
  case builtin b =>
   have T: ∀{x:Operand} {l:List Operand},A.toList=x::l->(A.map B)[0]? =some (B x):=(by intro x l e;rw [<-Xa,Xr,e];rfl);have X: ∀{x y:Operand} {l:List Operand},A.toList=x::y::l->(A.map B)[1]? =some (B y):=(by intro x y l e;rw [<-Xa,Xr,e];rfl);have ad: ∀{v:Value},pop E ρ (.call ⟨.builtin b,A,j⟩)=some v->nx=.val v->h'=h->Res P mu h w (do let d<-resolve B ⟨.builtin b,A,j⟩ Q;invoke d.target d.args) h' nx:=(by intro v C e1 e2;subst e1;subst e2;exact S C);cases b
   case append=>
    simp only []at i;cases M:A.toList with
    |nil=>simp [M]at i| cons x l=>
      cases l with
      |nil=>simp [M]at i| cons y l=>
        simp only [M]at i;obtain⟨v,C,rfl⟩:=Y i;obtain⟨O,J,H,F,D,I,U⟩:=D8 ok G (ty:=Q) (T M) (X M) C (u x) (u y);exact⟨O,J,H,by simp [resolve,invoke,builtin,F],D,I,U⟩
   case copy=>
    simp only []at i;cases M:A.toList with
    |nil=>simp [M]at i| cons x l=>
      cases l with
      |nil=>simp [M]at i| cons y l=>
        simp only [M]at i;obtain⟨v,C,rfl⟩:=Y i;obtain⟨O,J,H,F,D,I,U⟩:=copyV_run ok G (ty:=Q) (T M) (X M) C (u x) (u y);exact⟨O,J,H,by simp [resolve,invoke,builtin,F],D,I,U⟩
   case delete=>
    simp only []at i;cases W:j.toList with
    |nil=>simp [W]at i| cons t ts=>
      cases M:A.toList with
      |nil=>grind| cons x l=>
        cases l with
        |nil=>grind| cons y l=>
          simp only [W,M]at i;cases hd:oJ E h t (ρ x) (ρ y)with
          |none=>simp [hd]at i| some h2=>
            simp only [hd]at i;cases i;obtain⟨H,F,D,I⟩:=ET ok G (ty:=Q) (ts:=j) (by rw [<-Xa,W];rfl) (T M) (X M) hd (u x) (u y);exact⟨.tuple #[],mu,H,by simp [resolve,invoke,builtin,F],D,I,.tuple rfl (by grind)⟩
   case recover=>
    simp only []at i;cases i;exact⟨rfl,by rfl⟩
   case len =>
    simp only []at i;cases hp:pop E ρ (.call ⟨.builtin .len,A,j⟩)with
    |some v=>grind| none=>
      simp only [hp]at i;cases M:A.toList with
      |nil=>simp [M]at i| cons x l =>
        simp only [M]at i;have V:=u x;revert i;cases N:ρ x<;>intro i<;>(try simp only []at i)<;>try (cases i;done)
        rename_i r;cases r with
        |none=>simp at i| some r =>
          simp only []at i;rw [N]at V;cases hg:h.get r with
          |none=>simp [hg]at i| some y=>
            simp only [hg]at i;cases y<;>(try simp only []at i)<;>try (cases i;done)
            rename_i es ay;cases W:j.toList with
            |nil=>simp [W]at i| cons t ts=>
              simp only [W]at i;cases hu:E.und t with
              |none=>simp [hu]at i| some d=>
                simp only [hu]at i;cases d<;>(try simp only []at i)<;>try (cases i;done)
                cases i;cases R:B x<;>rw [R]at V<;>cases V;rename_i c aL;obtain⟨top,af,k1,k2,k3⟩:=yR G aL hg;have e0:j[0]? =some t:=(by rw [<-Xa,W];rfl);have e1:=T M;rw [R]at e1;have ai:es.length=af.size:=k3.1;refine⟨.int .i64 af.size,mu,w,?_,G,Ext.refl mu _ w G,by rw [ai];exact .int _ _⟩;have:(Builtin.len_ j Q (A.map B)).run P w=.ok (.int .i64 af.size) w:=(by unfold Builtin.len_;simp only [e0,e1,Sem.run_bind,bQ ok hu,Result.andThen_ok,lj k2];rfl);simp [resolve,invoke,builtin,this]
   all_goals (simp only []at i;obtain⟨v,C,e1,e2⟩:=wr i;exact ad C e1 e2)
 all_goals (simp only [aop]at i;obtain⟨v,C,rfl,rfl⟩:=wr i;exact S C)
end
noncomputable section
structure Loc where
 regs:Tr Value
 dfs:List Deferred
 rc:Option (Value×Bool)
def Loc.ev(l:Loc):Operand->Value
 | .tmp t=>match l.regs.get t with
   |some v=>v|none=>.tuple #[]
 | .const v=>bif dA v then v else poison
 | .global g=>bif Xb g 16 then .pointer (some ⟨g,0,none⟩)else poison
 | .func f=>.func (.func f) #[] #[]
def Loc.put(l:Loc)(d:Option Tmp)(v:Value):Loc:=match d with
 |none=>l|some t=>{l with regs:=l.regs.set t v}
inductive Ex where
 |normal
 |exit (id:Nat)
 |ret
 |pan (v:Value)
inductive Out where
 |ret (v:Value)
 |pan (v:Value)
structure Cx where
 fn:FuncId
 nr:Nat
 round:Option Nat
structure Rec where
 call:FuncId->List Value->Option (Value×Bool)->Hp->Option (Out×Option (Value×Bool)×Hp)
 code:Cx->Code->Loc->Hp->Option (Ex×Loc×Hp)
def qu(a:Tr Value):List Tmp->List Value->Option (Tr Value)
 | [],[]=>some a|t::b,v::c=>qu (a.set t v) b c|_,_=>none
def kT(E:Env)(R:Rec)(b:Nat)(args:List Value)(h:Hp):Option (Out×Hp):=match h.get b with
 | some (.loop r)=>bif (E.fn r.fn).isSome then match r.st with
   | 0 =>match qu r.regs r.params.toList args with
     |none=>none| some c=>match R.code ⟨r.fn,r.nr,some b⟩ r.assign ⟨c,[],none⟩ h with
       | some (.normal,l,e)=>match e.get b with
         | some (.loop f)=>match f.st with
           | 0 =>match R.code ⟨r.fn,r.nr,some b⟩ r.body l (e.put b (.loop {f with st:=1}))with
             | some (.normal,_,a)=>match a.get b with
               |some (.loop d)=>some (.ret (.bool true),a.put b (.loop {d with st:=0,pending:=none}))
               |_=>none
             | some (.exit id,_,a)=>match a.get b with
               |some (.loop d)=>some (.ret (.bool false),a.put b (.loop {d with st:=2,pending:=some (.exit id)}))
               |_=>none
             | some (.ret,_,a)=>match a.get b with
               |some (.loop d)=>some (.ret (.bool false),a.put b (.loop {d with st:=2,pending:=some .ret}))
               |_=>none
             | some (.pan v,g,a)=>match g.dfs with
               | []=>some (.pan v,a)|_=>none
             |none=>none
           |_=>none
         |_=>none
       |_=>none
   |_=>none
   else none
 |_=>none
def cU(ops:List Oper)(c:Tr Value)(o:Oper):Option Bool:=match o.guard with
 |none=>some true| some (j,a)=>match ops[j]? with
   |none=>some false| some e=>match e.dst with
     |none=>some false| some d=>match c.get d with
       |some (.bool b)=>some (bif b then a else !a)
       |some (.tuple _)=>some false|_=>none
def dD(E:Env)(R:Rec):Option (dU×Hp)->Option (Out×Hp)
 |some (.val v,c)=>some (.ret v,c)|some (.skip,c)=>some (.ret (.tuple #[]),c)| some (.call f a,c)=>match R.call f a none c with
   |some (x,_,d)=>some (x,d)|none=>none
 |some (.yield b a,c)=>kT E R b a c|some (.panic v,c)=>some (.pan v,c)|some (.recov,_)=>none|some (.defer _,_)=>none|none=>none
def qa(o:Oper)(l:Loc):Option (Out×Hp)->Option (Ex×Loc×Hp)
 |some (.ret v,a)=>some (.normal,l.put o.dst v,a)|some (.pan v,a)=>some (.pan v,l,a)|none=>none
def fk(E:Env)(R:Rec)(cx:Cx)(o:Oper)(l:Loc)(h:Hp):Option (Ex×Loc×Hp):=match aop E l.ev h o.op with
 | some (.recov,a)=>match cx.round with
   |some _=>none| none=>match l.rc with
     |some (v,false)=>some (.normal,({l with rc:=some (v,true)}:Loc).put o.dst v,a)
     |_=>some (.normal,l.put o.dst .nilIface,a)
 | some (.defer d,a)=>match cx.round with
   |some _=>none|none=>some (.normal,({l with dfs:=d::l.dfs}:Loc).put o.dst (.tuple #[]),a)
 |r=>qa o l (dD E R r)
def js(E:Env)(R:Rec)(cx:Cx)(ops:List Oper):List Oper->Loc->Hp->Option (Ex×Loc×Hp)
 | [],l,h=>some (.normal,l,h)| o ::a,l,h=>match cU ops l.regs o with
   |none=>none|some false=>js E R cx ops a (l.put o.dst (.tuple #[])) h| some true=>match fk E R cx o l h with
     |some (.normal,b,c)=>js E R cx ops a b c|r=>r
def cls(E:Env):Op->Nat
 | .move _| .assign _| .pick .. | .nilCheck _| .binOp .. | .unOp .. | .makeInterface .. | .makeFunc .. | .slice .. | .fieldAddr .. | .field ..
 | .indexAddr .. | .index .. | .extract .. | .build .. | .typeAssert .. =>0| .convert a b _=>match E.und a,E.und b with
   |some (.slice _),_=>1|some .string,some (.slice _)=>4|_,_=>0
 | .load .. | .lookup .. =>1| .store .. | .insert .. | .mapUpdate .. | .mapEntry .. | .entryStore .. =>2
 | .alloc _| .box .. | .buildSlice .. | .makeSlice .. | .makeMap .. =>4| .call c=>match c.callee with
   | .builtin .min| .builtin .max=>0| .builtin .len=>1| .builtin .delete| .builtin .copy=>2
   | .builtin .append=>5|_=>3
 |_=>3
def touch(ρ:Operand->Value):Op->Option Nat
 | .load _ a| .store _ a _=>match ρ a with
   | .pointer (some a)=>some a.block|_=>none
 | .lookup _ m _ _| .insert _ m _ _| .mapUpdate _ m _ _| .mapEntry _ m _| .entryStore _ m _ _=>match ρ m with
   | .map r=>r|_=>none
 | .convert _ _ x=>match ρ x with
   | .slice (some a) _ _=>some a.block|_=>none
 | .call c=>match c.args.toList with
   | x::_=>match ρ x with
     | .map r=>r| .slice (some a) _ _=>some a.block|_=>none
   |_=>none
 |_=>none
def befs :List Oper->List Nat->Option (List Nat)
 | [],a=>some a| o ::b,a=>match(o.after.toList.foldl (fun s e=>match s with
     |none=>none| some s=>match e.ground with
       | .textOnly _=>some s| .gcOnly _=>some s| _=>match a[a.length-1-e.on]? with
         |none=>none|some m=>bif Xb e.on a.length then some (Xg (Xg s (Xh 2 e.on)) m)else none) (some 0))with
   |none=>none|some s=>befs b (s::a)
def lV(ops:List Oper)(o:Oper):List Tmp:=
 o.dst.toList++(o.op.operands.toList.filterMap fun x=>match x with| .tmp t=>some t|_=>none)++
  (match o.guard with
    |none=>[]| some (j,_)=>match ops[j]? with
      |none=>[]|some a=>a.dst.toList)
def pD(t:Nat):List Nat->Bool
 | []=>false|x::l=>zM t x||pD t l
def uQ(ops:List Oper)(o p:Oper):Bool:=
 (match o.dst with|none=>true|some t=>!pD t (lV ops p))&&(match p.dst with|none=>true|some t=>!pD t (lV ops o))
def ra:Op->Op->Bool
 | .mapEntry t _ _,.lookup a _ _ b=>!b&&zM t a|_,_=>false
def dJ:Op->Bool
 | .call c=>match c.callee with
   | .builtin _=>false|_=>true
 |_=>false
def eR:Op->Bool
 | .alloc _=>true|_=>false
def isMk:Op->Bool
 | .makeMap .. =>true|_=>false
def mapArg:Op->Option Tmp
 | .insert _ (.tmp t) _ _=>some t| .mapUpdate _ (.tmp t) _ _=>some t|_=>none
def ul(t:Tmp)(o:Oper):Bool:=match o.dst with
 |some d=>zM d t|none=>false
def atIs(f:Oper->Bool)(ops:List Oper)(k:Nat):Bool:=match ops[k]? with
 |some o=>f o|none=>false
def qy(ops:List Oper)(o:Oper)(n i:Nat):Bool:=match mapArg o.op with
 |some t=>(Xn n).any fun k=>Xb i k&&(atIs (fun p=>isMk p.op&&ul t p) ops k&&(Xn n).all fun j=>Xc j k|| !atIs (ul t) ops j)
 |none=>false
def j9(E:Env)(ops:List Oper)(o:Oper)(m n:Nat):List Oper->Nat->Nat×List (Nat×Nat)->Option (Nat×List (Nat×Nat))
 | [],_,r=>some r| p ::a,i,(q,l)=>bif XZ m i then j9 E ops o m n a (i+1) (q,l)else
   bif uQ ops o p then
    match cls E o.op,cls E p.op with
    |0,_=>j9 E ops o m n a (i+1) (q,l)|_,0=>j9 E ops o m n a (i+1) (q,l)|1,1=>j9 E ops o m n a (i+1) (q,l)|2,1=>j9 E ops o m n a (i+1) (q,bif ra o.op p.op then l else(i,n)::l)
    |1,2=>j9 E ops o m n a (i+1) (q,bif ra p.op o.op then l else(i,n)::l)
    |5,1=>j9 E ops o m n a (i+1) (q,(i,n)::l)|1,5=>j9 E ops o m n a (i+1) (q,(i,n)::l)|3,1=>bif dJ o.op then j9 E ops o m n a (i+1) (q,(i,n)::l)else j9 E ops o m n a (i+1) (Xg (Xh 2 n) q,l)
    |1,3=>bif dJ p.op then j9 E ops o m n a (i+1) (q,(i,n)::l)else j9 E ops o m n a (i+1) (Xg (Xh 2 i) q,l)
    |3,4=>bif dJ o.op&&eR p.op then j9 E ops o m n a (i+1) (q,(i,n)::l)else j9 E ops o m n a (i+1) (Xg (Xh 2 n) q,l)
    |2,3=>bif qy ops o n i then j9 E ops o m n a (i+1) (Xg (Xh 2 i) q,l)else none
    |2,_=>none|_,2=>none|c,d=>j9 E ops o m n a (i+1)
     (Xg (bif zM d 3||zM d 5 then Xh 2 i else 0) (Xg (bif zM c 3||zM c 5 then Xh 2 n else 0) q),l)
   else none
def xk(E:Env)(ops:List Oper):List Oper->List Nat->Nat->Nat×List (Nat×Nat)->Option (Nat×List (Nat×Nat))
 | [],_,_,r=>some r| o::a,m::b,n,r=>match j9 E ops o m n (ops.take n) 0 r with
   |none=>none|some (q,l)=>xk E ops a b (n+1) (bif zM (cls E o.op) 4 then Xg (Xh 2 n) q else q,l)
 |_,[],_,_=>none
def kH(E:Env)(ops:List Oper):Option (Nat×List (Nat×Nat)):=match befs ops []with
 |none=>none|some a=>xk E ops ops a.reverse 0 (0,[])
def tmpsOf:List Operand->List Tmp
 | []=>[]| .tmp t::l=>t::tmpsOf l|_::l=>tmpsOf l
def Loc.evD(l:Loc)(ts:List Tmp):Operand->Value
 | .tmp t=>bif pD t ts then l.ev (.tmp t)else poison
 |x=>l.ev x
def fZ(E:Env)(q i:Nat)(o:Op):Bool:=XZ q i&&Xc 3 (cls E o)
def dp(E:Env)(R:Rec)(ρ:Operand->Value)(a:Bool)(o:Oper)(h:Hp):Option (Value×Hp):=
 bif a then
  match dD E R (aop E ρ {h with lo:=h.n} o.op)with
  |some (.ret v,b)=>bif Xc h.n b.lo then some (v,{b with lo:=h.lo})else none
  |_=>none
 else match dD E R (aop E ρ h o.op)with
  |some (.ret v,b)=>some (v,b)|_=>none
inductive Tch where
 |blk (b:Nat)
 |run (h h':Hp)
def jo(ρ:Operand->Value)(op:Op)(h:Hp):Option Nat:=bif eR op then some h.n else touch ρ op
def cH(ρ:Operand->Value)(a:Bool)(op:Op)(h h':Hp):Option Tch:=
 bif dJ op then(bif a then none else some (.run h h'))else match jo ρ op h with
  |none=>none|some b=>some (.blk b)
def gG(i:Nat)(a:List (Nat×Tch)):Option Tch->List (Nat×Tch)
 |none=>a|some b=>(i,b)::a
def bW(E:Env)(R:Rec)(ops:List Oper)(q:Nat):List Oper->Nat->Loc->Hp->List (Nat×Tch)->Option (Loc×Hp×List (Nat×Tch))
 | [],_,l,h,a=>some (l,h,a)| o ::b,i,l,h,a=>match cU ops l.regs o with
   |none=>none|some false=>bW E R ops q b (i+1) (l.put o.dst (.tuple #[])) h a| some true=>match dp E R (l.evD (tmpsOf o.op.operands.toList)) (fZ E q i o.op) o h with
     |none=>none|some (v,c)=>bW E R ops q b (i+1) (l.put o.dst v) c (gG i a (cH (l.evD (tmpsOf o.op.operands.toList)) (fZ E q i o.op) o.op h c))
def cP(i:Nat):List (Nat×Tch)->Option Tch
 | []=>none|(k,b)::l=>bif zM i k then some b else cP i l
def sameAddr(a b:Addr):Bool:=zM a.block b.block&&zM a.off b.off&&(match a.spot,b.spot with
 |none,none=>true|some i,some j=>zM i j|_,_=>false)
def th(a b:Value):Bool:=match cD a b with
 |some t=>t| none=>match a,b with
   | .pointer none,.pointer none=>true| .pointer (some x),.pointer (some y)=>sameAddr x y| .slice none n m,.slice none c d=>zM n c&&zM m d| .slice (some x) n m,.slice (some y) c d=>sameAddr x y&&(zM n c&&zM m d)| .map none,.map none=>true| .map (some x),.map (some y)=>zM x y| .nilFunc,.nilFunc=>true| .nilIface,.nilIface=>true|_,_=>false
def vg:List Value->List Value->Bool
 | [],[]=>true|x::l,y::m=>th x y&&vg l m|_,_=>false
def zF(a b:Value):Bool:=match a,b with
 | .func (.func g) x y,.func (.func c) d e=>zM g c&&(vg x.toList d.toList&&vg y.toList e.toList)| .iface t x,.iface f y=>zM t f&&th x y|_,_=>th a b
def sameT:Tr Value->Tr Value->Bool
 | .nil,.nil=>true| .node x l r,.node a b c=>zF x a&&(sameT l b&&sameT r c)|_,_=>false
def sameE:List (Value×Value×Nat)->List (Value×Value×Nat)->Bool
 | [],[]=>true|(k,x,n)::l,(a,y,m)::b=>th k a&&(zF x y&&(zM n m&&sameE l b))|_,_=>false
def sameB(x y:Blk):Bool:=(match x,y with
 | .cells t n e m,.cells b d f g=>sameT t b&&(zM n d&&(zM e f&&zM m g))| .map h c,.map a i=>zM c i&&sameE h a|_,_=>false)|| @decide (x=y) (Classical.propDecidable _)
def leaves(h h':Hp)(b:Nat):Bool:=match h.get b,h'.get b with
 |some x,some y=>sameB x y|none,none=>true|_,_=>false
def iS:Option Tch->Option Tch->Bool
 |some (.blk a),some (.blk b)=>!Nat.beq a b|some (.blk a),some (.run h c)=>leaves h c a|some (.run h c),some (.blk a)=>leaves h c a|some (.run _ _),some (.run _ _)=>false|_,_=>true
def c8(a:List (Nat×Tch)):List (Nat×Nat)->Bool
 | []=>true|(i,j)::l=>iS (cP i a) (cP j a)&&c8 a l
def vJ(o:Oper):Bool:=eR o.op&&o.guard.isNone
def zq(ops:List Oper)(i:Nat):Bool:=match ops[i]? with
 |some o=>vJ o|none=>false
def lates:List Oper->List Bool->List Bool
 | [],a=>a|o::b,a=>lates b ((isMk o.op||o.after.toList.any fun e=>Xb e.on a.length&&a.getD (a.length-1-e.on) false)::a)
def uL(ops:List Oper):Bool:=ops.any (fun o=>dJ o.op)&&(ops.any (fun o=>isMk o.op)&&ops.any fun o=>(mapArg o.op).isSome)
def lateAt(ops:List Oper)(i:Nat):Bool:=uL ops&&(lates ops []).reverse.getD i false
def ordL(ops:List Oper):List Nat:=(Xn ops.length).filter (zq ops)++((Xn ops.length).filter (fun i=>!zq ops i&& !lateAt ops i)++(Xn ops.length).filter fun i=>!zq ops i&&lateAt ops i)
def eX(i:Nat):List Nat->Nat
 | []=>0|x::l=>bif zM i x then 0 else eX i l+1
def ou(ord:List Nat)(o:Oper):Oper:={o with after:=o.after.map fun e=>{e with on:=eX e.on ord},guard:=match o.guard with
 |none=>none|some (j,w)=>some (eX j ord,w)}
def dW(ops:List Oper)(ord:List Nat):List Nat->List Oper
 | []=>[]| i::l=>match ops[i]? with
   |none=>dW ops ord l|some o=>ou ord o::dW ops ord l
def jx(n:Nat)(o:Oper):Bool:=match o.guard with
 |none=>true|some (j,_)=>Xb j n
def bV(ops:List Oper):List Oper:=bif (ops.any vJ||uL ops)&&ops.all (jx ops.length)then dW ops (ordL ops) (ordL ops)else ops
def fullM(ops:List Oper)(n:Nat):Bool:=match befs ops []with
 |some (m::_)=>(Xn n).all fun i=>XZ m i
 |_=>false
def lG(ops:List Oper)(n:Nat):Bool:=fullM ops n&&(ops.take n).all (jx n)
def tail2(ops:List Oper):Bool:=match ops.reverse with
 |a::b::_=>!dJ a.op&&dJ b.op|_=>false
def cutN(ops:List Oper):Nat:=bif tail2 ops&&lG (ops.take (ops.length-1)) (ops.length-1-1)then ops.length-1-1 else ops.length-1
def v9(E:Env)(R:Rec)(cx:Cx)(ops:List Oper)(l:Loc)(h:Hp):Option (Ex×Loc×Hp):=bif lG ops (ops.length-1)then
    match kH E (bV (ops.take (cutN ops)))with
    |none=>none| some (q,a)=>match bW E R (bV (ops.take (cutN ops))) q (bV (ops.take (cutN ops))) 0 l h []with
      |none=>none|some (b,c,d)=>bif c8 d a then js E R cx ops (ops.drop (cutN ops)) b c else none
 else none
def rH:Value->Bool
 | .int _ _=>true|_=>false
def insK(t:Tmp)(o:Oper):Option (TypeId×Value):=match o.op with
 | .insert a (.tmp b) (.const k) _=>bif zM b t&&(o.dst.isNone&&rH k)then some (a,k)else none
 |_=>none
def wW(x y:Value):Bool:=match cD x y with
 |some b=>!b|none=>false
def Ar(ty:TypeId):Op->Bool
 | .lookup a _ _ _=>zM a ty|_=>false
def Aa(E:Env)(ty:TypeId)(t:Tmp)(o:Oper):Bool:=!ul t o&&(zM (cls E o.op) 0||Ar ty o.op)
def rX(E:Env)(os:List Oper)(i:Nat):Option Tmp:=match os[i]?,os[i+1]?,os[i+2]? with
 | some m,some a,some b=>match m.dst with
   | some t=>match insK t a,insK t b with
     |some (c,x),some (d,y)=>bif isMk m.op&&(zM c d&&(wW x y&&(wW y x&&((os.drop (i+3)).all (Aa E c t)&&os.all fun o=>o.guard.isNone))))then some t else none
     |_,_=>none
   |none=>none
 |_,_,_=>none
def oW(os:List Oper):Nat:=os.findIdx fun o=>isMk o.op
def swN(k i:Nat):Nat:=bif zM i k then k+1 else bif zM i (k+1)then k else i
def jq(n k:Nat):List Nat:=(Xn n).map (swN k)
def tie(k i:Nat)(o:Oper):Oper:=bif zM i (k+1)then {o with after:=o.after.push ⟨k,.data⟩}else o
def oL(os:List Oper)(k:Nat):List Oper:=os.mapIdx (tie k)
def rI(E:Env)(ops:List Oper):Bool:=(rX E (bV ops) (oW (bV ops))).isSome
def w7(E:Env)(os:List Oper):Option (Nat×List (Nat×Nat)):=match rX E os (oW os),befs os [],kH E (oL os (oW os+1)),kH E (oL (dW os (jq os.length (oW os+1)) (jq os.length (oW os+1))) (oW os+1))with
 |some _,some _,some (q,b),some (c,a)=>bif zM q c then some (q,b++a)else none
 |_,_,_,_=>none
def qh(t:Option Tmp)(l:Loc)(h:Hp):Option Hp:=match t with
 | some t=>match l.ev (.tmp t)with
   | .map (some b)=>match h.get b with
     |some (.map _ _)=>some (h.put b .dead)|_=>none
   |_=>none
 |none=>none
def forkD(E:Env)(R:Rec)(ops:List Oper)(l:Loc)(h:Hp):Option (Ex×Loc×Hp):=match w7 E (bV ops)with
 |none=>none| some (q,b)=>match bW E R (bV ops) q (bV ops) 0 l h []with
   |none=>none| some (a,c,d)=>bif c8 d b then(match qh (rX E (bV ops) (oW (bV ops))) a c with
     |some e=>some (.normal,a,e)|none=>none)else none
def cutD(E:Env)(R:Rec)(cx:Cx)(ops:List Oper)(l:Loc)(h:Hp):Option (Ex×Loc×Hp):=bif rI E ops then forkD E R ops l h else v9 E R cx ops l h
def jI(R:Rec)(cx:Cx)(f:Value)(params:Array Tmp)(assign body:Code)(l:Loc)(h:Hp):Option (Ex×Loc×Hp):=
 match f with
 | .func (.func g) a b=>
   match(match cx.round with
    |none=>some (h.new .dfr,h.n,({target:=.collected h.n,args:=#[]}:Deferred)::l.dfs)| some r=>match h.get r with
      |some (.loop x)=>some (h,x.defers,l.dfs)|_=>none)with
   |none=>none| some (e,d,c)=>
     match R.call g (a.toList++[.func (.yield e.n) #[] #[]]++b.toList) none
      (e.new (.loop {fn:=cx.fn,regs:=l.regs,nr:=cx.nr,params,assign,body,st:=0,pending:=none,defers:=d}))with
     |none=>none|some (.pan v,_,i)=>some (.pan v,{l with dfs:=c},i)
     | some (.ret _,_,i)=>match i.get e.n with
       | some (.loop x)=>match x.st with
         |1=>none| _=>match x.pending with
           |none=>some (.normal,{l with dfs:=c},i.put e.n .dead)
           |some (.exit id)=>some (.exit id,{l with dfs:=c},i.put e.n .dead)
           |some .ret=>some (.ret,{l with dfs:=c},i.put e.n .dead)
           |_=>none
       |_=>none
 |_=>none
def aT(E:Env)(R:Rec)(cx:Cx):Code->Loc->Hp->Option (Ex×Loc×Hp)
 | .skip,l,h=>some (.normal,l,h)| .label _,l,h=>some (.normal,l,h)| .region _ d m,l,h=>bif m then
  bif E.cut cx.fn then cutD E R cx d.toList l h else match kH E (bV d.toList)with
  |none=>none| some (q,o)=>match bW E R (bV d.toList) q (bV d.toList) 0 l h []with
    |none=>none|some (j,k,p)=>bif c8 p o then some (.normal,j,k)else none
   else js E R cx d.toList d.toList l h
 | .seq a b,l,h=>match aT E R cx a l h with
   |some (.normal,j,k)=>aT E R cx b j k|r=>r
 | .cond c a b,l,h=>match l.ev c with
   | .bool t=>bif t then aT E R cx a l h else aT E R cx b l h
   |_=>none
 | .block id b,l,h=>match aT E R cx b l h with
   |some (.exit i,j,k)=>bif zM i id then some (.normal,j,k)else some (.exit i,j,k)
   |r=>r
 | .loop b,l,h=>match aT E R cx b l h with
   |some (.normal,j,k)=>R.code cx (.loop b) j k|r=>r
 | .rangeFunc f e g n,l,h=>jI R cx (l.ev f) e g n l h| .exit id,l,h=>some (.exit id,l,h)| .scope b,l,h=>aT E R cx b l h| .goto _,_,_=>none| .ret,l,h=>some (.ret,l,h)| .refuse _,_,_=>none
def cI(R:Rec):List Deferred->Option Value->Hp->Option (Option Value×Hp)
 | [],m,h=>some (m,h)| d ::a,m,h=>match d.target with
   | .collected b=>match h.get b with
     |some .dfr=>cI R a m (h.put b .dead)|_=>none
   | .fn (.func f) c=>match R.call f (d.args.toList++c.toList) (match m with|none=>none|some v=>some (v,false)) h with
     | some (.ret _,g,e)=>match m,g with
       |none,none=>cI R a none e|some _,some (_,true)=>cI R a none e|some _,some (v,false)=>cI R a (some v) e|_,_=>none
     |_=>none
   |_=>none
def bS(E:Env)(b:Tr Value)(h:Hp):List ResultVar->Option (List Value)
 | []=>some []| .tmp t::c=>match bS E b h c with
   |none=>none|some l=>some ((match b.get t with|some v=>v|none=>.tuple #[])::l)
 | .cell a t::c=>match gw E h t (match b.get a with|some v=>v|none=>.tuple #[])with
   |none=>none| some v=>match bS E b h c with
     |none=>none|some l=>some (v::l)
def aa:List Value->Value
 | [v]=>v|l=>.tuple ⟨l⟩
def mO(E:Env)(R:Rec)(f:FuncId)(args:List Value)(rc:Option (Value×Bool))(h:Hp):Option (Out×Option (Value×Bool)×Hp):=
 match E.fn f with
 |none=>none| some b=>match b.body with
   |none=>none| some c=>
     bif Xc args.length b.ntmps then
     match R.code ⟨f,b.ntmps,none⟩ c ⟨(Tr.blank (.tuple #[]) b.ntmps b.ntmps).setAll 0 args,[],rc⟩ h with
     |none=>none|some (.exit _,_,_)=>none| some (.pan v,l,d)=>match cI R l.dfs (some v) d with
       |none=>none|some (some v,a)=>some (.pan v,l.rc,a)| some (none,a)=>match bS E l.regs a b.results.toList with
         |none=>none|some e=>some (.ret (aa e),l.rc,a)
     | some (_,l,d)=>match cI R l.dfs none d with
       | some (none,a)=>match bS E l.regs a b.results.toList with
         |none=>none|some e=>some (.ret (aa e),l.rc,a)
       |_=>none
     else none
def jO(E:Env)(R:Rec)(f:FuncId)(args:List Value)(rc:Option (Value×Bool))(h:Hp):Option (Out×Option (Value×Bool)×Hp):=
 match E.orc f args with
 |none=>mO E R f args rc h| some v=>match rc with
   |none=>some (.ret v,none,h)|some _=>none
def next(E:Env)(R:Rec):Rec:={call:=jO E R,code:=aT E R}
def bot:Rec:={call:=fun _ _ _ _=>none,code:=fun _ _ _ _=>none}
def run(E:Env):Nat->Rec
 |0=>bot|n+1=>next E (run E n)
end
structure FC where
 fn:FuncId
 kind:CallKind
 round:Option Nat
variable{F:FC}
def FC.mk'(F:FC)(tmps:Array Value)(dfs:List Deferred)(todo:List Item):Frame:=
 {fn:=F.fn,tmps,todo,defers:=dfs,mode:=.run,kind:=F.kind,roundOf:=F.round}
section steps
variable{P:Program}{F:FC}{tmps:Array Value}{dfs:List Deferred}{k:List Item}{cs:List Frame}{w:World}
theorem st_skip:step P (lone (F.mk' tmps dfs (.code .skip::k)) cs w)=.next (lone (F.mk' tmps dfs k) cs w):=step_lone_go (by rfl)
theorem st_label{l:Nat}:step P (lone (F.mk' tmps dfs (.code (.label l)::k)) cs w)=.next (lone (F.mk' tmps dfs k) cs w):=step_lone_go (by rfl)
theorem EE:step P (lone (F.mk' tmps dfs (.inBlock id::k)) cs w)=.next (lone (F.mk' tmps dfs k) cs w):=step_lone_go (by rfl)
theorem Fm{b:Code}:step P (lone (F.mk' tmps dfs (.inScope b::k)) cs w)=.next (lone (F.mk' tmps dfs k) cs w):=step_lone_go (by rfl)
theorem st_seq{a b:Code}:step P (lone (F.mk' tmps dfs (.code (.seq a b)::k)) cs w)=.next (lone (F.mk' tmps dfs (.code a:: .code b::k)) cs w):=step_lone_go (by rfl)
theorem st_block{b:Code}:step P (lone (F.mk' tmps dfs (.code (.block id b)::k)) cs w)=.next (lone (F.mk' tmps dfs (.code b:: .inBlock id::k)) cs w):=step_lone_go (by rfl)
theorem st_loop{b:Code}:step P (lone (F.mk' tmps dfs (.code (.loop b)::k)) cs w)=.next (lone (F.mk' tmps dfs (.code b:: .inLoop b::k)) cs w):=step_lone_go (by rfl)
theorem st_inLoop{b:Code}:step P (lone (F.mk' tmps dfs (.inLoop b::k)) cs w)=.next (lone (F.mk' tmps dfs (.code b:: .inLoop b::k)) cs w):=step_lone_go (by rfl)
theorem st_scope{b:Code}:step P (lone (F.mk' tmps dfs (.code (.scope b)::k)) cs w)=.next (lone (F.mk' tmps dfs (.code b:: .inScope b::k)) cs w):=step_lone_go (by rfl)
theorem st_exit{k':List Item}(h:exitTo id k=some k'):step P (lone (F.mk' tmps dfs (.code (.exit id)::k)) cs w)=.next (lone (F.mk' tmps dfs k') cs w):=step_lone_go (by simp [stepG,stepG.exec,FC.mk',h])
theorem st_region:step P (lone (F.mk' tmps dfs (.code (.region id ops false)::k)) cs w)=.next (lone (F.mk' tmps dfs (.inRegion ops (Xn ops.size)::k)) cs w):=step_lone_go (by rfl)
theorem tE:step P (lone (F.mk' tmps dfs (.code (.region id ops true)::k)) cs w)=
 .next (lone (F.mk' tmps dfs (.inRegion ops (Region.schedule (P.follows .mixedOrders) ops (w.tape w.drawn (.order F.fn id)))::k)) cs {w with drawn:=w.drawn+1}):=
 step_lone_go (by rfl)
theorem qI:step P (lone (F.mk' tmps dfs (.inRegion ops []::k)) cs w)=.next (lone (F.mk' tmps dfs k) cs w):=step_lone_go (by rfl)
def dX(tmps:Array Value):Operand->Value
 | .tmp t=>tmps.getD t undef| .const v=>v| .global g=>.pointer (some ⟨g,0,none⟩)| .func f=>.func (.func f) #[] #[]
theorem Aj(todo:List Item):(F.mk' tmps dfs todo).eval=dX tmps:=by rfl
theorem st_cond{c:Operand}{a b:Code}{t:Bool}(h:dX tmps c=.bool t):step P (lone (F.mk' tmps dfs (.code (.cond c a b)::k)) cs w)=.next (lone (F.mk' tmps dfs (.code (if t then a else b)::k)) cs w):=
 step_lone_go (by
  have:=congrFun (Aj (F:=F) (tmps:=tmps) (dfs:=dfs) (.code (.cond c a b)::k)) c;simp_all[FC.mk',stepG,stepG.exec])
def iI(tmps:Array Value)(d:Option Tmp)(v:Value):Array Value:=match d with
 |some d=>tmps.setIfInBounds d v|none=>tmps
theorem mH(v:Value):(F.mk' tmps dfs (.inRegion ops (i::rest)::k)).finish v=F.mk' (iI tmps ((ops[i]?).bind (·.dst)) v) dfs (.inRegion ops rest::k):=by rfl
theorem zj(h:((ops[i]?).map (Region.wanted · (yielded ops tmps))).getD false=false):step P (lone (F.mk' tmps dfs (.inRegion ops (i::rest)::k)) cs w)=.next (lone (F.mk' (iI tmps ((ops[i]?).bind (·.dst)) undef) dfs (.inRegion ops rest::k)) cs w):=by
 rw [<-mH];exact step_lone_go (by
  simp_all[FC.mk',stepG,stepG.exec])
theorem qs{o:Oper}(a:ops[i]? =some o)(b:Region.wanted o (yielded ops tmps)=true)(d:F.round=none\/ ∀c,o.op≠ .defer c):stepG P true {frame:=F.mk' tmps dfs (.inRegion ops (i::rest)::k),callers:=cs,status:=.running,dying:=none} w=
  stepG.apply P true (F.mk' tmps dfs (.inRegion ops (i::rest)::k)) cs none (execOp (dX tmps) o) w:=by
 grind[Aj,FC.mk',stepG,stepG.exec,stepG.oper,Frame.oper?]
section op
variable{ops:Array Oper}{i:Nat}{rest:List Nat}{o:Oper}{w':World}
theorem DE(a:ops[i]? =some o)(b:Region.wanted o (yielded ops tmps)=true)(d:F.round=none\/ ∀c,o.op≠ .defer c)(e:(execOp (dX tmps) o).run P w=.ok (.value v) w'):step P (lone (F.mk' tmps dfs (.inRegion ops (i::rest)::k)) cs w)=.next (lone (F.mk' (iI tmps o.dst v) dfs (.inRegion ops rest::k)) cs w'):=by
 have:F.mk' (iI tmps o.dst v) dfs (.inRegion ops rest::k)=(F.mk' tmps dfs (.inRegion ops (i::rest)::k)).finish v:=by rw [mH,a];rfl
 rw [this];exact step_lone_go (by rw [qs a b d];simp [stepG.apply,e])
theorem st_opskip(a:ops[i]? =some o)(b:Region.wanted o (yielded ops tmps)=true)(d:F.round=none\/ ∀c,o.op≠ .defer c)(e:(execOp (dX tmps) o).run P w=.ok .skip w'):step P (lone (F.mk' tmps dfs (.inRegion ops (i::rest)::k)) cs w)=.next (lone (F.mk' (iI tmps o.dst undef) dfs (.inRegion ops rest::k)) cs w'):=by
 have:F.mk' (iI tmps o.dst undef) dfs (.inRegion ops rest::k)=(F.mk' tmps dfs (.inRegion ops (i::rest)::k)).finish undef:=by rw [mH,a];rfl
 rw [this];exact step_lone_go (by rw [qs a b d];simp [stepG.apply,e])
theorem st_enter(a:ops[i]? =some o)(b:Region.wanted o (yielded ops tmps)=true)(d:F.round=none\/ ∀c,o.op≠ .defer c){f:FuncId}(e:(execOp (dX tmps) o).run P w=.ok (.enter f args) w'):step P (lone (F.mk' tmps dfs (.inRegion ops (i::rest)::k)) cs w)=.next (lone (Frame.enter P f args .normal) (F.mk' tmps dfs (.inRegion ops (i::rest)::k)::cs) w'):=
 step_lone_go (by rw [qs a b d];simp [stepG.apply,e,FC.mk'])
theorem st_round(e:ops[i]? =some o)(g:Region.wanted o (yielded ops tmps)=true)(h:F.round=none\/ ∀c,o.op≠ .defer c){l:Nat}{f:FuncId}{d:Array Value}{a b:Code}(j:(execOp (dX tmps) o).run P w=.ok (.round l f d a b) w'):step P (lone (F.mk' tmps dfs (.inRegion ops (i::rest)::k)) cs w)=.next (lone (Frame.round l f d a b .normal) (F.mk' tmps dfs (.inRegion ops (i::rest)::k)::cs) w'):=
 step_lone_go (by rw [qs e g h];simp [stepG.apply,j,FC.mk'])
theorem st_defer(a:ops[i]? =some o)(b:Region.wanted o (yielded ops tmps)=true)(c:F.round=none){d:Deferred}(e:(execOp (dX tmps) o).run P w=.ok (.defer d) w'):step P (lone (F.mk' tmps dfs (.inRegion ops (i::rest)::k)) cs w)=.next (lone (F.mk' (iI tmps o.dst undef) (d::dfs) (.inRegion ops rest::k)) cs w'):=by
 have:F.mk' (iI tmps o.dst undef) (d::dfs) (.inRegion ops rest::k)=(F.mk' tmps (d::dfs) (.inRegion ops (i::rest)::k)).finish undef:=by rw [mH,a];rfl
 rw [this];exact step_lone_go (by rw [qs a b (.inl c)];simp [stepG.apply,e,FC.mk'])
theorem st_panic(a:ops[i]? =some o)(b:Region.wanted o (yielded ops tmps)=true)(d:F.round=none\/ ∀c,o.op≠ .defer c)(e:(execOp (dX tmps) o).run P w=.halt (.panic v) w'):step P (lone (F.mk' tmps dfs (.inRegion ops (i::rest)::k)) cs w)=.next (lone {F.mk' tmps dfs (.inRegion ops (i::rest)::k)with mode:=.panicking [{v,recovered:=false}]} cs w'):=
 step_lone_go (by rw [qs a b d];simp [stepG.apply,e,Frame.raise,FC.mk'])
theorem za(a:ops[i]? =some o)(d:Region.wanted o (yielded ops tmps)=true)(b:F.round=none)(e:(execOp (dX tmps) o).run P w=.ok .recover w')(f:tryRecover (F.mk' tmps dfs (.inRegion ops (i::rest)::k)) cs=none):step P (lone (F.mk' tmps dfs (.inRegion ops (i::rest)::k)) cs w)=.next (lone (F.mk' (iI tmps o.dst .nilIface) dfs (.inRegion ops rest::k)) cs w'):=by
 have:F.mk' (iI tmps o.dst .nilIface) dfs (.inRegion ops rest::k)=(F.mk' tmps dfs (.inRegion ops (i::rest)::k)).finish .nilIface:=by rw [mH,a];rfl
 rw [this];have c:(F.mk' tmps dfs (.inRegion ops (i::rest)::k)).roundOf=none:=b;exact step_lone_go (by simp_all[qs,stepG.apply])
theorem zJ(b:ops[i]? =some o)(e:Region.wanted o (yielded ops tmps)=true)(c:F.round=none)(f:(execOp (dX tmps) o).run P w=.ok .recover w'){a:List Frame}(g:tryRecover (F.mk' tmps dfs (.inRegion ops (i::rest)::k)) cs=some (v,a)):step P (lone (F.mk' tmps dfs (.inRegion ops (i::rest)::k)) cs w)=.next (lone (F.mk' (iI tmps o.dst v) dfs (.inRegion ops rest::k)) a w'):=by
 have:F.mk' (iI tmps o.dst v) dfs (.inRegion ops rest::k)=(F.mk' tmps dfs (.inRegion ops (i::rest)::k)).finish v:=by rw [mH,b];rfl
 rw [this];have d:(F.mk' tmps dfs (.inRegion ops (i::rest)::k)).roundOf=none:=c;exact step_lone_go (by simp_all[qs,stepG.apply])
end op
structure LeaveP(P:Program)(fr:Frame)(kind:CallKind)(v:Value):Prop where
 mode:fr.mode=.panicking [{v,recovered:=false}]
 defers:fr.defers=[]
 kind:fr.kind=kind
 fn: ∃fn,P.funcs[fr.fn]? =some fn
theorem Cv{a c:Frame}(h:te P a w .normal v):step P (lone a (c::cs) w)=.next (lone (c.finish v) cs w):=by obtain⟨d,hf,b⟩:=h.res;exact step_lone_go (by simp [stepG,unwind,doReturn,h.mode,h.defers,h.kind,hf,b])
theorem pu{b c:Frame}{a:CallKind}(h:LeaveP P b a v):step P (lone b (c::cs) w)=.next (lone (c.raise [{v,recovered:=false}]) cs w):=by obtain⟨d,hf⟩:=h.fn;exact step_lone_go (by simp [stepG,unwind,Frame.catches,h.mode,h.defers,hf])
end steps
section
variable{P:Program}{F:FC}{tmps:Array Value}{dfs:List Deferred}{k:List Item}{cs:List Frame}{w:World}
def setW(w:World)(c:Nat)(o:Obj):World:={w with heap:=w.heap.setIfInBounds c o}
def Plain:Obj->Prop
 | .cells .. =>False|_=>True
theorem qT(a:w.heap[c]? =some q)(hq:Plain q):(setObj c o).run P w=.ok () (setW w c o):=by cases q<;>first|exact hq.elim|simp [setObj,Sem.run,a,setW]
theorem zK(a:w.heap[c]? =some q)(hq:Plain q):(getObj c).run P w=.ok q w:=by cases q<;>first|exact hq.elim|simp [getObj,Sem.run,a]
theorem nC(a:w.heap[c]? =some (.loop r)):(Instr.getLoop c).run P w=.ok r w:=by unfold Instr.getLoop;simp only [Sem.run_bind,zK a trivial,Result.andThen_ok,Sem.run_pure]
theorem An(a:w.heap[c]? =some (.loop r))(b:r.state=.ready):(Instr.beginRound c).run P w=.ok () (setW w c (.loop {r with state:=.busy})):=by
 unfold Instr.beginRound;simp only [Sem.run_bind,nC a,Result.andThen_ok,qT a trivial,b,Sem.run_pure]
theorem CT(b:w.heap[c]? =some (.loop r))(a:Option Code):(Instr.endRound c a).run P w=.ok (.bool a.isNone) (setW w c (.loop {r with state:=if a.isNone then .ready else .done,pending:=a})):=by
 unfold Instr.endRound;simp only [Sem.run_bind,nC b,Result.andThen_ok,qT b trivial,Sem.run_pure]
theorem DZ(a:w.heap[c]? =some (.loop r))(b:r.state≠ .busy):(Instr.endLoop c).run P w=.ok r.pending (setW w c (.loop {r with state:=.exhausted})):=by
 unfold Instr.endLoop;have:(r.state==LoopState.busy)=false:=by grind
 simp only [Sem.run_bind,nC a,Result.andThen_ok,this,Xe,if_false,qT a trivial,Sem.run_pure]
theorem yG{a:List Deferred}(b:w.heap[c]? =some (.deferred (some a))):(Instr.takeDeferred c).run P w=.ok a (setW w c (.deferred none)):=by
 unfold Instr.takeDeferred;simp only [Sem.run_bind,zK b trivial,Result.andThen_ok,qT b trivial,Sem.run_pure]
theorem BI(a:F.round=some c)(b:w.heap[c]? =some (.loop r))(d:r.state=.ready):step P (lone (F.mk' tmps dfs (.beginRound::k)) cs w)=.next (lone (F.mk' tmps dfs k) cs (setW w c (.loop {r with state:=.busy}))):=by
 refine step_lone_go ?_;simp_all[An,stepG,stepG.exec,stepG.apply,FC.mk',Frame.finish]
def DK(todo:List Item)(a:Option Code):Prop:=
 (todo=[]/\a=none)\/(∃b,todo=.code .ret::b/\a=some .ret)\/(∃id b,todo=.code (.exit id)::b/\exitTo id b=none/\a=some (.exit id))
theorem BF(b:F.round=some c)(d:F.kind=.normal)(f:w.heap[c]? =some (.loop r)){a:Option Code}(g:DK todo a){c0:Frame}:step P (lone (F.mk' tmps dfs todo) (c0::cs) w)=
  .next (lone (c0.finish (.bool a.isNone)) cs (setW w c (.loop {r with state:=if a.isNone then .ready else .done,pending:=a}))):=by
 refine step_lone_go ?_;have e:=CT (P:=P) f a;rcases g with⟨rfl,rfl⟩|⟨h,rfl,rfl⟩|⟨id,h,rfl,i,rfl⟩
 . simp [stepG,stepG.exec,FC.mk',b,e,doReturn,d]
 . simp [stepG,stepG.exec,FC.mk',b,e,doReturn,d]
 simp_all[stepG,stepG.exec,FC.mk',doReturn]
theorem EU(a:F.round=none)(c:todo=[]\/ ∃b,todo=.code .ret::b):step P (lone (F.mk' tmps dfs todo) cs w)=.next (lone {F.mk' tmps dfs todo with mode:=.returning} cs w):=by
 refine step_lone_go ?_;rcases c with rfl|⟨b,rfl⟩
 . simp [stepG,stepG.exec,FC.mk',a]
 . simp [stepG,stepG.exec,FC.mk',a]
theorem EC(a:w.heap[c]? =some (.loop r))(b:r.state≠ .busy):step P (lone (F.mk' tmps dfs (.endRangeFunc c::k)) cs w)=.next (lone (F.mk' tmps dfs ((r.pending.map Item.code).toList++k)) cs (setW w c (.loop {r with state:=.exhausted}))):=by
 refine step_lone_go ?_;simp_all[DZ,stepG,stepG.exec,FC.mk']
def oU(w:World)(o:Obj):World:={w with heap:=w.heap.push o}
theorem zX:(newObj o).run P w=.ok w.heap.size (oU w o):=by rfl
theorem CK:
 (Instr.enterLoop F.fn tmps params assign body none).run P w=.ok (w.heap.size+1,[{target:=.collected w.heap.size,args:=#[]}])
  (oU (oU w (.deferred (some []))) (.loop {state:=.ready,pending:=none,fn:=F.fn,tmps,params,assign,body,defers:=w.heap.size})):=by
 unfold Instr.enterLoop;simp only [Sem.run_bind,zX,Result.andThen_ok,Sem.run_pure];simp [oU]
theorem yN(a:w.heap[c]? =some (.loop r)):(Instr.enterLoop F.fn tmps params assign body (some c)).run P w=.ok (w.heap.size,[])
  (oU w (.loop {state:=.ready,pending:=none,fn:=F.fn,tmps,params,assign,body,defers:=r.defers})):=by
 unfold Instr.enterLoop;simp only [Sem.run_bind,zX,Result.andThen_ok,Sem.run_pure,nC a]
theorem st_range{f:Operand}{g:FuncId}{x y:Array Value}(hf:dX tmps f=.func (.func g) x y)(e: ∀args w,(callFunc g args).run P w=.ok (.enter g args) w){mark:List Deferred}{b:World}(h0:(Instr.enterLoop F.fn tmps params assign body F.round).run P w=.ok (c,mark) b):step P (lone (F.mk' tmps dfs (.code (.rangeFunc f params assign body)::k)) cs w)=
  .next (lone (Frame.enter P g (x++#[.func (.yield c) #[] #[]]++y) .normal) (F.mk' tmps (mark++dfs) (.inRangeFunc c::k)::cs) b):=by
 refine step_lone_go ?_;have h:=Aj (F:=F) (tmps:=tmps) (dfs:=mark++dfs) (.inRangeFunc c::k);simp only [FC.mk']at h;have i: ∀a,(do let d<-resolve (dX tmps) {callee:=.value f,args:=#[.const (.func (.yield c) #[] #[])],argTypes:=#[]} 0;invoke d.target d.args).run P a=
  .ok (.enter g (x++#[.func (.yield c) #[] #[]]++y)) a:=by
  intro a;simp [resolve,hf,Deferred.ofValue,invoke,e,show∀v,dX tmps (.const v)=v from fun _=>rfl]
 simp_all[stepG,stepG.exec,FC.mk',stepG.apply]
end
def su(mu:Mu):Option (Value×Bool)->Option (Value×Bool)->Prop
 |none,none=>True|some (v,b),some (a,c)=>b=c/\aC mu v a|_,_=>False
theorem su.mono{mu c:Mu}(h:Le mu c){a b:Option (Value×Bool)}(k:su mu a b):su c a b:=by
 cases a<;>cases b<;>simp only [su]at*
 exact⟨k.1,k.2.mono h⟩
theorem oY.mono{mu d:Mu}(h:Le mu d){a b:Deferred}(k:oY mu a b):oY d a b:=by
 unfold oY at*
 split
 . grind[VL.mono]
 . rename_i b e;rw [e]at k;obtain⟨c,f,g⟩:=k;exact⟨c,f,g.mono h⟩
 grind
abbrev DL(mu:Mu):=LR (oY mu)
def bg:Option (Value×Bool)->List Frame->List Frame
 |none,a=>a|some (v,b),c::r=>{c with mode:=.panicking [{v,recovered:=b}]}::r
 |some _,[]=>[]
def KOk(a:CallKind)(b:List Frame):Option (Value×Bool)->Prop
 |none=>a=.normal\/(a=.deferred/\ ∃c r,b=c::r/\c.mode=.returning)|some _=>a=.deferred/\b≠ []
def RdRel(mu:Mu):Option Nat->Option Nat->Prop
 |none,none=>True|some b,some c=>dZ mu b c|_,_=>False
theorem RdRel.mono{mu c:Mu}(h:Le mu c){a b:Option Nat}(k:RdRel mu a b):RdRel c a b:=by
 cases a<;>cases b<;>simp only [RdRel]at*
 exact k.mono h
theorem ev_rel{l:Loc}(c:kD mu l.regs n tmps)(x:Operand)(a: ∀g,g<16->gu mu ⟨g,0,none⟩ ⟨g,0,none⟩):aC mu (l.ev x) (dX tmps x):=by
 cases x with
 | tmp t=>
   simp only [Loc.ev,dX];cases d:l.regs.get t with
   | none=>
     have:n<=t:=by
      rcases XW t n with b|b
      . obtain⟨v,e⟩:=Tr.get_some c.sized b;grind
      . exact b
     rw [Xz,XL (by rw [c.size];exact this)];exact .tuple rfl (by grind)
   | some v=>
     obtain⟨i,b,e⟩:=c.get t v d;simp_all
 | const v=>
   simp only [Loc.ev,dX];cases h:dA v with
   |true=>simp only [cond_true];exact aC.const mu h|false=>simp only [cond_false];exact .poison v
 | global g=>
   simp only [Loc.ev,dX];cases j:Xb g 16 with
   |true=>simp only [cond_true];exact .ptr (a g (by simp_all))|false=>simp only [cond_false];exact .poison _
 |func f=>exact .fn rfl (by grind) rfl (by grind)
theorem xg(a:kD mu t n tmps)(d:Option Tmp)(f:aC mu v v'):kD mu (match d with|none=>t|some d=>t.set d v) n (iI tmps d v'):=by
 cases d with
 |none=>exact a| some d=>
   refine⟨by simp [iI,a.size],Tr.sized_set d v a.sized,fun i u b=>?_⟩;rw [Tr.get_set]at b;simp only [iI];by_cases c:d=i/\(t.get i).isSome
   . rw [if_pos c]at b;cases b;obtain⟨rfl,e⟩:=c;have:d<tmps.size:=(by rw [a.size];exact(a.sized d).1 e);grind
   . rw [if_neg c]at b;obtain⟨g,h,j⟩:=a.get i u b;grind
abbrev oe(mu:Mu):Prop:= ∀g,g<16->gu mu ⟨g,0,none⟩ ⟨g,0,none⟩
theorem oe.mono{mu a:Mu}(h:Le mu a)(k:oe mu):oe a:=fun g b=>(k g b).mono h
structure SR(P:Program)(cx:Cx)(l:Loc)(h:Hp)(mu:Mu)(w:World)(F:FC)(cs0:List Frame)(tmps:Array Value)(dfs:List Deferred)(rcC:Option (Value×Bool)):Prop where
 hr:aZ mu h w
 glob:oe mu
 regs:kD mu l.regs cx.nr tmps
 dfs:DL mu l.dfs dfs
 rc:su mu l.rc rcC
 ko:KOk F.kind cs0 rcC
 fn:F.fn=cx.fn
 rd:RdRel mu cx.round F.round
 rn:F.round≠none->F.kind=.normal
 fs:(P.funcs[F.fn]?).isSome=true
theorem SR.step{cx:Cx}{l:Loc}{h h':Hp}{a:Mu}{b:List Frame}{c:Option (Value×Bool)}(s:SR P cx l h mu w F b tmps dfs c)(e:aZ a h' w')(d:Le mu a):SR P cx l h' a w' F b tmps dfs c:=
 ⟨e,s.glob.mono d,s.regs.mono d,LR.mono s.dfs fun _ _=>oY.mono d,s.rc.mono d,s.ko,s.fn,s.rd.mono d,s.rn,s.fs⟩
theorem SR.put{P:Program}{cx:Cx}{l:Loc}{h:Hp}{mu:Mu}{w:World}{F:FC}{a:List Frame}{tmps:Array Value}{dfs:List Deferred}{b:Option (Value×Bool)}(s:SR P cx l h mu w F a tmps dfs b)(d:Option Tmp){v v':Value}(c:aC mu v v'):SR P cx (l.put d v) h mu w F a (iI tmps d v') dfs b:=by
 cases d with
 |none=>exact s|some d=>exact⟨s.hr,s.glob,xg s.regs (some d) c,s.dfs,s.rc,s.ko,s.fn,s.rd,s.rn,s.fs⟩
def Reach(P:Program)(F:FC)(d:List Frame)(m:Machine)(k:List Item)(g:Mu)(w':World)(a:Array Value)(b:List Deferred)(c:Option (Value×Bool)):Ex->Prop
 | .normal=>Steps P m (lone (F.mk' a b k) (bg c d) w')| .exit id=> ∃f,exitTo id f=exitTo id k/\Steps P m (lone (F.mk' a b (.code (.exit id)::f)) (bg c d) w')| .ret=> ∃f,Steps P m (lone (F.mk' a b (.code .ret::f)) (bg c d) w')| .pan v=> ∃h e,aC g v h/\Steps P m (lone {F.mk' a b e with mode:=.panicking [{v:=h,recovered:=false}]} (bg c d) w')
def Sim(P:Program)(cx:Cx)(h:Hp)(mu:Mu)(w:World)(F:FC)(d:List Frame)(tmps:Array Value)(dfs:List Deferred)(f:Option (Value×Bool))(todo k:List Item)(x:Ex)(l':Loc)(h':Hp):Prop:=
 ∃ e g a b c,SR P cx l' h' e g F d a b c/\Ext mu h w e h' g/\
   Reach P F d (lone (F.mk' tmps dfs todo) (bg f d) w) k e g a b c x
def ku(P:Program)(f:Cx->Code->Loc->Hp->Option (Ex×Loc×Hp)):Prop:=
 ∀ j c l h x m n,f j c l h=some (x,m,n)-> ∀o w F e d g i k a,SR P j l h o w F e d g i->
   (a=.code c::k\/ ∃b,c=.loop b/\a=.inLoop b::k)->Sim P j h o w F e d g i a k x m n
def CallEnd(P:Program)(d:Frame)(w':World)(a:CallKind)(b:Mu):Out->Prop
 | .ret v=> ∃c,te P d w' a c/\aC b v c| .pan v=> ∃c,LeaveP P d a c/\aC b v c
def iV(E:Env)(P:Program)(f:FuncId->List Value->Option (Value×Bool)->Hp->Option (Out×Option (Value×Bool)×Hp)):Prop:=
 ∀ g i q h o k n,f g i q h=some (o,k,n)->(∃r,E.fn g=some r/\r.body.isSome=true)/\
   ∀ l w b j d a,aZ l h w->oe l->VL l i b.toList->su l q j->KOk a d j->
     ∃ e m c p,aZ e n m/\Ext l h w e n m/\su e k c/\KOk a d c/\
       Steps P (lone (Frame.enter P g b a) (bg j d) w) (lone p (bg c d) m)/\
       CallEnd P p m a e o/\p.fn=g
def OutTo(P:Program)(a:Mu)(m:Machine)(b d:Value->Machine):Out->Prop
 | .ret v=> ∃c,aC a v c/\Steps P m (b c)| .pan v=> ∃c,aC a v c/\Steps P m (d c)
def Cl(P:Program)(F:FC)(d:List Frame)(m:Machine)(ops:Array Oper)(rest:List Nat)(k:List Item)(e:Mu)(w':World)(a:Array Value)(b:List Deferred)(c:Option (Value×Bool)):Ex->Prop
 | .normal=>Steps P m (lone (F.mk' a b (.inRegion ops rest::k)) (bg c d) w')| .pan v=>Reach P F d m k e w' a b c (.pan v)|_=>False
theorem KOk.normal{b:List Frame}{a:Option (Value×Bool)}(h:KOk .normal b a):a=none:=by
 cases a with
 |none=>rfl|some x=>exact absurd h.1 (by simp)
theorem tv{h:Hp}(f:aZ mu h w)(a:dZ mu b c){r:fF}(j:h.get b=some (.loop r)):
 ∃top d,mu b=.blk c 0 top/\w.heap[c]? =some (.loop d)/\oZ mu r d:=by
 unfold dZ at a;cases e:mu b with
 |none=>grind|dead=>have:=f.dead _ e;grind| blk l g top=>
   rw [e]at a;obtain⟨rfl,rfl⟩:=a;obtain⟨y,o,i,m,k⟩:=f.blk _ c 0 top e;rw [j]at i;cases i;obtain⟨_,d,rfl,n⟩:=k;grind
theorem vC(h:w.heap[c]? =some q):WSet w (setW w c o) c o:=Ci ⟨_,h⟩
theorem CU{h:Hp}(e:aZ mu h w)(f:mu b=.blk c 0 top){r d:fF}(k:h.get b=some (.loop r)){g a:Loop}(i:w.heap[c]? =some (.loop g))(j:oZ mu d a):aZ mu (h.put b (.loop d)) (setW w c (.loop a))/\Ext mu h w mu (h.put b (.loop d)) (setW w c (.loop a)):=
 yg e f (by grind) (vC i) ⟨rfl,a,rfl,j⟩
theorem uF{mu:Mu}{n:Nat}: ∀(ps:List Tmp) (args args':List Value) (a:Tr Value) (tmps:Array Value) (b:Tr Value),qu a ps args=some b->kD mu a n tmps->VL mu args args'->
 ps.length=args'.length/\kD mu b n ((ps.zip args').foldl (fun tmps (x:Tmp×Value)=>tmps.setIfInBounds x.1 x.2) tmps)
 | [],[],args',a,tmps,b,h,c,d=>by
   rw [d.nil_left];cases h;exact⟨rfl,c⟩
 | [],_::_,_,_,_,_,h,_,_=>by cases h
 |_::_,[],_,_,_,_,h,_,_=>by cases h
 | t::ts,v::vs,args',a,tmps,b,h,c,d=>by obtain⟨v',e,rfl,f,g⟩:=d.cons_left;have i:=xg c (some t) f;obtain⟨j,k⟩:=uF ts vs e (a.set t v) (tmps.setIfInBounds t v') b h i g;exact⟨by simp [j],k⟩
section
variable{E:Env}{P:Program}(ok:EOk E P){R:Rec}(hc:iV E P R.call)(hcode:ku P R.code)
theorem yield_run(a:w.heap[c]? =some (.loop r))(d:r.params.toList.length=args.toList.length):(Instr.yield c args).run P w=.ok (.round c r.fn ((r.params.toList.zip args.toList).foldl (fun tmps (x:Tmp×Value)=>tmps.setIfInBounds x.1 x.2) r.tmps) r.assign r.body) w:=by
 unfold Instr.yield;have b:args.size=r.params.size:=by grind
 simp only [Sem.run_bind,nC a,Result.andThen_ok,b,ne_eq,not_true_eq_false,if_false,Sem.run_pure];rw [<-XU,Array.toList_zip]
include ok hcode in
theorem round_sim{h h':Hp}(hh:aZ mu h w)(hg:oe mu)(hp:dZ mu b c){args:List Value}(ha:VL mu args args'.toList){W:Out}(g:kT E R b args h=some (W,h'))(c0:Frame)(cs:List Frame):
 ∃ f tm x y,(Instr.yield c args').run P w=.ok (.round c f tm x y) w/\ ∃u w',aZ u h' w'/\Ext mu h w u h' w'/\
   OutTo P u (lone (Frame.round c f tm x y .normal) (c0::cs) w) (fun v'=>lone (c0.finish v') cs w') (fun v'=>lone (c0.raise [{v:=v',recovered:=false}]) cs w') W:=by
 unfold kT at g
 split at g
 next r X=>
  obtain⟨bh,l,hm,hw,q⟩:=tv hh hp X;cases aL:(E.fn r.fn).isSome with
  |false=>grind|true=>
  rw [aL]at g;simp only [cond_true]at g
  split at g
  next Y=>
   split at g
   next=>cases g
   next S U=>
    obtain⟨a0,a1⟩:=uF r.params.toList args args'.toList r.regs l.tmps S U q.regs ha;have hy:=yield_run (P:=P) hw (args:=args') (by rw [q.params];exact a0);refine⟨_,_,_,_,hy,?_⟩
    let F:FC:=⟨l.fn,.normal,some c⟩
    have Z:(P.funcs[l.fn]?).isSome=true:=by
     rw [q.fn];cases he:E.fn r.fn with
     |none=>grind|some fn=>rw [ok.fn _ _ he];rfl
    have sr:SR P ⟨r.fn,r.nr,some b⟩ ⟨S,[],none⟩ h mu w F (c0::cs) ((l.params.toList.zip args'.toList).foldl (fun tmps (x:Tmp×Value)=>tmps.setIfInBounds x.1 x.2) l.tmps) [] none:=
     ⟨hh,hg,by rw [q.params];exact a1,LR.nil,trivial,.inl rfl,q.fn,hp,fun _=>rfl,Z⟩
    split at g
    next l1 h1 K=>
     obtain⟨z,w1,A,D,bi,G,e1,s1⟩:=hcode _ _ _ _ _ _ _ K mu w F (c0::cs) _ [] none [.beginRound,.code l.body] [.code l.assign,.beginRound,.code l.body] sr (.inl (by rw [q.assign]));have ad:=G.ko.normal;subst ad
     split at g
     next r1 H=>
      obtain⟨be,C,a2,af,m⟩:=tv G.hr (show dZ z b c from G.rd) H
      split at g
      next ai=>
       have L:C.state=.ready:=(by have:=m.st;rw [ai]at this;cases hs:C.state<;>rw [hs]at this<;>first|rfl|cases this);have b1:=BI (P:=P) (F:=F) (tmps:=A) (dfs:=D) (k:=[.code l.body]) (cs:=c0::cs) (c:=c) rfl af L;have a3:oZ z {r1 with st:=1} {C with state:=.busy}:=⟨m.fn,m.regs,m.params,m.assign,m.body,rfl,m.pending⟩;obtain⟨a4,e2⟩:=CU G.hr a2 H af a3;have M:=G.step a4 (Le.refl _);have e12:=Ext.trans e1 e2;have ak:Steps P (lone (Frame.round c l.fn ((l.params.toList.zip args'.toList).foldl (fun tmps (x:Tmp×Value)=>tmps.setIfInBounds x.1 x.2) l.tmps) l.assign l.body .normal) (c0::cs) w)
        (lone (F.mk' A D [.code l.body]) (c0::cs) (setW w1 c (.loop {C with state:=.busy}))):=Steps.trans s1 (.one b1)
       have B: ∀{J:Hp} {i:Mu} {N:World} {d:Array Value} {n:List Deferred} {s:List Item} {j:Option Code} {T:fF} {pe:Option Code} {st:Nat},aZ i J N->dZ i b c->J.get b=some (.loop T)->
        Ext z (h1.put b (.loop {r1 with st:=1})) (setW w1 c (.loop {C with state:=.busy})) i J N->
        Steps P (lone (F.mk' A D [.code l.body]) (c0::cs) (setW w1 c (.loop {C with state:=.busy}))) (lone (F.mk' d n s) (c0::cs) N)->
        DK s j->pe=j->st=(if j.isNone then 0 else 2)->
        ∃ u w',aZ u (J.put b (.loop {T with st:=st,pending:=pe})) w'/\Ext mu h w u (J.put b (.loop {T with st:=st,pending:=pe})) w'/\
          ∃v',aC u (.bool j.isNone) v'/\Steps P (lone (Frame.round c l.fn ((l.params.toList.zip args'.toList).foldl (fun tmps (x:Tmp×Value)=>tmps.setIfInBounds x.1 x.2) l.tmps) l.assign l.body .normal) (c0::cs) w) (lone (c0.finish v') cs w'):=by
        intro J i N d n s j T pe st al a5 I O Q a6 a7 Y;obtain⟨bf,a8,ba,ax,t⟩:=tv al a5 I;have b3:=BF (P:=P) (F:=F) (tmps:=d) (dfs:=n) (cs:=cs) (c:=c) rfl rfl ax a6 (c0:=c0);have bb:oZ i {T with st:=st,pending:=pe} {a8 with state:=if j.isNone then .ready else .done,pending:=j}:=
         ⟨t.fn,t.regs,t.params,t.assign,t.body,by subst Y;cases j<;>rfl,a7.symm⟩
        obtain⟨bc,e4⟩:=CU al ba I ax bb;exact⟨i,_,bc,Ext.trans e12 (Ext.trans O e4),_,.bool _,Steps.trans ak (Steps.trans Q (.one b3))⟩
       split at g
       next l3 J a=>
        obtain⟨i,N,d,n,V,e,O,Q⟩:=hcode _ _ _ _ _ _ _ a z _ F (c0::cs) _ _ none [] [.code l.body] M (.inl (by rw [q.body]));have o:=e.ko.normal;subst o
        split at g
        next T p=>
         cases g;exact B e.hr (show dZ i b c from e.rd) p O Q (.inl ⟨rfl,rfl⟩) rfl rfl
        next=>cases g
       next id l3 J a=>
        obtain⟨i,N,d,n,V,e,O,k0,bd,Q⟩:=hcode _ _ _ _ _ _ _ a z _ F (c0::cs) _ _ none [] [.code l.body] M (.inl (by rw [q.body]));have o:=e.ko.normal;subst o
        split at g
        next T p=>
         cases g;exact B e.hr (show dZ i b c from e.rd) p O Q (.inr (.inr ⟨id,k0,rfl,bd.trans rfl,rfl⟩)) rfl rfl
        next=>cases g
       next l3 J a=>
        obtain⟨i,N,d,n,V,e,O,k0,Q⟩:=hcode _ _ _ _ _ _ _ a z _ F (c0::cs) _ _ none [] [.code l.body] M (.inl (by rw [q.body]));have o:=e.ko.normal;subst o
        split at g
        next T p=>
         cases g;exact B e.hr (show dZ i b c from e.rd) p O Q (.inr (.inl ⟨k0,rfl,rfl⟩)) rfl rfl
        next=>cases g
       next v l3 J a=>
        obtain⟨i,N,d,n,V,e,O,v',s,hv,Q⟩:=hcode _ _ _ _ _ _ _ a z _ F (c0::cs) _ _ none [] [.code l.body] M (.inl (by rw [q.body]));have o:=e.ko.normal;subst o
        split at g
        next hd=>
         cases g;have ay:=e.dfs;rw [hd]at ay;have:=LR.nil_left ay;subst this;have lv:LeaveP P {F.mk' d [] s with mode:=.panicking [{v:=v',recovered:=false}]} .normal v':=⟨rfl,rfl,rfl,by
          obtain⟨fn,h⟩:=Option.isSome_iff_exists.1 Z;exact⟨fn,h⟩⟩
         exact⟨i,N,e.hr,Ext.trans e12 O,v',hv,Steps.trans ak (Steps.trans Q (.one (pu lv)))⟩
        next=>cases g
       next=>cases g
      next=>cases g
     next=>cases g
    next=>cases g
  next=>cases g
 next=>cases g
end
section
variable{E:Env}{P:Program}(ok:EOk E P){R:Rec}(hc:iV E P R.call)(hcode:ku P R.code)
include ok hc hcode in
theorem vV{h h':Hp}(A:aZ mu h w)(Q:oe mu)(I: ∀x,aC mu (ρ x) (dX tmps x)){k:List Item}{cs:List Frame}{o:Oper}(u:ops[i]? =some o)(B:Region.wanted o (yielded ops tmps)=true){m:Out}(e:dD E R (aop E ρ h o.op)=some (m,h')):
 ∃ a w',aZ a h' w'/\Ext mu h w a h' w'/\
   OutTo P a (lone (F.mk' tmps dfs (.inRegion ops (i::rest)::k)) cs w) (fun v'=>lone (F.mk' (iI tmps o.dst v') dfs (.inRegion ops rest::k)) cs w')
    (fun v'=>lone {F.mk' tmps dfs (.inRegion ops (i::rest)::k)with mode:=.panicking [{v:=v',recovered:=false}]} cs w') m:=by
 have C:F.round=none\/ ∀c,o.op≠ .defer c:=by
  right;intro c J;rw [J]at e;simp only [aop]at e
  split at e
  . split at e<;>cases e
  . cases e
 have D: ∀v,(F.mk' tmps dfs (.inRegion ops (i::rest)::k)).finish v=F.mk' (iI tmps o.dst v) dfs (.inRegion ops rest::k):=by intro v;rw [mH,u];rfl
 cases K:aop E ρ h o.op with
 |none=>rw [K]at e;cases e
 | some q=>
   obtain⟨V,h1⟩:=q;rw [K]at e;have g:=aop_run (P:=P) ok A I (o:=o) K;cases V with
   | val v=>
     cases e;obtain⟨v',a,w',n,p,G,W⟩:=g;exact⟨a,w',p,G,v',W,.one (DE u B C n)⟩
   | skip=>
     cases e;obtain⟨a,w',n,p,G⟩:=g;exact⟨a,w',p,G,undef,.tuple rfl (by grind),.one (st_opskip u B C n)⟩
   | call f H=>
     obtain⟨rfl,j,n,p⟩:=g;simp only [dD]at e
     split at e
     next x X h2 r=>
      cases e;obtain⟨⟨Y,L,s⟩,Z⟩:=hc _ _ _ _ _ _ _ r;obtain⟨a,w',S,fr,M,N,O,k4,T,U,_⟩:=Z mu w j none (F.mk' tmps dfs (.inRegion ops (i::rest)::k)::cs) .normal A Q p trivial (.inl rfl);have:=k4.normal;subst this;have l:=st_enter (P:=P) (F:=F) (dfs:=dfs) (k:=k) (cs:=cs) (rest:=rest) u B C (n.trans (ok.call f Y j w L s));refine⟨a,w',M,N,?_⟩;cases m with
      | ret v=>
        obtain⟨v',z,t⟩:=U;refine⟨v',t,Steps.trans (.one l) (Steps.trans T (.one ?_))⟩;show step P _=.next (lone (F.mk' (iI tmps o.dst v') dfs (.inRegion ops rest::k)) cs w')
        rw [<-D];exact Cv z
      | pan v=>
        obtain⟨v',z,t⟩:=U;exact⟨v',t,Steps.trans (.one l) (Steps.trans T (.one (pu z)))⟩
     next=>cases e
   | yield b H=>
     obtain⟨rfl,c,j,n,p,G⟩:=g;simp only [dD]at e;obtain⟨f,tm,x,y,y1,a,w',M,N,O⟩:=round_sim ok hcode A Q p G e (F.mk' tmps dfs (.inRegion ops (i::rest)::k)) cs;have l:=st_round (P:=P) (F:=F) (dfs:=dfs) (k:=k) (cs:=cs) (rest:=rest) u B C (n.trans y1);refine⟨a,w',M,N,?_⟩;cases m with
     | ret v=>
       obtain⟨v',t,z⟩:=O;refine⟨v',t,Steps.trans (.one l) ?_⟩;grind
     | pan v=>
       obtain⟨v',t,z⟩:=O;exact⟨v',t,Steps.trans (.one l) z⟩
   | panic v=>
     cases e;obtain⟨rfl,v',n,p⟩:=g;exact⟨mu,w,A,Ext.refl mu _ w A,v',p,.one (st_panic u B C n)⟩
   |recov=>cases e
   |defer d=>cases e
include ok hc hcode in
theorem EZ{cx :Cx}{l l':Loc}{h h':Hp}{e:List Frame}{g:Option (Value×Bool)}(s:SR P cx l h mu w F e tmps dfs g){k:List Item}{o:Oper}(L:ops[i]? =some o)(M:Region.wanted o (yielded ops tmps)=true){x:Ex}(t:fk E R cx o l h=some (x,l',h')):
 ∃ j w' a m n,SR P cx l' h' j w' F e a m n/\Ext mu h w j h' w'/\
   Cl P F e (lone (F.mk' tmps dfs (.inRegion ops (i::rest)::k)) (bg g e) w) ops rest k j w' a m n x:=by
 have H: ∀x,aC mu (l.ev x) (dX tmps x):=fun x=>ev_rel s.regs x s.glob;unfold fk at t;have Q: ∀{r:Option (dU×Hp)},aop E l.ev h o.op=r->qa o l (dD E R r)=some (x,l',h')-> ∃j w' a m n,SR P cx l' h' j w' F e a m n/\Ext mu h w j h' w'/\
  Cl P F e (lone (F.mk' tmps dfs (.inRegion ops (i::rest)::k)) (bg g e) w) ops rest k j w' a m n x:=by
  intro r B t;cases C:dD E R r with
  |none=>rw [C]at t;cases t
  | some q=>
    obtain⟨S,N⟩:=q;rw [C]at t;rw [<-B]at C;obtain⟨j,w',G,I,X⟩:=vV ok hc hcode s.hr s.glob H (F:=F) (dfs:=dfs) (k:=k) (cs:=bg g e) (rest:=rest) L M C;have Y:=s.step G (I.le s.hr);cases S with
    | ret v=>
      cases t;obtain⟨v',T,U⟩:=X;exact⟨j,w',_,dfs,g,Y.put o.dst T,I,U⟩
    | pan v=>
      cases t;obtain⟨v',T,U⟩:=X;exact⟨j,w',tmps,dfs,g,Y,I,v',_,T,U⟩
 cases Z:aop E l.ev h o.op with
 |none=>grind| some q =>
   obtain⟨nx,N⟩:=q;rw [Z]at t;have A:=aop_run (P:=P) ok s.hr H (o:=o) Z;cases nx with
   |val v=>grind|skip=>grind|call f J=>grind|yield b J=>grind|panic v=>grind| recov =>
     obtain⟨rfl,G⟩:=A;simp only []at t;cases B:cx.round with
     |some r=>grind| none=>
       rw [B]at t;simp only []at t;have O:F.round=none:=by
        have:=s.rd;rw [B]at this;cases hf:F.round with
        |none=>rfl|some c=>rw [hf]at this;exact this.elim
       have u:=s.rc;have p:tryRecover (F.mk' tmps dfs (.inRegion ops (i::rest)::k)) (bg g e)=none->
        ∃ j w' a m n,SR P cx (l.put o.dst .nilIface) N j w' F e a m n/\Ext mu N w j N w'/\
          Steps P (lone (F.mk' tmps dfs (.inRegion ops (i::rest)::k)) (bg g e) w) (lone (F.mk' a m (.inRegion ops rest::k)) (bg n e) w'):=by
        intro V;exact⟨mu,w,_,dfs,g,s.put o.dst .nili,Ext.refl mu _ w s.hr,.one (za L M O G V)⟩
       cases K:l.rc with
       | none=>
         rw [K]at t u;cases t;apply p;cases g with
         |some y=>exact u.elim| none=>
           rcases s.ko with D|⟨D,c,r,rfl,hm⟩
           . simp [tryRecover,FC.mk',D]
           . simp [tryRecover,FC.mk',D,bg,hm]
       | some y =>
         obtain⟨v,b⟩:=y;rw [K]at t u;cases g with
         |none=>exact u.elim| some z=>
           obtain⟨v',b'⟩:=z;obtain⟨rfl,C⟩:=u;obtain⟨D,ad⟩:=s.ko;cases e with
           |nil=>grind| cons c r=>
             cases b with
             | true=>
               cases t;apply p;simp [tryRecover,FC.mk',D,bg]
             | false=>
               cases t;have V:tryRecover (F.mk' tmps dfs (.inRegion ops (i::rest)::k)) (bg (some (v',false)) (c::r))=some (v',bg (some (v',true)) (c::r)):=(by simp [tryRecover,FC.mk',D,bg]);have W:SR P cx {l with rc:=some (v,true)} h' mu w F (c::r) tmps dfs (some (v',true)):=
                ⟨s.hr,s.glob,s.regs,s.dfs,⟨rfl,C⟩,⟨D,by simp⟩,s.fn,s.rd,s.rn,s.fs⟩
               exact⟨mu,w,_,dfs,_,W.put o.dst C,Ext.refl mu _ w s.hr,.one (zJ L M O G V)⟩
   | defer d=>
     obtain⟨rfl,d',G,I⟩:=A;simp only []at t;cases B:cx.round with
     |some r=>grind| none=>
       rw [B]at t;cases t;have O:F.round=none:=by
        have:=s.rd;rw [B]at this;cases hf:F.round with
        |none=>rfl|some c=>rw [hf]at this;exact this.elim
       have W:SR P cx {l with dfs:=d::l.dfs} h' mu w F e tmps (d'::dfs) g:=
        ⟨s.hr,s.glob,s.regs,LR.cons I s.dfs,s.rc,s.ko,s.fn,s.rd,s.rn,s.fs⟩
       exact⟨mu,w,_,_,g,W.put o.dst (v':=undef) (.tuple rfl (by grind)),Ext.refl mu _ w s.hr,.one (st_defer L M O G)⟩
omit ok in
theorem Bl(h:kD mu t n tmps){o:Oper}{b:Bool}(a:cU ops.toList t o=some b):Region.wanted o (yielded ops tmps)=b:=by
 unfold cU at a;unfold Region.wanted;cases c:o.guard with
 |none=>grind| some q=>
   obtain⟨j,i⟩:=q;rw [c]at a;simp only []at a⊢;unfold yielded;cases k:ops[j]? with
   |none=>grind| some l=>
     rw [Xa,k]at a;simp only [Option.bind_some]at a⊢;cases m:l.dst with
     |none=>grind| some d=>
       rw [m]at a;simp only [Option.bind_some]at a⊢
       split at a
       next r e=>
        obtain⟨p,f,g⟩:=h.get d _ e;cases g;rw [f];cases a;grind
       next x e=>
        obtain⟨p,f,g⟩:=h.get d _ e;rw [f];cases a;cases g;rfl
       next=>cases a
include ok hc hcode in
theorem Bp{cx:Cx}{p:List Frame}{k:List Item}: ∀(os:List Oper) (i:Nat) (l l':Loc) (h h':Hp) (mu:Mu) (w:World) (tmps:Array Value) (dfs:List Deferred) (e:Option (Value×Bool)) (x:Ex),
 ops.toList.drop i=os->SR P cx l h mu w F p tmps dfs e->js E R cx ops.toList os l h=some (x,l',h')->
 Sim P cx h mu w F p tmps dfs e (.inRegion ops (Xy i os.length)::k) k x l' h':=by
 intro os
 induction os with
 | nil=>
   intro i l l' h h' mu w tmps dfs e x B s f;simp only [js]at f;cases f;exact⟨mu,w,tmps,dfs,e,s,Ext.refl mu h w s.hr,.one qI⟩
 | cons o os J=>
   intro i l l' h h' mu w tmps dfs e x B s f;have K:ops[i]? =some o:=(by have:=congrArg (·[0]?) B;simpa using this);have y:ops.toList.drop (i+1)=os:=(by have:=congrArg (List.drop 1) B;simpa [Nat.add_comm]using this);simp only [js]at f;rw [Xk,XG];cases L:cU ops.toList l.regs o with
   |none=>grind| some b=>
     have Q:=Bl s.regs L;rw [L]at f;cases b with
     | false=>
       simp only []at f;have c:=zj (P:=P) (F:=F) (tmps:=tmps) (dfs:=dfs) (k:=k) (cs:=bg e p) (w:=w) (ops:=ops) (i:=i) (rest:=Xy (i+1) os.length) (by grind);rw [K]at c;obtain⟨r,C,d,g,j,D,G,m⟩:=J (i+1) _ _ _ _ _ _ _ _ _ _ y (s.put o.dst (v':=undef) (.tuple rfl (by grind))) f;refine⟨r,C,d,g,j,D,G,?_⟩;cases x with
       |normal=>exact .head c m|exit id=>obtain⟨t,a,b⟩:=m;exact⟨t,a,.head c b⟩
       |ret=>obtain⟨t,b⟩:=m;exact⟨t,.head c b⟩
       |pan v=>obtain⟨v',H,a,b⟩:=m;exact⟨v',H,a,.head c b⟩
     | true=>
       simp only []at f;cases M:fk E R cx o l h with
       |none=>grind| some q=>
         obtain⟨S,U,V⟩:=q;rw [M]at f;obtain⟨I,T,u,z,A,N,O,n⟩:=EZ ok hc hcode s (k:=k) (rest:=Xy (i+1) os.length) K Q M;cases S with
         | normal=>
           simp only []at f n;obtain⟨r,C,d,g,j,D,G,m⟩:=J (i+1) _ _ _ _ _ _ _ _ _ _ y N f;refine⟨r,C,d,g,j,D,Ext.trans O G,?_⟩;cases x with
           |normal=>exact Steps.trans n m|exit id=>obtain⟨t,a,b⟩:=m;exact⟨t,a,Steps.trans n b⟩
           |ret=>obtain⟨t,b⟩:=m;exact⟨t,Steps.trans n b⟩
           |pan v=>obtain⟨v',H,a,b⟩:=m;exact⟨v',H,a,Steps.trans n b⟩
         |exit id=>exact n.elim|ret=>exact n.elim| pan v=>
           cases f;exact⟨I,T,u,z,A,N,O,n⟩
end
theorem Reach.pre{f:List Frame}{m m1:Machine}{k:List Item}{c:Array Value}{d:List Deferred}{e:Option (Value×Bool)}{x:Ex}(h:Steps P m m1)(r:Reach P F f m1 k g w' c d e x):Reach P F f m k g w' c d e x:=by
 cases x with
 |normal=>exact Steps.trans h r|exit id=>obtain⟨i,a,b⟩:=r;exact⟨i,a,Steps.trans h b⟩
 |ret=>obtain⟨i,b⟩:=r;exact⟨i,Steps.trans h b⟩
 |pan v=>obtain⟨j,l,a,b⟩:=r;exact⟨j,l,a,Steps.trans h b⟩
theorem Sim.pre{P:Program}{cx:Cx}{h t:Hp}{mu m:Mu}{w q:World}{F:FC}{g:List Frame}{tmps d:Array Value}{dfs i:List Deferred}{n j:Option (Value×Bool)}{todo f k:List Item}{x:Ex}{l':Loc}{h':Hp}(u:Steps P (lone (F.mk' tmps dfs todo) (bg n g) w) (lone (F.mk' d i f) (bg j g) q))(e:Ext mu h w m t q)(s:Sim P cx t m q F g d i j f k x l' h'):Sim P cx h mu w F g tmps dfs n todo k x l' h':=by
 obtain⟨r,v,l,o,p,a,b,c⟩:=s;exact⟨r,v,l,o,p,a,Ext.trans e b,c.pre u⟩
theorem Reach.out{f:List Frame}{m:Machine}{k k2:List Item}{c:Array Value}{d:List Deferred}{e:Option (Value×Bool)}{x:Ex}(h: ∀id,x=.exit id->exitTo id k=exitTo id k2)(j:x≠ .normal)(r:Reach P F f m k g w' c d e x):Reach P F f m k2 g w' c d e x:=by
 cases x with
 |normal=>grind|exit id=>obtain⟨i,a,b⟩:=r;exact⟨i,a.trans (h id rfl),b⟩
 |ret=>exact r|pan v=>exact r
def DrawOk(E:Env)(P:Program)(R:Rec):Prop:=
 ∀ f id a l h g i q j m,kH E (bV a.toList)=some (q,j)->bW E R (bV a.toList) q (bV a.toList) 0 l h []=some (g,i,m)->c8 m j=true-> ∀n w F c b d e k,SR P f l h n w F c b d e->
   Sim P f h n w F c b d e (.code (.region id a true)::k) k .normal g i
def xZ(E:Env)(P:Program)(R:Rec):Prop:=
 ∀ f id (b:Array Oper) l h g i x,cutD E R f b.toList l h=some (x,g,i)-> ∀j w F c a d e k,SR P f l h j w F c a d e->
   Sim P f h j w F c a d e (.code (.region id b true)::k) k x g i
section
variable{E:Env}{P:Program}(ok:EOk E P){R:Rec}(hc:iV E P R.call)(hcode:ku P R.code)
theorem dead_at{h:Hp}(e:aZ mu h w)(a:dZ mu b c)(f:h.get b=some .dfr): ∃top,mu b=.blk c 0 top/\w.heap[c]? =some (.deferred (some [])):=by
 unfold dZ at a;cases d:mu b with
 |none=>grind|dead=>have:=e.dead _ d;rw [f]at this;cases this
 | blk l g top=>
   rw [d]at a;obtain⟨rfl,rfl⟩:=a;obtain⟨y,o,i,j,k⟩:=e.blk _ c 0 top d;rw [f]at i;cases i;obtain⟨_,rfl⟩:=k;exact⟨top,rfl,j⟩
theorem zH(w:World)(o:Obj):WNew w (oU w o) o:=⟨rfl,rfl,rfl,rfl⟩
theorem Ch{h:Hp}(b:aZ mu h w){r:fF}{a:Loop}(c:oZ mu r a):aZ (upd mu h.n (.blk w.heap.size 0 0)) (h.new (.loop r)) (oU w (.loop a))/\Ext mu h w (upd mu h.n (.blk w.heap.size 0 0)) (h.new (.loop r)) (oU w (.loop a)):=
 pL b (zH w _) ⟨rfl,a,rfl,c⟩
theorem dfr_new{h:Hp}(a:aZ mu h w):aZ (upd mu h.n (.blk w.heap.size 0 0)) (h.new .dfr) (oU w (.deferred (some [])))/\Ext mu h w (upd mu h.n (.blk w.heap.size 0 0)) (h.new .dfr) (oU w (.deferred (some []))):=
 pL a (zH w _) ⟨rfl,rfl⟩
theorem Es{cx:Cx}{l:Loc}{h n:Hp}{d:Nat}{e:List Deferred}(b:(match cx.round with
   |none=>some (h.new .dfr,h.n,({target:=.collected h.n,args:=#[]}:Deferred)::l.dfs)| some r=>match h.get r with
     |some (.loop x)=>some (h,x.defers,l.dfs)|_=>none)=some (n,d,e)){g:List Frame}{i:Option (Value×Bool)}(s:SR P cx l h mu w F g tmps dfs i):
 ∃ f o c mark,(Instr.enterLoop F.fn tmps params assign body F.round).run P w=.ok (c,mark) o/\dZ f n.n c/\
   SR P cx {l with dfs:=e} (n.new (.loop {fn:=cx.fn,regs:=l.regs,nr:=cx.nr,params,assign,body,st:=0,pending:=none,defers:=d})) f o F g tmps (mark++dfs) i/\
   Ext mu h w f (n.new (.loop {fn:=cx.fn,regs:=l.regs,nr:=cx.nr,params,assign,body,st:=0,pending:=none,defers:=d})) o:=by
 cases j:cx.round with
 | none=>
   rw [j]at b;cases b;have v:F.round=none:=by
    have:=s.rd;rw [j]at this;cases hf:F.round with
    |none=>rfl|some c=>rw [hf]at this;exact this.elim
   obtain⟨p,u⟩:=dfr_new s.hr;have k:=s.step p (u.le s.hr);have q:oZ (upd mu h.n (.blk w.heap.size 0 0)) {fn:=cx.fn,regs:=l.regs,nr:=cx.nr,params,assign,body,st:=0,pending:=none,defers:=h.n}
    {state:=.ready,pending:=none,fn:=F.fn,tmps,params,assign,body,defers:=w.heap.size}:=⟨s.fn,k.regs,rfl,rfl,rfl,rfl,rfl⟩
   obtain⟨t,m⟩:=Ch p q;have a:=k.step t (m.le p);refine⟨_,_,_,_,by rw [v];exact CK,?_,?_,Ext.trans u m⟩
   . show dZ (upd _ (h.n+1) _) (h.n+1) (w.heap.size+1);unfold dZ;rw [upd_same];exact⟨by simp [oU],rfl⟩
   . refine⟨a.hr,a.glob,a.regs,LR.cons ⟨w.heap.size,rfl,?_⟩ a.dfs,a.rc,a.ko,a.fn,a.rd,a.rn,a.fs⟩;show dZ (upd (upd mu h.n (.blk w.heap.size 0 0)) (h.n+1) _) h.n w.heap.size;unfold dZ;rw [a9 _ _ (by omega),upd_same];omega
 | some r=>
   rw [j]at b;simp only []at b
   split at b
   next x y=>
    cases b;cases hf:F.round with
    |none=>have:=s.rd;rw [j,hf]at this;exact this.elim| some c=>
      have z:dZ mu r c:=(by have:=s.rd;rw [j,hf]at this;exact this);obtain⟨A,B,D,C,G⟩:=tv s.hr z y;have q:oZ mu {fn:=cx.fn,regs:=l.regs,nr:=cx.nr,params,assign,body,st:=0,pending:=none,defers:=x.defers}
       {state:=.ready,pending:=none,fn:=F.fn,tmps,params,assign,body,defers:=B.defers}:=⟨s.fn,s.regs,rfl,rfl,rfl,rfl,rfl⟩
      obtain⟨t,m⟩:=Ch s.hr q;have a:=s.step t (m.le s.hr);refine⟨_,_,_,[],yN C,?_,a,m⟩;unfold dZ;rw [upd_same];omega
   grind
include ok hc in
theorem BJ{cx:Cx}{f:Operand}{l l':Loc}{h h':Hp}{x:Ex}(m:jI R cx (l.ev f) params assign body l h=some (x,l',h')){j:List Frame}{i:Option (Value×Bool)}{k:List Item}(s:SR P cx l h mu w F j tmps dfs i):Sim P cx h mu w F j tmps dfs i (.code (.rangeFunc f params assign body)::k) k x l' h':=by
 unfold jI at m;have hf:=ev_rel s.regs f s.glob
 split at m
 next fv g a b S=>
  rw [S]at hf;cases C:dX tmps f<;>rw [C]at hf<;>cases hf;rename_i a' b' f1 f2 f3 f4
  split at m
  next=>cases m
  next M d ai D=>
   obtain⟨G,w2,c,mark,h0,hp,t,T⟩:=Es (params:=params) (assign:=assign) (body:=body) D s;cases n:R.call g (a.toList++[.func (.yield M.n) #[] #[]]++b.toList) none (M.new (.loop {fn:=cx.fn,regs:=l.regs,nr:=cx.nr,params,assign,body,st:=0,pending:=none,defers:=d}))with
   |none=>grind| some q=>
     obtain⟨U,ax,h2⟩:=q;rw [n]at m;obtain⟨⟨fn,V,y⟩,hs⟩:=hc _ _ _ _ _ _ _ n;have H:=st_range (P:=P) (F:=F) (dfs:=dfs) (k:=k) (cs:=bg i j) C (fun I w=>ok.call g fn I w V y) h0;have z:VL G (a.toList++[.func (.yield M.n) #[] #[]]++b.toList) (a'++#[Value.func (.yield c) #[] #[]]++b').toList:=(by simp only [Xl];have le:=T.le s.hr;exact LR.append (LR.append (VL.mono le ⟨f1,f2⟩) (LR.cons (.yield hp) LR.nil)) (VL.mono le ⟨f3,f4⟩));obtain⟨J,N,ak,fr,O,W,k3,k4,k5,k6,_⟩:=hs G w2 (a'++#[.func (.yield c) #[] #[]]++b') none (F.mk' tmps (mark++dfs) (.inRangeFunc c::k)::bg i j) .normal t.hr t.glob z trivial (.inl rfl);have:=k4.normal;subst this;have K:=W.le t.hr;have L:=t.step O K;cases U with
     | pan v=>
       cases m;obtain⟨v',X,l2⟩:=k6;exact⟨J,N,tmps,mark++dfs,i,L,Ext.trans T W,v',.inRangeFunc c::k,l2,Steps.trans (.one H) (Steps.trans k5 (.one (pu X (c:=F.mk' tmps (mark++dfs) (.inRangeFunc c::k)) (cs:=bg i j))))⟩
     | ret v=>
       obtain⟨v',X,l2⟩:=k6;simp only []at m
       split at m
       next x1 Y=>
        have Z:dZ J M.n c:=hp.mono K;obtain⟨al,u,g1,g2,Q⟩:=tv O Z Y;have p:Steps P (lone (F.mk' tmps dfs (.code (.rangeFunc f params assign body)::k)) (bg i j) w) (lone (F.mk' tmps (mark++dfs) (.endRangeFunc c::k)) (bg i j) N):=
         Steps.trans (.one H) (Steps.trans k5 (.one (Cv X (c:=F.mk' tmps (mark++dfs) (.inRangeFunc c::k)) (cs:=bg i j))))
        split at m
        next=>cases m
        next ad=>
         have af:u.state≠ .busy:=(by intro e;have:=Q.st;rw [e]at this;exact ad this.symm);have ay:=EC (P:=P) (F:=F) (tmps:=tmps) (dfs:=mark++dfs) (k:=k) (cs:=bg i j) g2 af;obtain⟨a1,a2⟩:=qr O g1 (by grind) (vC (o:=.loop {u with state:=.exhausted}) g2);have A:=L.step a1 (a2.le O);have e4:=Ext.trans T (Ext.trans W a2);have B: ∀td,(u.pending.map Item.code).toList++k=td->step P (lone (F.mk' tmps (mark++dfs) (.endRangeFunc c::k)) (bg i j) N)=
          .next (lone (F.mk' tmps (mark++dfs) td) (bg i j) (setW N c (.loop {u with state:=.exhausted}))):=by
          grind
         split at m
         next r=>
          cases m;exact⟨_,_,tmps,mark++dfs,i,A,e4,Steps.trans p (.one (B _ (by rw [Q.pending,r];rfl)))⟩
         next id r=>
          cases m;exact⟨_,_,tmps,mark++dfs,i,A,e4,k,rfl,Steps.trans p (.one (B _ (by rw [Q.pending,r];rfl)))⟩
         next r=>
          cases m;exact⟨_,_,tmps,mark++dfs,i,A,e4,k,Steps.trans p (.one (B _ (by rw [Q.pending,r];rfl)))⟩
         next=>cases m
       next=>cases m
 next=>cases m
include ok hc hcode in
theorem C5(T:DrawOk E P R)(L:xZ E P R):ku P (aT E R):=by
 intro V c
 induction c with
 | skip=>
   intro l h x J K j B w F p e dfs o k A s C;rcases C with rfl|⟨b,D,_⟩
   . cases j;exact⟨B,w,e,dfs,o,s,Ext.refl B _ w s.hr,.one st_skip⟩
   . cases D
 | label n=>
   intro l h x J K j B w F p e dfs o k A s C;rcases C with rfl|⟨b,D,_⟩
   . cases j;exact⟨B,w,e,dfs,o,s,Ext.refl B _ w s.hr,.one st_label⟩
   . cases D
 | region id ops W=>
   intro l h x J K j B w F p e dfs o k A s C;rcases C with rfl|⟨b,D,_⟩
   . simp only [aT]at j;cases W with
     | false=>simp only [cond_false]at j;have r:=Bp ok hc hcode (ops:=ops) (k:=k) ops.toList 0 _ _ _ _ _ _ _ _ _ _ rfl s j;rw [Array.length_toList,<-List.range_eq_range']at r;exact r.pre (.one st_region) (Ext.refl B h w s.hr)| true=>
       simp only [cond_true]at j;cases Q:E.cut V.fn with
       | true=>rw [Q]at j;exact L V id ops l h _ _ _ j B w F p e dfs o k s| false =>
         rw [Q]at j;simp only [cond_false]at j;cases hp:kH E (bV ops.toList)with
         |none=>grind| some q=>
           obtain⟨q,ps⟩:=q;rw [hp]at j;simp only []at j;cases he:bW E R (bV ops.toList) q (bV ops.toList) 0 l h []with
           |none=>grind| some q3=>
             obtain⟨l1,h1,tr⟩:=q3;rw [he]at j;simp only []at j;cases X:c8 tr ps with
             |false=>grind| true=>
               rw [X]at j;cases j;exact T V id ops l h _ _ q ps tr hp he X B w F p e dfs o k s
   . cases D
 | seq a b M N=>
   intro l h x J K j B w F p e dfs o k A s C;rcases C with rfl|⟨b,D,_⟩
   . simp only [aT]at j;cases S:aT E R V a l h with
     |none=>grind| some q=>
       obtain⟨Y,l1,h1⟩:=q;rw [S]at j;obtain⟨u,G,d,g,y,H,I,U⟩:=M _ _ _ _ _ S B w F p e dfs o (.code b::k) _ s (.inl rfl);have z:=Reach.pre (.one st_seq) U;cases Y with
       | normal=>exact Sim.pre z I (N _ _ _ _ _ j u G F p d g y k _ H (.inl rfl))|exit id=>cases j;exact⟨u,G,d,g,y,H,I,z.out (fun id _=>rfl) (by simp)⟩
       |ret=>cases j;exact⟨u,G,d,g,y,H,I,z.out (fun id _=>rfl) (by simp)⟩
       |pan v=>cases j;exact⟨u,G,d,g,y,H,I,z.out (fun id _=>rfl) (by simp)⟩
   . cases D
 | cond c a b M N=>
   intro l h x J K j B w F p e dfs o k A s C;rcases C with rfl|⟨b,D,_⟩
   . simp only [aT]at j;have hv:=ev_rel s.regs c s.glob
     split at j
     next t ak=>
      rw [ak]at hv;cases Z:dX e c<;>rw [Z]at hv<;>cases hv;have O:=st_cond (P:=P) (F:=F) (dfs:=dfs) (k:=k) (cs:=bg o p) (w:=w) (a:=a) (b:=b) Z;cases t with
      |true=>exact Sim.pre (.one O) (Ext.refl B h w s.hr) (M _ _ _ _ _ j B w F p e dfs o k _ s (.inl rfl))|false=>exact Sim.pre (.one O) (Ext.refl B h w s.hr) (N _ _ _ _ _ j B w F p e dfs o k _ s (.inl rfl))
     next=>cases j
   . cases D
 | block id b ih=>
   intro l h x J K j B w F p e dfs o k A s C;rcases C with rfl|⟨b,D,_⟩
   . simp only [aT]at j;cases S:aT E R V b l h with
     |none=>grind| some q=>
       obtain⟨Y,l1,h1⟩:=q;rw [S]at j;obtain⟨u,G,d,g,y,H,I,U⟩:=ih _ _ _ _ _ S B w F p e dfs o (.inBlock id::k) _ s (.inl rfl);have z:=Reach.pre (.one st_block) U;cases Y with
       |normal=>cases j;exact⟨u,G,d,g,y,H,I,Steps.trans z (.one EE)⟩
       | exit i=>
         simp only []at j;obtain⟨k0,ad,r2⟩:=z;cases hi:zM i id with
         | true=>
           have:i=id:=XM hi;subst this;rw [hi]at j;cases j;exact⟨u,G,d,g,y,H,I,Steps.trans r2 (.one (st_exit (k':=k) (by rw [ad];simp [exitTo])))⟩
         | false=>
           have al:id≠i:=(by grind[XS]);rw [hi]at j;cases j;exact⟨u,G,d,g,y,H,I,k0,by rw [ad];simp [exitTo,al],r2⟩
       |ret=>cases j;exact⟨u,G,d,g,y,H,I,z⟩
       |pan v=>cases j;exact⟨u,G,d,g,y,H,I,z⟩
   . cases D
 | loop b ih=>
   intro l h x J K j B w F p e dfs o k A s C;have O:step P (lone (F.mk' e dfs A) (bg o p) w)=.next (lone (F.mk' e dfs (.code b:: .inLoop b::k)) (bg o p) w):=by
    rcases C with rfl|⟨b2,D,rfl⟩
    . exact st_loop
    . cases D;exact st_inLoop
   simp only [aT]at j;cases S:aT E R V b l h with
   |none=>grind| some q=>
     obtain⟨Y,l1,h1⟩:=q;rw [S]at j;obtain⟨u,G,d,g,y,H,I,U⟩:=ih _ _ _ _ _ S B w F p e dfs o (.inLoop b::k) _ s (.inl rfl);have z:=Reach.pre (.one O) U;cases Y with
     |normal=>exact Sim.pre z I (hcode _ _ _ _ _ _ _ j u G F p d g y k _ H (.inr ⟨b,rfl,rfl⟩))|exit id=>cases j;exact⟨u,G,d,g,y,H,I,z.out (fun id _=>rfl) (by simp)⟩
     |ret=>cases j;exact⟨u,G,d,g,y,H,I,z.out (fun id _=>rfl) (by simp)⟩
     |pan v=>cases j;exact⟨u,G,d,g,y,H,I,z.out (fun id _=>rfl) (by simp)⟩
 | rangeFunc f af ai ax M N=>
   intro l h x J K j B w F p e dfs o k A s C;rcases C with rfl|⟨b,D,_⟩
   . exact BJ ok hc j s
   . cases D
 | exit id=>
   intro l h x J K j B w F p e dfs o k A s C;rcases C with rfl|⟨b,D,_⟩
   . cases j;exact⟨B,w,e,dfs,o,s,Ext.refl B _ w s.hr,k,rfl,Steps.refl _ _⟩
   . cases D
 | scope b ih=>
   intro l h x J K j B w F p e dfs o k A s C;rcases C with rfl|⟨b,D,_⟩
   . obtain⟨u,G,d,g,y,H,I,U⟩:=ih _ _ _ _ _ j B w F p e dfs o (.inScope b::k) _ s (.inl rfl);have z:=Reach.pre (.one st_scope) U;cases x with
     |normal=>exact⟨u,G,d,g,y,H,I,Steps.trans z (.one Fm)⟩|exit id=>exact⟨u,G,d,g,y,H,I,z.out (fun id _=>rfl) (by simp)⟩
     |ret=>exact⟨u,G,d,g,y,H,I,z.out (fun id _=>rfl) (by simp)⟩
     |pan v=>exact⟨u,G,d,g,y,H,I,z.out (fun id _=>rfl) (by simp)⟩
   . cases D
 |goto n=>intro l h x J K j;cases j
 | ret=>
   intro l h x J K j B w F p e dfs o k A s C;rcases C with rfl|⟨b,D,_⟩
   . cases j;exact⟨B,w,e,dfs,o,s,Ext.refl B _ w s.hr,k,Steps.refl _ _⟩
   . cases D
 |refuse m=>intro l h x J K j;cases j
end
theorem uK.hrel(k:uK w w'){h:Hp}(a:aZ mu h w):aZ mu h w':=
 ⟨a.sized,fun b c d e f=>by
  obtain⟨x,o,g,i,j⟩:=a.blk b c d e f;refine⟨x,o,g,?_,j⟩;rw [k.heap c (by
   grind)]
  exact i,a.dead,a.inj,a.lt⟩
theorem uK.ext(k:uK w w'){h:Hp}(hh:aZ mu h w):Ext mu h w mu h w' where
 n:=zO _
 old:=fun _ _=>.inl rfl
 fresh:=fun b c base top hb hm=>absurd (hh.lt b (by rw [hm];simp)) (by omega)
 lo:=zO _
 same:=fun _ _ _=>rfl
 frame:=fun c hc _=>k.heap c hc
 ro:=fun b c base top t sz el hm hg=>by obtain⟨x,o,h1,h2,h3⟩:=hh.blk b c base top hm;refine⟨k.heap c ?_,rfl,rfl⟩;grind
 wsize:=k.size
 os:=k.os
 tape:=k.tape
 output:=k.output
 cover:=fun _ h1 h2=>absurd h2 (by omega)
def tD(mu:Mu):Option Value->FrameMode->Prop
 |none,M=>M=.returning|some v,M=> ∃a,M=.panicking [{v:=a,recovered:=false}]/\aC mu v a
theorem tD.mono{mu c:Mu}(h:Le mu c){m:Option Value}{M:FrameMode}(k:tD mu m M):tD c m M:=by
 cases m with
 |none=>exact k|some v=>obtain⟨d,a,b⟩:=k;exact⟨d,a,b.mono h⟩
def FC.un(F:FC)(tmps:Array Value)(dfs:List Deferred)(todo:List Item)(M:FrameMode):Frame:={F.mk' tmps dfs todo with mode:=M}
section
variable{P:Program}{F:FC}{tmps:Array Value}{dfs:List Deferred}{todo:List Item}{cs:List Frame}{w:World}
theorem BP(e:M≠ .run){a:List Deferred}(d:w.heap[c]? =some (.deferred (some a))):step P (lone (F.un tmps ({target:=.collected c,args}::dfs) todo M) cs w)=.next (lone (F.un tmps (a++dfs) todo M) cs (setW w c (.deferred none))):=by
 refine step_lone_go ?_;have b:=yG (P:=P) d;cases M with
 |run=>grind|returning=>simp [stepG,unwind,FC.un,FC.mk',b]|panicking f=>simp [stepG,unwind,FC.un,FC.mk',b]
theorem rS(b:M≠ .run){f:FuncId}{cap:Array Value}(hf: ∀a w,(callFunc f a).run P w=.ok (.enter f a) w):step P (lone (F.un tmps ({target:=.fn (.func f) cap,args}::dfs) todo M) cs w)=.next (lone (Frame.enter P f (args++cap) .deferred) (F.un tmps dfs todo M::cs) w):=by
 refine step_lone_go ?_;cases M with
 |run=>grind|returning=>simp [stepG,unwind,callDeferred,FC.un,FC.mk',invoke,hf]|panicking c=>simp [stepG,unwind,callDeferred,FC.un,FC.mk',invoke,hf]
theorem qK{b c:Frame}(h:te P b w .deferred v)(a:c.mode=.returning\/ ∃v',c.mode=.panicking [{v:=v',recovered:=false}]):step P (lone b (c::cs) w)=.next (lone c cs w):=by
 obtain⟨e,hf,d⟩:=h.res;refine step_lone_go ?_;rcases a with a|⟨v',a⟩<;>simp [stepG,unwind,doReturn,h.mode,h.defers,h.kind,hf,d,a]
theorem vZ{a c:Frame}(h:te P a w .deferred v)(b:c.mode=.panicking [{v:=v',recovered:=true}]):step P (lone a (c::cs) w)=.next (lone {c with mode:=.returning} cs w):=by
 obtain⟨e,hf,d⟩:=h.res;exact step_lone_go (by simp [stepG,unwind,doReturn,h.mode,h.defers,h.kind,hf,d,b])
end
section
variable{E:Env}{P:Program}(ok:EOk E P){R:Rec}(hc:iV E P R.call)(hcode:ku P R.code)
include ok hc in
theorem mZ{F : FC}{tmps:Array Value}{todo:List Item}{cs:List Frame}: ∀(H:List Deferred) (m C:Option Value) (h h':Hp),cI R H m h=some (C,h')->
 ∀ (mu:Mu) (w:World) (dfs:List Deferred) (M:FrameMode),aZ mu h w->oe mu->DL mu H dfs->tD mu m M->
   ∃j w' M',aZ j h' w'/\Ext mu h w j h' w'/\tD j C M'/\Steps P (lone (F.un tmps dfs todo M) cs w) (lone (F.un tmps [] todo M') cs w')
 | [],m,C,h,h',i,mu,w,dfs,M,x,I,hd,J=>by
   cases i;rw [hd.nil_left];exact⟨mu,w,M,x,Ext.refl mu h w x,J,Steps.refl _ _⟩
 | d :: H, m,C,h,h',i,mu,w,dfs,M,x,I,hd,J=>by
   obtain⟨d',g,rfl,Q,Z⟩:=hd.cons_left;have hM:M≠ .run:=by
    intro e;subst e;cases m with
    |none=>cases J
    |some v=>obtain⟨_,a,_⟩:=J;cases a
   obtain⟨al,k⟩:=d';unfold cI at i
   split at i
   next b hb=>
    split at i
    next U=>
     unfold oY at Q;rw [hb]at Q;obtain⟨c,r,hp⟩:=Q;simp only []at r;subst r;obtain⟨ax,K,D⟩:=dead_at x hp U;obtain⟨a1,a2⟩:=qr x K (by grind) (vC (o:=.deferred none) D);have s:=a2.le x;obtain⟨j,w',M',S,G,T,k4⟩:=mZ H m C _ h' i _ _ g M a1 (I.mono s) (LR.mono Z fun _ _=>oY.mono s) (J.mono s);exact⟨j,w',M',S,Ext.trans a2 G,T,.head (BP hM D) k4⟩
    next=>cases i
   next f cap hb=>
    unfold oY at Q;rw [hb]at Q;obtain⟨n,r,V,t⟩:=Q;simp only []at r t;subst r;have va:VL mu (d.args.toList++cap.toList) (k++n).toList:=(by rw [Xl];exact LR.append t V);cases m with
    | none=>
      have ad:M=.returning:=J;subst ad;simp only []at i;cases l:R.call f (d.args.toList++cap.toList) none h with
      |none=>grind| some q=>
        obtain⟨L,rc,af⟩:=q;rw [l]at i;obtain⟨⟨fn,N,p⟩,hs⟩:=hc _ _ _ _ _ _ _ l;have A:=rS (P:=P) (F:=F) (tmps:=tmps) (dfs:=g) (todo:=todo) (cs:=cs) (w:=w) hM (cap:=n) (args:=k) (fun a w=>ok.call f fn a w N p);obtain⟨B,w1,u,fr,S,G,T,k4,k5,k6,_⟩:=hs mu w (k++n) none (F.un tmps g todo .returning::cs) .deferred x I va trivial (.inr ⟨rfl,_,_,rfl,rfl⟩);cases L with
        |pan v=>cases i
        | ret v=>
          obtain⟨v',l1,l2⟩:=k6;simp only []at i;cases rc with
          |some y=>cases i
          | none=>
            cases u with
            |some y=>exact T.elim| none=>
              simp only []at i;have s:=G.le x;obtain⟨j,w',M',K,D,W,X⟩:=mZ H none C _ h' i B w1 g .returning S (I.mono s) (LR.mono Z fun _ _=>oY.mono s) rfl;exact⟨j,w',M',K,Ext.trans G D,W,Steps.trans (.one A) (Steps.trans k5 (.head (qK l1 (.inl rfl)) X))⟩
    | some pv =>
      obtain⟨Y,rfl,ai⟩:=J;simp only []at i;cases l:R.call f (d.args.toList++cap.toList) (some (pv,false)) h with
      |none=>grind| some q=>
        obtain⟨L,rc,af⟩:=q;rw [l]at i;obtain⟨⟨fn,N,p⟩,hs⟩:=hc _ _ _ _ _ _ _ l;have A:=rS (P:=P) (F:=F) (tmps:=tmps) (dfs:=g) (todo:=todo) (cs:=cs) (w:=w) hM (cap:=n) (args:=k) (fun a w=>ok.call f fn a w N p);obtain⟨B,w1,u,fr,S,G,T,k4,k5,k6,_⟩:=hs mu w (k++n) (some (Y,false)) (F.un tmps g todo (.panicking [{v:=Y,recovered:=false}])::cs) .deferred x I va ⟨rfl,ai⟩ ⟨rfl,by simp⟩;cases L with
        |pan v=>cases i
        | ret v =>
          obtain⟨v',l1,l2⟩:=k6;simp only []at i;have s:=G.le x;cases rc with
          |none=>cases i
          | some y=>
            obtain⟨v0,b⟩:=y;cases u with
            |none=>exact T.elim| some z=>
              obtain⟨O,b'⟩:=z;obtain⟨rfl,ak⟩:=T;cases b with
              | true=>
                simp only []at i;obtain⟨j,w',M',K,D,W,X⟩:=mZ H none C _ h' i B w1 g .returning S (I.mono s) (LR.mono Z fun _ _=>oY.mono s) rfl;refine⟨j,w',M',K,Ext.trans G D,W,Steps.trans (.one A) (Steps.trans k5 (.head (vZ l1 rfl) X))⟩
              | false=>
                simp only []at i;obtain⟨j,w',M',K,D,W,X⟩:=mZ H (some v0) C _ h' i B w1 g (.panicking [{v:=O,recovered:=false}]) S (I.mono s) (LR.mono Z fun _ _=>oY.mono s) ⟨O,rfl,ak⟩;refine⟨j,w',M',K,Ext.trans G D,W,Steps.trans (.one A) (Steps.trans k5 (.head (qK l1 (.inr ⟨O,rfl⟩)) X))⟩
   next=>cases i
include ok in
theorem D6{h:Hp}(p:aZ mu h w)(i:kD mu t n tmps): ∀(rs:List ResultVar) (vs:List Value),bS E t h rs=some vs->
 ∃ b,(rs.mapM (fun
   | .tmp t=>pure (tmps.getD t undef)| .cell a t=>do loadVar t (<-asAddr (tmps.getD a undef)):ResultVar->Sem Value)).run P w=.ok b w/\VL mu vs b:=by
 have e: ∀a,aC mu (match t.get a with|some v=>v|none=>.tuple #[]) (tmps.getD a undef):=by
  intro a;cases d:t.get a with
  | none=>
    have:n<=a:=by
     rcases XW a n with g|g
     . obtain⟨v,q⟩:=Tr.get_some i.sized g;grind
     . exact g
    rw [Xz,XL (by rw [i.size];exact this)];exact .tuple rfl (by grind)
  | some v=>
    obtain⟨k,g,q⟩:=i.get a v d;simp_all
 intro rs
 induction rs with
 |nil=>intro vs c;cases c;exact⟨[],by simp,LR.nil⟩
 | cons r rs m=>
   intro vs c;cases r with
   | tmp a=>
     simp only [bS]at c;cases f:bS E t h rs with
     |none=>grind| some l=>
       rw [f]at c;cases c;obtain⟨b,s,o⟩:=m l f;grind[undef,LR.cons,Sem.run_bind,Sem.run_pure,Result.andThen_ok]
   | cell a u=>
     simp only [bS]at c
     split at c
     next=>cases c
     next v d=>
      cases f:bS E t h rs with
      |none=>grind| some l=>
        rw [f]at c;cases c;obtain⟨b,s,o⟩:=m l f;obtain⟨k,C,z⟩:=Bu (P:=P) ok p d (e a);refine⟨k::b,?_,LR.cons z o⟩;have D: ∃j,tmps.getD a undef=.pointer (some j):=(by have A: ∀x y,gw E h u x=some v->aC mu x y-> ∃j,y=.pointer (some j):=(by intro x y d B;unfold gw at d;cases B<;>(try simp only []at d)<;>first|(cases d;done)|grind);grind);grind[asAddr,undef,run,Instr.loadAt,Instr.sureAddr,Sem.run_bind,Sem.run_pure,Result.andThen_ok]
include ok in
theorem En{h:Hp}(j:aZ mu h w)(k:kD mu t n tmps){c:Func}(l:bS E t h c.results.toList=some vs):
 ∃v',(results c tmps).run P w=.ok v' w/\aC mu (aa vs) v':=by
 obtain⟨b,m,d⟩:=D6 (P:=P) ok j k _ _ l;have o:(results c tmps).run P w=.ok (if h:b.toArray.size=1 then b.toArray[0]else .tuple b.toArray) w:=by
  unfold results;rw [XC];simp only [map_eq_pure_bind,Sem.run_bind];refine(congrArg (fun q:Result (List Value)=>(q.andThen fun a e=>(pure a.toArray:Sem (Array Value)).run P e).andThen
   fun a e=>(pure (if h:a.size=1 then a[0]else .tuple a):Sem Value).run P e) m).trans ?_
  simp
 refine⟨_,o,?_⟩;cases vs with
 | nil=>rw [d.nil_left];exact .tuple rfl (by grind)| cons v r=>
   obtain⟨v',B,rfl,p,g⟩:=d.cons_left;cases r with
   | nil=>rw [g.nil_left];simpa [aa]using p| cons C D=>
     obtain⟨s,x,rfl,F,y⟩:=g.cons_left;simp only [aa,List.size_toArray,Xk];rw [dif_neg (by omega)];exact .tuple (by simpa using y.1) (fun i u z A f=>d.2 i u z (by simpa using A) (by simpa using f))
include ok hc hcode in
theorem CA : iV E P (mO E R):=by
 intro g c rc h o U h' f;unfold mO at f;cases V:E.fn g with
 |none=>grind| some d =>
   rw [V]at f;simp only []at f;cases hb:d.body with
   |none=>grind| some n =>
     rw [hb]at f;simp only []at f;refine⟨⟨d,rfl,by rw [hb];rfl⟩,?_⟩;intro mu w b u l j hh hg ha af K;have hP:=ok.fn g d V;cases hle:Xc c.length d.ntmps with
     |false=>grind| true =>
       rw [hle]at f;simp only [cond_true]at f;have ay:c.length<=d.ntmps:=XN hle;have ai:j=.normal\/j=.deferred:=by
        cases u with
        |none=>rcases K with a|a;exact .inl a;exact .inr a.1
        |some y=>exact .inr K.1
       let F:FC:=⟨g,j,none⟩
       have W:Frame.enter P g b j=F.mk' (b++Xo (d.ntmps-b.size) undef) [] [.code n]:=(by simp [Frame.enter,hP,hb,FC.mk',F]);have aL:c.length=b.size:=(by rw [ha.1];simp);have L:kD mu ((Tr.blank (.tuple #[]) d.ntmps d.ntmps).setAll 0 c) d.ntmps (b++Xo (d.ntmps-b.size) undef):=by
        refine⟨by grind,Tr.sized_setAll 0 c (Tr.sized_blank _ _ _ (zO _)),fun i v D=>?_⟩;rw [Tr.get_setAll _ 0 c d.ntmps (Tr.sized_blank _ _ _ (zO _)) (by omega)]at D;by_cases hi:i<c.length
        . rw [if_pos ⟨Nat.zero_le _,by omega⟩]at D;obtain⟨C,g1,g2⟩:=ha.get (i:=i) (by simpa using D);grind
        . rw [if_neg (by omega),Tr.get_blank _ _ _ (zO _)]at D
          split at D
          . cases D;refine⟨undef,?_,.tuple rfl (by grind)⟩;grind
          . cases D
       have sr:SR P ⟨g,d.ntmps,none⟩ ⟨(Tr.blank (.tuple #[]) d.ntmps d.ntmps).setAll 0 c,[],rc⟩ h mu w F l (b++Xo (d.ntmps-b.size) undef) [] u:=
        ⟨hh,hg,L,LR.nil,af,K,rfl,trivial,fun e=>absurd rfl e,by grind⟩
       rw [W];cases X:R.code ⟨g,d.ntmps,none⟩ n ⟨(Tr.blank (.tuple #[]) d.ntmps d.ntmps).setAll 0 c,[],rc⟩ h with
       |none=>grind| some q =>
         obtain⟨x,G,h1⟩:=q;rw [X]at f;obtain⟨Y,w1,p,z,k,t,e1,r1⟩:=hcode _ _ _ _ _ _ _ X mu w F l _ [] u [] [.code n] sr (.inl rfl);have Z: ∀{r:Array Value} {todo:List Item} {m:Mu} {M:Hp} {I:World} {N:List Value},aZ m M I->kD m G.regs d.ntmps r->bS E G.regs M d.results.toList=some N->
          ∃C,te P (F.un r [] todo .returning) I j C/\aC m (aa N) C:=by
          intro r todo m M I N ak al s;obtain⟨C,g1,g2⟩:=En (P:=P) ok ak al s;exact⟨C,⟨rfl,rfl,rfl,d,hP,g1⟩,g2⟩
         have A: ∀{todo:List Item},Steps P (lone (F.mk' (b++Xo (d.ntmps-b.size) undef) [] [.code n]) (bg u l) w) (lone (F.mk' p z todo) (bg k l) w1)->(todo=[]\/ ∃k0,todo=.code .ret::k0)->
          (match cI R G.dfs none h1 with
            | some (none,ad)=>match bS E G.regs ad d.results.toList with
              |none=>none|some N=>some (Out.ret (aa N),G.rc,ad)
            |_=>none)=some (o,U,h')->
          ∃ H w' B fr,aZ H h' w'/\Ext mu h w H h' w'/\su H U B/\KOk j l B/\
            Steps P (lone (F.mk' (b++Xo (d.ntmps-b.size) undef) [] [.code n]) (bg u l) w) (lone fr (bg B l) w')/\
            CallEnd P fr w' j H o/\fr.fn=g:=by
          intro todo st ht f;cases hu:cI R G.dfs none h1 with
          |none=>grind| some q2=>
            obtain⟨m2,M⟩:=q2;rw [hu]at f;cases m2 with
            |some v=>cases f
            | none=>
              simp only []at f;obtain⟨m,I,M2,J,S,k3,k4⟩:=mZ ok hc (F:=F) (tmps:=p) (todo:=todo) (cs:=bg k l) _ _ _ _ _ hu Y w1 z .returning t.hr t.glob t.dfs rfl;have O:M2=.returning:=k3;subst O;have le:=S.le t.hr;cases s:bS E G.regs M d.results.toList with
              |none=>grind| some N=>
                rw [s]at f;cases f;have T:=t.step J le;obtain⟨C,f1,f2⟩:=Z (todo:=todo) J T.regs s;exact⟨m,I,k,_,J,Ext.trans e1 S,T.rc,t.ko,Steps.trans st (.head (EU rfl ht) k4),⟨C,f1,f2⟩,rfl⟩
         cases x with
         |exit id=>cases f
         |normal=>exact A r1 (.inl rfl) f|ret=>obtain⟨k0,r2⟩:=r1;exact A r2 (.inr ⟨k0,rfl⟩) f
         | pan v =>
           obtain⟨C,todo,D,r2⟩:=r1;simp only []at f;cases hu:cI R G.dfs (some v) h1 with
           |none=>grind| some q2=>
             obtain⟨m2,M⟩:=q2;rw [hu]at f;obtain⟨m,I,M2,J,S,k3,k4⟩:=mZ ok hc (F:=F) (tmps:=p) (todo:=todo) (cs:=bg k l) _ _ _ _ _ hu Y w1 z (.panicking [{v:=C,recovered:=false}]) t.hr t.glob t.dfs ⟨C,rfl,D⟩;have le:=S.le t.hr;have T:=t.step J le;cases m2 with
             | some v2=>
               cases f;obtain⟨Q,rfl,ax⟩:=k3;exact⟨m,I,k,_,J,Ext.trans e1 S,T.rc,t.ko,Steps.trans r2 k4,⟨Q,⟨rfl,rfl,rfl,d,hP⟩,ax⟩,rfl⟩
             | none=>
               have O:M2=.returning:=k3;subst O;simp only []at f;cases s:bS E G.regs M d.results.toList with
               |none=>grind| some N=>
                 rw [s]at f;cases f;obtain⟨Q,f1,f2⟩:=Z (todo:=todo) J T.regs s;exact⟨m,I,k,_,J,Ext.trans e1 S,T.rc,t.ko,Steps.trans r2 k4,⟨Q,f1,f2⟩,rfl⟩
include ok hc hcode in
theorem DJ:iV E P (jO E R):=by
 intro g a r h o j A d;unfold jO at d;cases k:E.orc g a with
 |none=>rw [k]at d;exact CA ok hc hcode g a r h o j A d| some v=>
   rw [k]at d;cases r with
   |some x=>cases d
   | none=>
     cases d;obtain⟨l,J,B,C⟩:=ok.orc g a v k;refine⟨l,?_⟩;intro s w b m n e t K p q f;cases m with
     |some x=>exact q.elim| none=>
       have c:b=⟨a⟩:=(by apply XD;refine List.ext_getElem? fun i=>?_;obtain⟨u,y⟩:=p;grind[XW,Xd,dA,Xf,XH,aC.const_eq,List.getElem?_eq_none]);subst c;obtain⟨D,F,z,G,H,I⟩:=C w n e f;exact⟨s,D,none,F,z.hrel t,z.ext t,trivial,f,G,⟨v,H,aC.const s B⟩,I⟩
end
theorem run_ok{E:Env}{P:Program}(d:EOk E P)(e: ∀R,iV E P R.call->ku P R.code->DrawOk E P R/\xZ E P R): ∀n,iV E P (run E n).call/\ku P (run E n).code
 | 0=>by
   constructor
   . intro g args rc h o i h' f;cases f
   . intro cx c l h x l' h' f;cases f
 | n+1=>by obtain⟨a,b⟩:=run_ok d e n;exact⟨DJ d a b,C5 d a b (e _ a b).1 (e _ a b).2⟩
noncomputable def hp0:Hp:={n:=16,t:=Tr.ofList (XP 16 .dead),lo:=16}
def mu0:Mu:=fun b=>if b<16 then .dead else .none
theorem hrel0(w:World):aZ mu0 hp0 w:=by
 refine⟨?_,?_,?_,?_,?_⟩
 . have:=Tr.sized_ofList (XP 16 Blk.dead);rwa [List.length_replicate]at this
 . intro b c a d h;unfold mu0 at h;split at h<;>cases h
 . intro b h;unfold mu0 at h
   split at h
   next e=>show(Tr.ofList (XP 16 Blk.dead)).get b=_;rw [Tr.get_ofList,List.getElem?_replicate,if_pos e]
   next=>cases h
 . intro b i c a d f g h;unfold mu0 at h;split at h<;>cases h
 . intro b h;unfold mu0 at h
   split at h
   next e=>exact e
   next=>exact absurd rfl h
theorem glob0:oe mu0:=by intro g a;unfold gu mu0;simp [a]
theorem AB{h a:Hp}{o:Nat}(e:a.get b=h.get b):h.load b o n=a.load b o n:=by unfold Hp.load;rw [e]
theorem yD{E : Env}{op:Op}(z:cls E op=0\/cls E op=1):
 ∃f:Hp->Option Value,(∀h,aop E ρ h op=di h (f h))/\(cls E op=0-> ∀h i,f h=f i)/\(∀h i,(∀b,touch ρ op=some b->i.get b=h.get b)->f h=f i):=by
 have w:(∀h,aop E ρ h op=di h (pop E ρ op))-> ∃f:Hp->Option Value,(∀h,aop E ρ h op=di h (f h))/\(cls E op=0-> ∀h i,f h=f i)/\(∀h i,(∀b,touch ρ op=some b->i.get b=h.get b)->f h=f i):=
  fun h=>⟨fun _=>pop E ρ op,h,fun _ _ _=>rfl,fun _ _ _=>rfl⟩
 cases op
 case load t a=>
  refine⟨fun h=>gw E h t (ρ a),fun _=>rfl,fun u=>by simp [cls]at u,fun h i q=>?_⟩;show gw E h t (ρ a)=gw E i t (ρ a);unfold gw;unfold touch at q;simp only []at q
  split at q
  next x G=>
   try rw [G]
   try simp only []
   have e: ∀o n,h.load x.block o n=i.load x.block o n:=fun o n=>AB (q _ rfl);simp only [e]
  grind
 case lookup t m k b=>
  refine⟨fun h=>cM E h t (ρ m) (ρ k) b,fun _=>rfl,fun u=>by simp [cls]at u,fun h i q=>?_⟩;show cM E h t (ρ m) (ρ k) b=cM E i t (ρ m) (ρ k) b;unfold touch at q;unfold cM;grind
 case convert j g x=>
  have B:cls E (.convert j g x)=0-> ∀p,cZ E j g=some p->p.1=0:=by grind[cls,cZ]
  have A:cls E (.convert j g x)=1-> ∀p,cZ E j g=some p->p.1=0\/p.1=1:=by intro u p H;unfold cls at u;unfold cZ at H;grind
  refine⟨fun h=>match cZ E j g with
   |some (0,_)=>jM E g (ρ x)|some (1,_)=>strOf h (ρ x)|_=>none,fun h=>?_,fun u h i=>?_,fun h i q=>?_⟩
  . show dH (jJ E h j g (ρ x))=di h _;unfold jJ;cases C:cZ E j g with
    |none=>rfl| some p=>
      obtain⟨n,e⟩:=p;have D:n=0\/n=1:=(by grind);rcases D with rfl|rfl
      . simp only [];cases jM E g (ρ x)<;>rfl
      . simp only [];cases strOf h (ρ x)<;>rfl
  . grind
  . cases C:cZ E j g with
    |none=>simp only [C]| some p=>
      obtain⟨n,e⟩:=p;simp only [C]
      match n with
      |0=>rfl| 1=>
        show strOf h (ρ x)=strOf i (ρ x);unfold touch at q;simp only []at q;unfold strOf;cases F:ρ x<;>rw [F]at q<;>(try rfl);rename_i a l c;cases a with
        |none=>rfl|some a=>simp only []at q⊢;rw [AB (q _ rfl)]
      |n+2=>rfl
 case call c =>
  cases s:c.callee with
  |value f=>simp [cls,s]at z|invoke r n=>simp [cls,s]at z| builtin b =>
    cases b<;>(try (simp [cls,s]at z;done))
    case len =>
     refine ⟨fun h=>match pop E ρ (.call c)with
      |some v=>some v| none => match c.args.toList with
        | x ::_=>match ρ x with
          | .map (some r)=>match h.get r with
            | some (.map I _)=>match c.argTypes.toList with
              | t::_=>match E.und t with
                |some (.map _ _)=>some (.int .i64 (.ofNat I.length))|_=>none
              |_=>none
            |_=>none
          |_=>none
        |_=>none,fun h=>?_,fun u=>by simp [cls,s]at u,fun h i q=>?_⟩
     . simp only [aop,s];cases pop E ρ (.call c)with
       |some v=>rfl| none=>
         simp only [];cases K:c.args.toList with
         |nil=>rfl| cons x L=>
           simp only [];cases F:ρ x<;>(try rfl);rename_i r;cases r with
           |none=>rfl| some r=>
             simp only [];cases M:h.get r with
             |none=>rfl| some y=>
               cases y<;>(try rfl);cases J:c.argTypes.toList with
               |nil=>rfl| cons t N=>
                 simp only [];cases O:E.und t with
                 |none=>rfl|some d=>cases d<;>rfl
     . show _=_;cases pop E ρ (.call c)with
       |some v=>rfl| none=>simp only [];unfold touch at q;grind
    all_goals simp_all[aop]
 all_goals first
  |exact w (fun _=>rfl)|(exfalso;simp [cls]at z;done)
theorem dB{h:Hp}{a:Nat}{x:Blk}(c:b≠a):(h.put b x).get a=h.get a:=by rw [Hp.get_put,if_neg (fun e=>c e.1)]
theorem uz{h:Hp}{x:Blk}(a:OZ h)(c:b<h.n):(h.new x).get b=h.get b:=by rw [Hp.get_new h x a,if_neg (by omega)]
theorem qP{h c:Hp}{o:Nat}(e:h.store b o l=some c){a:Nat}(d:b≠a):c.get a=h.get a:=by grind[Hp.store,dB]
theorem qE{E:Env}{h:Hp}{t:TypeId}{r:Nat}{a:List (Value×Value×Nat)}{el:TypeId}(b:jV E h t m k=some (r,a,c,el)):m=.map (some r)/\h.get r=some (.map a c)/\ ∃kt,E.und t=some (.map kt el)/\bK E kt k=true:=by
 unfold jV at b;grind
theorem w_only{E : Env}{op:Op}{h A:Hp}{nx:dU}(U:OZ h)(w:cls E op=2\/cls E op=5)(g:aop E ρ h op=some (nx,A)):
 ∀b,b<h.n->touch ρ op≠some b->A.get b=h.get b:=by
 intro b V ht;have H: ∀{r:Option (Hp×Value)},dH r=some (nx,A)-> ∃v,r=some (A,v):=by
  intro r B;cases r with
  |none=>cases B
  |some q=>obtain⟨a,b⟩:=q;cases B;grind
 have D: ∀{r:Option Hp},gC r=some (nx,A)->r=some A:=by
  intro r B;cases r with
  |none=>cases B
  |some q=>cases B;rfl
 cases op
 case store t a x=>have d:=D g;grind[jH,touch,zM,ac,qP]
 case mapUpdate t m k v=>
  have d:=D g;unfold ey at d
  split at d
  next=>cases d
  next r F c G y=>
   obtain⟨I,_,_⟩:=qE y;grind[touch,dB]
 case insert t m k v=>
  have d:=D g;unfold ey at d
  split at d
  next=>cases d
  next r F c G y=>
   obtain⟨I,_,_⟩:=qE y;grind[touch,dB]
 case mapEntry t m k=>
  obtain⟨v,d⟩:=H g;unfold jK at d
  split at d
  next=>cases d
  next r F c G y=>
   obtain⟨I,_,_⟩:=qE y;grind[touch,dB]
 case entryStore t m s v=>
  have d:=D g;unfold nT at d
  split at d
  next r B=>
   have j:r≠b:=by grind[touch]
   split at d
   next F c W=>grind[dB]
   next=>cases d
  next=>cases d
 case call c =>
  cases l:c.callee with
  |value f=>simp [cls,l]at w|invoke r n=>simp [cls,l]at w| builtin X =>
    cases X<;>(try (simp [cls,l]at w;done))
    case append =>
     simp only [aop,l]at g
     split at g
     next s x Q o =>
      obtain⟨v,d⟩:=H g;unfold dS at d
      split at d
      next t tx R =>
       split at d
       next =>
        unfold lZ at d
        split at d
        next e Y=>
         split at d
         next=>cases d
         next i hi =>
          split at d
          next a z C J=>
           have j: ∀u,a=some u->u.block≠b:=by grind[touch]
           split at d
           next=>cases d
           next n K S=>
            unfold ig at d;cases T:Xc (z+n) C with
            | true=>
              rw [T]at d;simp only [cond_true]at d
              split at d
              next=>cases d;rfl
              next u=>
               split at d
               next=>cases d;rfl
               next=>
                split at d
                next=>cases d
                next L p=>cases d;exact qP p (j _ rfl)
            | false =>
              rw [T]at d;simp only [cond_false]at d;cases M:(Xc ((z+n)*(i.bytes+1)) 70368744177664&&(Xb 0 i.bytes))with
              |false=>grind| true =>
                rw [M]at d;simp only [cond_true]at d
                split at d
                next=>cases d
                next Z hz=>
                 cases N:zM Z.length i.size with
                 |false=>grind| true=>
                   rw [N]at d;simp only [cond_true]at d;unfold pY at d
                   split at d
                   next=>grind[zM,uz]
                   next u=>
                    split at d
                    next tr sz G md W=>
                     split at d
                     next=>cases d
                     next t2 s2 af=>
                      split at d
                      next k' ai=>
                       cases O:(zM k' i.size&& !Nat.beq md 0&&K.all mr)with
                       |false=>grind| true=>
                         rw [O]at d;cases d;rw [uz (h:=h.put u.block .dead) (Tr.sized_set _ _ U) V];exact dB (j _ rfl)
                      grind[uz]
                    next=>cases d
          next=>cases d
        next=>cases d
       next=>cases d
      next=>cases d
     next=>cases g
    case copy =>
     simp only [aop,l]at g
     split at g
     next s x Q o=>
      obtain⟨v,d⟩:=H g;unfold copyV at d
      split at d
      next t R=>
       split at d
       next e Y=>
        split at d
        next=>cases d
        next k hk=>
         split at d
         next a z C J=>
          have j: ∀u,a=some u->u.block≠b:=by grind[touch]
          split at d
          next=>cases d;rfl
          next=>
           split at d
           next=>cases d
           next=>cases d;rfl
           next=>
            split at d
            next=>cases d
            next u=>
             split at d
             next=>cases d
             next L p=>cases d;exact qP p (j _ rfl)
          next s=>
           cases P:zM k 1 with
           |false=>grind| true=>
             rw [P]at d;simp only [cond_true]at d
             split at d
             next=>cases d;rfl
             next=>
              split at d
              next=>cases d
              next u=>
               split at d
               next=>cases d
               next L p=>cases d;exact qP p (j _ rfl)
          next=>cases d
         next=>cases d
       next=>cases d
      next=>cases d
     next=>cases g
    case delete=>
     simp only [aop,l]at g
     split at g
     next t R m k Q ak o=>
      split at g
      next=>cases g
      next L d=>
       cases g;unfold oJ at d
       split at d
       next=>cases d
       next r F c G y=>
        obtain⟨I,_,_⟩:=qE y;grind[touch,dB]
     next=>cases g
 case convert al ax x=>grind[cls]
 all_goals first
  |(exfalso;simp [cls]at w;done)
  |(exfalso;unfold cls at w;simp only []at w;split at w<;>simp at w;done)
theorem pg{a b:Value}(h:cD a b=some true):a=b:=by
 unfold cD at h;cases a<;>(try (simp at h;done))<;>cases b<;>(try (simp at h;done))
 . grind
 . grind[jf,je]
 . rename_i s u;simp only []at h;rw [lg]at h;simp at h;have:s=u:=(by cases s;cases u;simp [aS]at h;simp [h]);subst this;rfl
 . rename_i x y;simp only []at h;have:=(sY _ _ h).2.2.2.1 rfl;simp_all
theorem Bw{kd:IntKind}: ∀(l m:List Value),(∀v∈l,∃x,v=.int kd x)->(∀v∈m,∃x,v=.int kd x)->l.length=m.length-> ∃r,dN l m=some r
 | [],[],_,_,_=>⟨true,rfl⟩| a::l,b::m,c,d,e=>by
   obtain⟨x,rfl⟩:=c a (by simp);obtain⟨y,rfl⟩:=d b (by simp);obtain⟨r,f⟩:=Bw l m (fun v h=>c v (by simp [h])) (fun v h=>d v (by simp [h])) (by simpa using e);simp_all[jh,dN,jf,decide_true,cond_true]
 | [],_::_,_,_,h=>by simp at h|_::_,[],_,_,h=>by simp at h
theorem uv{E:Env}{kt:TypeId}{a b:Value}(c:bK E kt a=true)(e:bK E kt b=true): ∃r,cD a b=some r:=by
 unfold bK at c e;cases f:E.und kt with
 |none=>simp [f]at c| some d=>
   cases g:iX d with
   | true=>
     cases d<;>simp only [iX]at g<;>try (cases g;done)
     obtain⟨p,q,rfl,_,_,i,j,l⟩:=pH (E:=E) (kt:=kt) (k:=a) f (by unfold bK;exact c);obtain⟨s,m,rfl,_,_,n,h,o⟩:=pH (E:=E) (kt:=kt) (k:=b) f (by unfold bK;exact e);rw [j]at h;cases h;exact Bw _ _ l o (by rw [i,n])
   |false=>
   simp only [f]at c e;cases d<;>simp only []at c e<;>(try (cases c;done))<;>(try (cases g;done))
   . cases a<;>simp only []at c<;>try (cases c;done)
     cases b<;>simp only []at e<;>try (cases e;done)
     exact⟨_,rfl⟩
   . cases a<;>simp only []at c<;>try (cases c;done)
     cases b<;>simp only []at e<;>try (cases e;done)
     simp_all[jf,decide_eq_true_eq,jh,cD]
   . cases a<;>simp only []at c<;>try (cases c;done)
     cases b<;>simp only []at e<;>try (cases e;done)
     exact⟨_,rfl⟩
theorem Bb{k v:Value}{n:Nat}: ∀{a:List (Value×Value×Nat)},bF k a=some (some (v,n))->kQ k v a=a
 | [],h=>by cases h
 | (d,e,f)::l,h=>by
   simp only [bF,kQ]at h⊢;cases c:cD k d with
   |none=>rw [c]at h;cases h
   | some b=>
     rw [c]at h;cases b with
     |true=>simp only []at h⊢;cases h;rw [pg c]
     |false=>simp only []at h⊢;rw [Bb h]
theorem vp{k a z:Value}{c:Nat}: ∀(d:List (Value×Value×Nat)),bF k (d++[(a,z,c)])=(match bF k d with
 |none=>none|some (some x)=>some (some x)| some none=>match cD k a with
   |none=>none|some true=>some (some (z,c))|some false=>some none)
 | []=>by rfl| (e,f,g)::l=>by
   simp only [List.cons_append,bF];cases h:cD k e with
   |none=>rfl| some b=>
     cases b with
     |true=>rfl|false=>simp only [];exact vp l
theorem look_ent{E:Env}{t:TypeId}{m k:Operand}{h i:Hp}{nx:dU}(f:aop E ρ h (.mapEntry t m k)=some (nx,i))(j l:Value):cM E i t j l false=cM E h t j l false:=by
 obtain⟨v,e⟩: ∃v,jK E h t (ρ m) (ρ k)=some (i,v):=by
  simp only [aop]at f;cases p:jK E h t (ρ m) (ρ k)with
  |none=>rw [p]at f;cases f
  |some q=>rw [p]at f;obtain⟨a,b⟩:=q;cases f;grind
 unfold jK at e
 split at e
 next=>cases e
 next r y c A s=>
  obtain⟨B,n,u,w,C⟩:=qE s;have d:(h.get r).isSome=true:=by rw [n];rfl
  unfold cM;simp only [w];cases hf:bK E u l with
  |false=>rfl| true =>
    simp only [cond_true,cond_false];cases j<;>(try rfl);rename_i o;cases o with
    |none=>rfl| some o=>
      simp only [];by_cases x:r=o
      . subst x
        split at e
        next=>cases e
        next D F g=>
         cases e;rw [Hp.get_put,if_pos ⟨rfl,d⟩,n,Bb g]
        next g=>
         split at e
         next=>cases e
         next z G=>
          cases e;rw [Hp.get_put,if_pos ⟨rfl,d⟩,n];grind[vp,bF,uv,hf]
      grind[dB]
def cut(mu:Mu)(n:Nat):Mu:=fun b=>if b<n then mu b else .none
theorem fU(h:b<n):cut mu n b=mu b:=by simp [cut,h]
theorem qv(h:n<=b):cut mu n b=.none:=by simp [cut,Nat.not_lt.2 h]
theorem gu.in{b:Addr}(h:gu mu a b):mu a.block≠ .none:=by grind[gu]
theorem fm.in{b:Addr}{c':Nat}(h:fm mu a c b c'):mu a.block≠ .none:=by grind[fm]
theorem dZ.in(h:dZ mu b c):mu b≠ .none:=by grind[dZ]
theorem gu.cut{mu:Mu}{n:Nat}{a b:Addr}(h:gu mu a b)(c:a.block<n):gu (cut mu n) a b:=by grind[gu,fU]
theorem fm.cut{mu:Mu}{n:Nat}{a b:Addr}{c c':Nat}(h:fm mu a c b c')(d:a.block<n):fm (cut mu n) a c b c':=by grind[fm,fU]
theorem dZ.cut{mu:Mu}{n:Nat}{b c:Nat}(h:dZ mu b c)(a:b<n):dZ (cut mu n) b c:=by grind[dZ,fU]
theorem aC.cut{mu e:Mu}{n:Nat}(f: ∀b,e b≠ .none->b<n){v t:Value}(w:aC e v t): ∀{v':Value},aC mu v v'->aC (cut mu n) v v':=by
 induction w with
 |poison v=>intro v' _;exact .poison v'|bool b=>intro v' h;cases h;exact .bool b
 |int k m=>intro v' h;cases h;exact .int k m
 |string s=>intro v' h;cases h;exact .string s
 |nilp=>intro v' h;cases h;exact .nilp
 |ptr a=>intro v' h;cases h;rename_i c;exact .ptr (c.cut (f _ a.in))
 |nils=>intro v' h;cases h;exact .nils
 |slice l a=>intro v' h;cases h;rename_i g c;exact .slice c (g.cut (f _ a.in))
 |nilm=>intro v' h;cases h;exact .nilm
 |map a=>intro v' h;cases h;rename_i c;exact .map (c.cut (f _ a.in))
 | fn p q y z r A=>
   intro v' h;cases h;rename_i c g x B;refine .fn c (fun i u j o d=>?_) x (fun i u j o d=>?_)
   . grind
   grind
 |yield a=>intro v' h;cases h;rename_i c;exact .yield (c.cut (f _ a.in))
 |nilf=>intro v' h;cases h;exact .nilf
 |nili=>intro v' h;cases h;exact .nili
 |iface _ i=>intro v' h;cases h;rename_i c;exact .iface (i c)
 | agg p q r=>
   intro v' h;cases h;rename_i c g;refine .agg c (fun i u j o d=>?_);grind
 | tuple p q r=>
   intro v' h;cases h;rename_i c g;refine .tuple c (fun i u j o d=>?_);grind
def Sub(q a:Nat):Prop:= ∀i,q.testBit i=true->a.testBit i=true
theorem qg(a b i:Nat):(Xg a b).testBit i=(a.testBit i||b.testBit i):=Nat.testBit_or a b i
theorem sU(n i:Nat):(Xh 2 n).testBit i=decide (n=i):=Nat.testBit_two_pow
def binds(e:Edge):Bool:=Region.binds .any e
def sF(ops:List Oper)(M:List Nat)(i:Nat):Prop:= ∀o,ops[i]? =some o-> ∃m,M[i]? =some m/\(∀e∈o.after.toList,binds e=true->e.on<i)/\
 ∀b,m.testBit b=true-> ∃e∈o.after.toList,binds e=true/\(b=e.on\/ ∃a,M[e.on]? =some a/\a.testBit b=true)
theorem C4(acc:List Nat): ∀(c:List Edge) (f:Option Nat) (m:Nat),c.foldl (fun s e=>match s with
 |none=>none| some s=>match e.ground with
   | .textOnly _=>some s| .gcOnly _=>some s| _=>match acc[acc.length-1-e.on]? with
     |none=>none|some m=>bif Xb e.on acc.length then some (Xg (Xg s (Xh 2 e.on)) m)else none) f=some m->
 ∃ s,f=some s/\(∀e∈c,binds e=true->e.on<acc.length)/\
   ∀b,m.testBit b=true->s.testBit b=true\/ ∃e∈c,binds e=true/\(b=e.on\/ ∃d,acc.reverse[e.on]? =some d/\d.testBit b=true)
 | [],f,m,h=>⟨m,h,by simp,fun b k=>.inl k⟩
 | e ::c,f,m,h=>by
   rw [List.foldl_cons]at h;obtain⟨l,p,u,q⟩:=C4 acc c _ m h;cases f with
   |none=>cases p
   | some s=>
     refine⟨s,rfl,?_⟩;have skip:binds e=false->l=s->(∀a∈e::c,binds a=true->a.on<acc.length)/\
      ∀b,m.testBit b=true->s.testBit b=true\/ ∃a∈e::c,binds a=true/\(b=a.on\/ ∃d,acc.reverse[a.on]? =some d/\d.testBit b=true):=by
      grind
     have n:binds e=true->(match acc[acc.length-1-e.on]? with
      |none=>none|some m=>bif Xb e.on acc.length then some (Xg (Xg s (Xh 2 e.on)) m)else none)=some l->(∀a∈e::c,binds a=true->a.on<acc.length)/\
      ∀b,m.testBit b=true->s.testBit b=true\/ ∃a∈e::c,binds a=true/\(b=a.on\/ ∃d,acc.reverse[a.on]? =some d/\d.testBit b=true):=by
      intro k g
      split at g
      next=>cases g
      next m0 r=>
       cases hlt:Xb e.on acc.length with
       |false=>grind| true=>
         rw [hlt]at g;cases g;have o:e.on<acc.length:=(by simp_all);refine⟨fun a i t=>?_,fun b j=>?_⟩
         . grind
         . rcases q b j with x|⟨a,i,x⟩
           . rw [qg,qg,sU]at x;grind
           grind
     grind[Option.some.injEq,binds,Region.binds]
theorem wP: ∀(os:List Oper) (acc a:List Nat),befs os acc=some a->a.length=acc.length+os.length/\(∀i,i<acc.length->a.reverse[i]? =acc.reverse[i]?)/\
 ∀ j o,os[j]? =some o-> ∃m,a.reverse[acc.length+j]? =some m/\(∀e∈o.after.toList,binds e=true->e.on<acc.length+j)/\
   ∀b,m.testBit b=true-> ∃e∈o.after.toList,binds e=true/\(b=e.on\/ ∃f,a.reverse[e.on]? =some f/\f.testBit b=true)
 | [],acc,a,h=>by cases h;grind
 | o ::os,acc,a,h=>by
   simp only [befs]at h
   split at h
   next=>cases h
   next s g=>
    obtain⟨p,k,q,r⟩:=C4 acc _ _ _ g;cases k;obtain⟨t,u,l⟩:=wP os (s::acc) a h;have c: ∀i,i<acc.length->a.reverse[i]? =acc.reverse[i]? :=(by grind);refine⟨by grind,c,fun j n d=>?_⟩;cases j with
    | zero=>grind| succ j=>
      obtain⟨m,m1,m2,m3⟩:=l j n (by simpa using d);have v:(s::acc).length+j=acc.length+(j+1):=(by simp;omega);simp_all
def Owe(E:Env)(ops:List Oper)(o p:Oper)(i n q:Nat)(l:List (Nat×Nat)):Prop:=
 uQ ops o p=true/\(cls E o.op=0\/cls E p.op=0\/(cls E o.op=1/\cls E p.op=1)\/(cls E o.op=2/\cls E p.op=1/\(ra o.op p.op=true\/(i,n)∈l))\/
  (cls E o.op=1/\cls E p.op=2/\(ra p.op o.op=true\/(i,n)∈l))\/(cls E o.op=5/\cls E p.op=1/\(i,n)∈l)\/(cls E o.op=1/\cls E p.op=5/\(i,n)∈l)\/
  (cls E o.op≠2/\cls E p.op≠2/\(cls E p.op=3\/cls E p.op=5->q.testBit i=true)/\(cls E o.op=3\/cls E o.op=5->q.testBit n=true))\/
  (cls E o.op=3/\cls E p.op=1/\dJ o.op=true/\(i,n)∈l)\/(cls E o.op=1/\cls E p.op=3/\dJ p.op=true/\(i,n)∈l)\/(cls E o.op=3/\cls E p.op=4/\dJ o.op=true/\eR p.op=true/\(i,n)∈l)\/
  (cls E o.op=2/\cls E p.op=3/\qy ops o n i=true/\q.testBit i=true))
theorem Owe.mono{E:Env}{ops:List Oper}{o p:Oper}{q e:Nat}{l l':List (Nat×Nat)}(hq:Sub q e)(j: ∀x∈l,x∈l')(h:Owe E ops o p i n q l):Owe E ops o p i n e l':=by
 obtain⟨f,g⟩:=h;refine⟨f,?_⟩;rcases g with h|h|h|⟨a,b,h⟩|⟨a,b,h⟩|⟨a,b,h⟩|⟨a,b,h⟩|⟨a,b,c,d⟩|⟨a,b,c,h⟩|⟨a,b,c,h⟩|⟨a,b,c,d,h⟩|⟨a,b,c,h⟩
 . exact .inl h
 . grind
 . omega
 . grind
 . grind
 . grind
 . grind
 . exact .inr (.inr (.inr (.inr (.inr (.inr (.inr (.inl ⟨a,b,fun x=>hq _ (c x),fun x=>hq _ (d x)⟩)))))))
 . grind
 . grind
 . grind
 . exact .inr (.inr (.inr (.inr (.inr (.inr (.inr (.inr (.inr (.inr (.inr ⟨a,b,c,hq _ h⟩))))))))))
theorem owed_ok{E:Env}{ops:List Oper}{o:Oper}{m n:Nat}: ∀(ps:List Oper) (i:Nat) (q:Nat) (l:List (Nat×Nat)) (g:Nat) (l':List (Nat×Nat)),j9 E ops o m n ps i (q,l)=some (g,l')->
 Sub q g/\(∀x∈l,x∈l')/\ ∀j p,ps[j]? =some p->m.testBit (i+j)=false->Owe E ops o p (i+j) n g l'
 | [],i,q,l,g,l',h=>by cases h;exact⟨fun _ x=>x,fun _ x=>x,fun j p y=>by simp at y⟩
 | p :: ps,i,q,l,g,l',h=>by
   have next: ∀{r:Nat} {s:List (Nat×Nat)},j9 E ops o m n ps (i+1) (r,s)=some (g,l')->Sub q r->(∀x∈l,x∈s)->(m.testBit i=false->Owe E ops o p i n r s)->
    Sub q g/\(∀x∈l,x∈l')/\ ∀j u,(p::ps)[j]? =some u->m.testBit (i+j)=false->Owe E ops o u (i+j) n g l':=by
    intro r s z A B C;obtain⟨v,w,D⟩:=owed_ok ps (i+1) r s g l' z;refine⟨fun x c=>v x (A x c),fun x c=>w x (B x c),fun j u k t=>?_⟩;cases j with
    | zero=>simp at k;subst k;exact(C t).mono v w| succ j=>have:=D j u (by simpa using k) (by rw [show i+1+j=i+(j+1) by omega];exact t);rwa [show i+1+j=i+(j+1) by omega]at this
   simp only [j9]at h;cases t:m.testBit i with
   | true=>
     rw [t]at h;exact next h (fun _ x=>x) (fun _ x=>x) (fun hf=>by grind)
   | false=>
     rw [t]at h;simp only [cond_false]at h;cases d:uQ ops o p with
     |false=>grind| true=>
       rw [d]at h;simp only [cond_true]at h
       split at h
       next a=>exact next h (fun _ x=>x) (fun _ x=>x) (fun _=>⟨d,.inl a⟩)
       next b _=>exact next h (fun _ x=>x) (fun _ x=>x) (fun _=>⟨d,.inr (.inl b)⟩)
       next a b=>exact next h (fun _ x=>x) (fun _ x=>x) (fun _=>⟨d,.inr (.inr (.inl ⟨a,b⟩))⟩)
       next a b=>
        refine next h (fun _ x=>x) ?_ (fun _=>⟨d,.inr (.inr (.inr (.inl ⟨a,b,?_⟩)))⟩)
        . grind
        grind
       next a b=>
        refine next h (fun _ x=>x) ?_ (fun _=>⟨d,.inr (.inr (.inr (.inr (.inl ⟨a,b,?_⟩))))⟩)
        . grind
        grind
       next a b=>
        exact next h (fun _ x=>x) (fun x c=>Xi _ c) (fun _=>⟨d,.inr (.inr (.inr (.inr (.inr (.inl ⟨a,b,Xp⟩)))))⟩)
       next a b=>
        exact next h (fun _ x=>x) (fun x c=>Xi _ c) (fun _=>⟨d,.inr (.inr (.inr (.inr (.inr (.inr (.inl ⟨a,b,Xp⟩))))))⟩)
       next a b=>
        cases f:dJ o.op with
        | true=>
          rw [f]at h;exact next h (fun _ x=>x) (fun x c=>Xi _ c) (fun _=>⟨d,.inr (.inr (.inr (.inr (.inr (.inr (.inr (.inr (.inl ⟨a,b,f,Xp⟩))))))))⟩)
        | false=>
          rw [f]at h;refine next h (fun x c=>by simp_all) (fun _ x=>x) (fun _=>⟨d,.inr (.inr (.inr (.inr (.inr (.inr (.inr (.inl ⟨by omega,by omega,fun e=>by omega,fun _=>?_⟩)))))))⟩)
          simp_all
       next a b=>
        cases f:dJ p.op with
        | true=>
          rw [f]at h;exact next h (fun _ x=>x) (fun x c=>Xi _ c) (fun _=>⟨d,.inr (.inr (.inr (.inr (.inr (.inr (.inr (.inr (.inr (.inl ⟨a,b,f,Xp⟩)))))))))⟩)
        | false=>
          rw [f]at h;refine next h (fun x c=>by simp_all) (fun _ x=>x) (fun _=>⟨d,.inr (.inr (.inr (.inr (.inr (.inr (.inr (.inl ⟨by omega,by omega,fun _=>?_,fun e=>by omega⟩)))))))⟩)
          simp_all
       next a b=>
        cases f:dJ o.op&&eR p.op with
        | true=>
          rw [f]at h;simp only [Bool.and_eq_true]at f;exact next h (fun _ x=>x) (fun x c=>Xi _ c) (fun _=>⟨d,.inr (.inr (.inr (.inr (.inr (.inr (.inr (.inr (.inr (.inr (.inl ⟨a,b,f.1,f.2,Xp⟩))))))))))⟩)
        | false=>
          rw [f]at h;refine next h (fun x c=>by simp_all) (fun _ x=>x) (fun _=>⟨d,.inr (.inr (.inr (.inr (.inr (.inr (.inr (.inl ⟨by omega,by omega,fun e=>by omega,fun _=>?_⟩)))))))⟩)
          simp_all
       next a b=>
        cases f:qy ops o n i with
        | true=>
          rw [f]at h;refine next h (fun x c=>by simp_all) (fun _ x=>x) (fun _=>⟨d,.inr (.inr (.inr (.inr (.inr (.inr (.inr (.inr (.inr (.inr (.inr ⟨a,b,f,?_⟩))))))))))⟩)
          simp_all
        |false=>grind
       next=>cases h
       next=>cases h
       next=>
        refine next h ?_ (fun _ x=>x) (fun _=>⟨d,.inr (.inr (.inr (.inr (.inr (.inr (.inr (.inl ⟨?_,?_,?_,?_⟩)))))))⟩)
        . intro x c;simp_all
        . omega
        . omega
        . grind[qg,zM,cls,sU]
        grind[qg,zM,cls,sU]
end Go.Ab

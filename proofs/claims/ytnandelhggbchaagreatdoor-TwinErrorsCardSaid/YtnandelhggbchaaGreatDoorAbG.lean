/- A deterministic evaluator of the model's code, and that the model follows it (part 7). -/
import Derived.Test.YtnandelhggbchaaGreatDoorAbF
open And renaming intro->zM
open List renaming mem_of_getElem?->zN,length_nil->Xa,filterMap_cons->Xb,ext_getElem?->Xe,getElem?_set->Xf,nodup_append->Xg,length_cons->Xh,filterMap_cons_some->Xi
open Nat renaming lt_of_lt_of_le->Xc,ble_eq_true_of_le->Xj,beq_refl->Xk,le_trans->Xl,beq->Xm
open Int renaming natCast_nonneg->Xd
set_option maxHeartbeats 400000
set_option linter.defProp false
set_option linter.unusedVariables false
set_option linter.unusedSimpArgs false
namespace Go.Ab
section
variable{E:Env}{t e:TypeId}{h:Hp}{x y:Operand}
noncomputable def lenR(E:Env)(h:Hp)(t:TypeId)(x:Value):Option (cS×Hp):=lenK (match x with
 | .map (some r)=>match h.get r with
   |some (.map a _)=>match E.und t with
    |some (.map _ _)=>some (.val (.int .i64 (.ofNat a.length)),h)
    |_=>none
   |_=>none
 |_=>none) h (mI E t x)
theorem o_lenR{ρ:Operand->Value}{x:Operand}:aop E ρ h (.call ⟨.builtin .len,#[x],#[t]⟩)=lenR E h t (ρ x):=o_lenK
noncomputable def lenQ(d:Option TypeDesc)(h:Hp)(x:Value):Option (cS×Hp):=match d with
 | some .string=>match x with
   | .string s=>some (.val (.int .i64 (.ofNat s.size)),h)
   |_=>none
 |some (.array n _)=>some (.val (.int .i64 (.ofNat n)),h)
 | some (.slice _)=>match x with
   | .slice _ n _=>some (.val (.int .i64 (.ofNat n)),h)
   |_=>none
 | some (.map _ _)=>match x with
   | .map none=>some (.val (.int .i64 0),h)
   | .map (some r)=>match h.get r with
     |some (.map a _)=>some (.val (.int .i64 (.ofNat a.length)),h)
     |_=>none
   |_=>none
 |_=>none
theorem len_q{x:Value}:lenR E h t x=lenQ (E.und t) h x:=by
 unfold lenR mI
 cases a:E.und t with
 |none=>cases x<;>first|rfl|(rename_i r;cases r<;>first|rfl|(rename_i r;simp only [lenQ,lenK];cases h.get r with|none=>rfl|some b=>cases b<;>rfl))
 | some d=>
   cases d<;>cases x<;>first
    |rfl
    | (rename_i r;cases r<;>first
      |rfl
      |(rename_i r;simp only [lenQ,lenK];cases h.get r with|none=>rfl|some b=>cases b<;>rfl))
theorem z9{a:Option Addr}{n c:Nat}:lenQ (some (.slice e)) h (.slice a n c)=some (.val (.int .i64 n),h):=rfl
theorem lenq_str{s:ByteArray}:lenQ (some .string) h (.string s)=some (.val (.int .i64 s.size),h):=rfl
theorem lenq_arr{n:Nat}{v:Value}:lenQ (some (.array n e)) h v=some (.val (.int .i64 n),h):=rfl
theorem zk{k:TypeId}:lenQ (some (.map k e)) h (.map none)=some (.val (.int .i64 0),h):=rfl
theorem az.lenq{α:Type}{k:Nat}{enc:α->List Value}{v:Value}{xs:List α}{h h':Hp}(s:az h' k enc v xs):lenQ (some (.slice e)) h v=some (.val (.int .i64 xs.length),h):=by
 rcases s with⟨rfl,rfl⟩|⟨_,_,_,_,rfl,_⟩<;>rfl
theorem eX.lenq{v:Value}{k n:Nat}{vs:List Value}{h h':Hp}(g:eX h' (v,k,vs))(f:0<k)(d:n*k=vs.length):lenQ (some (.slice e)) h v=some (.val (.int .i64 n),h):=by
 rcases g with⟨a,c⟩|⟨b,m,a,c,i⟩
 . simp only []at a c
   subst a c
   have:n=0:=by
    cases n with
    |zero=>rfl
    |succ n=>simp only [Xa,Nat.succ_mul]at d;omega
   subst this
   rfl
 . simp only []at a c
   subst a
   have:m=n:=Nat.eq_of_mul_eq_mul_right f (c.trans d.symm)
   subst this
   rfl
def idxS(k:Option Nat)(v i:Value):Option Value:=match k with
 |none=>none
 | some k=>match v with
   | .slice (some a) n _=>match ff i n with
     |none=>none
     |some j=>some (.pointer (some (dH a (j*k))))
   |_=>none
def idxA(n:Nat)(k:Option Nat)(v i:Value):Option Value:=match k with
 |none=>none
 | some k=>match v with
   | .pointer (some a)=>match ff i n with
     |none=>none
     |some j=>some (.pointer (some (dH a (j*k))))
   |_=>none
def idxQ(E:Env)(d:Option TypeDesc)(v i:Value):Option Value:=match d with
 |some (.slice e)=>idxS (E.sz e) v i
 |some (.array n e)=>idxA n (E.sz e) v i
 |_=>none
theorem idx_q{v i:Value}:dW E t v i=idxQ E (E.und t) v i:=by
 unfold dW idxQ
 cases b:E.und t with
 |none=>rfl
 | some d=>
   cases d<;>first
    |rfl
    |(simp only [idxS];cases a:E.sz _<;>(split<;>first|rfl|(split<;>simp_all)))
    |(simp only [idxA];cases a:E.sz _<;>(split<;>first|rfl|(split<;>simp_all)))
theorem Ay{v i:Value}:idxQ E (some (.slice e)) v i=idxS (E.sz e) v i:=rfl
theorem Az{n:Nat}{v i:Value}:idxQ E (some (.array n e)) v i=idxA n (E.sz e) v i:=rfl
def putI(a:Addr)(k:Nat):Option Nat->Option Value
 |none=>none
 |some j=>some (.pointer (some ⟨a.block,a.off+j*k,none⟩))
theorem pL{k n c:Nat}{a:Addr}{i:Value}:idxS (some k) (.slice (some a) n c) i=putI a k (ff i n):=by
 simp only [idxS,putI,dH]
theorem idxa_ptr{k n:Nat}{a:Addr}{i:Value}:idxA n (some k) (.pointer (some a)) i=putI a k (ff i n):=by
 simp only [idxA,putI,dH]
theorem putI_some{a:Addr}{k j:Nat}:putI a k (some j)=some (.pointer (some ⟨a.block,a.off+j*k,none⟩)):=rfl
theorem az.ix{α:Type}{k:Nat}{enc:α->List Value}{v:Value}{xs:List α}{kd:IntKind}(s:az h k enc v xs)(d: ∀x,(enc x).length=k){i:Nat}(a:i<xs.length):
 ∃b o,idxS (some k) v (.int kd i)=some (.pointer (some ⟨b,o,none⟩))/\h.load b o k=some (enc xs[i]):=by
 obtain⟨b,o,g,c,rfl,f⟩:=s.idx d a
 refine⟨b,o+i*k,?_,f⟩
 rw [pL,hZ a]
 rfl
noncomputable def loadQ(g:Option Bool)(n:Option Nat)(h:Hp)(b o:Nat):Option Value:=match g with
 | some true=>match n with
   |some n=>agg1 (h.load b o n)
   |none=>none
 |some false=>one1 (h.load b o 1)
 |none=>none
theorem load_q{b o:Nat}{s:Option Nat}:ee E h t (.pointer (some ⟨b,o,s⟩))=loadQ (E.agg t) (E.sz t) h b o:=by
 cases a:E.agg t with
 |none=>simp [ee,loadQ,a]
 | some g=>
   cases g with
   |false=>exact AJ a
   | true=>
     cases c:E.sz t with
     |none=>simp [ee,loadQ,a,c]
     |some n=>exact loadV_agg a c
theorem loadq_f{b o:Nat}{n:Option Nat}:loadQ (some false) n h b o=one1 (h.load b o 1):=rfl
theorem loadq_t{b o n:Nat}:loadQ (some true) (some n) h b o=agg1 (h.load b o n):=rfl
def isSl(E:Env)(t:TypeId):Bool:=match E.und t with
 |some (.slice _)=>true
 |_=>false
theorem sl_und(b:isSl E t=true): ∃a,E.und t=some (.slice a):=by
 unfold isSl at b;split at b<;>first|exact⟨_, ‹_›⟩|cases b
theorem e_slice{a:Addr}{n c:Nat}(b:isSl E t=true):bE E .eql t x y (.slice (some a) n c) (.slice none 0 0)=some (.bool false):=by
 obtain⟨e,b⟩:=sl_und b
 simp [bE,eS,dI,b]
theorem e_snil(a:isSl E t=true):bE E .eql t x y (.slice none 0 0) (.slice none 0 0)=some (.bool true):=by
 obtain⟨e,a⟩:=sl_und a
 simp [bE,eS,dI,a]

def Fl(v:Value):Prop:=ag v=[v]/\iT v=true/\ ∀x,v≠ .chan x
theorem bM{k:IntKind}{n:Int}:Fl (.int k n):=⟨rfl,rfl,nofun⟩
theorem fl_bool{b:Bool}:Fl (.bool b):=⟨rfl,rfl,nofun⟩
theorem fl_str{b:ByteArray}:Fl (.string b):=⟨rfl,rfl,nofun⟩
theorem dC{a:Option Addr}:Fl (.pointer a):=⟨rfl,rfl,nofun⟩
theorem bF{a:Option Addr}{n c:Nat}:Fl (.slice a n c):=⟨rfl,rfl,nofun⟩
theorem fl_map{a:Option Nat}:Fl (.map a):=⟨rfl,rfl,nofun⟩
theorem gI{f:Fn}{a b:Array Value}:Fl (.func f a b):=⟨rfl,rfl,nofun⟩
theorem fl_nilf:Fl .nilFunc:=⟨rfl,rfl,nofun⟩
theorem fl_nili:Fl .nilIface:=⟨rfl,rfl,nofun⟩
theorem fl_iface{t:TypeId}{v:Value}:Fl (.iface t v):=⟨rfl,rfl,nofun⟩
theorem az.fl{α:Type}{k:Nat}{enc:α->List Value}{v:Value}{xs:List α}(s:az h k enc v xs):Fl v:=by
 rcases s with⟨rfl,_⟩|⟨_,_,_,_,rfl,_⟩<;>exact bF
theorem eX.fl{p:GL}(g:eX h p):Fl p.1:=by
 rcases g with⟨e,_⟩|⟨_,_,e,_⟩<;>rw [e]<;>exact bF
def placesOf(E:Env)(t:TypeId):Option (List (Nat×Nat)):=match E.und t with
 |some (.struct a)=>kW E a.toList
 |_=>none
def aggO:Option (List Value)->Option Value
 |some l=>some (.agg ⟨l⟩)
 |none=>none
theorem aggO_some{l:List Value}:aggO (some l)=some (.agg ⟨l⟩):=rfl
def jO(ps:List (Nat×Nat))(l:List Value)(a:List (Nat×Value)):Option (List Value):=ie (fun i=>ps[i]?) l a
theorem build_st{c:List Value}{ps:List (Nat×Nat)}{a:List (Nat×Value)}(d:E.zero t=some c)(b:placesOf E t=some ps):js E t a=aggO (jO ps c a):=by
 unfold placesOf at b
 unfold js jO
 rw [d]
 split at b
 . rename_i g f
   simp only [f,b]
   cases ie (fun i=>ps[i]?) c a<;>rfl
 . cases b
theorem fill_nil{ps:List (Nat×Nat)}{l:List Value}:jO ps l []=some l:=rfl
def buildQ(z:Option (List Value))(p:Option (List (Nat×Nat)))(a:List (Nat×Value)):Option Value:=match z with
 |none=>none
 | some z=>match p with
   |none=>none
   |some p=>aggO (jO p z a)
theorem build_q{a:List (Nat×Value)}(b:(placesOf E t).isSome=true):js E t a=buildQ (E.zero t) (placesOf E t) a:=by
 cases c:placesOf E t with
 |none=>rw [c]at b;cases b
 | some f=>
   cases d:E.zero t with
   |none=>simp [js,buildQ,d]
   |some z=>exact build_st d c
theorem y9{b:List Value}{ps:List (Nat×Nat)}{a:List (Nat×Value)}:buildQ (some b) (some ps) a=aggO (jO ps b a):=rfl
def re(ps:List (Nat×Nat))(l:List Value)(v:Value)(r:List (Nat×Value)):Option (Nat×Nat)->Option (List Value)
 |none=>none
 |some (o,n)=>match v with
  | .chan _=>none
  |v=>bif Xm (ag v).length n&&Nat.ble (o+n) l.length then jO ps (bV l o (ag v)) r else none
theorem fill_q{ps:List (Nat×Nat)}{l:List Value}{i:Nat}{v:Value}{r:List (Nat×Value)}:jO ps l ((i,v)::r)=re ps l v r (ps[i]?):=by
 unfold jO
 cases a:ps[i]? with
 |none=>simp [ie,re,a]
 |some q=>obtain⟨o,n⟩:=q;simp only [ie,re,a];rfl
theorem fills_one{ps:List (Nat×Nat)}{l:List Value}{o:Nat}{v:Value}{r:List (Nat×Value)}(a:Fl v)(b:o<l.length):re ps l v r (some (o,1))=jO ps (l.set o v) r:=by
 have e:(bif Xm (ag v).length 1&&Nat.ble (o+1) l.length then jO ps (bV l o (ag v)) r else none)=jO ps (l.set o v) r:=by
  rw [a.1]
  simp only [Xh,Xa,Nat.zero_add,Xk,Xj (show o+1<=l.length from b),Bool.and_self,cond_true,bV]
 cases v<;>first|exact e|exact absurd rfl (a.2.2 _)
theorem fills_agg{ps:List (Nat×Nat)}{l c:List Value}{o n:Nat}{r:List (Nat×Value)}(a:c.length=n)(b:o+n<=l.length):re ps l (.agg ⟨c⟩) r (some (o,n))=jO ps (bV l o c) r:=by
 simp only [re,ag,a,Xk,Xj b,Bool.and_self,cond_true]
theorem setL_nil{l:List Value}{o:Nat}:bV l o []=l:=rfl
theorem setL_cons{l vs:List Value}{o:Nat}{v:Value}:bV l o (v::vs)=bV (l.set o v) (o+1) vs:=rfl
theorem cP{v:Value}(a:Fl v):ol h (fun h=>boxR h t v) ptrTo (.row [v] 1):=by
 have:=a8 (h:=h) (t:=t) a.2.2
 rw [a.1]at this
 exact this
theorem aI{M:Nat->Prop}{h0:Hp}{L:List (Nat×Ob)}{G:List GL}(S:St M h0 h L G){i b off md:Nat}{s:Option Nat}{l:List Value}{v:Value}(g:L[i]? =some (b,.row l md))(k:E.sz t=some 1)(c:Fl v)
 (m:off<l.length) (d:md≠0): ∃h',gO E h t (.pointer (some ⟨b,off,s⟩)) v=some h'/\St M h0 h' (L.set i (b,.row (l.set off v) md)) G/\Mo (· =b) h h':=by
 have a:ag v=[v]:=c.1
 have:=S.store (v:=v) (t:=t) (s:=s) (off:=off) (n:=1) g k c.2.2 (by rw [a];rfl) (by rw [a];simp [c.2.1]) (by omega) d
 rw [a]at this
 have e:lay l off [v]=l.set off v:=by
  refine Xe fun j=>?_
  rw [iZ (by simp;omega),Xf]
  simp only [Xh,Xa]
  by_cases f:off=j
  . subst f;rw [if_pos ⟨Nat.le_refl _,by omega⟩,if_pos rfl,if_pos m];simp
  . rw [if_neg (by omega),if_neg f]
 rw [e]at this
 exact this
end
def ifaceR(E:Env)(t:TypeId)(v:Value):Option Value:=match E.und t with
 |none=>none
 |some (.interface _)=>none
 |some _=>some (.iface t v)
theorem o_ifaceR{E:Env}{ρ:Operand->Value}{h:Hp}{t:TypeId}{x:Operand}:aop E ρ h (.makeInterface t x)=ce h (ifaceR E t (ρ x)):=rfl
theorem ifaceR_is{E:Env}{t:TypeId}{v:Value}(a:jD E t=true):ifaceR E t v=some (.iface t v):=mk_iface a
def nilcR:Value->Option Value
 | .pointer (some a)=>some (.pointer (some a))
 | .func (.func f) a b=>some (.func (.func f) a b)
 |_=>none
theorem o_nilcR{E:Env}{ρ:Operand->Value}{h:Hp}{x:Operand}:aop E ρ h (.nilCheck x)=ce h (nilcR (ρ x)):=rfl
theorem nilcR_ptr{a:Addr}:nilcR (.pointer (some a))=some (.pointer (some a)):=rfl
def pickR(c a b:Value):Option Value:=match c with
 | .bool t=>some (bif t then a else b)
 |_=>none
theorem o_pickR{E:Env}{ρ:Operand->Value}{h:Hp}{c a b:Operand}:aop E ρ h (.pick c a b)=ce h (pickR (ρ c) (ρ a) (ρ b)):=rfl
theorem pick_t{a b:Value}:pickR (.bool true) a b=some a:=rfl
theorem pick_f{a b:Value}:pickR (.bool false) a b=some b:=rfl
def extrR(i:Nat):Value->Option Value
 | .tuple a=>a.toList[i]?
 |_=>none
theorem o_extrR{E:Env}{ρ:Operand->Value}{h:Hp}{x:Operand}{i:Nat}:aop E ρ h (.extract x i)=ce h (extrR i (ρ x)):=by
 rw [o_extract];rfl
theorem extr_0{a:Value}{l:List Value}:extrR 0 (.tuple ⟨a::l⟩)=some a:=rfl
theorem extr_1{a b:Value}{l:List Value}:extrR 1 (.tuple ⟨a::b::l⟩)=some b:=rfl
theorem extr_2{a b c:Value}{l:List Value}:extrR 2 (.tuple ⟨a::b::c::l⟩)=some c:=rfl
noncomputable def delR(E:Env)(h:Hp)(t:TypeId)(m k:Value):Option (cS×Hp):=match kA E h t m k with
 |none=>none
 |some a=>some (.val (.tuple #[]),a)
theorem o_delR{E:Env}{ρ:Operand->Value}{h:Hp}{m k:Operand}{t:TypeId}{ts:List TypeId}:aop E ρ h (.call ⟨.builtin .delete,#[m,k],⟨t::ts⟩⟩)=delR E h t (ρ m) (ρ k):=rfl
theorem aW{a b:Nat}:((a:Int)<(b:Int))=(a<b):=by simp
def BS:=zM (@run_seq)<|zM (@AB)<|zM (@r_ops)<|zM (@g_true)<|zM (@g_false)<|zM (@zd)<|zM (@run_ret)<|zM (@run_nil)<|zM (@run_skip)<|zM (@run_block)<|zM (@run_scope)<|zM (@run_blk)<|zM (@run_exit)<|zM (@xP)<|zM (@wg)<|zM (@yP)<|zM (@Af)<|zM (@AG)<|zM (@r_cond)<|zM (@c_true)<|zM (@c_false)<|zM (@r_opsD)<|zM (@dn_loud)<|zM (@dn_quiet)<|zM (@dn_val)<|zM (@dn_skip)<|zM (@d_skip)<|zM (@mW)<|zM (@aX)<|zM (@bA)<|zM (@wV)<|zM (@guard_no)<|zM (@Aw)<|zM (@gj_some)<|zM (@gv_true)<|zM (@gv_false)<|zM (@gv_tuple)<|zM (@o_move)<|zM (@o_assign)<|zM (@o_pickR)<|zM (@pick_t)<|zM (@pick_f)<|zM (@o_load)<|zM (@o_store)<|zM (@o_binOp)<|zM (@o_unOp)<|zM (@o_nilcR)<|zM (@nilcR_ptr)<|zM (@o_ifaceR)<|zM (@zG)<|zM (@o_slice)<|zM (@zy)<|zM (@o_field)<|zM (@zh)<|zM (@o_index)<|zM (@o_extrR)<|zM (@extr_0)<|zM (@extr_1)<|zM (@extr_2)<|zM (@o_build)<|zM (@xh)<|zM (@zi)<|zM (@zS)<|zM (@xw)<|zM (@o_convert)<|zM (@o_lookup)<|zM (@zq)<|zM (@AI)<|zM (@yI)<|zM (@o_allocR)<|zM (@o_boxR)<|zM (@o_callv)<|zM (@o_max)<|zM (@o_min)<|zM (@o_append)<|zM (@o_copy)<|zM (@o_lenR)<|zM (@o_delR)<|zM (@o_recover)<|zM (@o_deferR)<|zM (@o_panicR)<|zM (@zO)<|zM (@zI)<|zM (@Ao)<|zM (@AE)<|zM (@wp)<|zM (@uH)<|zM (@uq)<|zM (@tA)<|zM (@tv)<|zM (@step_defer)<|zM (@target_fn)<|zM (@xS)<|zM (@b_add)<|zM (@b_sub)<|zM (@b_mul)<|zM (@b_eql)<|zM (@b_neq)<|zM (@b_lss)<|zM (@b_leq)<|zM (@b_gtr)<|zM (@b_geq)<|zM (@b_eqlB)<|zM (@b_neqB)<|zM (@same_bool)<|zM (@u_not)<|zM (@mm_max)<|zM (@mm_min)<|zM (@ab)<|zM (@one1_some)<|zM (@agg1_some)<|zM (@cR)<|zM (@ll_put0)<|zM (@cu)<|zM (@ll_func)<|zM (@c_int)<|zM (@c_bool)<|zM (@c_string)<|zM (@c_nilp)<|zM (@c_nils)<|zM (@c_nilm)<|zM (@c_nilf)<|zM (@c_nili)<|zM (@ll_regs)<|zM (@kj)<|zM (@aO)<|zM (@bR)<|zM (@cJ)<|zM (@vQ)<|zM (@xz)<|zM (@eQ)<|zM (@eJ)<|zM (@hush_s)<|zM (@idxP_in)<|zM (@hZ)<|zM (@idx_q)<|zM (@Ay)<|zM (@Az)<|zM (@pL)<|zM (@idxa_ptr)<|zM (@putI_some)<|zM (@len_q)<|zM (@z9)<|zM (@lenq_str)<|zM (@lenq_arr)<|zM (@zk)<|zM (@load_q)<|zM (@loadq_f)<|zM (@loadq_t)<|zM (@n_iface)<|zM (@n_nil)<|zM (@e_iface)<|zM (@e_nil)<|zM (@n_ptr)<|zM (@e_ptr)<|zM (@n_pnil)<|zM (@e_pnil)<|zM (@e_slice)<|zM (@e_snil)<|zM (@assert_is)<|zM (@ifaceR_is)<|zM (@build_q)<|zM (@y9)<|zM (@aggO_some)<|zM (@fill_nil)<|zM (@fill_q)<|zM (@fills_one)<|zM (@fills_agg)<|zM (@setL_nil)<|zM (@setL_cons)<|zM (@bM)<|zM (@fl_bool)<|zM (@fl_str)<|zM (@dC)<|zM (@bF)<|zM (@fl_map)<|zM (@gI)<|zM (@fl_nilf)<|zM (@fl_nili)<|(@fl_iface)
end Go.Ab

namespace Go.Ab
structure ItS(h0:Hp)(D:Nat->Prop)(h:Hp)(F:List Nat):Prop where
 ok:h.t.Sized h.n
 n:h0.n<=h.n
 data: ∀b,b<h0.n->D b->h.get b=h0.get b
 apart: ∀b∈F,¬(b<h0.n/\D b)
 lt: ∀b∈F,b<h.n
section
variable{h0 h h':Hp}{D:Nat->Prop}{F F':List Nat}
theorem ItS.gr(s:ItS h0 D h F)(g:Gr h h'):ItS h0 D h' F:=
 ⟨g.ok,Xl s.n g.n,fun b a c=>(g.get b (Xc a s.n)).trans (s.data b a c),s.apart,fun b a=>Xc (s.lt b a) g.n⟩
theorem ItS.mo(s:ItS h0 D h F)(m:Mo (· ∈F) h h')(hf: ∀b∈F',b∈F\/h.n<=b)(d: ∀b∈F',b<h'.n):ItS h0 D h' F':=
 ⟨m.ok,Xl s.n m.n,fun b a c=>(m.get b (Xc a s.n) (fun hf=>s.apart b hf ⟨a,c⟩)).trans (s.data b a c),
  fun b a c=>(hf b a).elim (fun a=>s.apart b a c) (fun a=>by have:=s.n;omega),d⟩
theorem ItS.load(s:ItS h0 D h F){b o n:Nat}{l:List Value}(a:h0.t.Sized h0.n)(e:h0.load b o n=some l)(c:D b):h.load b o n=some l:=by
 have:=s.data b (bD a e) c
 unfold Hp.load at e⊢
 rw [this];exact e
theorem ItS.sl{α:Type}{k:Nat}{enc:α->List Value}{v:Value}{xs:List α}(s:ItS h0 D h F)(a:h0.t.Sized h0.n)(e:az h0 k enc v xs)(f: ∀b,ar v b->D b):az h k enc v xs:=by
 rcases e with e|⟨b,o,g,c,d,i,j⟩
 . exact .inl e
 . exact .inr ⟨b,o,g,c,d,i,s.load a j (f b (by rw [d];rfl))⟩
end
structure Yld(E:Env)(lb:Nat)(J:Nat->Hp->List Nat->Prop)(Z:Out->Hp->Prop)(xs:List (List Value)):Prop where
 lt: ∀i h F,J i h F->h.t.Sized h.n/\ ∀b∈F,b<h.n
 gr: ∀i h F h',J i h F->Gr h h'->J i h' F
 zgr: ∀h h',Z (.ret (.bool false)) h->Gr h h'->Z (.ret (.bool false)) h'
 round: ∀i x h F,xs[i]? =some x->J i h F->jI E lb x h fun o h'=>(o=.ret (.bool true)/\ ∃F',J (i+1) h' F'/\Mo (· ∈F) h h'/\ ∀b∈F',b∈F\/h.n<=b)\/(o=.ret (.bool false)/\Z o h'/\h'.t.Sized h'.n)\/((∃v,o=.pan v)/\Z o h')
def YQ(J:Nat->Hp->List Nat->Prop)(Z:Out->Hp->Prop)(n:Nat)(o:Out)(a:Option (Value×Bool))(h':Hp):Prop:=
 a=none/\((∃u b,o=.ret u/\J n h' b)\/(∃u,o=.ret u/\Z (.ret (.bool false)) h')\/(∃v,o=.pan v/\Z o h'))
theorem rj{E:Env}{g:FuncId}{a post:List Value}{h0:Hp}{D:Nat->Prop}{xs:List (List Value)}
 (H: ∀b J Z,Yld E b J Z xs-> ∀h F,ItS h0 D h F->J 0 h F->du E g (a++[.func (.yield b) #[] #[]]++post) none h (YQ J Z xs.length)):Iter E g a post h0 D xs:=by
 intro b J Z h F e f i hlt c j k l d
 exact H b J Z ⟨hlt,c,j,l⟩ h F ⟨e,f,i,k,(hlt 0 h F d).2⟩ d
theorem yD{E:Env}{g:FuncId}{a post:List Value}{h0:Hp}{D:Nat->Prop}{xs:List (List Value)}(H:Iter E g a post h0 D xs){c:Nat}{J:Nat->Hp->List Nat->Prop}{Z:Out->Hp->Prop}(Y:Yld E c J Z xs)
 {h:Hp} {F:List Nat} (d:Mo (fun b=> ¬D b) h0 h) (f: ∀b∈F,b<h0.n-> ¬D b) (i:J 0 h F):du E g (a++[.func (.yield c) #[] #[]]++post) none h (YQ J Z xs.length):=
 H c J Z h F d.ok d.n (fun b e j=>d.get b e (fun k=>k j)) Y.lt Y.gr Y.zgr (fun b e h=>f b e h.1 h.2) Y.round i
theorem gL{E:Env}{cx:Cx}{o:Oper}{l:Loc}{K:Ex->Loc->Hp->Prop}{h0 h:Hp}{D:Nat->Prop}{d i:Nat}{J:Nat->Hp->List Nat->Prop}{Z:Out->Hp->Prop}{xs:List (List Value)}{x:List Value}{F:List Nat}
 (Y:Yld E d J Z xs) (s:ItS h0 D h F) (e:J i h F) (f:xs[i]? =some x)
 (g: ∀h' F',J (i+1) h' F'->ItS h0 D h' F'->Mo (· ∈F) h h'->(∀b∈F',b∈F\/h.n<=b)->K .normal (l.put o.dst (.bool true)) h')
 (k2: ∀h',Z (.ret (.bool false)) h'->h'.t.Sized h'.n->K .normal (l.put o.dst (.bool false)) h') (j: ∀v h',Z (.pan v) h'->K (.pan v) l h'):eA E cx o l K (some (.yield d x,h)):=by
 refine tR (Y.round i x h F f e) ?_
 rintro q h' (⟨rfl,F',a,b,c⟩|⟨rfl,a,b⟩|⟨⟨v,rfl⟩,a⟩)
 . exact g h' F' a (s.mo b c (Y.lt _ _ _ a).2) b c
 . exact k2 h' a b
 . exact j v h' a

section
variable{M:Nat->Prop}{h0 h h':Hp}{L L':List (Nat×Ob)}{G G':List GL}
theorem St.base(S:St M h0 h L G):St (· ∈keys L G) h h L G:=
 ⟨Mo.refl S.ok,fun p a=>⟨.inr (fI a),(S.own p a).2⟩,fun p a=>⟨(S.gown p a).1,fun b c=>.inr (eo a c)⟩,S.apart⟩
theorem St.key_own(S:St M h0 h L G){b:Nat}(a:b∈keys L G):h0.n<=b\/M b:=by
 unfold keys at a
 rcases List.mem_append.1 a with a|a
 . obtain⟨p,c,rfl⟩:=List.mem_map.1 a
   exact(S.own p c).1
 . obtain⟨p,c,d⟩:=List.mem_filterMap.1 a
   exact(S.gown p c).2 b d
theorem St.rebase(S:St M h0 h L G)(T:St (· ∈keys L G) h h' L' G'):St M h0 h' L' G':=by
 have d: ∀b,h.n<=b\/b∈keys L G->h0.n<=b\/M b:=fun b a=>a.elim (fun a=>.inl (Xl S.fr.n a)) S.key_own
 exact⟨S.fr.trans T.fr fun b a=>(S.key_own a).symm,fun p c=>⟨d _ (T.own p c).1,(T.own p c).2⟩,fun p c=>⟨(T.gown p c).1,fun b a=>d b ((T.gown p c).2 b a)⟩,T.apart⟩
theorem St.key_new(T:St (· ∈keys L G) h h' L' G'): ∀b∈keys L' G',b∈keys L G\/h.n<=b:=fun _ a=>(T.key_own a).symm
theorem St.sub(S:St M h0 h L G)(b:L'.Sublist L)(c:G'.Sublist G):St M h0 h L' G':=
 ⟨S.fr,fun p a=>S.own p (b.subset a),fun p a=>S.gown p (c.subset a),S.apart.sublist ((b.map _).append (c.filterMap _))⟩
theorem St.drop1{x:Nat×Ob}(S:St M h0 h (x::L) G):St M h0 h L G:=S.sub (List.sublist_cons_self _ _) (List.Sublist.refl _)
end
theorem eW{E:Env}{f:FuncId}{args:List Value}{d:Option (Value×Bool)}{h:Hp}{P Q:Out->Option (Value×Bool)->Hp->Prop}(e:du E f args d h P)(g: ∀o c h',P o c h'->Q o c h'):du E f args d h Q:=by
 obtain⟨o,c,h',a,b⟩:=e;exact⟨o,c,h',a,g _ _ _ b⟩
theorem pI{E:Env}{f:FuncId}{args:List Value}{h:Hp}{P Q:Value->Hp->Prop}(a:Ret E f args h P)(b: ∀v h',P v h'->Q v h'):Ret E f args h Q:=Ret.mono b a
theorem ou{E:Env}{cx:Cx}{Q:eh}{k:List Fr}{l:Loc}{a:Nat}{J:Nat->Hp->List Nat->Prop}{n:Nat}{o:Out}{c:Option (Value×Bool)}{h:Hp}(y:YQ J (fun _ _=>False) n o c h)
 (d: ∀F,J n h F-> ∃x,h.get a=some (.loop x)/\x.st≠1/\RangeGo E cx Q k l (h.put a .dead) x.pending):RangeQ E cx Q k l a o c h:=by
 obtain⟨_,⟨u,F,rfl,e⟩|⟨u,_,b⟩|⟨v,_,b⟩⟩:=y
 . exact d F e
 . exact b.elim
 . exact b.elim
theorem St.dead{M:Nat->Prop}{h0 h:Hp}{L:List (Nat×Ob)}{G:List GL}{b:Nat}{o:Ob}(S:St M h0 h ((b,o)::L) G):St M h0 (h.put b .dead) L G:=by
 have d:=S.own _ m0
 refine⟨S.fr.put d.1 _,fun p a=>⟨(S.own p (.tail _ a)).1,(S.own p (.tail _ a)).2.of_get (bW fun e=>?_)⟩,fun p a=>⟨(S.gown p a).1.of_get fun c f=>bW fun e=>?_,(S.gown p a).2⟩,(List.nodup_cons.1 S.apart).2⟩
 . exact(List.nodup_cons.1 S.apart).1 (by show b∈keys L G;rw [e];exact fI a)
 . exact(List.nodup_cons.1 S.apart).1 (by show b∈keys L G;rw [e];exact eo a f)
theorem St.get{M:Nat->Prop}{h0 h:Hp}{L:List (Nat×Ob)}{G:List GL}{b:Nat}{x:gR}(S:St M h0 h L G)(a:(b,Ob.loop x)∈L):h.get b=some (.loop x):=(S.own _ a).2
theorem St.getD{M:Nat->Prop}{h0 h:Hp}{L:List (Nat×Ob)}{G:List GL}{b:Nat}(S:St M h0 h L G)(a:(b,Ob.dfr)∈L):h.get b=some .dfr:=(S.own _ a).2

theorem qv{E:Env}{cx:Cx}{Q:eh}{k:List Fr}{n:Nat}{e:Option (Value×Bool)}{b:Code}{α:Type}(I:α->(Nat->Value)->List Deferred->Hp->Prop)(m:α->Nat)
 (p: ∀a,(∀f c g h',m f<m a->I f c g h'->Run E (lim E) cx Q (.code (.loop b)::k) .normal (LL n c g e) h')-> ∀ρ d h,I a ρ d h->Run E (lim E) cx Q (.code b:: .code (.loop b)::k) .normal (LL n ρ d e) h):
 ∀a ρ d h,I a ρ d h->Run E (lim E) cx Q (.code (.loop b)::k) .normal (LL n ρ d e) h:=by
 have i: ∀j a,m a<j-> ∀ρ d h,I a ρ d h->Run E (lim E) cx Q (.code (.loop b)::k) .normal (LL n ρ d e) h:=by
  intro j
  induction j with
  |zero=>intro a q;omega
  | succ j r=>
    intro a q ρ d h l
    rw [aZ]
    exact p a (fun f c g h' hlt o=>r f (by omega) c g h' o) ρ d h l
 intro a ρ d h l
 exact i (m a+1) a (by omega) ρ d h l
def dX(a:List Nat):List (Nat×Ob):=a.map fun b=>(b,Ob.dfr)
theorem ns{E:Env}{M:Nat->Prop}{h0:Hp}{L:List (Nat×Ob)}{G:List GL}{m:Option Value}{P:Option Value->Hp->Prop}: ∀(a:List Nat) (h:Hp),St M h0 h (dX a++L) G->(∀h',St M h0 h' L G->P m h')->UnQ E (a.map pR) m h P
 | [],h,S,c=>cq (c h S)
 |b::a,h,S,c=>un_dfr (S.getD m0) (ns a _ (S.dead) c)

theorem rF{E:Env}{n:Nat}{ρ:Nat->Value}{h:Hp}{t:Tmp}{ty:TypeId}{v:Value}(a:t<n)(b:ee E h ty (ρ t)=some v):aQ E (tab n ρ) h [.cell t ty]=some [v]:=by
 simp only [aQ,kj,if_pos a,b]
theorem zT{E:Env}{h:Hp}{t:TypeId}{b o:Nat}{s:Option Nat}{v:Value}(a:E.agg t=some false)(c:h.load b o 1=some [v]):ee E h t (.pointer (some ⟨b,o,s⟩))=some v:=by
 rw [load_q,a,loadq_f,c];rfl
theorem cF{E:Env}{h:Hp}{t:TypeId}{b o n:Nat}{s:Option Nat}{l:List Value}(a:E.agg t=some true)(c:E.sz t=some n)(d:h.load b o n=some l):ee E h t (.pointer (some ⟨b,o,s⟩))=some (.agg ⟨l⟩):=by
 rw [load_q,a,c,loadq_t,d];rfl

theorem St.call1{M:Nat->Prop}{h0 h h':Hp}{L:List (Nat×Ob)}{G:List GL}(S:St M h0 h L G){i b:Nat}{o o':Ob}(g:L[i]? =some (b,o))(f:Mo (· =b) h h')(n:Has h' b o'):St M h0 h' (L.set i (b,o')) G:=by
 have m:=S.own _ (zN g)
 have k:(keys L G)[i]? =some b:=nC g
 refine⟨S.fr.trans f (fun c l=>by subst l;exact m.1.symm),fun p a=>?_,fun p a=>⟨(S.gown p a).1.of_get fun c l=>?_,(S.gown p a).2⟩,?_⟩
 . rcases ki a with rfl|⟨j,q,a⟩
   . exact⟨m.1,n⟩
   . have d:=S.own p (zN a)
     refine⟨d.1,d.2.of_get (f.get _ (d.2.lt S.ok) fun e=>q ?_)⟩
     have r:(keys L G)[j]? =some b:=by rw [nC a];rw [e]
     exact om S.apart r k
 . refine f.get c ((S.gown p a).1.lt S.ok l) fun e=>?_
   subst e
   have d:=S.apart
   unfold keys at d
   rw [Xg]at d
   exact d.2.2 c (List.mem_map.2 ⟨_,zN g,rfl⟩) c (List.mem_filterMap.2 ⟨p,a,l⟩) rfl
 . have:keys (L.set i (b,o')) G=keys L G:=by
    unfold keys
    congr 1
    rw [List.map_set]
    refine Xe fun j=>?_
    rw [Xf]
    split
    . rename_i e;subst e
      have:=(List.getElem?_eq_some_iff.1 g).1
      rw [if_pos (by simpa using this),List.getElem?_map,g];rfl
    . rfl
   rw [this];exact S.apart
theorem St.init1{h:Hp}(a:h.t.Sized h.n){b:Nat}{o:Ob}(c:Has h b o):St (· =b) h h [(b,o)] []:=(St.init a).push (.inr rfl) c (by simp [keys])
theorem wrap8(z:Int):0<=aq .u8 z/\aq .u8 z<256:=by
 unfold aq
 cases z with
 | ofNat m=>
   simp only [hf,sgn,pw]
   cases a:Nat.blt m 256 with
   | true=>
     rw [Nat.blt_eq]at a
     simp only [cond_true]
     exact⟨Xd m,Int.ofNat_lt.2 a⟩
   | false=>
     simp only [cond_false]
     exact⟨Xd _,Int.ofNat_lt.2 (Nat.mod_lt _ (by omega))⟩
 | negSucc m=>
   simp only [hf,sgn,pw,cond_false]
   exact⟨Xd _,Int.ofNat_lt.2 (show 256-1-m%256<256 by omega)⟩
theorem bj{a:List (Nat×Tch)}{i j:Nat}{l:List (Nat×Nat)}:bZ a ((i,j)::l)=(iW (cg i a) (cg j a)&&bZ a l):=rfl
theorem au{a:Nat}{h h':Hp}(e:leaves h h' a=true):iW (some (.blk a)) (some (.run h h'))=true:=e
theorem av{a:Nat}{h h':Hp}(e:leaves h h' a=true):iW (some (.run h h')) (some (.blk a))=true:=e
theorem nH{a b:Nat}(e:a≠b):iW (some (.blk a)) (some (.blk b))=true:=by
 simp only [iW]
 cases c:Xm a b with
 |false=>rfl
 |true=>exact absurd (Nat.eq_of_beq_eq_true c) e
theorem bK{i:Nat}{b:Tch}{l:List (Nat×Tch)}:cg i ((i,b)::l)=some b:=by simp [cg,Xk]
theorem aY{i k:Nat}{b:Tch}{l:List (Nat×Tch)}(h:i≠k):cg i ((k,b)::l)=cg i l:=by
 have h:Xm i k=false:=by rw [bN];simpa using h
 simp [cg,h]
theorem St.leaves{M:Nat->Prop}{h0 h h':Hp}{L:List (Nat×Ob)}{G:List GL}(S:St M h0 h L G){b c:Nat}{o:Ob}(a:(c,o)∈L)(f:Mo (· =b) h h')(d:c≠b):leaves h h' c=true:=
 rW (f.get c ((S.own _ a).2.lt S.ok) d)

theorem aS{i k:Nat}{x:Option Tch}{a:List (Nat×Tch)}(h:i≠k):cg i (fD k a x)=cg i a:=by
 cases x with
 |none=>rfl
 |some b=>exact aY h
theorem bJ{ρ:Operand->Value}{b:Bool}{t:TypeId}{a:Operand}{h h':Hp}:bU ρ b (.load t a) h h'=(match ρ a with| .pointer (some a)=>some (.blk a.block)|_=>none):=by
 simp only [bU,dk,iA,dQ,touch,cond_false]
 cases ρ a<;>first|rfl|(rename_i x;cases x<;>rfl)
theorem cb{ρ:Operand->Value}{f:Operand}{as:Array Operand}{ts:Array TypeId}{h h':Hp}:bU ρ false (.call ⟨.value f,as,ts⟩) h h'=some (.run h h'):=rfl
theorem a9{ρ:Operand->Value}{b:Bool}{t:TypeId}{h h':Hp}:bU ρ b (.alloc t) h h'=some (.blk h.n):=rfl

theorem St.gset {M:Nat->Prop} {h0 h:Hp} {L:List (Nat×Ob)} {G:List GL} (S:St M h0 h L G) {E:Env} {t:TypeId} {j i:Nat} {v:Value} {vs:List Value} {kd:IntKind} (f:G[j]? =some (v,1,vs)) (K:i<vs.length) (Q:E.sz t=some 1):
 ∃b,idxS (some 1) v (.int kd i)=some (.pointer (some ⟨b,i,none⟩))/\ ∀x,Fl x-> ∃h',gO E h t (.pointer (some ⟨b,i,none⟩)) x=some h'/\St M h0 h' L (G.set j (v,1,vs.set i x)):=by
 obtain⟨R,w⟩:=S.gown _ (zN f)
 rcases R with⟨_,z⟩|⟨b,n,N,z,O⟩
 . simp only []at z;subst z;simp at K
 . simp only [] at N z O
   subst N
   have m:n=vs.length:=by omega
   refine⟨b,?_,fun x D=>?_⟩
   . rw [pL,hZ (by omega)]
     simp [putI]
   . obtain ⟨y, A,B⟩:=O.store S.ok Nat.one_ne_zero (o:=i) (vs:=[x]) (by simp;omega) (by simp [D.2.1])
     have e:lay vs i [x]=vs.set i x:=by
      refine Xe fun j=>?_
      rw [iZ (by simp;omega),Xf]
      simp only [Xh,Xa]
      by_cases C:i=j
      . subst C;rw [if_pos ⟨Nat.le_refl _,by omega⟩,if_pos rfl,if_pos K];simp
      . rw [if_neg (by omega),if_neg C]
     rw [e]at B
     refine⟨h.put b y,?_,?_⟩
     . have:gO E h t (.pointer (some ⟨b,i,none⟩)) x=h.store b i [x]:=by
        simp only [gO,Q]
        have T:ag x=[x]:=D.1
        have U:(bif Xm (ag x).length 1 then h.store b i (ag x)else none)=h.store b i [x]:=by rw [T];rfl
        revert U
        cases x<;>first|exact fun h=>h|exact absurd rfl (D.2.2 _)
       rw [this];exact A
     . have l:dY (Value.slice (some ⟨b,0,some 1⟩) n n,1,vs)=some b:=rfl
       have P:=w b l
       have hlt:=(List.getElem?_eq_some_iff.1 f).1
       have V: ∀c∈L.map Prod.fst,c≠b:=fun c k e=>by
        have A:=S.apart
        unfold keys at A
        rw [Xg]at A
        exact A.2.2 c k b (List.mem_filterMap.2 ⟨_,zN f,l⟩) e
       have s:keys L (G.set j (Value.slice (some ⟨b,0,some 1⟩) n n,1,vs.set i x))=keys L G:=by
        unfold keys
        congr 1
        have: ∀(G:List GL) (j:Nat) (p q:GL),G[j]? =some p->dY q=dY p->(G.set j q).filterMap dY=G.filterMap dY:=by
         intro G
         induction G with
         |nil=>intro j p q f;simp at f
         | cons g G F=>
           intro j p q f u
           cases j with
           |zero=>simp at f;subst f;simp [Xb,u]
           |succ j=>simp at f;simp only [List.set_cons_succ,Xb,F j p q f u]
        exact this G j _ _ f rfl
       refine⟨S.fr.put P y,fun p d=>⟨(S.own p d).1,(S.own p d).2.of_get (bW fun e=>V _ (List.mem_map_of_mem d) e.symm)⟩,fun p d=>?_,by rw [s];exact S.apart⟩
       rcases ki d with rfl|⟨W,H,d⟩
       . exact⟨.inr ⟨b,n,rfl,by simpa using z,B⟩,fun c k=>by cases k;exact P⟩
       . refine ⟨(S.gown p (zN d)).1.of_get fun c k=>bW fun e=>H ?_,(S.gown p (zN d)).2⟩
         subst e
         have B:=S.apart
         unfold keys at B
         have X:=(List.nodup_append.1 B).2.1
         have I: ∀(G:List GL) (a c:Nat) (p q:GL),(G.filterMap dY).Nodup->G[a]? =some p->G[c]? =some q-> ∀x,dY p=some x->dY q=some x->a=c:=by
          intro G
          induction G with
          |nil=>intro a c p q _ r;simp at r
          | cons g G F=>
            intro a c p q m r k x d u
            have J:(G.filterMap dY).Nodup:=by
             rw [Xb]at m
             split at m
             . exact m
             . exact(List.nodup_cons.1 m).2
            cases a with
            | zero=>
              cases c with
              |zero=>rfl
              | succ c=>
                simp at r k
                subst r
                rw [Xi d]at m
                exact absurd (List.mem_filterMap.2 ⟨q,zN k,u⟩) (List.nodup_cons.1 m).1
            | succ a=>
              cases c with
              | zero=>
                simp at r k
                subst k
                rw [Xi u]at m
                exact absurd (List.mem_filterMap.2 ⟨p,zN r,d⟩) (List.nodup_cons.1 m).1
              | succ c=>
                simp at r k
                rw [F a c p q J r k x d u]
         exact I G W j p _ X d f b k l

def JP(n:Nat)(d:List Deferred)(b:Option (Value×Bool))(J:(Nat->Value)->Hp->Prop):eh:=fun e l h=>e=.normal/\ ∃a,l=LL n a d b/\J a h
theorem xq{E:Env}{cx:Cx}{Q:eh}{k:List Fr}{n:Nat}{d:List Deferred}{a:Option (Value×Bool)}{J:(Nat->Value)->Hp->Prop}{c:Code}{l:Loc}{h:Hp}
 (b:Run E (lim E) cx (JP n d a J) [.code c] .normal l h) (e: ∀ρ h,J ρ h->Run E (lim E) cx Q k .normal (LL n ρ d a) h):Run E (lim E) cx Q (.code c::k) .normal l h:=by
 obtain⟨m,o,f,g,i⟩:=b
 obtain⟨rfl,ρ,rfl,j⟩:=i
 exact⟨_,_,_,g,e ρ f j⟩
theorem AC{E:Env}{cx:Cx}{Q:eh}{k:List Fr}{n:Nat}{d:List Deferred}{e:Option (Value×Bool)}(J:(Nat->Value)->Hp->Prop){a b:Code}{c:Nat->Value}{h:Hp}{t:Bool}
 (g:t=true->Run E (lim E) cx (JP n d e J) [.code a] .normal (LL n c d e) h) (i:t=false->Run E (lim E) cx (JP n d e J) [.code b] .normal (LL n c d e) h)
 (f: ∀ρ h,J ρ h->Run E (lim E) cx Q k .normal (LL n ρ d e) h):CStep E cx Q a b k (LL n c d e) h (.bool t):=by
 cases t with
 |true=>exact xq (g rfl) f
 |false=>exact xq (i rfl) f
theorem kp{n:Nat}{d:List Deferred}{a:Option (Value×Bool)}{J:(Nat->Value)->Hp->Prop}{ρ:Nat->Value}{h:Hp}(b:J ρ h):JP n d a J .normal (LL n ρ d a) h:=⟨rfl,ρ,rfl,b⟩

theorem rx{E:Env}{R:Rec}{cx:Cx}{Q:eh}{k2:List Fr}: ∀(m:List Fr) (e:Ex) (l:Loc) (h:Hp),Run E R cx (fun e l h=>Run E R cx Q k2 e l h) m e l h->Run E R cx Q (m++k2) e l h
 | [],e,l,h,d=>d
 | f ::m,e,l,h,d=>by
   have g:=rx (E:=E) (R:=R) (cx:=cx) (Q:=Q) (k2:=k2) m
   cases f with
   | code c=>
     cases e with
     |normal=>obtain⟨n,j,k,a,b⟩:=d;exact⟨n,j,k,a,g _ _ _ b⟩
     |exit i=>exact g _ _ _ d
     |ret=>exact g _ _ _ d
     |pan v=>exact g _ _ _ d
   | blk id=>
     cases e with
     |normal=>exact g _ _ _ d
     | exit i=>
       simp only [Run,List.cons_append]at d⊢
       by_cases p:i=id
       . rw [if_pos p]at d⊢;exact g _ _ _ d
       . rw [if_neg p]at d⊢;exact g _ _ _ d
     |ret=>exact g _ _ _ d
     |pan v=>exact g _ _ _ d
   | ops a r=>
     cases e with
     |normal=>obtain⟨n,j,k,a,b⟩:=d;exact⟨n,j,k,a,g _ _ _ b⟩
     |exit i=>exact g _ _ _ d
     |ret=>exact g _ _ _ d
     |pan v=>exact g _ _ _ d
   | kill t=>
     cases e with
     |normal=>obtain⟨b,s,c,x,y,z⟩:=d;exact⟨b,s,c,x,y,g _ _ _ z⟩
     |exit i=>exact g _ _ _ d
     |ret=>exact g _ _ _ d
     |pan v=>exact g _ _ _ d
   | opsD a q u r i w=>
     cases e with
     |normal=>obtain⟨j,k,o,a,b,c⟩:=d;exact⟨j,k,o,a,b,g _ _ _ c⟩
     |exit i=>exact g _ _ _ d
     |ret=>exact g _ _ _ d
     |pan v=>exact g _ _ _ d
theorem run_post{E:Env}{R:Rec}{cx:Cx}{Q n:eh}(hq: ∀e l h,Q e l h->n e l h): ∀(k:List Fr) (e:Ex) (l:Loc) (h:Hp),Run E R cx Q k e l h->Run E R cx n k e l h
 | k, e, l,h,d=>by
   have:=rx (E:=E) (R:=R) (cx:=cx) (Q:=n) (k2:=[]) k e l h
   rw [List.append_nil]at this
   refine this ?_
   revert d
   induction k generalizing e l h with
   |nil=>intro d;exact hq _ _ _ d
   | cons f k g=>
     intro d
     have g:=fun e l h d=>g e l h (by have:=rx (E:=E) (R:=R) (cx:=cx) (Q:=n) (k2:=[]) k e l h;rwa [List.append_nil]at this) d
     cases f with
     | code c=>
       cases e with
       |normal=>obtain⟨o,j,m,a,b⟩:=d;exact⟨o,j,m,a,g _ _ _ b⟩
       |exit i=>exact g _ _ _ d
       |ret=>exact g _ _ _ d
       |pan v=>exact g _ _ _ d
     | blk id=>
       cases e with
       |normal=>exact g _ _ _ d
       | exit i=>
         simp only [Run]at d⊢
         by_cases r:i=id
         . rw [if_pos r]at d⊢;exact g _ _ _ d
         . rw [if_neg r]at d⊢;exact g _ _ _ d
       |ret=>exact g _ _ _ d
       |pan v=>exact g _ _ _ d
     | ops a s=>
       cases e with
       |normal=>obtain⟨o,j,m,a,b⟩:=d;exact⟨o,j,m,a,g _ _ _ b⟩
       |exit i=>exact g _ _ _ d
       |ret=>exact g _ _ _ d
       |pan v=>exact g _ _ _ d
     | kill t=>
       cases e with
       |normal=>obtain⟨b,u,c,x,y,z⟩:=d;exact⟨b,u,c,x,y,g _ _ _ z⟩
       |exit i=>exact g _ _ _ d
       |ret=>exact g _ _ _ d
       |pan v=>exact g _ _ _ d
     | opsD a q w s i A=>
       cases e with
       |normal=>obtain⟨j,m,p,a,b,c⟩:=d;exact⟨j,m,p,a,b,g _ _ _ c⟩
       |exit i=>exact g _ _ _ d
       |ret=>exact g _ _ _ d
       |pan v=>exact g _ _ _ d
theorem sJ{E:Env}{cx:Cx}{Q:eh}{k:List Fr}{n:Nat}{d:List Deferred}{c:Option (Value×Bool)}{b:Code}{id:Nat}{α:Type}(J:(Nat->Value)->Hp->Prop)(I:α->(Nat->Value)->Hp->Prop)(m:α->Nat)
 (j: ∀a,(∀i f h',m i<m a->I i f h'->Run E (lim E) cx (JP n d c J) [.code (.loop b),.blk id] .normal (LL n f d c) h')-> ∀ρ h,I a ρ h->Run E (lim E) cx (JP n d c J) [.code b,.code (.loop b),.blk id] .normal (LL n ρ d c) h)
 (o: ∀ρ h,J ρ h->Run E (lim E) cx Q k .normal (LL n ρ d c) h) (a:α) {ρ:Nat->Value} {h:Hp} (p:I a ρ h):Run E (lim E) cx Q (.code (.loop b):: .blk id::k) .normal (LL n ρ d c) h:=by
 have q:=cm I m j a ρ h p
 refine rx [.code (.loop b),.blk id] _ _ _ (run_post (fun e l h g=>?_) _ _ _ _ q)
 obtain⟨rfl,ρ,rfl,g⟩:=g
 exact o ρ h g

theorem kh{ops:List Oper}{ord:List Nat}{os:List Oper}(a:((ops.any qK||qr ops)&&ops.all (iD ops.length))=true)(b:ordL ops=ord)(h3:dv ops ord ord=os):bn ops=os:=by unfold bn;rw [a,b,h3];rfl
theorem St.gblk{M:Nat->Prop}{h0 h:Hp}{L:List (Nat×Ob)}{G:List GL}(S:St M h0 h L G){p:GL}(d:p∈G){c:Nat}(a:ar p.1 c):(h0.n<=c\/M c)/\c∉L.map Prod.fst:=by
 have g:dY p=some c:=by
  rcases(S.gown p d).1 with⟨e,_⟩|⟨b,n,e,_⟩
  . rw [e]at a;exact a.elim
  . obtain⟨v,k,j⟩:=p
    simp only []at e a
    subst e
    exact congrArg some a
 refine⟨(S.gown p d).2 c g,fun i=>?_⟩
 have f:=S.apart
 unfold keys at f
 rw [Xg]at f
 exact f.2.2 c i c (List.mem_filterMap.2 ⟨p,d,g⟩) rfl
end Go.Ab

namespace Go.Ab
structure Arc where
 s:Nat
 t:Nat
 w:Nat
deriving Inhabited
def cE(a:Arc):List Value:=[.int .i64 a.s,.int .i64 a.t,.int .i64 a.w]
theorem g8(a:Arc):(cE a).length=3:=rfl
structure Gra where
 nodes:Nat
 X:List Int
 Y:List Int
 arcs:List Arc
structure Good(g:Gra):Prop where
 n1:1<=g.nodes
 n2:g.nodes<=12
 lX:g.X.length=g.nodes
 lY:g.Y.length=g.nodes
 cX: ∀x∈g.X,-2147483648<=x/\x<=2147483647
 cY: ∀x∈g.Y,-2147483648<=x/\x<=2147483647
 many:g.arcs.length<=100
 arcs: ∀a∈g.arcs,a.s<g.nodes/\a.t<g.nodes/\a.w<=2147483647
structure c8(h:Hp)(vx vy va:Value)(g:Gra):Prop where
 X:az h 1 (encI .i64) vx g.X
 Y:az h 1 (encI .i64) vy g.Y
 A:az h 3 cE va g.arcs
theorem c8.gr{h h':Hp}{b c d:Value}{g:Gra}(a:c8 h b c d g)(r:Gr h h'):c8 h' b c d g:=⟨a.X.gr r,a.Y.gr r,a.A.gr r⟩
def iO(g:Gra)(a b c:Value):Value:=.agg ⟨[.int .i64 g.nodes,a,b,c]⟩
structure Pl where
 i:Int
 f:Int
 c:Int
 n:Int
 lo:Int
 hi:Int
def jf(p:Pl):List Value:=[.int .i64 p.i,.int .i64 p.f,.int .i64 p.c,.int .i64 p.n,.int .i64 p.lo,.int .i64 p.hi]
theorem encP_len(p:Pl):(jf p).length=6:=rfl
end Go.Ab

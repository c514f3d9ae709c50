/- A deterministic evaluator of the model's code, and that the model follows it (part 7). -/
import Derived.Test.YtnandelhggbchaaGreatDoorAbF
open And renaming intro->zj
open List renaming mem_of_getElem?->zk,length_nil->zl,filterMap_cons->zn,ext_getElem?->zq,getElem?_set->zt,nodup_append->zu,length_cons->zw,filterMap_cons_some->zx
open Nat renaming lt_of_lt_of_le->zo,ble_eq_true_of_le->zy,beq_refl->zz,le_trans->zC,beq->zD
open Int renaming natCast_nonneg->zp
set_option maxHeartbeats 400000
set_option linter.defProp false
set_option linter.unusedVariables false
set_option linter.unusedSimpArgs false
namespace Go.Ab
section
variable{E:Env}{t e:TypeId}{h:Hp}{x y:Operand}
noncomputable def lenR(E:Env)(h:Hp)(t:TypeId)(x:Value):Option (cH×Hp):=lenK (match x with
 | .map (some r)=>match h.get r with
   |some (.map a _)=>match E.und t with
    |some (.map _ _)=>some (.val (.int .i64 (.ofNat a.length)),h)
    |_=>none
   |_=>none
 |_=>none) h (lH E t x)
theorem o_lenR{ρ:Operand->Value}{x:Operand}:aop E ρ h (.call ⟨.builtin .len,#[x],#[t]⟩)=lenR E h t (ρ x):=o_lenK
noncomputable def lenQ(d:Option TypeDesc)(h:Hp)(x:Value):Option (cH×Hp):=match d with
 | some .string=>match x with
   | .string s=>some (.val (.int .i64 (.ofNat s.size)),h)
   |_=>none
 |some (.array n _)=>some (.val (.int .i64 (.ofNat n)),h)
 | some (.slice _)=>match x with
   | .slice _ n _=>some (.val (.int .i64 (.ofNat n)),h)
   |_=>none
 | some (.map _ _)=>match x with
   | .map none=>some (.val (.int .i64 0),h)
   | .map (some r)=>match h.get r with
     |some (.map a _)=>some (.val (.int .i64 (.ofNat a.length)),h)
     |_=>none
   |_=>none
 |_=>none
theorem len_q{x:Value}:lenR E h t x=lenQ (E.und t) h x:=by
 unfold lenR lH
 cases a:E.und t with
 |none=>cases x<;>first|rfl|(rename_i r;cases r<;>first|rfl|(rename_i r;simp only [lenQ,lenK];cases h.get r with|none=>rfl|some b=>cases b<;>rfl))
 | some d=>
   cases d<;>cases x<;>first
    |rfl
    | (rename_i r;cases r<;>first
      |rfl
      |(rename_i r;simp only [lenQ,lenK];cases h.get r with|none=>rfl|some b=>cases b<;>rfl))
theorem yR{a:Option Addr}{n c:Nat}:lenQ (some (.slice e)) h (.slice a n c)=some (.val (.int .i64 n),h):=rfl
theorem lenq_str{s:ByteArray}:lenQ (some .string) h (.string s)=some (.val (.int .i64 s.size),h):=rfl
theorem lenq_arr{n:Nat}{v:Value}:lenQ (some (.array n e)) h v=some (.val (.int .i64 n),h):=rfl
theorem xK{k:TypeId}:lenQ (some (.map k e)) h (.map none)=some (.val (.int .i64 0),h):=rfl
theorem ax.lenq{α:Type}{k:Nat}{enc:α->List Value}{v:Value}{xs:List α}{h a:Hp}(s:ax a k enc v xs):lenQ (some (.slice e)) h v=some (.val (.int .i64 xs.length),h):=by
 rcases s with⟨rfl,rfl⟩|⟨_,_,_,_,rfl,_⟩<;>rfl
theorem dz.lenq{v:Value}{k n:Nat}{vs:List Value}{h f:Hp}(g:dz f (v,k,vs))(i:0<k)(d:n*k=vs.length):lenQ (some (.slice e)) h v=some (.val (.int .i64 n),h):=by
 rcases g with⟨a,c⟩|⟨b,m,a,c,j⟩
 . simp only []at a c
   subst a c
   have:n=0:=by
    cases n with
    |zero=>rfl
    |succ n=>simp only [zl,Nat.succ_mul]at d;omega
   subst this
   rfl
 . simp only []at a c
   subst a
   have:m=n:=Nat.eq_of_mul_eq_mul_right i (c.trans d.symm)
   subst this
   rfl
def kz(k:Option Nat)(v i:Value):Option Value:=match k with
 |none=>none
 | some k=>match v with
   | .slice (some a) n _=>match gF i n with
     |none=>none
     |some j=>some (.pointer (some (dW a (j*k))))
   |_=>none
def idxA(n:Nat)(k:Option Nat)(v i:Value):Option Value:=match k with
 |none=>none
 | some k=>match v with
   | .pointer (some a)=>match gF i n with
     |none=>none
     |some j=>some (.pointer (some (dW a (j*k))))
   |_=>none
def idxQ(E:Env)(d:Option TypeDesc)(v i:Value):Option Value:=match d with
 |some (.slice e)=>kz (E.sz e) v i
 |some (.array n e)=>idxA n (E.sz e) v i
 |_=>none
theorem idx_q{v i:Value}:dB E t v i=idxQ E (E.und t) v i:=by
 unfold dB idxQ
 cases b:E.und t with
 |none=>rfl
 | some d=>
   cases d<;>first
    |rfl
    |(simp only [kz];cases a:E.sz _<;>(split<;>first|rfl|(split<;>simp_all)))
    |(simp only [idxA];cases a:E.sz _<;>(split<;>first|rfl|(split<;>simp_all)))
theorem yG{v i:Value}:idxQ E (some (.slice e)) v i=kz (E.sz e) v i:=rfl
theorem yh{n:Nat}{v i:Value}:idxQ E (some (.array n e)) v i=idxA n (E.sz e) v i:=rfl
def putI(a:Addr)(k:Nat):Option Nat->Option Value
 |none=>none
 |some j=>some (.pointer (some ⟨a.block,a.off+j*k,none⟩))
theorem jz{k n c:Nat}{a:Addr}{i:Value}:kz (some k) (.slice (some a) n c) i=putI a k (gF i n):=by
 simp only [kz,putI,dW]
theorem idxa_ptr{k n:Nat}{a:Addr}{i:Value}:idxA n (some k) (.pointer (some a)) i=putI a k (gF i n):=by
 simp only [idxA,putI,dW]
theorem putI_some{a:Addr}{k j:Nat}:putI a k (some j)=some (.pointer (some ⟨a.block,a.off+j*k,none⟩)):=rfl
theorem ax.ix{α:Type}{k:Nat}{enc:α->List Value}{v:Value}{xs:List α}{kd:IntKind}(s:ax h k enc v xs)(d: ∀x,(enc x).length=k){i:Nat}(a:i<xs.length):
 ∃b o,kz (some k) v (.int kd i)=some (.pointer (some ⟨b,o,none⟩))/\h.load b o k=some (enc xs[i]):=by
 obtain⟨b,o,g,c,rfl,f⟩:=s.idx d a
 refine⟨b,o+i*k,?_,f⟩
 rw [jz,jk a]
 rfl
noncomputable def loadQ(g:Option Bool)(n:Option Nat)(h:Hp)(b o:Nat):Option Value:=match g with
 | some true=>match n with
   |some n=>agg1 (h.load b o n)
   |none=>none
 |some false=>one1 (h.load b o 1)
 |none=>none
theorem load_q{b o:Nat}{s:Option Nat}:dJ E h t (.pointer (some ⟨b,o,s⟩))=loadQ (E.agg t) (E.sz t) h b o:=by
 cases a:E.agg t with
 |none=>simp [dJ,loadQ,a]
 | some g=>
   cases g with
   |false=>exact yI a
   | true=>
     cases c:E.sz t with
     |none=>simp [dJ,loadQ,a,c]
     |some n=>exact loadV_agg a c
theorem loadq_f{b o:Nat}{n:Option Nat}:loadQ (some false) n h b o=one1 (h.load b o 1):=rfl
theorem loadq_t{b o n:Nat}:loadQ (some true) (some n) h b o=agg1 (h.load b o n):=rfl
def isSl(E:Env)(t:TypeId):Bool:=match E.und t with
 |some (.slice _)=>true
 |_=>false
theorem sl_und(b:isSl E t=true): ∃a,E.und t=some (.slice a):=by
 unfold isSl at b;split at b<;>first|exact⟨_, ‹_›⟩|cases b
theorem e_slice{a:Addr}{n c:Nat}(b:isSl E t=true):bj E .eql t x y (.slice (some a) n c) (.slice none 0 0)=some (.bool false):=by
 obtain⟨e,b⟩:=sl_und b
 simp [bj,ee,df,b]
theorem e_snil(a:isSl E t=true):bj E .eql t x y (.slice none 0 0) (.slice none 0 0)=some (.bool true):=by
 obtain⟨e,a⟩:=sl_und a
 simp [bj,ee,df,a]

def Fl(v:Value):Prop:=ah v=[v]/\iw v=true/\ ∀x,v≠ .chan x
theorem bI{k:IntKind}{n:Int}:Fl (.int k n):=⟨rfl,rfl,nofun⟩
theorem fl_bool{b:Bool}:Fl (.bool b):=⟨rfl,rfl,nofun⟩
theorem fl_str{b:ByteArray}:Fl (.string b):=⟨rfl,rfl,nofun⟩
theorem fO{a:Option Addr}:Fl (.pointer a):=⟨rfl,rfl,nofun⟩
theorem bD{a:Option Addr}{n c:Nat}:Fl (.slice a n c):=⟨rfl,rfl,nofun⟩
theorem fl_map{a:Option Nat}:Fl (.map a):=⟨rfl,rfl,nofun⟩
theorem jV{f:Fn}{a b:Array Value}:Fl (.func f a b):=⟨rfl,rfl,nofun⟩
theorem fl_nilf:Fl .nilFunc:=⟨rfl,rfl,nofun⟩
theorem fl_nili:Fl .nilIface:=⟨rfl,rfl,nofun⟩
theorem fl_iface{t:TypeId}{v:Value}:Fl (.iface t v):=⟨rfl,rfl,nofun⟩
theorem ax.fl{α:Type}{k:Nat}{enc:α->List Value}{v:Value}{xs:List α}(s:ax h k enc v xs):Fl v:=by
 rcases s with⟨rfl,_⟩|⟨_,_,_,_,rfl,_⟩<;>exact bD
theorem dz.fl{p:GL}(g:dz h p):Fl p.1:=by
 rcases g with⟨e,_⟩|⟨_,_,e,_⟩<;>rw [e]<;>exact bD
def placesOf(E:Env)(t:TypeId):Option (List (Nat×Nat)):=match E.und t with
 |some (.struct a)=>kB E a.toList
 |_=>none
def aggO:Option (List Value)->Option Value
 |some l=>some (.agg ⟨l⟩)
 |none=>none
theorem aggO_some{l:List Value}:aggO (some l)=some (.agg ⟨l⟩):=rfl
def jc(ps:List (Nat×Nat))(l:List Value)(a:List (Nat×Value)):Option (List Value):=fZ (fun i=>ps[i]?) l a
theorem build_st{c:List Value}{ps:List (Nat×Nat)}{a:List (Nat×Value)}(d:E.zero t=some c)(b:placesOf E t=some ps):jT E t a=aggO (jc ps c a):=by
 unfold placesOf at b
 unfold jT jc
 rw [d]
 split at b
 . rename_i g f
   simp only [f,b]
   cases fZ (fun i=>ps[i]?) c a<;>rfl
 . cases b
theorem fill_nil{ps:List (Nat×Nat)}{l:List Value}:jc ps l []=some l:=rfl
def buildQ(z:Option (List Value))(p:Option (List (Nat×Nat)))(a:List (Nat×Value)):Option Value:=match z with
 |none=>none
 | some z=>match p with
   |none=>none
   |some p=>aggO (jc p z a)
theorem build_q{a:List (Nat×Value)}(b:(placesOf E t).isSome=true):jT E t a=buildQ (E.zero t) (placesOf E t) a:=by
 cases c:placesOf E t with
 |none=>rw [c]at b;cases b
 | some f=>
   cases d:E.zero t with
   |none=>simp [jT,buildQ,d]
   |some z=>exact build_st d c
theorem xV{b:List Value}{ps:List (Nat×Nat)}{a:List (Nat×Value)}:buildQ (some b) (some ps) a=aggO (jc ps b a):=rfl
def qq(ps:List (Nat×Nat))(l:List Value)(v:Value)(r:List (Nat×Value)):Option (Nat×Nat)->Option (List Value)
 |none=>none
 |some (o,n)=>match v with
  | .chan _=>none
  |v=>bif zD (ah v).length n&&Nat.ble (o+n) l.length then jc ps (bJ l o (ah v)) r else none
theorem fill_q{ps:List (Nat×Nat)}{l:List Value}{i:Nat}{v:Value}{r:List (Nat×Value)}:jc ps l ((i,v)::r)=qq ps l v r (ps[i]?):=by
 unfold jc
 cases a:ps[i]? with
 |none=>simp [fZ,qq,a]
 |some q=>obtain⟨o,n⟩:=q;simp only [fZ,qq,a];rfl
theorem fills_one{ps:List (Nat×Nat)}{l:List Value}{o:Nat}{v:Value}{r:List (Nat×Value)}(a:Fl v)(b:o<l.length):qq ps l v r (some (o,1))=jc ps (l.set o v) r:=by
 have e:(bif zD (ah v).length 1&&Nat.ble (o+1) l.length then jc ps (bJ l o (ah v)) r else none)=jc ps (l.set o v) r:=by
  rw [a.1]
  simp only [zw,zl,Nat.zero_add,zz,zy (show o+1<=l.length from b),Bool.and_self,cond_true,bJ]
 cases v<;>first|exact e|exact absurd rfl (a.2.2 _)
theorem fills_agg{ps:List (Nat×Nat)}{l c:List Value}{o n:Nat}{r:List (Nat×Value)}(a:c.length=n)(b:o+n<=l.length):qq ps l (.agg ⟨c⟩) r (some (o,n))=jc ps (bJ l o c) r:=by
 simp only [qq,ah,a,zz,zy b,Bool.and_self,cond_true]
theorem setL_nil{l:List Value}{o:Nat}:bJ l o []=l:=rfl
theorem setL_cons{l vs:List Value}{o:Nat}{v:Value}:bJ l o (v::vs)=bJ (l.set o v) (o+1) vs:=rfl
theorem dp{v:Value}(a:Fl v):mR h (fun h=>boxR h t v) ptrTo (.row [v] 1):=by
 have:=bE (h:=h) (t:=t) a.2.2
 rw [a.1]at this
 exact this
theorem aC{M:Nat->Prop}{h0:Hp}{L:List (Nat×Ob)}{G:List GL}(S:St M h0 h L G){i b off md:Nat}{s:Option Nat}{l:List Value}{v:Value}(k:L[i]? =some (b,.row l md))(m:E.sz t=some 1)(c:Fl v)
 (o:off<l.length) (d:md≠0): ∃f,fH E h t (.pointer (some ⟨b,off,s⟩)) v=some f/\St M h0 f (L.set i (b,.row (l.set off v) md)) G/\Mo (· =b) h f:=by
 have a:ah v=[v]:=c.1
 have:=S.store (v:=v) (t:=t) (s:=s) (off:=off) (n:=1) k m c.2.2 (by rw [a];rfl) (by rw [a];simp [c.2.1]) (by omega) d
 rw [a]at this
 have e:lay l off [v]=l.set off v:=by
  refine zq fun j=>?_
  rw [ic (by simp;omega),zt]
  simp only [zw,zl]
  by_cases g:off=j
  . subst g;rw [if_pos ⟨Nat.le_refl _,by omega⟩,if_pos rfl,if_pos o];simp
  . rw [if_neg (by omega),if_neg g]
 rw [e]at this
 exact this
end
def ifaceR(E:Env)(t:TypeId)(v:Value):Option Value:=match E.und t with
 |none=>none
 |some (.interface _)=>none
 |some _=>some (.iface t v)
theorem o_ifaceR{E:Env}{ρ:Operand->Value}{h:Hp}{t:TypeId}{x:Operand}:aop E ρ h (.makeInterface t x)=bO h (ifaceR E t (ρ x)):=rfl
theorem ifaceR_is{E:Env}{t:TypeId}{v:Value}(a:iM E t=true):ifaceR E t v=some (.iface t v):=mk_iface a
def nilcR:Value->Option Value
 | .pointer (some a)=>some (.pointer (some a))
 | .func (.func f) a b=>some (.func (.func f) a b)
 |_=>none
theorem o_nilcR{E:Env}{ρ:Operand->Value}{h:Hp}{x:Operand}:aop E ρ h (.nilCheck x)=bO h (nilcR (ρ x)):=rfl
theorem nilcR_ptr{a:Addr}:nilcR (.pointer (some a))=some (.pointer (some a)):=rfl
def pickR(c a b:Value):Option Value:=match c with
 | .bool t=>some (bif t then a else b)
 |_=>none
theorem o_pickR{E:Env}{ρ:Operand->Value}{h:Hp}{c a b:Operand}:aop E ρ h (.pick c a b)=bO h (pickR (ρ c) (ρ a) (ρ b)):=rfl
theorem pick_t{a b:Value}:pickR (.bool true) a b=some a:=rfl
theorem pick_f{a b:Value}:pickR (.bool false) a b=some b:=rfl
def extrR(i:Nat):Value->Option Value
 | .tuple a=>a.toList[i]?
 |_=>none
theorem o_extrR{E:Env}{ρ:Operand->Value}{h:Hp}{x:Operand}{i:Nat}:aop E ρ h (.extract x i)=bO h (extrR i (ρ x)):=by
 rw [o_extract];rfl
theorem extr_0{a:Value}{l:List Value}:extrR 0 (.tuple ⟨a::l⟩)=some a:=rfl
theorem extr_1{a b:Value}{l:List Value}:extrR 1 (.tuple ⟨a::b::l⟩)=some b:=rfl
theorem extr_2{a b c:Value}{l:List Value}:extrR 2 (.tuple ⟨a::b::c::l⟩)=some c:=rfl
noncomputable def delR(E:Env)(h:Hp)(t:TypeId)(m k:Value):Option (cH×Hp):=match jN E h t m k with
 |none=>none
 |some a=>some (.val (.tuple #[]),a)
theorem o_delR{E:Env}{ρ:Operand->Value}{h:Hp}{m k:Operand}{t:TypeId}{ts:List TypeId}:aop E ρ h (.call ⟨.builtin .delete,#[m,k],⟨t::ts⟩⟩)=delR E h t (ρ m) (ρ k):=rfl
theorem aI{a b:Nat}:((a:Int)<(b:Int))=(a<b):=by simp
def BS:=zj (@run_seq)<|zj (@yL)<|zj (@r_ops)<|zj (@g_true)<|zj (@g_false)<|zj (@yd)<|zj (@run_ret)<|zj (@run_nil)<|zj (@run_skip)<|zj (@run_block)<|zj (@run_scope)<|zj (@run_blk)<|zj (@run_exit)<|zj (@u7)<|zj (@uE)<|zj (@wJ)<|zj (@yA)<|zj (@yN)<|zj (@r_cond)<|zj (@c_true)<|zj (@c_false)<|zj (@r_opsD)<|zj (@dn_loud)<|zj (@dn_quiet)<|zj (@dn_val)<|zj (@dn_skip)<|zj (@d_skip)<|zj (@jx)<|zj (@bG)<|zj (@bN)<|zj (@vu)<|zj (@guard_no)<|zj (@ym)<|zj (@gj_some)<|zj (@gv_true)<|zj (@gv_false)<|zj (@gv_tuple)<|zj (@o_move)<|zj (@o_assign)<|zj (@o_pickR)<|zj (@pick_t)<|zj (@pick_f)<|zj (@o_load)<|zj (@o_store)<|zj (@o_binOp)<|zj (@o_unOp)<|zj (@o_nilcR)<|zj (@nilcR_ptr)<|zj (@o_ifaceR)<|zj (@yS)<|zj (@o_slice)<|zj (@xt)<|zj (@o_field)<|zj (@xI)<|zj (@o_index)<|zj (@o_extrR)<|zj (@extr_0)<|zj (@extr_1)<|zj (@extr_2)<|zj (@o_build)<|zj (@uQ)<|zj (@xx)<|zj (@yg)<|zj (@we)<|zj (@o_convert)<|zj (@o_lookup)<|zj (@xS)<|zj (@yB)<|zj (@vh)<|zj (@o_allocR)<|zj (@o_boxR)<|zj (@o_callv)<|zj (@o_max)<|zj (@o_min)<|zj (@o_append)<|zj (@o_copy)<|zj (@o_lenR)<|zj (@o_delR)<|zj (@o_recover)<|zj (@o_deferR)<|zj (@o_panicR)<|zj (@yv)<|zj (@yJ)<|zj (@yF)<|zj (@yU)<|zj (@uH)<|zj (@tL)<|zj (@sb)<|zj (@sI)<|zj (@sH)<|zj (@step_defer)<|zj (@target_fn)<|zj (@uP)<|zj (@b_add)<|zj (@b_sub)<|zj (@b_mul)<|zj (@b_eql)<|zj (@b_neq)<|zj (@b_lss)<|zj (@b_leq)<|zj (@b_gtr)<|zj (@b_geq)<|zj (@b_eqlB)<|zj (@b_neqB)<|zj (@same_bool)<|zj (@u_not)<|zj (@mm_max)<|zj (@mm_min)<|zj (@ao)<|zj (@one1_some)<|zj (@agg1_some)<|zj (@dl)<|zj (@ll_put0)<|zj (@cy)<|zj (@ll_func)<|zj (@c_int)<|zj (@c_bool)<|zj (@c_string)<|zj (@c_nilp)<|zj (@c_nils)<|zj (@c_nilm)<|zj (@c_nilf)<|zj (@c_nili)<|zj (@ll_regs)<|zj (@jt)<|zj (@aQ)<|zj (@bu)<|zj (@dF)<|zj (@tW)<|zj (@uZ)<|zj (@gw)<|zj (@dX)<|zj (@hush_s)<|zj (@idxP_in)<|zj (@jk)<|zj (@idx_q)<|zj (@yG)<|zj (@yh)<|zj (@jz)<|zj (@idxa_ptr)<|zj (@putI_some)<|zj (@len_q)<|zj (@yR)<|zj (@lenq_str)<|zj (@lenq_arr)<|zj (@xK)<|zj (@load_q)<|zj (@loadq_f)<|zj (@loadq_t)<|zj (@n_iface)<|zj (@n_nil)<|zj (@e_iface)<|zj (@e_nil)<|zj (@n_ptr)<|zj (@e_ptr)<|zj (@n_pnil)<|zj (@e_pnil)<|zj (@e_slice)<|zj (@e_snil)<|zj (@assert_is)<|zj (@ifaceR_is)<|zj (@build_q)<|zj (@xV)<|zj (@aggO_some)<|zj (@fill_nil)<|zj (@fill_q)<|zj (@fills_one)<|zj (@fills_agg)<|zj (@setL_nil)<|zj (@setL_cons)<|zj (@bI)<|zj (@fl_bool)<|zj (@fl_str)<|zj (@fO)<|zj (@bD)<|zj (@fl_map)<|zj (@jV)<|zj (@fl_nilf)<|zj (@fl_nili)<|(@fl_iface)
end Go.Ab

namespace Go.Ab
structure ItS(h0:Hp)(D:Nat->Prop)(h:Hp)(F:List Nat):Prop where
 ok:h.t.Sized h.n
 n:h0.n<=h.n
 data: ∀b,b<h0.n->D b->h.get b=h0.get b
 apart: ∀b∈F,¬(b<h0.n/\D b)
 lt: ∀b∈F,b<h.n
section
variable{h0 h h':Hp}{D:Nat->Prop}{F F':List Nat}
theorem ItS.gr(s:ItS h0 D h F)(g:Gr h h'):ItS h0 D h' F:=
 ⟨g.ok,zC s.n g.n,fun b a c=>(g.get b (zo a s.n)).trans (s.data b a c),s.apart,fun b a=>zo (s.lt b a) g.n⟩
theorem ItS.mo(s:ItS h0 D h F)(m:Mo (· ∈F) h h')(hf: ∀b∈F',b∈F\/h.n<=b)(d: ∀b∈F',b<h'.n):ItS h0 D h' F':=
 ⟨m.ok,zC s.n m.n,fun b a c=>(m.get b (zo a s.n) (fun hf=>s.apart b hf ⟨a,c⟩)).trans (s.data b a c),
  fun b a c=>(hf b a).elim (fun a=>s.apart b a c) (fun a=>by have:=s.n;omega),d⟩
theorem ItS.load(s:ItS h0 D h F){b o n:Nat}{l:List Value}(a:h0.t.Sized h0.n)(e:h0.load b o n=some l)(c:D b):h.load b o n=some l:=by
 have:=s.data b (bw a e) c
 unfold Hp.load at e⊢
 rw [this];exact e
theorem ItS.sl{α:Type}{k:Nat}{enc:α->List Value}{v:Value}{xs:List α}(s:ItS h0 D h F)(a:h0.t.Sized h0.n)(e:ax h0 k enc v xs)(f: ∀b,av v b->D b):ax h k enc v xs:=by
 rcases e with e|⟨b,o,g,c,d,i,j⟩
 . exact .inl e
 . exact .inr ⟨b,o,g,c,d,i,s.load a j (f b (by rw [d];rfl))⟩
end
structure Yld(E:Env)(lb:Nat)(J:Nat->Hp->List Nat->Prop)(Z:Out->Hp->Prop)(xs:List (List Value)):Prop where
 lt: ∀i h F,J i h F->h.t.Sized h.n/\ ∀b∈F,b<h.n
 gr: ∀i h F h',J i h F->Gr h h'->J i h' F
 zgr: ∀h h',Z (.ret (.bool false)) h->Gr h h'->Z (.ret (.bool false)) h'
 round: ∀i x h F,xs[i]? =some x->J i h F->jO E lb x h fun o h'=>(o=.ret (.bool true)/\ ∃F',J (i+1) h' F'/\Mo (· ∈F) h h'/\ ∀b∈F',b∈F\/h.n<=b)\/(o=.ret (.bool false)/\Z o h'/\h'.t.Sized h'.n)\/((∃v,o=.pan v)/\Z o h')
def YQ(J:Nat->Hp->List Nat->Prop)(Z:Out->Hp->Prop)(n:Nat)(o:Out)(b:Option (Value×Bool))(a:Hp):Prop:=
 b=none/\((∃u c,o=.ret u/\J n a c)\/(∃u,o=.ret u/\Z (.ret (.bool false)) a)\/(∃v,o=.pan v/\Z o a))
theorem qK{E:Env}{g:FuncId}{b a:List Value}{h0:Hp}{D:Nat->Prop}{xs:List (List Value)}
 (H: ∀c J Z,Yld E c J Z xs-> ∀h F,ItS h0 D h F->J 0 h F->fu E g (b++[.func (.yield c) #[] #[]]++a) none h (YQ J Z xs.length)):Iter E g b a h0 D xs:=by
 intro c J Z h F f i j hlt d k l m e
 exact H c J Z ⟨hlt,d,k,m⟩ h F ⟨f,i,j,l,(hlt 0 h F e).2⟩ e
theorem wh{E:Env}{g:FuncId}{c a:List Value}{h0:Hp}{D:Nat->Prop}{xs:List (List Value)}(H:Iter E g c a h0 D xs){d:Nat}{J:Nat->Hp->List Nat->Prop}{Z:Out->Hp->Prop}(Y:Yld E d J Z xs)
 {h:Hp} {F:List Nat} (e:Mo (fun b=> ¬D b) h0 h) (i: ∀b∈F,b<h0.n-> ¬D b) (j:J 0 h F):fu E g (c++[.func (.yield d) #[] #[]]++a) none h (YQ J Z xs.length):=
 H d J Z h F e.ok e.n (fun b f k=>e.get b f (fun l=>l k)) Y.lt Y.gr Y.zgr (fun b f h=>i b f h.1 h.2) Y.round j
theorem ef{E:Env}{cx:Cx}{o:Oper}{l:Loc}{K:Ex->Loc->Hp->Prop}{h0 h:Hp}{D:Nat->Prop}{e i:Nat}{J:Nat->Hp->List Nat->Prop}{Z:Out->Hp->Prop}{xs:List (List Value)}{x:List Value}{F:List Nat}
 (Y:Yld E e J Z xs) (s:ItS h0 D h F) (f:J i h F) (g:xs[i]? =some x)
 (j: ∀d F',J (i+1) d F'->ItS h0 D d F'->Mo (· ∈F) h d->(∀b∈F',b∈F\/h.n<=b)->K .normal (l.put o.dst (.bool true)) d)
 (k2: ∀d,Z (.ret (.bool false)) d->d.t.Sized d.n->K .normal (l.put o.dst (.bool false)) d) (k: ∀v d,Z (.pan v) d->K (.pan v) l d):ed E cx o l K (some (.yield e x,h)):=by
 refine yu (Y.round i x h F g f) ?_
 rintro q d (⟨rfl,F',a,b,c⟩|⟨rfl,a,b⟩|⟨⟨v,rfl⟩,a⟩)
 . exact j d F' a (s.mo b c (Y.lt _ _ _ a).2) b c
 . exact k2 d a b
 . exact k v d a

section
variable{M:Nat->Prop}{h0 h h':Hp}{L L':List (Nat×Ob)}{G G':List GL}
theorem St.base(S:St M h0 h L G):St (· ∈keys L G) h h L G:=
 ⟨Mo.refl S.ok,fun p a=>⟨.inr (gW a),(S.own p a).2⟩,fun p a=>⟨(S.gown p a).1,fun b c=>.inr (eQ a c)⟩,S.apart⟩
theorem St.key_own(S:St M h0 h L G){b:Nat}(a:b∈keys L G):h0.n<=b\/M b:=by
 unfold keys at a
 rcases List.mem_append.1 a with a|a
 . obtain⟨p,c,rfl⟩:=List.mem_map.1 a
   exact(S.own p c).1
 . obtain⟨p,c,d⟩:=List.mem_filterMap.1 a
   exact(S.gown p c).2 b d
theorem St.rebase(S:St M h0 h L G)(T:St (· ∈keys L G) h h' L' G'):St M h0 h' L' G':=by
 have d: ∀b,h.n<=b\/b∈keys L G->h0.n<=b\/M b:=fun b a=>a.elim (fun a=>.inl (zC S.fr.n a)) S.key_own
 exact⟨S.fr.trans T.fr fun b a=>(S.key_own a).symm,fun p c=>⟨d _ (T.own p c).1,(T.own p c).2⟩,fun p c=>⟨(T.gown p c).1,fun b a=>d b ((T.gown p c).2 b a)⟩,T.apart⟩
theorem St.key_new(T:St (· ∈keys L G) h h' L' G'): ∀b∈keys L' G',b∈keys L G\/h.n<=b:=fun _ a=>(T.key_own a).symm
theorem St.sub(S:St M h0 h L G)(b:L'.Sublist L)(c:G'.Sublist G):St M h0 h L' G':=
 ⟨S.fr,fun p a=>S.own p (b.subset a),fun p a=>S.gown p (c.subset a),S.apart.sublist ((b.map _).append (c.filterMap _))⟩
theorem St.drop1{x:Nat×Ob}(S:St M h0 h (x::L) G):St M h0 h L G:=S.sub (List.sublist_cons_self _ _) (List.Sublist.refl _)
end
theorem iN{E:Env}{f:FuncId}{args:List Value}{e:Option (Value×Bool)}{h:Hp}{P Q:Out->Option (Value×Bool)->Hp->Prop}(g:fu E f args e h P)(i: ∀o c d,P o c d->Q o c d):fu E f args e h Q:=by
 obtain⟨o,c,d,a,b⟩:=g;exact⟨o,c,d,a,i _ _ _ b⟩
theorem rK{E:Env}{f:FuncId}{args:List Value}{h:Hp}{P Q:Value->Hp->Prop}(b:Ret E f args h P)(c: ∀v a,P v a->Q v a):Ret E f args h Q:=Ret.mono c b
theorem lx{E:Env}{cx:Cx}{Q:dP}{k:List Fr}{l:Loc}{a:Nat}{J:Nat->Hp->List Nat->Prop}{n:Nat}{o:Out}{c:Option (Value×Bool)}{h:Hp}(y:YQ J (fun _ _=>False) n o c h)
 (d: ∀F,J n h F-> ∃x,h.get a=some (.loop x)/\x.st≠1/\RangeGo E cx Q k l (h.put a .dead) x.pending):RangeQ E cx Q k l a o c h:=by
 obtain⟨_,⟨u,F,rfl,e⟩|⟨u,_,b⟩|⟨v,_,b⟩⟩:=y
 . exact d F e
 . exact b.elim
 . exact b.elim
theorem St.dead{M:Nat->Prop}{h0 h:Hp}{L:List (Nat×Ob)}{G:List GL}{b:Nat}{o:Ob}(S:St M h0 h ((b,o)::L) G):St M h0 (h.put b .dead) L G:=by
 have d:=S.own _ m0
 refine⟨S.fr.put d.1 _,fun p a=>⟨(S.own p (.tail _ a)).1,(S.own p (.tail _ a)).2.of_get (bK fun e=>?_)⟩,fun p a=>⟨(S.gown p a).1.of_get fun c f=>bK fun e=>?_,(S.gown p a).2⟩,(List.nodup_cons.1 S.apart).2⟩
 . exact(List.nodup_cons.1 S.apart).1 (by show b∈keys L G;rw [e];exact gW a)
 . exact(List.nodup_cons.1 S.apart).1 (by show b∈keys L G;rw [e];exact eQ a f)
theorem St.get{M:Nat->Prop}{h0 h:Hp}{L:List (Nat×Ob)}{G:List GL}{b:Nat}{x:fG}(S:St M h0 h L G)(a:(b,Ob.loop x)∈L):h.get b=some (.loop x):=(S.own _ a).2
theorem St.getD{M:Nat->Prop}{h0 h:Hp}{L:List (Nat×Ob)}{G:List GL}{b:Nat}(S:St M h0 h L G)(a:(b,Ob.dfr)∈L):h.get b=some .dfr:=(S.own _ a).2

theorem uj{E:Env}{cx:Cx}{Q:dP}{k:List Fr}{n:Nat}{e:Option (Value×Bool)}{b:Code}{α:Type}(I:α->(Nat->Value)->List Deferred->Hp->Prop)(m:α->Nat)
 (q: ∀a,(∀f c g i,m f<m a->I f c g i->Run E (lim E) cx Q (.code (.loop b)::k) .normal (LL n c g e) i)-> ∀ρ d h,I a ρ d h->Run E (lim E) cx Q (.code b:: .code (.loop b)::k) .normal (LL n ρ d e) h):
 ∀a ρ d h,I a ρ d h->Run E (lim E) cx Q (.code (.loop b)::k) .normal (LL n ρ d e) h:=by
 have l: ∀j a,m a<j-> ∀ρ d h,I a ρ d h->Run E (lim E) cx Q (.code (.loop b)::k) .normal (LL n ρ d e) h:=by
  intro j
  induction j with
  |zero=>intro a r;omega
  | succ j s=>
    intro a r ρ d h o
    rw [ce]
    exact q a (fun f c g i hlt p=>s f (by omega) c g i p) ρ d h o
 intro a ρ d h o
 exact l (m a+1) a (by omega) ρ d h o
def jm(a:List Nat):List (Nat×Ob):=a.map fun b=>(b,Ob.dfr)
theorem kc{E:Env}{M:Nat->Prop}{h0:Hp}{L:List (Nat×Ob)}{G:List GL}{m:Option Value}{P:Option Value->Hp->Prop}: ∀(a:List Nat) (h:Hp),St M h0 h (jm a++L) G->(∀d,St M h0 d L G->P m d)->UnQ E (a.map qa) m h P
 | [],h,S,c=>dE (c h S)
 |b::a,h,S,c=>un_dfr (S.getD m0) (kc a _ (S.dead) c)

theorem tu{E:Env}{n:Nat}{ρ:Nat->Value}{h:Hp}{t:Tmp}{ty:TypeId}{v:Value}(a:t<n)(b:dJ E h ty (ρ t)=some v):aO E (tab n ρ) h [.cell t ty]=some [v]:=by
 simp only [aO,jt,if_pos a,b]
theorem me{E:Env}{h:Hp}{t:TypeId}{b o:Nat}{s:Option Nat}{v:Value}(a:E.agg t=some false)(c:h.load b o 1=some [v]):dJ E h t (.pointer (some ⟨b,o,s⟩))=some v:=by
 rw [load_q,a,loadq_f,c];rfl
theorem cR{E:Env}{h:Hp}{t:TypeId}{b o n:Nat}{s:Option Nat}{l:List Value}(a:E.agg t=some true)(c:E.sz t=some n)(d:h.load b o n=some l):dJ E h t (.pointer (some ⟨b,o,s⟩))=some (.agg ⟨l⟩):=by
 rw [load_q,a,c,loadq_t,d];rfl

theorem St.call1{M:Nat->Prop}{h0 h m:Hp}{L:List (Nat×Ob)}{G:List GL}(S:St M h0 h L G){i b:Nat}{o o':Ob}(g:L[i]? =some (b,o))(f:Mo (· =b) h m)(q:Has m b o'):St M h0 m (L.set i (b,o')) G:=by
 have n:=S.own _ (zk g)
 have k:(keys L G)[i]? =some b:=qI g
 refine⟨S.fr.trans f (fun c l=>by subst l;exact n.1.symm),fun p a=>?_,fun p a=>⟨(S.gown p a).1.of_get fun c l=>?_,(S.gown p a).2⟩,?_⟩
 . rcases kh a with rfl|⟨j,r,a⟩
   . exact⟨n.1,q⟩
   . have d:=S.own p (zk a)
     refine⟨d.1,d.2.of_get (f.get _ (d.2.lt S.ok) fun e=>r ?_)⟩
     have s:(keys L G)[j]? =some b:=by rw [qI a];rw [e]
     exact p7 S.apart s k
 . refine f.get c ((S.gown p a).1.lt S.ok l) fun e=>?_
   subst e
   have d:=S.apart
   unfold keys at d
   rw [zu]at d
   exact d.2.2 c (List.mem_map.2 ⟨_,zk g,rfl⟩) c (List.mem_filterMap.2 ⟨p,a,l⟩) rfl
 . have:keys (L.set i (b,o')) G=keys L G:=by
    unfold keys
    congr 1
    rw [List.map_set]
    refine zq fun j=>?_
    rw [zt]
    split
    . rename_i e;subst e
      have:=(List.getElem?_eq_some_iff.1 g).1
      rw [if_pos (by simpa using this),List.getElem?_map,g];rfl
    . rfl
   rw [this];exact S.apart
theorem St.init1{h:Hp}(a:h.t.Sized h.n){b:Nat}{o:Ob}(c:Has h b o):St (· =b) h h [(b,o)] []:=(St.init a).push (.inr rfl) c (by simp [keys])
theorem wrap8(z:Int):0<=au .u8 z/\au .u8 z<256:=by
 unfold au
 cases z with
 | ofNat m=>
   simp only [hf,sgn,pw]
   cases a:Nat.blt m 256 with
   | true=>
     rw [Nat.blt_eq]at a
     simp only [cond_true]
     exact⟨zp m,Int.ofNat_lt.2 a⟩
   | false=>
     simp only [cond_false]
     exact⟨zp _,Int.ofNat_lt.2 (Nat.mod_lt _ (by omega))⟩
 | negSucc m=>
   simp only [hf,sgn,pw,cond_false]
   exact⟨zp _,Int.ofNat_lt.2 (show 256-1-m%256<256 by omega)⟩
theorem bH{a:List (Nat×Tch)}{i j:Nat}{l:List (Nat×Nat)}:bL a ((i,j)::l)=(iY (bR i a) (bR j a)&&bL a l):=rfl
theorem aX{a:Nat}{h b:Hp}(e:leaves h b a=true):iY (some (.blk a)) (some (.run h b))=true:=e
theorem bS{a:Nat}{h b:Hp}(e:leaves h b a=true):iY (some (.run h b)) (some (.blk a))=true:=e
theorem ez{a b:Nat}(e:a≠b):iY (some (.blk a)) (some (.blk b))=true:=by
 simp only [iY]
 cases c:zD a b with
 |false=>rfl
 |true=>exact absurd (Nat.eq_of_beq_eq_true c) e
theorem bP{i:Nat}{b:Tch}{l:List (Nat×Tch)}:bR i ((i,b)::l)=some b:=by simp [bR,zz]
theorem bz{i k:Nat}{b:Tch}{l:List (Nat×Tch)}(h:i≠k):bR i ((k,b)::l)=bR i l:=by
 have h:zD i k=false:=by rw [a9];simpa using h
 simp [bR,h]
theorem St.leaves{M:Nat->Prop}{h0 h a:Hp}{L:List (Nat×Ob)}{G:List GL}(S:St M h0 h L G){b c:Nat}{o:Ob}(d:(c,o)∈L)(f:Mo (· =b) h a)(e:c≠b):leaves h a c=true:=
 qN (f.get c ((S.own _ d).2.lt S.ok) e)

theorem a8{i k:Nat}{x:Option Tch}{a:List (Nat×Tch)}(h:i≠k):bR i (eJ k a x)=bR i a:=by
 cases x with
 |none=>rfl
 |some b=>exact bz h
theorem bZ{ρ:Operand->Value}{b:Bool}{t:TypeId}{a:Operand}{h c:Hp}:bM ρ b (.load t a) h c=(match ρ a with| .pointer (some a)=>some (.blk a.block)|_=>none):=by
 simp only [bM,cQ,g8,dI,touch,cond_false]
 cases ρ a<;>first|rfl|(rename_i x;cases x<;>rfl)
theorem cv{ρ:Operand->Value}{f:Operand}{as:Array Operand}{ts:Array TypeId}{h a:Hp}:bM ρ false (.call ⟨.value f,as,ts⟩) h a=some (.run h a):=rfl
theorem bV{ρ:Operand->Value}{b:Bool}{t:TypeId}{h a:Hp}:bM ρ b (.alloc t) h a=some (.blk h.n):=rfl

theorem St.gset {M:Nat->Prop} {h0 h:Hp} {L:List (Nat×Ob)} {G:List GL} (S:St M h0 h L G) {E:Env} {t:TypeId} {j i:Nat} {v:Value} {vs:List Value} {kd:IntKind} (f:G[j]? =some (v,1,vs)) (K:i<vs.length) (R:E.sz t=some 1):
 ∃b,kz (some 1) v (.int kd i)=some (.pointer (some ⟨b,i,none⟩))/\ ∀x,Fl x-> ∃N,fH E h t (.pointer (some ⟨b,i,none⟩)) x=some N/\St M h0 N L (G.set j (v,1,vs.set i x)):=by
 obtain⟨T,w⟩:=S.gown _ (zk f)
 rcases T with⟨_,z⟩|⟨b,n,O,z,P⟩
 . simp only []at z;subst z;simp at K
 . simp only [] at O z P
   subst O
   have m:n=vs.length:=by omega
   refine⟨b,?_,fun x D=>?_⟩
   . rw [jz,jk (by omega)]
     simp [putI]
   . obtain ⟨y, A,B⟩:=P.store S.ok Nat.one_ne_zero (o:=i) (vs:=[x]) (by simp;omega) (by simp [D.2.1])
     have e:lay vs i [x]=vs.set i x:=by
      refine zq fun j=>?_
      rw [ic (by simp;omega),zt]
      simp only [zw,zl]
      by_cases C:i=j
      . subst C;rw [if_pos ⟨Nat.le_refl _,by omega⟩,if_pos rfl,if_pos K];simp
      . rw [if_neg (by omega),if_neg C]
     rw [e]at B
     refine⟨h.put b y,?_,?_⟩
     . have:fH E h t (.pointer (some ⟨b,i,none⟩)) x=h.store b i [x]:=by
        simp only [fH,R]
        have U:ah x=[x]:=D.1
        have V:(bif zD (ah x).length 1 then h.store b i (ah x)else none)=h.store b i [x]:=by rw [U];rfl
        revert V
        cases x<;>first|exact fun h=>h|exact absurd rfl (D.2.2 _)
       rw [this];exact A
     . have l:c8 (Value.slice (some ⟨b,0,some 1⟩) n n,1,vs)=some b:=rfl
       have Q:=w b l
       have hlt:=(List.getElem?_eq_some_iff.1 f).1
       have W: ∀c∈L.map Prod.fst,c≠b:=fun c k e=>by
        have A:=S.apart
        unfold keys at A
        rw [zu]at A
        exact A.2.2 c k b (List.mem_filterMap.2 ⟨_,zk f,l⟩) e
       have s:keys L (G.set j (Value.slice (some ⟨b,0,some 1⟩) n n,1,vs.set i x))=keys L G:=by
        unfold keys
        congr 1
        have: ∀(G:List GL) (j:Nat) (p q:GL),G[j]? =some p->c8 q=c8 p->(G.set j q).filterMap c8=G.filterMap c8:=by
         intro G
         induction G with
         |nil=>intro j p q f;simp at f
         | cons g G F=>
           intro j p q f u
           cases j with
           |zero=>simp at f;subst f;simp [zn,u]
           |succ j=>simp at f;simp only [List.set_cons_succ,zn,F j p q f u]
        exact this G j _ _ f rfl
       refine⟨S.fr.put Q y,fun p d=>⟨(S.own p d).1,(S.own p d).2.of_get (bK fun e=>W _ (List.mem_map_of_mem d) e.symm)⟩,fun p d=>?_,by rw [s];exact S.apart⟩
       rcases kh d with rfl|⟨X,H,d⟩
       . exact⟨.inr ⟨b,n,rfl,by simpa using z,B⟩,fun c k=>by cases k;exact Q⟩
       . refine ⟨(S.gown p (zk d)).1.of_get fun c k=>bK fun e=>H ?_,(S.gown p (zk d)).2⟩
         subst e
         have B:=S.apart
         unfold keys at B
         have Y:=(List.nodup_append.1 B).2.1
         have I: ∀(G:List GL) (a c:Nat) (p q:GL),(G.filterMap c8).Nodup->G[a]? =some p->G[c]? =some q-> ∀x,c8 p=some x->c8 q=some x->a=c:=by
          intro G
          induction G with
          |nil=>intro a c p q _ r;simp at r
          | cons g G F=>
            intro a c p q m r k x d u
            have J:(G.filterMap c8).Nodup:=by
             rw [zn]at m
             split at m
             . exact m
             . exact(List.nodup_cons.1 m).2
            cases a with
            | zero=>
              cases c with
              |zero=>rfl
              | succ c=>
                simp at r k
                subst r
                rw [zx d]at m
                exact absurd (List.mem_filterMap.2 ⟨q,zk k,u⟩) (List.nodup_cons.1 m).1
            | succ a=>
              cases c with
              | zero=>
                simp at r k
                subst k
                rw [zx u]at m
                exact absurd (List.mem_filterMap.2 ⟨p,zk r,d⟩) (List.nodup_cons.1 m).1
              | succ c=>
                simp at r k
                rw [F a c p q J r k x d u]
         exact I G X j p _ Y d f b k l

def JP(n:Nat)(d:List Deferred)(b:Option (Value×Bool))(J:(Nat->Value)->Hp->Prop):dP:=fun e l h=>e=.normal/\ ∃a,l=LL n a d b/\J a h
theorem vm{E:Env}{cx:Cx}{Q:dP}{k:List Fr}{n:Nat}{d:List Deferred}{a:Option (Value×Bool)}{J:(Nat->Value)->Hp->Prop}{c:Code}{l:Loc}{h:Hp}
 (b:Run E (lim E) cx (JP n d a J) [.code c] .normal l h) (e: ∀ρ h,J ρ h->Run E (lim E) cx Q k .normal (LL n ρ d a) h):Run E (lim E) cx Q (.code c::k) .normal l h:=by
 obtain⟨m,o,f,g,i⟩:=b
 obtain⟨rfl,ρ,rfl,j⟩:=i
 exact⟨_,_,_,g,e ρ f j⟩
theorem sG{E:Env}{cx:Cx}{Q:dP}{k:List Fr}{n:Nat}{d:List Deferred}{e:Option (Value×Bool)}(J:(Nat->Value)->Hp->Prop){a b:Code}{c:Nat->Value}{h:Hp}{t:Bool}
 (g:t=true->Run E (lim E) cx (JP n d e J) [.code a] .normal (LL n c d e) h) (i:t=false->Run E (lim E) cx (JP n d e J) [.code b] .normal (LL n c d e) h)
 (f: ∀ρ h,J ρ h->Run E (lim E) cx Q k .normal (LL n ρ d e) h):CStep E cx Q a b k (LL n c d e) h (.bool t):=by
 cases t with
 |true=>exact vm (g rfl) f
 |false=>exact vm (i rfl) f
theorem gJ{n:Nat}{d:List Deferred}{a:Option (Value×Bool)}{J:(Nat->Value)->Hp->Prop}{ρ:Nat->Value}{h:Hp}(b:J ρ h):JP n d a J .normal (LL n ρ d a) h:=⟨rfl,ρ,rfl,b⟩

theorem qL{E:Env}{R:Rec}{cx:Cx}{Q:dP}{k2:List Fr}: ∀(m:List Fr) (e:Ex) (l:Loc) (h:Hp),Run E R cx (fun e l h=>Run E R cx Q k2 e l h) m e l h->Run E R cx Q (m++k2) e l h
 | [],e,l,h,d=>d
 | f ::m,e,l,h,d=>by
   have g:=qL (E:=E) (R:=R) (cx:=cx) (Q:=Q) (k2:=k2) m
   cases f with
   | code c=>
     cases e with
     |normal=>obtain⟨n,j,k,a,b⟩:=d;exact⟨n,j,k,a,g _ _ _ b⟩
     |exit i=>exact g _ _ _ d
     |ret=>exact g _ _ _ d
     |pan v=>exact g _ _ _ d
   | blk id=>
     cases e with
     |normal=>exact g _ _ _ d
     | exit i=>
       simp only [Run,List.cons_append]at d⊢
       by_cases p:i=id
       . rw [if_pos p]at d⊢;exact g _ _ _ d
       . rw [if_neg p]at d⊢;exact g _ _ _ d
     |ret=>exact g _ _ _ d
     |pan v=>exact g _ _ _ d
   | ops a r=>
     cases e with
     |normal=>obtain⟨n,j,k,a,b⟩:=d;exact⟨n,j,k,a,g _ _ _ b⟩
     |exit i=>exact g _ _ _ d
     |ret=>exact g _ _ _ d
     |pan v=>exact g _ _ _ d
   | kill t=>
     cases e with
     |normal=>obtain⟨b,s,c,x,y,z⟩:=d;exact⟨b,s,c,x,y,g _ _ _ z⟩
     |exit i=>exact g _ _ _ d
     |ret=>exact g _ _ _ d
     |pan v=>exact g _ _ _ d
   | opsD a q u r i w=>
     cases e with
     |normal=>obtain⟨j,k,o,a,b,c⟩:=d;exact⟨j,k,o,a,b,g _ _ _ c⟩
     |exit i=>exact g _ _ _ d
     |ret=>exact g _ _ _ d
     |pan v=>exact g _ _ _ d
theorem run_post{E:Env}{R:Rec}{cx:Cx}{Q n:dP}(s: ∀e l h,Q e l h->n e l h): ∀(k:List Fr) (e:Ex) (l:Loc) (h:Hp),Run E R cx Q k e l h->Run E R cx n k e l h
 | k, e, l,h,d=>by
   have:=qL (E:=E) (R:=R) (cx:=cx) (Q:=n) (k2:=[]) k e l h
   rw [List.append_nil]at this
   refine this ?_
   revert d
   induction k generalizing e l h with
   |nil=>intro d;exact s _ _ _ d
   | cons f k g=>
     intro d
     have g:=fun e l h d=>g e l h (by have:=qL (E:=E) (R:=R) (cx:=cx) (Q:=n) (k2:=[]) k e l h;rwa [List.append_nil]at this) d
     cases f with
     | code c=>
       cases e with
       |normal=>obtain⟨o,j,m,a,b⟩:=d;exact⟨o,j,m,a,g _ _ _ b⟩
       |exit i=>exact g _ _ _ d
       |ret=>exact g _ _ _ d
       |pan v=>exact g _ _ _ d
     | blk id=>
       cases e with
       |normal=>exact g _ _ _ d
       | exit i=>
         simp only [Run]at d⊢
         by_cases r:i=id
         . rw [if_pos r]at d⊢;exact g _ _ _ d
         . rw [if_neg r]at d⊢;exact g _ _ _ d
       |ret=>exact g _ _ _ d
       |pan v=>exact g _ _ _ d
     | ops a u=>
       cases e with
       |normal=>obtain⟨o,j,m,a,b⟩:=d;exact⟨o,j,m,a,g _ _ _ b⟩
       |exit i=>exact g _ _ _ d
       |ret=>exact g _ _ _ d
       |pan v=>exact g _ _ _ d
     | kill t=>
       cases e with
       |normal=>obtain⟨b,w,c,x,y,z⟩:=d;exact⟨b,w,c,x,y,g _ _ _ z⟩
       |exit i=>exact g _ _ _ d
       |ret=>exact g _ _ _ d
       |pan v=>exact g _ _ _ d
     | opsD a q A u i B=>
       cases e with
       |normal=>obtain⟨j,m,p,a,b,c⟩:=d;exact⟨j,m,p,a,b,g _ _ _ c⟩
       |exit i=>exact g _ _ _ d
       |ret=>exact g _ _ _ d
       |pan v=>exact g _ _ _ d
theorem q7{E:Env}{cx:Cx}{Q:dP}{k:List Fr}{n:Nat}{d:List Deferred}{c:Option (Value×Bool)}{b:Code}{id:Nat}{α:Type}(J:(Nat->Value)->Hp->Prop)(I:α->(Nat->Value)->Hp->Prop)(m:α->Nat)
 (o: ∀a,(∀i f j,m i<m a->I i f j->Run E (lim E) cx (JP n d c J) [.code (.loop b),.blk id] .normal (LL n f d c) j)-> ∀ρ h,I a ρ h->Run E (lim E) cx (JP n d c J) [.code b,.code (.loop b),.blk id] .normal (LL n ρ d c) h)
 (p: ∀ρ h,J ρ h->Run E (lim E) cx Q k .normal (LL n ρ d c) h) (a:α) {ρ:Nat->Value} {h:Hp} (q:I a ρ h):Run E (lim E) cx Q (.code (.loop b):: .blk id::k) .normal (LL n ρ d c) h:=by
 have r:=bg I m o a ρ h q
 refine qL [.code (.loop b),.blk id] _ _ _ (run_post (fun e l h g=>?_) _ _ _ _ r)
 obtain⟨rfl,ρ,rfl,g⟩:=g
 exact p ρ h g

theorem nf{ops:List Oper}{ord:List Nat}{os:List Oper}(a:((ops.any pT||pV ops)&&ops.all (gE ops.length))=true)(b:ordL ops=ord)(h3:dv ops ord ord=os):aZ ops=os:=by unfold aZ;rw [a,b,h3];rfl
theorem St.gblk{M:Nat->Prop}{h0 h:Hp}{L:List (Nat×Ob)}{G:List GL}(S:St M h0 h L G){p:GL}(d:p∈G){c:Nat}(a:av p.1 c):(h0.n<=c\/M c)/\c∉L.map Prod.fst:=by
 have g:c8 p=some c:=by
  rcases(S.gown p d).1 with⟨e,_⟩|⟨b,n,e,_⟩
  . rw [e]at a;exact a.elim
  . obtain⟨v,k,j⟩:=p
    simp only []at e a
    subst e
    exact congrArg some a
 refine⟨(S.gown p d).2 c g,fun i=>?_⟩
 have f:=S.apart
 unfold keys at f
 rw [zu]at f
 exact f.2.2 c i c (List.mem_filterMap.2 ⟨p,d,g⟩) rfl
end Go.Ab

namespace Go.Ab
structure Arc where
 s:Nat
 t:Nat
 w:Nat
deriving Inhabited
def cG(a:Arc):List Value:=[.int .i64 a.s,.int .i64 a.t,.int .i64 a.w]
theorem fU(a:Arc):(cG a).length=3:=rfl
structure Gra where
 nodes:Nat
 X:List Int
 Y:List Int
 arcs:List Arc
structure Good(g:Gra):Prop where
 n1:1<=g.nodes
 n2:g.nodes<=12
 lX:g.X.length=g.nodes
 lY:g.Y.length=g.nodes
 cX: ∀x∈g.X,-2147483648<=x/\x<=2147483647
 cY: ∀x∈g.Y,-2147483648<=x/\x<=2147483647
 many:g.arcs.length<=100
 arcs: ∀a∈g.arcs,a.s<g.nodes/\a.t<g.nodes/\a.w<=2147483647
structure cJ(h:Hp)(vx vy va:Value)(g:Gra):Prop where
 X:ax h 1 (encI .i64) vx g.X
 Y:ax h 1 (encI .i64) vy g.Y
 A:ax h 3 cG va g.arcs
theorem cJ.gr{h b:Hp}{c d e:Value}{g:Gra}(a:cJ h c d e g)(r:Gr h b):cJ b c d e g:=⟨a.X.gr r,a.Y.gr r,a.A.gr r⟩
def ik(g:Gra)(a b c:Value):Value:=.agg ⟨[.int .i64 g.nodes,a,b,c]⟩
structure Pl where
 i:Int
 f:Int
 c:Int
 n:Int
 lo:Int
 hi:Int
def im(p:Pl):List Value:=[.int .i64 p.i,.int .i64 p.f,.int .i64 p.c,.int .i64 p.n,.int .i64 p.lo,.int .i64 p.hi]
theorem encP_len(p:Pl):(im p).length=6:=rfl
end Go.Ab

/- A deterministic evaluator of the model's code, and that the model follows it (part 6). -/
import Derived.Test.YtddjlflghenhkaaGreatDoorKbbE
open And renaming intro->zM
open List renaming mem_of_getElem?->zO,ext_getElem?->Xc
open Nat renaming le_trans->Xa,lt_of_lt_of_le->Xb,ble_eq_true_of_le->Xd,beq_refl->Xe,beq->Xf
set_option maxHeartbeats 400000
set_option linter.defProp false
set_option linter.unusedVariables false
set_option linter.unusedSimpArgs false
namespace Go.Ab
variable{ρ:Operand->Value}
variable{x:Operand}
variable{c i j k n o:Nat}
variable{a v:Value}
variable{h h' h0:Hp}
variable{t:TypeId}
variable{l:List Value}
variable{ps:List (Nat×Nat)}
variable{D M:Nat->Prop}
variable{L:List (Nat×Ob)}
variable{G:List GL}
variable{E:Env}
variable{cx:Cx}
section
variable{E:Env}{t e:TypeId}{h:Hp}{x y:Operand}
noncomputable def lenR(E:Env)(h:Hp)(t:TypeId)(x:Value):Option (dT×Hp):=lenK (match x with
 | .map (some r)=>match h.get r with
   |some (.map a _)=>match E.und t with
    |some (.map _ _)=>some (.val (.int .i64 (.ofNat a.length)),h)|_=>none
   |_=>none
 |_=>none) h (lenP E t x)
theorem o_lenR:aop E ρ h (.call ⟨.builtin .len,#[x],#[t]⟩)=lenR E h t (ρ x):=o_lenK
noncomputable def lenQ(d:Option TypeDesc)(h:Hp)(x:Value):Option (dT×Hp):=match d with
 | some .string=>match x with
   | .string s=>some (.val (.int .i64 (.ofNat s.size)),h)|_=>none
 |some (.array n _)=>some (.val (.int .i64 (.ofNat n)),h)| some (.slice _)=>match x with
   | .slice _ n _=>some (.val (.int .i64 (.ofNat n)),h)|_=>none
 | some (.map _ _)=>match x with
   | .map none=>some (.val (.int .i64 0),h)| .map (some r)=>match h.get r with
     |some (.map a _)=>some (.val (.int .i64 (.ofNat a.length)),h)|_=>none
   |_=>none
 |_=>none
theorem len_q{x:Value}:lenR E h t x=lenQ (E.und t) h x:=by unfold lenR lenP;grind[lenQ,lenK]
theorem Em{a:Option Addr}:lenQ (some (.slice e)) h (.slice a n c)=some (.val (.int .i64 n),h):=rfl
theorem lenq_str{s:ByteArray}:lenQ (some .string) h (.string s)=some (.val (.int .i64 s.size),h):=rfl
theorem lenq_arr:lenQ (some (.array n e)) h v=some (.val (.int .i64 n),h):=rfl
theorem Dk{k:TypeId}:lenQ (some (.map k e)) h (.map none)=some (.val (.int .i64 0),h):=rfl
theorem lenq_map{k:TypeId}{r:Nat}{a:List (Value×Value×Nat)}(b:h.get r=some (.map a c)):lenQ (some (.map k e)) h (.map (some r))=some (.val (.int .i64 a.length),h):=by simp [lenQ,b]
theorem aD.lenq{a:Type}{enc:a->List Value}{xs:List a}(s:aD h' k enc v xs):lenQ (some (.slice e)) h v=some (.val (.int .i64 xs.length),h):=by rcases s with⟨rfl,rfl⟩|⟨_,_,_,_,rfl,_⟩<;>rfl
def py(k:Option Nat)(v i:Value):Option Value:=match k with
 |none=>none| some k=>match v with
   | .slice (some a) n _=>match ij i n with
     |none=>none|some j=>some (.pointer (some (iC a (j*k))))
   |_=>none
def idxA(n:Nat)(k:Option Nat)(v i:Value):Option Value:=match k with
 |none=>none| some k=>match v with
   | .pointer (some a)=>match ij i n with
     |none=>none|some j=>some (.pointer (some (iC a (j*k))))
   |_=>none
def idxQ(E:Env)(d:Option TypeDesc)(v i:Value):Option Value:=match d with
 |some (.slice e)=>py (E.sz e) v i|some (.array n e)=>idxA n (E.sz e) v i|_=>none
theorem idx_q{i:Value}:gC E t v i=idxQ E (E.und t) v i:=by
 unfold gC idxQ;cases a:E.und t with
 |none=>rfl| some d=>
   cases d<;>first
    |rfl
    |(simp only [py];cases b:E.sz _<;>(split<;>first|rfl|(split<;>simp_all)))
    |(simp only [idxA];grind)
theorem Ez{i:Value}:idxQ E (some (.slice e)) v i=py (E.sz e) v i:=rfl
theorem EK{i:Value}:idxQ E (some (.array n e)) v i=idxA n (E.sz e) v i:=rfl
def putI(a:Addr)(k:Nat):Option Nat->Option Value
 |none=>none|some j=>some (.pointer (some ⟨a.block,a.off+j*k,none⟩))
theorem tZ{a:Addr}{i:Value}:py (some k) (.slice (some a) n c) i=putI a k (ij i n):=by rfl
theorem idxa_ptr{a:Addr}{i:Value}:idxA n (some k) (.pointer (some a)) i=putI a k (ij i n):=by rfl
theorem putI_some{a:Addr}:putI a k (some j)=some (.pointer (some ⟨a.block,a.off+j*k,none⟩)):=rfl
theorem aD.ix{a:Type}{enc:a->List Value}{xs:List a}{kd:IntKind}(s:aD h k enc v xs)(f: ∀x,(enc x).length=k)(d:i<xs.length):
 ∃b o,py (some k) v (.int kd i)=some (.pointer (some ⟨b,o,none⟩))/\h.load b o k=some (enc xs[i]):=by
 obtain⟨b,o,j,c,rfl,g⟩:=s.idx f d;refine⟨b,o+i*k,?_,g⟩;rw [tZ,gL d];rfl
noncomputable def loadQ(g:Option Bool)(n:Option Nat)(h:Hp)(b o:Nat):Option Value:=match g with
 | some true=>match n with
   |some n=>agg1 (h.load b o n)|none=>none
 |some false=>one1 (h.load b o 1)|none=>none
theorem load_q{b:Nat}{s:Option Nat}:gw E h t (.pointer (some ⟨b,o,s⟩))=loadQ (E.agg t) (E.sz t) h b o:=by grind[gw,loadQ,Ep,loadV_agg]
theorem loadq_f{b:Nat}{n:Option Nat}:loadQ (some false) n h b o=one1 (h.load b o 1):=rfl
theorem loadq_t{b:Nat}:loadQ (some true) (some n) h b o=agg1 (h.load b o n):=rfl
def isSl(E:Env)(t:TypeId):Bool:=match E.und t with
 |some (.slice _)=>true|_=>false
theorem sl_und(b:isSl E t=true): ∃a,E.und t=some (.slice a):=by grind[isSl]
theorem e_slice{a:Addr}(b:isSl E t=true):bS E .eql t x y (.slice (some a) n c) (.slice none 0 0)=some (.bool false):=by grind[sl_und,bS,iE,fF]
theorem e_snil(a:isSl E t=true):bS E .eql t x y (.slice none 0 0) (.slice none 0 0)=some (.bool true):=by grind[sl_und,bS,iE,fF]
def Fl(v:Value):Prop:=ae v=[v]/\mN v=true/\ ∀x,v≠ .chan x
theorem aJ{k:IntKind}{n:Int}:Fl (.int k n):=⟨rfl,rfl,nofun⟩
theorem qU{b:Bool}:Fl (.bool b):=⟨rfl,rfl,nofun⟩
theorem fl_str{b:ByteArray}:Fl (.string b):=⟨rfl,rfl,nofun⟩
theorem bF{a:Option Addr}:Fl (.pointer a):=⟨rfl,rfl,nofun⟩
theorem bg{a:Option Addr}:Fl (.slice a n c):=⟨rfl,rfl,nofun⟩
theorem fl_map{a:Option Nat}:Fl (.map a):=⟨rfl,rfl,nofun⟩
theorem fD{f:Fn}{a b:Array Value}:Fl (.func f a b):=⟨rfl,rfl,nofun⟩
theorem fl_nilf:Fl .nilFunc:=⟨rfl,rfl,nofun⟩
theorem fl_nili:Fl .nilIface:=⟨rfl,rfl,nofun⟩
theorem fl_iface:Fl (.iface t v):=⟨rfl,rfl,nofun⟩
theorem aD.fl{a:Type}{enc:a->List Value}{xs:List a}(s:aD h k enc v xs):Fl v:=by rcases s with⟨rfl,_⟩|⟨_,_,_,_,rfl,_⟩<;>exact bg
theorem ik.fl{p:GL}(g:ik h p):Fl p.1:=by rcases g with⟨e,_⟩|⟨_,_,e,_⟩<;>rw [e]<;>exact bg
def placesOf(E:Env)(t:TypeId):Option (List (Nat×Nat)):=match E.und t with
 |some (.struct a)=>pD E a.toList|_=>none
def aggO:Option (List Value)->Option Value
 |some l=>some (.agg ⟨l⟩)|none=>none
theorem aggO_some:aggO (some l)=some (.agg ⟨l⟩):=rfl
def oH(ps:List (Nat×Nat))(l:List Value)(a:List (Nat×Value)):Option (List Value):=lW (fun i=>ps[i]?) l a
theorem build_st{c:List Value}{a:List (Nat×Value)}(d:E.zero t=some c)(b:placesOf E t=some ps):lj E t a=aggO (oH ps c a):=by
 unfold placesOf at b;unfold lj oH;rw [d]
 split at b
 . rename_i g f;simp only [f,b];cases lW (fun i=>ps[i]?) c a<;>rfl
 . cases b
theorem fill_nil:oH ps l []=some l:=rfl
def buildQ(z:Option (List Value))(p:Option (List (Nat×Nat)))(a:List (Nat×Value)):Option Value:=match z with
 |none=>none| some z=>match p with
   |none=>none|some p=>aggO (oH p z a)
theorem build_q{a:List (Nat×Value)}(b:(placesOf E t).isSome=true):lj E t a=buildQ (E.zero t) (placesOf E t) a:=by grind[placesOf,lj,buildQ,build_st]
theorem CX{b:List Value}{a:List (Nat×Value)}:buildQ (some b) (some ps) a=aggO (oH ps b a):=rfl
def fillS(ps:List (Nat×Nat))(l:List Value)(v:Value)(r:List (Nat×Value)):Option (Nat×Nat)->Option (List Value)
 |none=>none|some (o,n)=>match v with
  | .chan _=>none|v=>bif Xf (ae v).length n&&Nat.ble (o+n) l.length then oH ps (bZ l o (ae v)) r else none
theorem fill_q{r:List (Nat×Value)}:oH ps l ((i,v)::r)=fillS ps l v r (ps[i]?):=by rfl
theorem fills_one{r:List (Nat×Value)}(a:Fl v)(b:o<l.length):fillS ps l v r (some (o,1))=oH ps (l.set o v) r:=by
 have e:(bif Xf (ae v).length 1&&Nat.ble (o+1) l.length then oH ps (bZ l o (ae v)) r else none)=oH ps (l.set o v) r:=by rw [a.1];simp only [List.length_cons,List.length_nil,Nat.zero_add,Xe,Xd (show o+1<=l.length from b),Bool.and_self,cond_true,bZ]
 cases v<;>first|exact e|exact absurd rfl (a.2.2 _)
theorem fills_agg{c:List Value}{r:List (Nat×Value)}(a:c.length=n)(b:o+n<=l.length):fillS ps l (.agg ⟨c⟩) r (some (o,n))=oH ps (bZ l o c) r:=by simp only [fillS,ae,a,Xe,Xd b,Bool.and_self,cond_true]
theorem setL_nil:bZ l o []=l:=rfl
theorem setL_cons{vs:List Value}:bZ l o (v::vs)=bZ (l.set o v) (o+1) vs:=rfl
theorem bK(a:Fl v):rU h (fun h=>boxR h t v) ptrTo (.row [v] 1):=by have:=aV (h:=h) (t:=t) a.2.2;rw [a.1]at this;exact this
theorem aE(S:St M h0 h L G){b off md:Nat}{s:Option Nat}(f:L[i]? =some (b,.row l md))(g:E.sz t=some 1)(c:Fl v)
 (k:off<l.length) (d:md≠0): ∃h',jZ E h t (.pointer (some ⟨b,off,s⟩)) v=some h'/\St M h0 h' (L.set i (b,.row (l.set off v) md)) G/\Mo (· =b) h h':=by
 have a:ae v=[v]:=c.1;have:=S.store (v:=v) (t:=t) (s:=s) (off:=off) (n:=1) f g c.2.2 (by rw [a];rfl) (by rw [a];simp [c.2.1]) (by omega) d;rw [a]at this;have e:lay l off [v]=l.set off v:=by refine Xc fun j=>?_;rw [lz (by simp;omega),List.getElem?_set];grind
 grind
end
def ifaceR(E:Env)(t:TypeId)(v:Value):Option Value:=match E.und t with
 |none=>none|some (.interface _)=>none|some _=>some (.iface t v)
theorem o_ifaceR:aop E ρ h (.makeInterface t x)=cU h (ifaceR E t (ρ x)):=rfl
theorem ifaceR_is(a:mM E t=true):ifaceR E t v=some (.iface t v):=mk_iface a
def nilcR:Value->Option Value
 | .pointer (some a)=>some (.pointer (some a))| .func (.func f) a b=>some (.func (.func f) a b)|_=>none
theorem o_nilcR:aop E ρ h (.nilCheck x)=cU h (nilcR (ρ x)):=rfl
theorem nilcR_ptr{a:Addr}:nilcR (.pointer (some a))=some (.pointer (some a)):=rfl
def pickR(c a b:Value):Option Value:=match c with
 | .bool t=>some (bif t then a else b)
 |_=>none
theorem o_pickR{c a b:Operand}:aop E ρ h (.pick c a b)=cU h (pickR (ρ c) (ρ a) (ρ b)):=rfl
theorem pick_t{b:Value}:pickR (.bool true) a b=some a:=rfl
theorem pick_f{b:Value}:pickR (.bool false) a b=some b:=rfl
def extrR(i:Nat):Value->Option Value
 | .tuple a=>a.toList[i]?|_=>none
theorem o_extrR:aop E ρ h (.extract x i)=cU h (extrR i (ρ x)):=by rfl
theorem extr_0:extrR 0 (.tuple ⟨a::l⟩)=some a:=rfl
theorem extr_1{b:Value}:extrR 1 (.tuple ⟨a::b::l⟩)=some b:=rfl
theorem extr_2{b c:Value}:extrR 2 (.tuple ⟨a::b::c::l⟩)=some c:=rfl
noncomputable def delR(E:Env)(h:Hp)(t:TypeId)(m k:Value):Option (dT×Hp):=match oI E h t m k with
 |none=>none|some a=>some (.val (.tuple #[]),a)
theorem o_delR{m k:Operand}{ts:List TypeId}:aop E ρ h (.call ⟨.builtin .delete,#[m,k],⟨t::ts⟩⟩)=delR E h t (ρ m) (ρ k):=rfl
theorem aI{a b:Nat}:((a:Int)<(b:Int))=(a<b):=by simp
def BS:=zM (@run_seq)<|zM (@Eu)<|zM (@r_ops)<|zM (@g_true)<|zM (@g_false)<|zM (@C8)<|zM (@run_ret)<|zM (@run_nil)<|zM (@run_skip)<|zM (@run_block)<|zM (@run_scope)<|zM (@run_blk)<|zM (@run_exit)<|zM (@CE)<|zM (@AE)<|zM (@Bj)<|zM (@Er)<|zM (@El)<|zM (@r_cond)<|zM (@c_true)<|zM (@c_false)<|zM (@r_opsD)<|zM (@dn_loud)<|zM (@dn_quiet)<|zM (@dn_val)<|zM (@dn_skip)<|zM (@d_skip)<|zM (@kT)<|zM (@aS)<|zM (@aU)<|zM (@BU)<|zM (@guard_no)<|zM (@DP)<|zM (@gj_some)<|zM (@gv_true)<|zM (@gv_false)<|zM (@gv_tuple)<|zM (@o_move)<|zM (@o_assign)<|zM (@o_pickR)<|zM (@pick_t)<|zM (@pick_f)<|zM (@o_load)<|zM (@o_store)<|zM (@o_binOp)<|zM (@o_unOp)<|zM (@o_nilcR)<|zM (@nilcR_ptr)<|zM (@o_ifaceR)<|zM (@D1)<|zM (@o_slice)<|zM (@Di)<|zM (@o_field)<|zM (@Da)<|zM (@o_index)<|zM (@o_extrR)<|zM (@extr_0)<|zM (@extr_1)<|zM (@extr_2)<|zM (@o_build)<|zM (@BJ)<|zM (@Dm)<|zM (@EE)<|zM (@BT)<|zM (@o_convert)<|zM (@o_lookup)<|zM (@Dn)<|zM (@EP)<|zM (@AV)<|zM (@o_allocR)<|zM (@o_boxR)<|zM (@o_callv)<|zM (@o_max)<|zM (@o_min)<|zM (@o_append)<|zM (@o_copy)<|zM (@o_lenR)<|zM (@o_delR)<|zM (@o_recover)<|zM (@o_deferR)<|zM (@o_panicR)<|zM (@D9)<|zM (@EA)<|zM (@DX)<|zM (@Eb)<|zM (@AB)<|zM (@zi)<|zM (@yB)<|zM (@yh)<|zM (@xW)<|zM (@step_defer)<|zM (@target_fn)<|zM (@B9)<|zM (@b_add)<|zM (@b_sub)<|zM (@b_mul)<|zM (@b_eql)<|zM (@b_neq)<|zM (@b_lss)<|zM (@b_leq)<|zM (@b_gtr)<|zM (@b_geq)<|zM (@b_eqlB)<|zM (@b_neqB)<|zM (@same_bool)<|zM (@u_not)<|zM (@mm_max)<|zM (@mm_min)<|zM (@ah)<|zM (@one1_some)<|zM (@agg1_some)<|zM (@ce)<|zM (@ll_put0)<|zM (@bI)<|zM (@ll_func)<|zM (@c_int)<|zM (@c_bool)<|zM (@c_string)<|zM (@c_nilp)<|zM (@c_nils)<|zM (@c_nilm)<|zM (@c_nilf)<|zM (@c_nili)<|zM (@ll_regs)<|zM (@oD)<|zM (@aF)<|zM (@cK)<|zM (@dD)<|zM (@zR)<|zM (@BX)<|zM (@dK)<|zM (@bQ)<|zM (@hush_s)<|zM (@idxP_in)<|zM (@gL)<|zM (@idx_q)<|zM (@Ez)<|zM (@EK)<|zM (@tZ)<|zM (@idxa_ptr)<|zM (@putI_some)<|zM (@len_q)<|zM (@Em)<|zM (@lenq_str)<|zM (@lenq_arr)<|zM (@Dk)<|zM (@load_q)<|zM (@loadq_f)<|zM (@loadq_t)<|zM (@n_iface)<|zM (@n_nil)<|zM (@e_iface)<|zM (@e_nil)<|zM (@n_ptr)<|zM (@e_ptr)<|zM (@n_pnil)<|zM (@e_pnil)<|zM (@e_slice)<|zM (@e_snil)<|zM (@assert_is)<|zM (@ifaceR_is)<|zM (@build_q)<|zM (@CX)<|zM (@aggO_some)<|zM (@fill_nil)<|zM (@fill_q)<|zM (@fills_one)<|zM (@fills_agg)<|zM (@setL_nil)<|zM (@setL_cons)<|zM (@aJ)<|zM (@qU)<|zM (@fl_str)<|zM (@bF)<|zM (@bg)<|zM (@fl_map)<|zM (@fD)<|zM (@fl_nilf)<|zM (@fl_nili)<|(@fl_iface)
structure ItS(h0:Hp)(D:Nat->Prop)(h:Hp)(F:List Nat):Prop where
 ok:OZ h
 n:h0.n<=h.n
 data: ∀b,b<h0.n->D b->h.get b=h0.get b
 apart: ∀b∈F,¬(b<h0.n/\D b)
 lt: ∀b∈F,b<h.n
section
variable{h0 h h':Hp}{D:Nat->Prop}{F F':List Nat}
theorem ItS.gr(s:ItS h0 D h F)(g:Gr h h'):ItS h0 D h' F:=
 ⟨g.ok,Xa s.n g.n,fun b a c=>(g.get b (Xb a s.n)).trans (s.data b a c),s.apart,fun b a=>Xb (s.lt b a) g.n⟩
theorem ItS.mo(s:ItS h0 D h F)(m:Mo (· ∈F) h h')(hf: ∀b∈F',b∈F\/h.n<=b)(d: ∀b∈F',b<h'.n):ItS h0 D h' F':=
 ⟨m.ok,Xa s.n m.n,fun b a c=>(m.get b (Xb a s.n) (fun hf=>s.apart b hf ⟨a,c⟩)).trans (s.data b a c),
  fun b a c=>(hf b a).elim (fun a=>s.apart b a c) (fun a=>by have:=s.n;omega),d⟩
theorem ItS.load(s:ItS h0 D h F){b o n:Nat}{l:List Value}(a:OZ h0)(e:h0.load b o n=some l)(c:D b):h.load b o n=some l:=by have:=s.data b (bD a e) c;grind[Hp.load]
theorem ItS.sl{d:Type}{enc:d->List Value}{xs:List d}(s:ItS h0 D h F)(a:OZ h0)(e:aD h0 k enc v xs)(g: ∀b,au v b->D b):aD h k enc v xs:=by
 rcases e with e|⟨b,o,i,c,f,j,l⟩
 . exact .inl e
 . exact .inr ⟨b,o,i,c,f,j,s.load a l (g b (by rw [f];rfl))⟩
end
structure Yld(E:Env)(lb:Nat)(J:Nat->Hp->List Nat->Prop)(Z:Out->Hp->Prop)(xs:List (List Value)):Prop where
 lt: ∀i h F,J i h F->OZ h/\ ∀b∈F,b<h.n
 gr: ∀i h F h',J i h F->Gr h h'->J i h' F
 zgr: ∀h h',Z (.ret (.bool false)) h->Gr h h'->Z (.ret (.bool false)) h'
 round: ∀i x h F,xs[i]? =some x->J i h F->m8 E lb x h fun o h'=>(o=.ret (.bool true)/\ ∃F',J (i+1) h' F'/\Mo (· ∈F) h h'/\ ∀b∈F',b∈F\/h.n<=b)\/(o=.ret (.bool false)/\Z o h'/\OZ h')\/((∃v,o=.pan v)/\Z o h')
def YQ(J:Nat->Hp->List Nat->Prop)(Z:Out->Hp->Prop)(n:Nat)(o:Out)(a:Option (Value×Bool))(h':Hp):Prop:=
 a=none/\((∃u b,o=.ret u/\J n h' b)\/(∃u,o=.ret u/\Z (.ret (.bool false)) h')\/(∃v,o=.pan v/\Z o h'))
theorem vU{g:FuncId}{a post:List Value}{xs:List (List Value)}
 (H: ∀b J Z,Yld E b J Z xs-> ∀h F,ItS h0 D h F->J 0 h F->eS E g (a++[.func (.yield b) #[] #[]]++post) none h (YQ J Z xs.length)):Iter E g a post h0 D xs:=by
 intro b J Z h F e f i hlt c j k l d;exact H b J Z ⟨hlt,c,j,l⟩ h F ⟨e,f,i,k,(hlt 0 h F d).2⟩ d
theorem Bf{g:FuncId}{a post:List Value}{xs:List (List Value)}(H:Iter E g a post h0 D xs){J:Nat->Hp->List Nat->Prop}{Z:Out->Hp->Prop}(Y:Yld E c J Z xs)
  {F:List Nat} (d:Mo (fun b=> ¬D b) h0 h) (f: ∀b∈F,b<h0.n-> ¬D b) (i:J 0 h F):eS E g (a++[.func (.yield c) #[] #[]]++post) none h (YQ J Z xs.length):=
 H c J Z h F d.ok d.n (fun b e j=>d.get b e (fun k=>k j)) Y.lt Y.gr Y.zgr (fun b e h=>f b e h.1 h.2) Y.round i
theorem c7{o:Oper}{l:Loc}{K:Ex->Loc->Hp->Prop}{d:Nat}{J:Nat->Hp->List Nat->Prop}{Z:Out->Hp->Prop}{xs:List (List Value)}{x:List Value}{F:List Nat}
 (Y:Yld E d J Z xs) (s:ItS h0 D h F) (e:J i h F) (f:xs[i]? =some x)
 (g: ∀h' F',J (i+1) h' F'->ItS h0 D h' F'->Mo (· ∈F) h h'->(∀b∈F',b∈F\/h.n<=b)->K .normal (l.put o.dst (.bool true)) h')
 (k2: ∀h',Z (.ret (.bool false)) h'->OZ h'->K .normal (l.put o.dst (.bool false)) h') (j: ∀v h',Z (.pan v) h'->K (.pan v) l h'):hZ E cx o l K (some (.yield d x,h)):=by
 refine yv (Y.round i x h F f e) ?_;rintro q h' (⟨rfl,F',a,b,c⟩|⟨rfl,a,b⟩|⟨⟨v,rfl⟩,a⟩)
 . exact g h' F' a (s.mo b c (Y.lt _ _ _ a).2) b c
 . exact k2 h' a b
 grind
section
variable{M:Nat->Prop}{h0 h h':Hp}{L L':List (Nat×Ob)}{G G':List GL}
theorem St.base(S:St M h0 h L G):St (· ∈keys L G) h h L G:=
 ⟨Mo.refl S.ok,fun p a=>⟨.inr (iV a),(S.own p a).2⟩,fun p a=>⟨(S.gown p a).1,fun b c=>.inr (fJ a c)⟩,S.apart⟩
theorem St.key_own(S:St M h0 h L G){b:Nat}(a:b∈keys L G):h0.n<=b\/M b:=by
 unfold keys at a;rcases List.mem_append.1 a with a|a
 . obtain⟨p,c,rfl⟩:=List.mem_map.1 a;exact(S.own p c).1
 . obtain⟨p,c,d⟩:=List.mem_filterMap.1 a;exact(S.gown p c).2 b d
theorem St.rebase(S:St M h0 h L G)(T:St (· ∈keys L G) h h' L' G'):St M h0 h' L' G':=by have d: ∀b,h.n<=b\/b∈keys L G->h0.n<=b\/M b:=fun b a=>a.elim (fun a=>.inl (Xa S.fr.n a)) S.key_own;exact⟨S.fr.trans T.fr fun b a=>(S.key_own a).symm,fun p c=>⟨d _ (T.own p c).1,(T.own p c).2⟩,fun p c=>⟨(T.gown p c).1,fun b a=>d b ((T.gown p c).2 b a)⟩,T.apart⟩
theorem St.key_new(T:St (· ∈keys L G) h h' L' G'): ∀b∈keys L' G',b∈keys L G\/h.n<=b:=fun _ a=>(T.key_own a).symm
theorem St.sub(S:St M h0 h L G)(b:L'.Sublist L)(c:G'.Sublist G):St M h0 h L' G':=
 ⟨S.fr,fun p a=>S.own p (b.subset a),fun p a=>S.gown p (c.subset a),S.apart.sublist ((b.map _).append (c.filterMap _))⟩
theorem St.drop1{x:Nat×Ob}(S:St M h0 h (x::L) G):St M h0 h L G:=S.sub (List.sublist_cons_self _ _) (List.Sublist.refl _)
end
theorem cH{f:FuncId}{args:List Value}{d:Option (Value×Bool)}{P Q:Out->Option (Value×Bool)->Hp->Prop}(e:eS E f args d h P)(g: ∀o c h',P o c h'->Q o c h'):eS E f args d h Q:=by obtain⟨o,c,h',a,b⟩:=e;exact⟨o,c,h',a,g _ _ _ b⟩
theorem tU{f:FuncId}{args:List Value}{P Q:Value->Hp->Prop}(a:Ret E f args h P)(b: ∀v h',P v h'->Q v h'):Ret E f args h Q:=Ret.mono b a
theorem i6{Q:gJ}{k:List Fr}{l:Loc}{a:Nat}{J:Nat->Hp->List Nat->Prop}{o:Out}{c:Option (Value×Bool)}(y:YQ J (fun _ _=>False) n o c h)
 (d: ∀F,J n h F-> ∃x,h.get a=some (.loop x)/\x.st≠1/\RangeGo E cx Q k l (h.put a .dead) x.pending):RangeQ E cx Q k l a o c h:=by
 obtain⟨_,⟨u,F,rfl,e⟩|⟨u,_,b⟩|⟨v,_,b⟩⟩:=y
 . exact d F e
 . exact b.elim
 . exact b.elim
theorem St.dead{M:Nat->Prop}{h0 h:Hp}{L:List (Nat×Ob)}{G:List GL}{b:Nat}{o:Ob}(S:St M h0 h ((b,o)::L) G):St M h0 (h.put b .dead) L G:=by
 have d:=S.own _ m0;refine⟨S.fr.put d.1 _,fun p a=>⟨(S.own p (.tail _ a)).1,(S.own p (.tail _ a)).2.of_get (dG fun e=>?_)⟩,fun p a=>⟨(S.gown p a).1.of_get fun c f=>dG fun e=>?_,(S.gown p a).2⟩,(List.nodup_cons.1 S.apart).2⟩
 . exact(List.nodup_cons.1 S.apart).1 (by show b∈keys L G;rw [e];exact iV a)
 . exact(List.nodup_cons.1 S.apart).1 (by show b∈keys L G;rw [e];exact fJ a f)
theorem St.get{M:Nat->Prop}{h0 h:Hp}{L:List (Nat×Ob)}{G:List GL}{b:Nat}{x:fZ}(S:St M h0 h L G)(a:(b,Ob.loop x)∈L):h.get b=some (.loop x):=(S.own _ a).2
theorem St.getD{b:Nat}(S:St M h0 h L G)(a:(b,Ob.dfr)∈L):h.get b=some .dfr:=(S.own _ a).2
theorem rM{Q:gJ}{k:List Fr}{e:Option (Value×Bool)}{b:Code}{g:Type}(I:g->(Nat->Value)->List Deferred->Hp->Prop)(m:g->Nat)
 (p: ∀a,(∀i c l h',m i<m a->I i c l h'->Run E (lim E) cx Q (.code (.loop b)::k) .normal (LL n c l e) h')-> ∀ρ d h,I a ρ d h->Run E (lim E) cx Q (.code b:: .code (.loop b)::k) .normal (LL n ρ d e) h):
 ∀a ρ d h,I a ρ d h->Run E (lim E) cx Q (.code (.loop b)::k) .normal (LL n ρ d e) h:=by
 have f: ∀j a,m a<j-> ∀ρ d h,I a ρ d h->Run E (lim E) cx Q (.code (.loop b)::k) .normal (LL n ρ d e) h:=by
  intro j
  induction j with
  |zero=>omega| succ j q=>grind[cq]
 intro a ρ d h o;exact f (m a+1) a (by omega) ρ d h o
def dJ(a:List Nat):List (Nat×Ob):=a.map fun b=>(b,Ob.dfr)
theorem gG{E:Env}{M:Nat->Prop}{h0:Hp}{L:List (Nat×Ob)}{G:List GL}{m:Option Value}{P:Option Value->Hp->Prop}: ∀(a:List Nat) (h:Hp),St M h0 h (dJ a++L) G->(∀h',St M h0 h' L G->P m h')->UnQ E (a.map rX) m h P
 | [],h,S,c=>bV (c h S)|b::a,h,S,c=>un_dfr (S.getD m0) (gG a _ (S.dead) c)
theorem vh{ρ:Nat->Value}{t:Tmp}{ty:TypeId}(a:t<n)(b:gw E h ty (ρ t)=some v):bU E (tab n ρ) h [.cell t ty]=some [v]:=by simp only [bU,oD,if_pos a,b]
theorem iY{b:Nat}{s:Option Nat}(a:E.agg t=some false)(c:h.load b o 1=some [v]):gw E h t (.pointer (some ⟨b,o,s⟩))=some v:=by rw [load_q,a,loadq_f,c];rfl
theorem bz{b:Nat}{s:Option Nat}(a:E.agg t=some true)(c:E.sz t=some n)(d:h.load b o n=some l):gw E h t (.pointer (some ⟨b,o,s⟩))=some (.agg ⟨l⟩):=by rw [load_q,a,c,loadq_t,d];rfl
theorem St.call1(S:St M h0 h L G){b:Nat}{o o':Ob}(k:L[i]? =some (b,o))(f:Mo (· =b) h h')(q:Has h' b o'):St M h0 h' (L.set i (b,o')) G:=by
 have r:=S.own _ (zO k);have g:(keys L G)[i]? =some b:=oz k;refine⟨S.fr.trans f (fun c l=>by grind),fun p a=>?_,fun p a=>⟨(S.gown p a).1.of_get fun c l=>?_,(S.gown p a).2⟩,?_⟩
 . rcases oa a with rfl|⟨j,m,a⟩
   . grind
   . have d:=S.own p (zO a);refine⟨d.1,d.2.of_get (f.get _ (d.2.lt S.ok) fun e=>m ?_)⟩;have n:(keys L G)[j]? =some b:=(by rw [oz a];rw [e]);exact qg S.apart n g
 . refine f.get c ((S.gown p a).1.lt S.ok l) fun e=>?_;subst e;have d:=S.apart;unfold keys at d;rw [List.nodup_append]at d;exact d.2.2 c (List.mem_map.2 ⟨_,zO k,rfl⟩) c (List.mem_filterMap.2 ⟨p,a,l⟩) rfl
 . have:keys (L.set i (b,o')) G=keys L G:=(by unfold keys;congr 1;rw [List.map_set];refine Xc fun j=>?_;grind);rw [this];exact S.apart
theorem St.init1(a:OZ h){b:Nat}{o:Ob}(c:Has h b o):St (· =b) h h [(b,o)] []:=(St.init a).push (.inr rfl) c (by simp [keys])
theorem wrap8(z:Int):0<=aq .u8 z/\aq .u8 z<256:=by
 unfold aq;cases z with
 | ofNat m=>
   simp only [hf,sgn,pw];cases a:Nat.blt m 256 with
   | true=>rw [Nat.blt_eq]at a;grind| false=>grind
 | negSucc m=>simp only [hf,sgn,pw,cond_false];grind
theorem aO{a:List (Nat×Tch)}{l:List (Nat×Nat)}:dQ a ((i,j)::l)=(jx (cR i a) (cR j a)&&dQ a l):=rfl
theorem av{a:Nat}(e:leaves h h' a=true):jx (some (.blk a)) (some (.run h h'))=true:=e
theorem aw{a:Nat}(e:leaves h h' a=true):jx (some (.run h h')) (some (.blk a))=true:=e
theorem di{a b:Nat}(e:a≠b):jx (some (.blk a)) (some (.blk b))=true:=by grind[jx,Xf,absurd,Nat.eq_of_beq_eq_true]
theorem aX{b:Tch}{l:List (Nat×Tch)}:cR i ((i,b)::l)=some b:=by simp [cR,Xe]
theorem aN{b:Tch}{l:List (Nat×Tch)}(h:i≠k):cR i ((k,b)::l)=cR i l:=by grind[Xf,dk,cR]
theorem St.leaves{M:Nat->Prop}{h0 h h':Hp}{L:List (Nat×Ob)}{G:List GL}(S:St M h0 h L G){b c:Nat}{o:Ob}(a:(c,o)∈L)(f:Mo (· =b) h h')(d:c≠b):leaves h h' c=true:=
 ss (f.get c ((S.own _ a).2.lt S.ok) d)
theorem aK{x:Option Tch}{a:List (Nat×Tch)}(h:i≠k):cR i (jm k a x)=cR i a:=by
 cases x with
 |none=>rfl|some b=>exact aN h
theorem bj{b:Bool}{a:Operand}:df ρ b (.load t a) h h'=(match ρ a with| .pointer (some a)=>some (.blk a.block)|_=>none):=by simp only [df,dZ,lq,gD,touch,cond_false];grind
theorem bG{f:Operand}{as:Array Operand}{ts:Array TypeId}:df ρ false (.call ⟨.value f,as,ts⟩) h h'=some (.run h h'):=rfl
theorem aW{b:Bool}:df ρ b (.alloc t) h h'=some (.blk h.n):=rfl
theorem St.gset     (S:St M h0 h L G)     {vs:List Value} {kd:IntKind} (r:G[j]? =some (v,1,vs)) (P:i<vs.length) (D:E.sz t=some 1):
 ∃b,py (some 1) v (.int kd i)=some (.pointer (some ⟨b,i,none⟩))/\ ∀x,Fl x-> ∃h',jZ E h t (.pointer (some ⟨b,i,none⟩)) x=some h'/\St M h0 h' L (G.set j (v,1,vs.set i x)):=by
 obtain⟨F,k⟩:=S.gown _ (zO r);rcases F with⟨_,s⟩|⟨b,n,A,s,B⟩
 . grind
 . simp only []at A s B;subst A;have Q:n=vs.length:=(by omega);refine⟨b,?_,fun x u=>?_⟩
   . grind[tZ,gL,putI]
   . obtain ⟨y,H,l⟩:=B.store S.ok Nat.one_ne_zero (o:=i) (vs:=[x]) (by simp;omega) (by simp [u.2.1]);have e:lay vs i [x]=vs.set i x:=(by refine Xc fun j=>?_;rw [lz (by simp;omega),List.getElem?_set];grind);rw [e]at l;refine⟨h.put b y,?_,?_⟩
     . have:jZ E h t (.pointer (some ⟨b,i,none⟩)) x=h.store b i [x]:=(by simp only [jZ,D];have I:ae x=[x]:=u.1;have J:(bif Xf (ae x).length 1 then h.store b i (ae x)else none)=h.store b i [x]:=(by rw [I];rfl);revert J;cases x<;>first|exact fun h=>h|exact absurd rfl (u.2.2 _));grind
     . have m:eJ (Value.slice (some ⟨b,0,some 1⟩) n n,1,vs)=some b:=rfl;have C:=k b m;have hlt:=(List.getElem?_eq_some_iff.1 r).1;have K: ∀c∈L.map Prod.fst,c≠b:=fun c w e=>(by have H:=S.apart;grind[keys,List.nodup_append,zO]);have f:keys L (G.set j (Value.slice (some ⟨b,0,some 1⟩) n n,1,vs.set i x))=keys L G:=by
        unfold keys;congr 1;have: ∀(G:List GL) (j:Nat) (p q:GL),G[j]? =some p->eJ q=eJ p->(G.set j q).filterMap eJ=G.filterMap eJ:=by
         intro G
         induction G with
         |nil=>grind| cons g G N=>
           intro j p q r R;cases j with
           |zero=>grind|succ j=>grind
        exact this G j _ _ r rfl
       refine⟨S.fr.put C y,fun p d=>⟨(S.own p d).1,(S.own p d).2.of_get (dG fun e=>K _ (List.mem_map_of_mem d) e.symm)⟩,fun p d=>?_,by rw [f];exact S.apart⟩;rcases oa d with rfl|⟨T,z,d⟩
       . exact⟨.inr ⟨b,n,rfl,by simpa using s,l⟩,fun c w=>by cases w;exact C⟩
       . refine⟨(S.gown p (zO d)).1.of_get fun c w=>dG fun e=>z ?_,(S.gown p (zO d)).2⟩;subst e;have l:=S.apart;unfold keys at l;have U:=(List.nodup_append.1 l).2.1;have O: ∀(G:List GL) (a c:Nat) (p q:GL),(G.filterMap eJ).Nodup->G[a]? =some p->G[c]? =some q-> ∀x,eJ p=some x->eJ q=some x->a=c:=by
          intro G
          induction G with
          |nil=>grind| cons g G N=>grind
         grind
def JP(n:Nat)(d:List Deferred)(b:Option (Value×Bool))(J:(Nat->Value)->Hp->Prop):gJ:=fun e l h=>e=.normal/\ ∃a,l=LL n a d b/\J a h
theorem Bn{Q:gJ}{k:List Fr}{d:List Deferred}{a:Option (Value×Bool)}{J:(Nat->Value)->Hp->Prop}{c:Code}{l:Loc}
 (b:Run E (lim E) cx (JP n d a J) [.code c] .normal l h) (e: ∀ρ h,J ρ h->Run E (lim E) cx Q k .normal (LL n ρ d a) h):Run E (lim E) cx Q (.code c::k) .normal l h:=by
 obtain⟨m,o,f,g,i⟩:=b;obtain⟨rfl,ρ,rfl,j⟩:=i;exact⟨_,_,_,g,e ρ f j⟩
theorem tR{Q:gJ}{k:List Fr}{d:List Deferred}{e:Option (Value×Bool)}(J:(Nat->Value)->Hp->Prop){a b:Code}{c:Nat->Value}{t:Bool}
 (g:t=true->Run E (lim E) cx (JP n d e J) [.code a] .normal (LL n c d e) h) (i:t=false->Run E (lim E) cx (JP n d e J) [.code b] .normal (LL n c d e) h)
 (f: ∀ρ h,J ρ h->Run E (lim E) cx Q k .normal (LL n ρ d e) h):CStep E cx Q a b k (LL n c d e) h (.bool t):=by
 cases t with
 |true=>exact Bn (g rfl) f|false=>exact Bn (i rfl) f
theorem iH{d:List Deferred}{a:Option (Value×Bool)}{J:(Nat->Value)->Hp->Prop}{ρ:Nat->Value}(b:J ρ h):JP n d a J .normal (LL n ρ d a) h:=⟨rfl,ρ,rfl,b⟩
theorem u9{E:Env}{R:Rec}{cx:Cx}{Q:gJ}{k2:List Fr}: ∀(m:List Fr) (e:Ex) (l:Loc) (h:Hp),Run E R cx (fun e l h=>Run E R cx Q k2 e l h) m e l h->Run E R cx Q (m++k2) e l h
 | [],e,l,h,d=>d| f ::m,e,l,h,d=>by
   have g:=u9 (E:=E) (R:=R) (cx:=cx) (Q:=Q) (k2:=k2) m;cases f with
   | code c=>
     cases e with
     |normal=>obtain⟨n,j,k,a,b⟩:=d;exact⟨n,j,k,a,g _ _ _ b⟩
     |exit i=>exact g _ _ _ d|ret=>exact g _ _ _ d|pan v=>exact g _ _ _ d
   | blk id=>
     cases e with
     |normal=>exact g _ _ _ d| exit i=>simp only [Run,List.cons_append]at d⊢;grind|ret=>exact g _ _ _ d|pan v=>exact g _ _ _ d
   | ops a p=>
     cases e with
     |normal=>obtain⟨n,j,k,a,b⟩:=d;exact⟨n,j,k,a,g _ _ _ b⟩
     |exit i=>exact g _ _ _ d|ret=>exact g _ _ _ d|pan v=>exact g _ _ _ d
   | kill t=>
     cases e with
     |normal=>obtain⟨b,r,c,x,y,z⟩:=d;exact⟨b,r,c,x,y,g _ _ _ z⟩
     |exit i=>exact g _ _ _ d|ret=>exact g _ _ _ d|pan v=>exact g _ _ _ d
   | opsD a q s p i u=>
     cases e with
     |normal=>obtain⟨j,k,o,a,b,c⟩:=d;exact⟨j,k,o,a,b,g _ _ _ c⟩
     |exit i=>exact g _ _ _ d|ret=>exact g _ _ _ d|pan v=>exact g _ _ _ d
theorem run_post{R:Rec}{Q n:gJ}(hq: ∀e l h,Q e l h->n e l h): ∀(k:List Fr) (e:Ex) (l:Loc) (h:Hp),Run E R cx Q k e l h->Run E R cx n k e l h
 | k, e, l,h,d=>by
   have:=u9 (E:=E) (R:=R) (cx:=cx) (Q:=n) (k2:=[]) k e l h;rw [List.append_nil]at this;refine this ?_;revert d
   induction k generalizing e l h with
   |nil=>intro d;exact hq _ _ _ d| cons f k g=>
     intro d;have g:=fun e l h d=>g e l h (by have:=u9 (E:=E) (R:=R) (cx:=cx) (Q:=n) (k2:=[]) k e l h;grind) d;cases f with
     | code c=>
       cases e with
       |normal=>obtain⟨o,j,m,a,b⟩:=d;exact⟨o,j,m,a,g _ _ _ b⟩
       |exit i=>exact g _ _ _ d|ret=>exact g _ _ _ d|pan v=>exact g _ _ _ d
     | blk id=>
       cases e with
       |normal=>exact g _ _ _ d| exit i=>
         simp only [Run]at d⊢;by_cases r:i=id
         . rw [if_pos r]at d⊢;exact g _ _ _ d
         . rw [if_neg r]at d⊢;exact g _ _ _ d
       |ret=>exact g _ _ _ d|pan v=>exact g _ _ _ d
     | ops a s=>
       cases e with
       |normal=>obtain⟨o,j,m,a,b⟩:=d;exact⟨o,j,m,a,g _ _ _ b⟩
       |exit i=>exact g _ _ _ d|ret=>exact g _ _ _ d|pan v=>exact g _ _ _ d
     | kill t=>
       cases e with
       |normal=>obtain⟨b,u,c,x,y,z⟩:=d;exact⟨b,u,c,x,y,g _ _ _ z⟩
       |exit i=>exact g _ _ _ d|ret=>exact g _ _ _ d|pan v=>exact g _ _ _ d
     | opsD a q w s i A=>
       cases e with
       |normal=>obtain⟨j,m,p,a,b,c⟩:=d;exact⟨j,m,p,a,b,g _ _ _ c⟩
       |exit i=>exact g _ _ _ d|ret=>exact g _ _ _ d|pan v=>exact g _ _ _ d
theorem wU{Q:gJ}{k:List Fr}{d:List Deferred}{c:Option (Value×Bool)}{b:Code}{id:Nat}{g:Type}(J:(Nat->Value)->Hp->Prop)(I:g->(Nat->Value)->Hp->Prop)(m:g->Nat)
 (o: ∀a,(∀j f h',m j<m a->I j f h'->Run E (lim E) cx (JP n d c J) [.code (.loop b),.blk id] .normal (LL n f d c) h')-> ∀ρ h,I a ρ h->Run E (lim E) cx (JP n d c J) [.code b,.code (.loop b),.blk id] .normal (LL n ρ d c) h)
 (p: ∀ρ h,J ρ h->Run E (lim E) cx Q k .normal (LL n ρ d c) h) (a:g) {ρ:Nat->Value}  (q:I a ρ h):Run E (lim E) cx Q (.code (.loop b):: .blk id::k) .normal (LL n ρ d c) h:=by
 have r:=bA I m o a ρ h q;refine u9 [.code (.loop b),.blk id] _ _ _ (run_post (fun e l h i=>?_) _ _ _ _ r);obtain⟨rfl,ρ,rfl,i⟩:=i;exact p ρ h i
theorem mK{ops:List Oper}{ord:List Nat}{os:List Oper}(a:((ops.any uL||um ops)&&ops.all (jV ops.length))=true)(b:ordL ops=ord)(c:iv ops ord ord=os):c8 ops=os:=by unfold c8;grind
theorem St.gblk(S:St M h0 h L G){p:GL}(d:p∈G)(a:au p.1 c):(h0.n<=c\/M c)/\c∉L.map Prod.fst:=by
 have f:eJ p=some c:=by
  rcases(S.gown p d).1 with⟨e,_⟩|⟨b,n,e,_⟩
  . rw [e]at a;exact a.elim
  . obtain⟨v,k,i⟩:=p;simp only []at e a;subst e;exact congrArg some a
 refine⟨(S.gown p d).2 c f,fun j=>?_⟩;have g:=S.apart;unfold keys at g;grind
structure Arc where
 s:Nat
 t:Nat
 w:Nat
deriving Inhabited
def cI(a:Arc):List Value:=[.int .i64 a.s,.int .i64 a.t,.int .i64 a.w]
theorem jj(a:Arc):(cI a).length=3:=rfl
structure Gra where
 nodes:Nat
 X:List Int
 Y:List Int
 arcs:List Arc
structure Good(g:Gra):Prop where
 n1:1<=g.nodes
 n2:g.nodes<=12
 lX:g.X.length=g.nodes
 lY:g.Y.length=g.nodes
 cX: ∀x∈g.X,-2147483648<=x/\x<=2147483647
 cY: ∀x∈g.Y,-2147483648<=x/\x<=2147483647
 many:g.arcs.length<=100
 arcs: ∀a∈g.arcs,a.s<g.nodes/\a.t<g.nodes/\a.w<=2147483647
structure kH(g:Gra):Prop where
 n1:1<=g.nodes
 n2:g.nodes<=300
 lX:g.X.length=g.nodes
 lY:g.Y.length=g.nodes
 cX: ∀x∈g.X,-2147483648<=x/\x<=2147483647
 cY: ∀x∈g.Y,-2147483648<=x/\x<=2147483647
 many:g.arcs.length<=400
 arcs: ∀a∈g.arcs,a.s<g.nodes/\a.t<g.nodes/\a.w<=2147483647
theorem Good.b{g:Gra}(h:Good g):kH g:=⟨h.n1,Xa h.n2 (by decide),h.lX,h.lY,h.cX,h.cY,Xa h.many (by decide),h.arcs⟩
structure dM(h:Hp)(vx vy va:Value)(g:Gra):Prop where
 X:aD h 1 (encI .i64) vx g.X
 Y:aD h 1 (encI .i64) vy g.Y
 A:aD h 3 cI va g.arcs
theorem dM.gr{h h':Hp}{b c d:Value}{g:Gra}(a:dM h b c d g)(r:Gr h h'):dM h' b c d g:=⟨a.X.gr r,a.Y.gr r,a.A.gr r⟩
def iX(g:Gra)(a b c:Value):Value:=.agg ⟨[.int .i64 g.nodes,a,b,c]⟩
structure Pl where
 i:Int
 f:Int
 c:Int
 n:Int
 lo:Int
 hi:Int
def lV(p:Pl):List Value:=[.int .i64 p.i,.int .i64 p.f,.int .i64 p.c,.int .i64 p.n,.int .i64 p.lo,.int .i64 p.hi]
theorem encP_len(p:Pl):(lV p).length=6:=rfl
end Go.Ab

/- A deterministic evaluator of the model's code, and that the model follows it (part 6). -/
import Derived.Test.YtdpmdpbhjgaocaaGreatDoorAbE
open And renaming intro->xt
open List renaming mem_of_getElem?->xu,length_append->xx,length_nil->xy,ext_getElem?->xz,length_cons->xC,getElem?_eq_none->xI,filterMap_cons->xJ,flatMap_cons->xM,getElem?_set->xN,nodup_append->xO,take_length->xP,filterMap_cons_some->xR,append_nil->xU,drop_zero->xW
open Nat renaming ble_eq_true_of_le->xw,le_of_ble_eq_true->xB,eq_of_mul_eq_mul_right->xD,succ_mul->xF,beq_refl->xG,ble->xH,lt_of_lt_of_le->xK,le_trans->xQ,le_mul_of_pos_right->xS,le_refl->xV,beq->xX,mul_le_mul_right->xY,add_mul->xZ
open Int renaming natCast_nonneg->xL
set_option maxHeartbeats 400000
set_option linter.defProp false
set_option linter.unusedVariables false
set_option linter.unusedSimpArgs false
namespace Go.Ab

theorem load_len{h:Hp}{b o n:Nat}{l:List Value}(e:h.load b o n=some l):l.length=n:=by
 unfold Hp.load at e
 split at e
 next t sz el md hg=>
  cases hb:xH (o+n) sz with
  |false=>rw [hb]at e;cases e
  |true=>rw [hb]at e;exact(Tr.slice_spec e).1
 next=>cases e
theorem jh{h:Hp}{b o n:Nat}{l:List Value}(e:h.load b o n=some l){i m:Nat}(hi:i+m<=n):h.load b (o+i) m=some ((l.drop i).take m):=by
 unfold Hp.load at e⊢
 split at e
 next t sz el md hg=>
  cases hb:xH (o+n) sz with
  |false=>rw [hb]at e;cases e
  | true=>
    rw [hb]at e
    have hle:=xB hb
    rw [xw (by omega:o+i+m<=sz)]
    simp only [cond_true]at e⊢
    obtain⟨h1,h2⟩:=Tr.slice_spec e
    obtain⟨l',h3⟩:=Tr.slice_mk (t:=t) (i:=o+i) (n:=m) (fun k hk=>by
     have:=h2 (i+k) (by omega)
     rw [show o+i+k=o+(i+k) by omega,this]
     rw [List.getElem?_eq_getElem (by omega)];rfl)
    rw [h3]
    obtain⟨h4,h5⟩:=Tr.slice_spec h3
    congr 1
    refine xz fun k=>?_
    rw [List.getElem?_take]
    split
    . rename_i hk
      rw [<-h5 k hk,List.getElem?_drop,<-h2 (i+k) (by omega)]
      congr 1
      omega
    . exact xI (by omega)
 next=>cases e
theorem load_join{h:Hp}{b o n:Nat}{f:Nat->Value}(h0: ∃l,h.load b o 0=some l)(e: ∀i,i<n->h.load b (o+i) 1=some [f i]):h.load b o n=some ((List.range n).map f):=by
 unfold Hp.load at h0 e⊢
 cases hg:h.get b with
 |none=>rw [hg]at h0;obtain⟨l,h0⟩:=h0;cases h0
 |some blk=>
 cases blk with
 |dead=>rw [hg]at h0;obtain⟨l,h0⟩:=h0;cases h0
 |map=>rw [hg]at h0;obtain⟨l,h0⟩:=h0;cases h0
 |loop=>rw [hg]at h0;obtain⟨l,h0⟩:=h0;cases h0
 |dfr=>rw [hg]at h0;obtain⟨l,h0⟩:=h0;cases h0
 | cells t sz el md=>
   rw [hg]at h0
   simp only [hg]at e
   simp only []at h0
   have hle:o+n<=sz:=by
    cases n with
    | zero=>
      obtain⟨l,h0⟩:=h0
      cases hb:xH (o+0) sz with
      |false=>rw [hb]at h0;cases h0
      |true=>exact xB hb
    | succ n=>
      have:=e n (by omega)
      cases hb:xH (o+n+1) sz with
      |false=>rw [hb]at this;cases this
      |true=>have:=xB hb;omega
   have hget: ∀i,i<n->t.get (o+i)=some (f i):=by
    intro i hi
    have:=e i hi
    rw [xw (by omega:o+i+1<=sz)]at this
    have:=(Tr.slice_spec this).2 0 (by omega)
    simpa using this
   simp only []
   rw [xw hle]
   simp only [cond_true]
   obtain⟨l,hl⟩:=Tr.slice_mk (t:=t) (i:=o) (n:=n) (fun k hk=>by rw [hget k hk];rfl)
   rw [hl]
   obtain⟨h4,h5⟩:=Tr.slice_spec hl
   congr 1
   refine xz fun k=>?_
   rw [List.getElem?_map]
   rcases Nat.lt_or_ge k n with hk|hk
   . rw [<-h5 k hk,hget k hk,List.getElem?_range hk];rfl
   . rw [xI (by omega),xI (by simpa using hk)];rfl

section
variable{α:Type}
theorem aU{k:Nat}{enc:α->List Value}(he: ∀x,(enc x).length=k)(xs:List α):(xs.flatMap enc).length=xs.length*k:=by
 induction xs with
 |nil=>simp
 |cons x xs ih=>rw [xM,xx,he,ih,xC,xF];omega
theorem wG{k:Nat}{enc:α->List Value}(he: ∀x,(enc x).length=k)(xs:List α){i:Nat}(hi:i<xs.length):((xs.flatMap enc).drop (i*k)).take k=enc xs[i]:=by
 induction xs generalizing i with
 |nil=>simp at hi
 | cons x xs ih=>
   cases i with
   |zero=>simp [xM,<-he x]
   | succ i=>
     rw [xM,xF,Nat.add_comm,<-List.drop_drop]
     rw [show List.drop k (enc x++List.flatMap enc xs)=List.flatMap enc xs by rw [<-he x];exact List.drop_left]
     simpa using ih (i:=i) (by simpa using hi)
def ay(h:Hp)(k:Nat)(enc:α->List Value)(v:Value)(xs:List α):Prop:=
 (v=.slice none 0 0/\xs=[])\/ ∃b o s c,v=.slice (some ⟨b,o,s⟩) xs.length c/\xs.length<=c/\h.load b o (xs.length*k)=some (xs.flatMap enc)
variable{h:Hp}{k:Nat}{enc:α->List Value}{v:Value}{xs:List α}
theorem ay.gr{h':Hp}(g:Gr h h')(s:ay h k enc v xs):ay h' k enc v xs:=by
 rcases s with s|⟨b,o,s,c,h1,h2,h3⟩
 . exact .inl s
 . exact .inr ⟨b,o,s,c,h1,h2,g.load h3⟩
def av:Value->Nat->Prop
 | .slice (some a) _ _,b=>a.block=b
 | .pointer (some a),b=>a.block=b
 |_,_=>False
theorem ay.mo{M:Nat->Prop}{h':Hp}(g:Mo M h h')(s:ay h k enc v xs)(hm: ∀b,av v b-> ¬M b):ay h' k enc v xs:=by
 rcases s with s|⟨b,o,s,c,h1,h2,h3⟩
 . exact .inl s
 . refine .inr ⟨b,o,s,c,h1,h2,?_⟩
   have:=g.get b (bK g.ok0 h3) (hm b (by rw [h1];rfl))
   unfold Hp.load at h3⊢
   rw [this];exact h3
theorem ay.lt(ok:h.t.Sized h.n)(s:ay h k enc v xs){b:Nat}(hb:av v b):b<h.n:=by
 rcases s with⟨rfl,_⟩|⟨b',o,s,c,rfl,h2,h3⟩
 . exact hb.elim
 . have:b'=b:=hb
   subst this
   exact bK ok h3
theorem ay.len{E:Env}{t e:TypeId}(s:ay h k enc v xs)(hu:E.und t=some (.slice e)):kN E t v=some (.int .i64 xs.length):=by
 rcases s with⟨rfl,rfl⟩|⟨b,o,s,c,rfl,h2,h3⟩<;>simp [kN,hu]
theorem ay.idx(s:ay h k enc v xs)(he: ∀x,(enc x).length=k){i:Nat}(hi:i<xs.length): ∃b o s' c,v=.slice (some ⟨b,o,s'⟩) xs.length c/\h.load b (o+i*k) k=some (enc xs[i]):=by
 rcases s with⟨rfl,rfl⟩|⟨b,o,s,c,rfl,h2,h3⟩
 . simp at hi
 . refine⟨b,o,s,c,rfl,?_⟩
   have:i*k+k<=xs.length*k:=by rw [<-xF];exact xY _ hi
   rw [jh h3 this,wG he xs hi]
theorem ay.at{E:Env}{t e:TypeId}{kd:IntKind}(s:ay h k enc v xs)(he: ∀x,(enc x).length=k)(hu:E.und t=some (.slice e))(hs:E.sz e=some k){i:Nat}(hi:i<xs.length):
 ∃b o,dA E t v (.int kd i)=some (.pointer (some ⟨b,o,none⟩))/\h.load b o k=some (enc xs[i]):=by
 obtain⟨b,o,s',c,rfl,hl⟩:=s.idx he hi
 refine⟨b,o+i*k,?_,hl⟩
 rw [ia_slice hu hs,iu hi]
 rfl
theorem ay.src(s:ay h k enc v xs):aJ h k v=some (xs.length,xs.flatMap enc):=by
 rcases s with⟨rfl,rfl⟩|⟨b,o,s,c,rfl,h2,h3⟩
 . rfl
 . cases c with
   | zero=>
     have:xs.length=0:=by omega
     have hx:xs=[]:=List.length_eq_zero_iff.1 this
     subst hx
     simp only [aJ,xy]at h3⊢
     rw [h3]
   | succ c=>
     simp only [aJ]
     rw [h3]
theorem eB.sl{vs:List Value}(g:eB h (v,k,vs))(hv:vs=xs.flatMap enc)(he: ∀x,(enc x).length=k)(hk:0<k):ay h k enc v xs:=by
 rcases g with⟨h1,h2⟩|⟨b,n,h1,h2,h3⟩
 . simp only []at h1 h2
   refine .inl ⟨h1,?_⟩
   rw [h2]at hv
   have:=aU he xs
   rw [<-hv]at this
   cases xs with
   |nil=>rfl
   | cons x xs=>
     simp only [xy,xC,xF]at this
     omega
 . simp only []at h1 h2 h3
   have hn:n=xs.length:=by
    rw [hv,aU he]at h2
    exact xD hk h2
   subst hn
   refine .inr ⟨b,0,some k,xs.length,h1,xV _,?_⟩
   rw [h3.load (by omega),h2,xW,xP,hv]
theorem eB.len{E:Env}{t e:TypeId}{vs:List Value}(g:eB h (v,k,vs))(hk:0<k)(hu:E.und t=some (.slice e)){n:Nat}(hn:n*k=vs.length):kN E t v=some (.int .i64 n):=by
 rcases g with⟨h1,h2⟩|⟨b,m,h1,h2,h3⟩
 . simp only []at h1 h2
   subst h1 h2
   have:n=0:=by
    cases n with
    |zero=>rfl
    |succ n=>simp only [xy,xF]at hn;omega
   subst this
   simp [kN,hu]
 . simp only []at h1 h2
   subst h1
   have:m=n:=xD hk (h2.trans hn.symm)
   subst this
   simp [kN,hu]
end
def encI(kd:IntKind)(x:Int):List Value:=[.int kd x]
def encB(x:Bool):List Value:=[.bool x]
theorem cZ(kd:IntKind)(x:Int):(encI kd x).length=1:=rfl
theorem encB_len(x:Bool):(encB x).length=1:=rfl

def agg1:Option (List Value)->Option Value
 |some l=>some (.agg ⟨l⟩)
 |none=>none
theorem agg1_some{l:List Value}:agg1 (some l)=some (.agg ⟨l⟩):=rfl
theorem loadV_agg{E:Env}{h:Hp}{t:TypeId}{b o n:Nat}{s:Option Nat}(ht:E.agg t=some true)(hs:E.sz t=some n):dK E h t (.pointer (some ⟨b,o,s⟩))=agg1 (h.load b o n):=by
 simp only [dK,ht,hs]
 cases h.load b o n<;>rfl

def isIface(E:Env)(t:TypeId):Bool:=match E.und t with
 |some (.interface _)=>true
 |_=>false
def fj(E:Env)(t:TypeId):Bool:=match E.und t with
 |some (.pointer _)=>true
 |_=>false
def aO(E:Env)(t:TypeId):Bool:=match E.und t with
 |some (.struct _)=>true
 |some (.int _)=>true
 |some (.pointer _)=>true
 |_=>false
section
variable{E:Env}{t:TypeId}{x y:Operand}
theorem lS(hu:isIface E t=true): ∃a,E.und t=some (.interface a):=by
 unfold isIface at hu;split at hu<;>first|exact⟨_, ‹_›⟩|cases hu
theorem oU(hu:fj E t=true): ∃a,E.und t=some (.pointer a):=by
 unfold fj at hu;split at hu<;>first|exact⟨_, ‹_›⟩|cases hu
theorem n_iface(hu:isIface E t=true){u:TypeId}{v:Value}:aY E .neq t x y (.iface u v) .nilIface=some (.bool true):=by
 obtain⟨a,ha⟩:=lS hu
 simp [aY,ee,d5,ha]
theorem n_nil(hu:isIface E t=true){v:Value}:aY E .neq t x (.const v) .nilIface .nilIface=some (.bool false):=by
 obtain⟨a,ha⟩:=lS hu
 cases x<;>simp [aY,ee,d5,ha]
theorem e_iface(hu:isIface E t=true){u:TypeId}{v:Value}:aY E .eql t x y (.iface u v) .nilIface=some (.bool false):=by
 obtain⟨a,ha⟩:=lS hu
 simp [aY,ee,d5,ha]
theorem e_nil(hu:isIface E t=true){v:Value}:aY E .eql t x (.const v) .nilIface .nilIface=some (.bool true):=by
 obtain⟨a,ha⟩:=lS hu
 cases x<;>simp [aY,ee,d5,ha]
theorem n_ptr(hu:fj E t=true){a:Addr}:aY E .neq t x y (.pointer (some a)) (.pointer none)=some (.bool true):=by
 obtain⟨e,ha⟩:=oU hu
 simp [aY,ee,d5,ha]
theorem e_ptr(hu:fj E t=true){a:Addr}:aY E .eql t x y (.pointer (some a)) (.pointer none)=some (.bool false):=by
 obtain⟨e,ha⟩:=oU hu
 simp [aY,ee,d5,ha]
theorem n_pnil(hu:fj E t=true):aY E .neq t x y (.pointer none) (.pointer none)=some (.bool false):=by
 obtain⟨e,ha⟩:=oU hu
 simp [aY,ee,d5,ha]
theorem e_pnil(hu:fj E t=true):aY E .eql t x y (.pointer none) (.pointer none)=some (.bool true):=by
 obtain⟨e,ha⟩:=oU hu
 simp [aY,ee,d5,ha]
theorem pg(hu:aO E t=true): ∃d,E.und t=some d/\ ∀a,d≠ .interface a:=by
 unfold aO at hu
 split at hu<;>first|exact⟨_, ‹_›,by intro a e;cases e⟩|cases hu
theorem assert_is(hu:aO E t=true){v:Value}:li E (.iface t v) t true=some (.tuple #[v,.bool true]):=by
 obtain⟨d,h1,h2⟩:=pg hu
 unfold li
 rw [h1]
 cases d<;>first|exact absurd rfl (h2 _)|simp [oY]
theorem mk_iface(hu:aO E t=true){v:Value}:(match E.und t with|none=>none|some (.interface _)=>none|some _=>some (Value.iface t v))=some (.iface t v):=by
 obtain⟨d,h1,h2⟩:=pg hu
 rw [h1]
 cases d<;>first|exact absurd rfl (h2 _)|rfl
end

theorem o_recover{E:Env}{ρ:Operand->Value}{h:Hp}{as:Array Operand}{ts:Array TypeId}:aop E ρ h (.call ⟨.builtin .recover,as,ts⟩)=some (.recov,h):=rfl
theorem o_deferR{E:Env}{ρ:Operand->Value}{h:Hp}{f:Operand}{as:Array Operand}{ts:Array TypeId}:aop E ρ h (.defer ⟨.value f,as,ts⟩)=match ρ f with
 | .func (.func g) a b=>some (.defer {target:=.fn (.func g) b,args:=⟨a.toList++as.toList.map ρ⟩},h)
 |_=>none:=rfl
def panR(h:Hp):Value->Option (cK×Hp)
 | .iface t v=>some (.panic (.iface t v),h)
 |_=>none
theorem o_panicR{E:Env}{ρ:Operand->Value}{h:Hp}{x:Operand}:aop E ρ h (.panic x)=panR h (ρ x):=by
 simp only [aop,panR];cases ρ x<;>rfl
theorem vU{h:Hp}{t:TypeId}{v:Value}:panR h (.iface t v)=some (.panic (.iface t v),h):=rfl
section
variable{E:Env}{cx:Cx}{o:Oper}{K:Ex->Loc->Hp->Prop}{h:Hp}{n:Nat}{ρ:Nat->Value}{d:List Deferred}
theorem re{v:Value}:dX E cx o (LL n ρ d (some (v,false))) K (some (.recov,h))↔cx.round=none/\K .normal ((LL n ρ d (some (v,true))).put o.dst v) h:=Iff.rfl
theorem q8:dX E cx o (LL n ρ d none) K (some (.recov,h))↔cx.round=none/\K .normal ((LL n ρ d none).put o.dst .nilIface) h:=Iff.rfl
theorem step_defer{rc:Option (Value×Bool)}{x:Deferred}:dX E cx o (LL n ρ d rc) K (some (.defer x,h))↔cx.round=none/\K .normal ((LL n ρ (x::d) rc).put o.dst (.tuple #[])) h:=Iff.rfl
theorem qx{l:Loc}{b:Nat}{args:List Value}{P:Out->Hp->Prop}(hr:jc E b args h P)(hk: ∀x h',P x h'->match x with
 | .ret v=>K .normal (l.put o.dst v) h'
 | .pan v=>K (.pan v) l h'):dX E cx o l K (some (.yield b args,h)):=by
 obtain⟨x,h',a,b⟩:=hr
 exact⟨x,h',a,hk x h' b⟩
end
theorem uv{b:Nat}{args:List Value}:target (.func (.yield b) #[] #[]) args=some (.yield b args):=rfl
def UnQ(E:Env)(ds:List Deferred)(m:Option Value)(h:Hp)(Q:Option Value->Hp->Prop):Prop:= ∃m' h',bw (lim E) ds m h=some (m',h')/\Q m' h'
section
variable{E:Env}{rs:List ResultVar}{Q:Out->Option (Value×Bool)->Hp->Prop}{n:Nat}{ρ:Nat->Value}{d:List Deferred}{rc:Option (Value×Bool)}{h:Hp}
theorem gy(hu:UnQ E d none h fun m h'=>m=none/\ ∃vs,aN E (tab n ρ) h' rs=some vs/\Q (.ret (ab vs)) rc h'):k8 E rs Q .ret (LL n ρ d rc) h:=by
 obtain⟨m,h',h1,rfl,h2⟩:=hu
 exact⟨h',h1,h2⟩
theorem dB(hu:UnQ E d none h fun m h'=>m=none/\ ∃vs,aN E (tab n ρ) h' rs=some vs/\Q (.ret (ab vs)) rc h'):k8 E rs Q .normal (LL n ρ d rc) h:=gy hu
theorem iw{v:Value}(hu:UnQ E d (some v) h fun m h'=>match m with
 |some v=>Q (.pan v) rc h'
 |none=> ∃vs,aN E (tab n ρ) h' rs=some vs/\Q (.ret (ab vs)) rc h'):k8 E rs Q (.pan v) (LL n ρ d rc) h:=by
 obtain⟨m,h',h1,h2⟩:=hu
 exact⟨m,h',h1,h2⟩
theorem dr{m:Option Value}{P:Option Value->Hp->Prop}(hp:P m h):UnQ E [] m h P:=⟨m,h,rfl,hp⟩
theorem un_dfr{b:Nat}{ds:List Deferred}{m:Option Value}{P:Option Value->Hp->Prop}(hb:h.get b=some .dfr)(hu:UnQ E ds m (h.put b .dead) P):UnQ E (mZ b::ds) m h P:=by
 obtain⟨m',h',h1,h2⟩:=hu
 refine⟨m',h',?_,h2⟩
 simp only [bw,mZ,hb]
 exact h1
theorem un_fn{f:FuncId}{cap args:Array Value}{ds:List Deferred}{P:Option Value->Hp->Prop}(hc:ey E f (args.toList++cap.toList) none h fun o rc h'=>(∃v,o=.ret v)/\rc=none/\UnQ E ds none h' P):UnQ E ({target:=.fn (.func f) cap,args}::ds) none h P:=by
 obtain⟨o,rc',h1,h2,⟨v,rfl⟩,rfl,m',h',h3,h4⟩:=hc
 refine⟨m',h',?_,h4⟩
 simp only [bw,h2]
 exact h3
theorem iS{vs:List Value}(hv:aN E (tab n ρ) h rs=some vs)(hq:Q (.ret (ab vs)) rc h):k8 E rs Q .ret (LL n ρ [] rc) h:=gy (dr ⟨rfl,vs,hv,hq⟩)
end
end Go.Ab

namespace Go.Ab
section
variable{M:Nat->Prop}{h0 h:Hp}{L:List (Nat×Ob)}{G:List GL}{E:Env}
theorem bH{t e:TypeId}{by_ k n:Nat}{zs cs:List Value}{parts:List (Nat×Value)}(hu:E.und t=some (.slice e))(he:dv E e by_ k zs)(hn:n*k<=16777216)
 (hf:fT (fun i=>some (i*k,k)) (aR zs n) parts=some cs):mb h (fun h=>co (ib E h t n parts)) (fun b=>.slice (some ⟨b,0,none⟩) n n) (.row cs 1):=by
 obtain⟨⟨i,hi,rfl,rfl⟩,hz,hl⟩:=he
 have hs:E.sz e=some i.size:=by unfold Env.sz;rw [hi]
 refine⟨.cells (Tr.ofList cs) cs.length e 1,fun x=>?_,fun ok=>lg ok _ _ _⟩
 simp only [ib,hu,hs,xw hn,hz,hl,xG,hf,cond_true]
 rfl
theorem St.clone(S:St M h0 h L G){t tx e:TypeId}{by_ k m n md:Nat}{zs new vs:List Value}{b:Nat}{x:Value}(hu:E.und t=some (.slice e))(he:dv E e by_ k zs)(hb:0<by_)
 (hx:ax E tx=some false) (hsrc:aJ h k x=some (m,new)) (hm:m*k=new.length) (hn:n*k=vs.length) (hk:0<k) (hsz:(vs.length+new.length)*(by_+1)<=70368744177664) {ts:List TypeId}
 (hl:Row h b vs md):
 ∃ h' v',cG E h (t::tx::ts) (.slice (some ⟨b,0,none⟩) n n) x=some (h',v')/\
   ((m=0/\h'=h/\v'=.slice (some ⟨b,0,none⟩) n n)\/ ∃b',v'=.slice (some ⟨b',0,some k⟩) (n+m) (n+m)/\St M h0 h' ((b',.row (vs++new) 1)::L) G):=by
 obtain⟨⟨i,hi,rfl,rfl⟩,hz,hl2⟩:=he
 have hst:cG E h (t::tx::ts) (.slice (some ⟨b,0,none⟩) n n) x=dR E h e i (some ⟨b,0,none⟩) n n m new:=by
  simp only [cG,hx,ie,hu,hi,hsrc]
 rw [hst]
 by_cases h1:m=0
 . subst h1
   have:new=[]:=by
    cases new with
    |nil=>rfl
    |cons a l=>simp at hm
   subst this
   refine⟨h,_,?_,.inl ⟨rfl,rfl,rfl⟩⟩
   unfold dR
   rw [xw (by omega:n+0<=n)]
   rfl
 . have hcap:xH (n+m) n=false:=by
    cases hx:xH (n+m) n with
    |false=>rfl
    |true=>exact absurd (xB hx) (by omega)
   have hmul:n+m<=vs.length+new.length:=by
    rw [<-hn,<-hm]
    have h1:=xS n hk
    have h2:=xS m hk
    omega
   have hguard:(xH ((n+m)*(i.bytes+1)) 70368744177664&&Nat.blt 0 i.bytes)=true:=by
    rw [xw (xQ (xY _ hmul) hsz)]
    simp only [Bool.true_and]
    rw [Nat.blt_eq];exact hb
   have hzl:xX zs.length i.size=true:=by rw [hl2];exact xG _
   have hstart:dR E h e i (some ⟨b,0,none⟩) n n m new=ku h e i.size (some ⟨b,0,none⟩) n m new:=by
    unfold dR
    rw [hcap]
    simp only [cond_false]
    rw [hguard,hz]
    simp only [cond_true,hzl]
   rw [hstart]
   obtain⟨tr,el,hget,hsz',htr⟩:=hl
   have hgt:gW tr vs.length 0 (n*i.size) new=some (tr.pushAll vs.length new,vs.length+new.length):=by
    unfold gW
    rw [hn,xG vs.length]
    rfl
   refine⟨h.new (.cells (tr.pushAll vs.length new) (vs.length+new.length) e 1),.slice (some ⟨h.n,0,some i.size⟩) (n+m) (n+m),?_,.inr ⟨h.n,rfl,?_⟩⟩
   . unfold ku
     simp only [hget,hgt]
   . refine S.new ⟨tr.pushAll vs.length new,e,?_,?_,fun j=>?_⟩
     . rw [h.get_new _ S.ok,if_pos rfl,xx]
     . rw [xx];exact Tr.sized_pushAll _ hsz'
     . rw [Tr.get_pushAll _ _ _ hsz',List.getElem?_append]
       split
       . exact htr j
       . rfl
theorem St.cloneSl{α:Type}{enc:α->List Value}{xs ys:List α}(S:St M h0 h L G){t tx e:TypeId}{by_ k md:Nat}{zs:List Value}{b:Nat}{x:Value}(hu:E.und t=some (.slice e))(he:dv E e by_ k zs)(hb:0<by_)
 (hx:ax E tx=some false) (hs:ay h k enc x ys) (hen: ∀x,(enc x).length=k) (hk:0<k) (hsz:((xs.length+ys.length)*k)*(by_+1)<=70368744177664) {ts:List TypeId}
 (hl:Row h b (xs.flatMap enc) md):
 ∃h' v',cG E h (t::tx::ts) (.slice (some ⟨b,0,none⟩) xs.length xs.length) x=some (h',v')/\St M h0 h' L G/\Gr h h'/\ay h' k enc v' (xs++ys)/\(∀c,av v' c->c=b\/h.n<=c):=by
 obtain⟨h',v',h1,h2⟩:=S.clone hu he hb hx hs.src (aU hen ys).symm (aU hen xs).symm hk (by rw [aU hen,aU hen,<-xZ];exact hsz) (ts:=ts) hl
 refine⟨h',v',h1,?_⟩
 rcases h2 with⟨hm,rfl,rfl⟩|⟨b',rfl,hS⟩
 . have hy:ys=[]:=List.length_eq_zero_iff.1 hm
   subst hy
   refine⟨S,Gr.refl S.ok,.inr ⟨b,0,none,xs.length,by simp,by simp,?_⟩,fun c hc=>.inl (Eq.symm hc)⟩
   rw [xU,hl.load (by rw [aU hen];omega),xW,<-aU hen xs,xP]
 . have S':St M h0 h' L G:=⟨hS.fr,fun p hp=>hS.own p (List.mem_cons_of_mem _ hp),hS.gown,(List.nodup_cons.1 hS.apart).2⟩
   have hrow:Row h' b' (xs.flatMap enc++ys.flatMap enc) 1:=hS.row m0
   have T:=(St.init (M:=NoM) S.ok).clone hu he hb hx hs.src (aU hen ys).symm (aU hen xs).symm hk (by rw [aU hen,aU hen,<-xZ];exact hsz) (ts:=ts) hl
   obtain⟨h2',v2',k1,k2⟩:=T
   rw [h1]at k1
   cases k1
   rcases k2 with⟨hm,_,he⟩|⟨b2,e2,hT⟩
   . exact absurd he (by intro e;cases e)
   . cases e2
     refine⟨S',hT.gr,.inr ⟨b',0,some k,xs.length+ys.length,by rw [xx],by rw [xx];exact xV _,?_⟩,fun c hc=>?_⟩
     . rw [hrow.load (by rw [xx,xx,aU hen,aU hen,xZ];omega),xW,<-List.flatMap_append,<-aU hen (xs++ys),xP]
     . right
       have:b'=c:=hc
       subst this
       rcases(hT.own _ m0).1 with h|h
       . exact h
       . exact h.elim
end
end Go.Ab

namespace Go.Ab
section
variable{E:Env}{t e:TypeId}{h:Hp}{x y:Operand}
noncomputable def lenR(E:Env)(h:Hp)(t:TypeId)(x:Value):Option (cK×Hp):=lenK (match x with
 | .map (some r)=>match h.get r with
   |some (.map es _)=>match E.und t with
    |some (.map _ _)=>some (.val (.int .i64 (.ofNat es.length)),h)
    |_=>none
   |_=>none
 |_=>none) h (kN E t x)
theorem o_lenR{ρ:Operand->Value}{x:Operand}:aop E ρ h (.call ⟨.builtin .len,#[x],#[t]⟩)=lenR E h t (ρ x):=o_lenK
noncomputable def lenQ(d:Option TypeDesc)(h:Hp)(x:Value):Option (cK×Hp):=match d with
 | some .string=>match x with
   | .string s=>some (.val (.int .i64 (.ofNat s.size)),h)
   |_=>none
 |some (.array n _)=>some (.val (.int .i64 (.ofNat n)),h)
 | some (.slice _)=>match x with
   | .slice _ n _=>some (.val (.int .i64 (.ofNat n)),h)
   |_=>none
 | some (.map _ _)=>match x with
   | .map none=>some (.val (.int .i64 0),h)
   | .map (some r)=>match h.get r with
     |some (.map es _)=>some (.val (.int .i64 (.ofNat es.length)),h)
     |_=>none
   |_=>none
 |_=>none
theorem len_q{x:Value}:lenR E h t x=lenQ (E.und t) h x:=by
 unfold lenR kN
 cases hu:E.und t with
 |none=>cases x<;>first|rfl|(rename_i r;cases r<;>first|rfl|(rename_i r;simp only [lenQ,lenK];cases h.get r with|none=>rfl|some b=>cases b<;>rfl))
 | some d=>
   cases d<;>cases x<;>first
    |rfl
    | (rename_i r;cases r<;>first
      |rfl
      |(rename_i r;simp only [lenQ,lenK];cases h.get r with|none=>rfl|some b=>cases b<;>rfl))
theorem wV{a:Option Addr}{n c:Nat}:lenQ (some (.slice e)) h (.slice a n c)=some (.val (.int .i64 n),h):=rfl
theorem lenq_str{s:ByteArray}:lenQ (some .string) h (.string s)=some (.val (.int .i64 s.size),h):=rfl
theorem lenq_arr{n:Nat}{v:Value}:lenQ (some (.array n e)) h v=some (.val (.int .i64 n),h):=rfl
theorem vG{k:TypeId}:lenQ (some (.map k e)) h (.map none)=some (.val (.int .i64 0),h):=rfl
theorem ay.lenq{α:Type}{k:Nat}{enc:α->List Value}{v:Value}{xs:List α}{h h':Hp}(s:ay h' k enc v xs):lenQ (some (.slice e)) h v=some (.val (.int .i64 xs.length),h):=by
 rcases s with⟨rfl,rfl⟩|⟨_,_,_,_,rfl,_⟩<;>rfl
theorem eB.lenq{v:Value}{k n:Nat}{vs:List Value}{h h':Hp}(g:eB h' (v,k,vs))(hk:0<k)(hn:n*k=vs.length):lenQ (some (.slice e)) h v=some (.val (.int .i64 n),h):=by
 rcases g with⟨h1,h2⟩|⟨b,m,h1,h2,h3⟩
 . simp only []at h1 h2
   subst h1 h2
   have:n=0:=by
    cases n with
    |zero=>rfl
    |succ n=>simp only [xy,xF]at hn;omega
   subst this
   rfl
 . simp only []at h1 h2
   subst h1
   have:m=n:=xD hk (h2.trans hn.symm)
   subst this
   rfl
def idxS(k:Option Nat)(v i:Value):Option Value:=match k with
 |none=>none
 | some k=>match v with
   | .slice (some a) n _=>match fh i n with
     |none=>none
     |some j=>some (.pointer (some (dQ a (j*k))))
   |_=>none
def idxA(n:Nat)(k:Option Nat)(v i:Value):Option Value:=match k with
 |none=>none
 | some k=>match v with
   | .pointer (some a)=>match fh i n with
     |none=>none
     |some j=>some (.pointer (some (dQ a (j*k))))
   |_=>none
def idxQ(E:Env)(d:Option TypeDesc)(v i:Value):Option Value:=match d with
 |some (.slice e)=>idxS (E.sz e) v i
 |some (.array n e)=>idxA n (E.sz e) v i
 |_=>none
theorem idx_q{v i:Value}:dA E t v i=idxQ E (E.und t) v i:=by
 unfold dA idxQ
 cases hu:E.und t with
 |none=>rfl
 | some d=>
   cases d<;>first
    |rfl
    |(simp only [idxS];cases hs:E.sz _<;>(split<;>first|rfl|(split<;>simp_all)))
    |(simp only [idxA];cases hs:E.sz _<;>(split<;>first|rfl|(split<;>simp_all)))
theorem vS{v i:Value}:idxQ E (some (.slice e)) v i=idxS (E.sz e) v i:=rfl
theorem wz{n:Nat}{v i:Value}:idxQ E (some (.array n e)) v i=idxA n (E.sz e) v i:=rfl
def putI(a:Addr)(k:Nat):Option Nat->Option Value
 |none=>none
 |some j=>some (.pointer (some ⟨a.block,a.off+j*k,none⟩))
theorem nA{k n c:Nat}{a:Addr}{i:Value}:idxS (some k) (.slice (some a) n c) i=putI a k (fh i n):=by
 simp only [idxS,putI,dQ]
theorem idxa_ptr{k n:Nat}{a:Addr}{i:Value}:idxA n (some k) (.pointer (some a)) i=putI a k (fh i n):=by
 simp only [idxA,putI,dQ]
theorem putI_some{a:Addr}{k j:Nat}:putI a k (some j)=some (.pointer (some ⟨a.block,a.off+j*k,none⟩)):=rfl
theorem ay.ix{α:Type}{k:Nat}{enc:α->List Value}{v:Value}{xs:List α}{kd:IntKind}(s:ay h k enc v xs)(he: ∀x,(enc x).length=k){i:Nat}(hi:i<xs.length):
 ∃b o,idxS (some k) v (.int kd i)=some (.pointer (some ⟨b,o,none⟩))/\h.load b o k=some (enc xs[i]):=by
 obtain⟨b,o,s',c,rfl,hl⟩:=s.idx he hi
 refine⟨b,o+i*k,?_,hl⟩
 rw [nA,iu hi]
 rfl
noncomputable def loadQ(g:Option Bool)(n:Option Nat)(h:Hp)(b o:Nat):Option Value:=match g with
 | some true=>match n with
   |some n=>agg1 (h.load b o n)
   |none=>none
 |some false=>one1 (h.load b o 1)
 |none=>none
theorem load_q{b o:Nat}{s:Option Nat}:dK E h t (.pointer (some ⟨b,o,s⟩))=loadQ (E.agg t) (E.sz t) h b o:=by
 cases ha:E.agg t with
 |none=>simp [dK,loadQ,ha]
 | some g=>
   cases g with
   |false=>exact wS ha
   | true=>
     cases hs:E.sz t with
     |none=>simp [dK,loadQ,ha,hs]
     |some n=>exact loadV_agg ha hs
theorem loadq_f{b o:Nat}{n:Option Nat}:loadQ (some false) n h b o=one1 (h.load b o 1):=rfl
theorem loadq_t{b o n:Nat}:loadQ (some true) (some n) h b o=agg1 (h.load b o n):=rfl
def iV(E:Env)(t:TypeId):Bool:=match E.und t with
 |some (.slice _)=>true
 |_=>false
theorem sl_und(hu:iV E t=true): ∃a,E.und t=some (.slice a):=by
 unfold iV at hu;split at hu<;>first|exact⟨_, ‹_›⟩|cases hu
theorem e_slice{a:Addr}{n c:Nat}(hu:iV E t=true):aY E .eql t x y (.slice (some a) n c) (.slice none 0 0)=some (.bool false):=by
 obtain⟨e,hu⟩:=sl_und hu
 simp [aY,ee,d5,hu]
theorem e_snil(hu:iV E t=true):aY E .eql t x y (.slice none 0 0) (.slice none 0 0)=some (.bool true):=by
 obtain⟨e,hu⟩:=sl_und hu
 simp [aY,ee,d5,hu]

def Fl(v:Value):Prop:=ae v=[v]/\ir v=true/\ ∀x,v≠ .chan x
theorem bD{k:IntKind}{n:Int}:Fl (.int k n):=⟨rfl,rfl,nofun⟩
theorem fl_bool{b:Bool}:Fl (.bool b):=⟨rfl,rfl,nofun⟩
theorem fl_str{b:ByteArray}:Fl (.string b):=⟨rfl,rfl,nofun⟩
theorem eG{a:Option Addr}:Fl (.pointer a):=⟨rfl,rfl,nofun⟩
theorem bF{a:Option Addr}{n c:Nat}:Fl (.slice a n c):=⟨rfl,rfl,nofun⟩
theorem fl_map{a:Option Nat}:Fl (.map a):=⟨rfl,rfl,nofun⟩
theorem jx{f:Fn}{a b:Array Value}:Fl (.func f a b):=⟨rfl,rfl,nofun⟩
theorem fl_nilf:Fl .nilFunc:=⟨rfl,rfl,nofun⟩
theorem fl_nili:Fl .nilIface:=⟨rfl,rfl,nofun⟩
theorem fl_iface{t:TypeId}{v:Value}:Fl (.iface t v):=⟨rfl,rfl,nofun⟩
theorem ay.fl{α:Type}{k:Nat}{enc:α->List Value}{v:Value}{xs:List α}(s:ay h k enc v xs):Fl v:=by
 rcases s with⟨rfl,_⟩|⟨_,_,_,_,rfl,_⟩<;>exact bF
theorem eB.fl{p:GL}(g:eB h p):Fl p.1:=by
 rcases g with⟨e,_⟩|⟨_,_,e,_⟩<;>rw [e]<;>exact bF
def placesOf(E:Env)(t:TypeId):Option (List (Nat×Nat)):=match E.und t with
 |some (.struct fs)=>jW E fs.toList
 |_=>none
def aggO:Option (List Value)->Option Value
 |some l=>some (.agg ⟨l⟩)
 |none=>none
theorem aggO_some{l:List Value}:aggO (some l)=some (.agg ⟨l⟩):=rfl
def jd(ps:List (Nat×Nat))(l:List Value)(parts:List (Nat×Value)):Option (List Value):=fT (fun i=>ps[i]?) l parts
theorem build_st{zs:List Value}{ps:List (Nat×Nat)}{parts:List (Nat×Value)}(hz:E.zero t=some zs)(hp:placesOf E t=some ps):kL E t parts=aggO (jd ps zs parts):=by
 unfold placesOf at hp
 unfold kL jd
 rw [hz]
 split at hp
 . rename_i fs hu
   simp only [hu,hp]
   cases fT (fun i=>ps[i]?) zs parts<;>rfl
 . cases hp
theorem fill_nil{ps:List (Nat×Nat)}{l:List Value}:jd ps l []=some l:=rfl
def buildQ(z:Option (List Value))(p:Option (List (Nat×Nat)))(parts:List (Nat×Value)):Option Value:=match z with
 |none=>none
 | some z=>match p with
   |none=>none
   |some p=>aggO (jd p z parts)
theorem build_q{parts:List (Nat×Value)}(hz:(placesOf E t).isSome=true):kL E t parts=buildQ (E.zero t) (placesOf E t) parts:=by
 cases hp:placesOf E t with
 |none=>rw [hp]at hz;cases hz
 | some ps=>
   cases h0:E.zero t with
   |none=>simp [kL,buildQ,h0]
   |some z=>exact build_st h0 hp
theorem vk{zs:List Value}{ps:List (Nat×Nat)}{parts:List (Nat×Value)}:buildQ (some zs) (some ps) parts=aggO (jd ps zs parts):=rfl
def oX(ps:List (Nat×Nat))(l:List Value)(v:Value)(r:List (Nat×Value)):Option (Nat×Nat)->Option (List Value)
 |none=>none
 |some (o,n)=>match v with
  | .chan _=>none
  |v=>bif xX (ae v).length n&&xH (o+n) l.length then jd ps (bj l o (ae v)) r else none
theorem fill_q{ps:List (Nat×Nat)}{l:List Value}{i:Nat}{v:Value}{r:List (Nat×Value)}:jd ps l ((i,v)::r)=oX ps l v r (ps[i]?):=by
 unfold jd
 cases hp:ps[i]? with
 |none=>simp [fT,oX,hp]
 |some q=>obtain⟨o,n⟩:=q;simp only [fT,oX,hp];rfl
theorem fills_one{ps:List (Nat×Nat)}{l:List Value}{o:Nat}{v:Value}{r:List (Nat×Value)}(hv:Fl v)(ho:o<l.length):oX ps l v r (some (o,1))=jd ps (l.set o v) r:=by
 have e:(bif xX (ae v).length 1&&xH (o+1) l.length then jd ps (bj l o (ae v)) r else none)=jd ps (l.set o v) r:=by
  rw [hv.1]
  simp only [xC,xy,Nat.zero_add,xG,xw (show o+1<=l.length from ho),Bool.and_self,cond_true,bj]
 cases v<;>first|exact e|exact absurd rfl (hv.2.2 _)
theorem fills_agg{ps:List (Nat×Nat)}{l c:List Value}{o n:Nat}{r:List (Nat×Value)}(hn:c.length=n)(ho:o+n<=l.length):oX ps l (.agg ⟨c⟩) r (some (o,n))=jd ps (bj l o c) r:=by
 simp only [oX,ae,hn,xG,xw ho,Bool.and_self,cond_true]
theorem setL_nil{l:List Value}{o:Nat}:bj l o []=l:=rfl
theorem setL_cons{l vs:List Value}{o:Nat}{v:Value}:bj l o (v::vs)=bj (l.set o v) (o+1) vs:=rfl
theorem cM{v:Value}(hv:Fl v):mb h (fun h=>boxR h t v) ptrTo (.row [v] 1):=by
 have:=bu (h:=h) (t:=t) hv.2.2
 rw [hv.1]at this
 exact this
theorem aA{M:Nat->Prop}{h0:Hp}{L:List (Nat×Ob)}{G:List GL}(S:St M h0 h L G){i b off md:Nat}{s:Option Nat}{l:List Value}{v:Value}(hi:L[i]? =some (b,.row l md))(hs:E.sz t=some 1)(hv:Fl v)
 (ho:off<l.length) (hmd:md≠0): ∃h',fJ E h t (.pointer (some ⟨b,off,s⟩)) v=some h'/\St M h0 h' (L.set i (b,.row (l.set off v) md)) G/\Mo (· =b) h h':=by
 have hvc:ae v=[v]:=hv.1
 have:=S.store (v:=v) (t:=t) (s:=s) (off:=off) (n:=1) hi hs hv.2.2 (by rw [hvc];rfl) (by rw [hvc];simp [hv.2.1]) (by omega) hmd
 rw [hvc]at this
 have e:lay l off [v]=l.set off v:=by
  refine xz fun j=>?_
  rw [g9 (by simp;omega),xN]
  simp only [xC,xy]
  by_cases hj:off=j
  . subst hj;rw [if_pos ⟨xV _,by omega⟩,if_pos rfl,if_pos ho];simp
  . rw [if_neg (by omega),if_neg hj]
 rw [e]at this
 exact this
end
def ifaceR(E:Env)(t:TypeId)(v:Value):Option Value:=match E.und t with
 |none=>none
 |some (.interface _)=>none
 |some _=>some (.iface t v)
theorem o_ifaceR{E:Env}{ρ:Operand->Value}{h:Hp}{t:TypeId}{x:Operand}:aop E ρ h (.makeInterface t x)=bJ h (ifaceR E t (ρ x)):=rfl
theorem ifaceR_is{E:Env}{t:TypeId}{v:Value}(hu:aO E t=true):ifaceR E t v=some (.iface t v):=mk_iface hu
def nilcR:Value->Option Value
 | .pointer (some a)=>some (.pointer (some a))
 | .func (.func f) a b=>some (.func (.func f) a b)
 |_=>none
theorem o_nilcR{E:Env}{ρ:Operand->Value}{h:Hp}{x:Operand}:aop E ρ h (.nilCheck x)=bJ h (nilcR (ρ x)):=rfl
theorem nilcR_ptr{a:Addr}:nilcR (.pointer (some a))=some (.pointer (some a)):=rfl
def pickR(c a b:Value):Option Value:=match c with
 | .bool t=>some (bif t then a else b)
 |_=>none
theorem o_pickR{E:Env}{ρ:Operand->Value}{h:Hp}{c a b:Operand}:aop E ρ h (.pick c a b)=bJ h (pickR (ρ c) (ρ a) (ρ b)):=rfl
theorem pick_t{a b:Value}:pickR (.bool true) a b=some a:=rfl
theorem pick_f{a b:Value}:pickR (.bool false) a b=some b:=rfl
def extrR(i:Nat):Value->Option Value
 | .tuple vs=>vs.toList[i]?
 |_=>none
theorem o_extrR{E:Env}{ρ:Operand->Value}{h:Hp}{x:Operand}{i:Nat}:aop E ρ h (.extract x i)=bJ h (extrR i (ρ x)):=by
 rw [o_extract];rfl
theorem extr_0{a:Value}{l:List Value}:extrR 0 (.tuple ⟨a::l⟩)=some a:=rfl
theorem extr_1{a b:Value}{l:List Value}:extrR 1 (.tuple ⟨a::b::l⟩)=some b:=rfl
theorem extr_2{a b c:Value}{l:List Value}:extrR 2 (.tuple ⟨a::b::c::l⟩)=some c:=rfl
noncomputable def delR(E:Env)(h:Hp)(t:TypeId)(m k:Value):Option (cK×Hp):=match jC E h t m k with
 |none=>none
 |some h'=>some (.val (.tuple #[]),h')
theorem o_delR{E:Env}{ρ:Operand->Value}{h:Hp}{m k:Operand}{t:TypeId}{ts:List TypeId}:aop E ρ h (.call ⟨.builtin .delete,#[m,k],⟨t::ts⟩⟩)=delR E h t (ρ m) (ρ k):=rfl
theorem aH{a b:Nat}:((a:Int)<(b:Int))=(a<b):=by simp
def BS:=xt (@run_seq)<|xt (@wH)<|xt (@r_ops)<|xt (@g_true)<|xt (@g_false)<|xt (@uS)<|xt (@run_ret)<|xt (@run_nil)<|xt (@run_skip)<|xt (@run_block)<|xt (@run_scope)<|xt (@run_blk)<|xt (@run_exit)<|xt (@uI)<|xt (@sX)<|xt (@tu)<|xt (@w6)<|xt (@wX)<|xt (@r_cond)<|xt (@c_true)<|xt (@c_false)<|xt (@r_opsD)<|xt (@dn_loud)<|xt (@dn_quiet)<|xt (@dn_val)<|xt (@dn_skip)<|xt (@d_skip)<|xt (@jD)<|xt (@aW)<|xt (@bg)<|xt (@uG)<|xt (@guard_no)<|xt (@vV)<|xt (@gj_some)<|xt (@gv_true)<|xt (@gv_false)<|xt (@gv_tuple)<|xt (@o_move)<|xt (@o_assign)<|xt (@o_pickR)<|xt (@pick_t)<|xt (@pick_f)<|xt (@o_load)<|xt (@o_store)<|xt (@o_binOp)<|xt (@o_unOp)<|xt (@o_nilcR)<|xt (@nilcR_ptr)<|xt (@o_ifaceR)<|xt (@xg)<|xt (@o_slice)<|xt (@vf)<|xt (@o_field)<|xt (@u7)<|xt (@o_index)<|xt (@o_extrR)<|xt (@extr_0)<|xt (@extr_1)<|xt (@extr_2)<|xt (@o_build)<|xt (@tT)<|xt (@vC)<|xt (@xb)<|xt (@ul)<|xt (@o_convert)<|xt (@o_lookup)<|xt (@vj)<|xt (@xe)<|xt (@uf)<|xt (@o_allocR)<|xt (@o_boxR)<|xt (@o_callv)<|xt (@o_max)<|xt (@o_min)<|xt (@o_append)<|xt (@o_copy)<|xt (@o_lenR)<|xt (@o_delR)<|xt (@o_recover)<|xt (@o_deferR)<|xt (@o_panicR)<|xt (@vU)<|xt (@wZ)<|xt (@wE)<|xt (@xk)<|xt (@sT)<|xt (@ru)<|xt (@pZ)<|xt (@re)<|xt (@q8)<|xt (@step_defer)<|xt (@target_fn)<|xt (@uv)<|xt (@b_add)<|xt (@b_sub)<|xt (@b_mul)<|xt (@b_eql)<|xt (@b_neq)<|xt (@b_lss)<|xt (@b_leq)<|xt (@b_gtr)<|xt (@b_geq)<|xt (@b_eqlB)<|xt (@b_neqB)<|xt (@same_bool)<|xt (@u_not)<|xt (@mm_max)<|xt (@mm_min)<|xt (@an)<|xt (@one1_some)<|xt (@agg1_some)<|xt (@cL)<|xt (@ll_put0)<|xt (@bU)<|xt (@ll_func)<|xt (@c_int)<|xt (@c_bool)<|xt (@c_string)<|xt (@c_nilp)<|xt (@c_nils)<|xt (@c_nilm)<|xt (@c_nilf)<|xt (@c_nili)<|xt (@ll_regs)<|xt (@js)<|xt (@aP)<|xt (@aQ)<|xt (@bO)<|xt (@sC)<|xt (@uL)<|xt (@iL)<|xt (@dT)<|xt (@hush_s)<|xt (@idxP_in)<|xt (@iu)<|xt (@idx_q)<|xt (@vS)<|xt (@wz)<|xt (@nA)<|xt (@idxa_ptr)<|xt (@putI_some)<|xt (@len_q)<|xt (@wV)<|xt (@lenq_str)<|xt (@lenq_arr)<|xt (@vG)<|xt (@load_q)<|xt (@loadq_f)<|xt (@loadq_t)<|xt (@n_iface)<|xt (@n_nil)<|xt (@e_iface)<|xt (@e_nil)<|xt (@n_ptr)<|xt (@e_ptr)<|xt (@n_pnil)<|xt (@e_pnil)<|xt (@e_slice)<|xt (@e_snil)<|xt (@assert_is)<|xt (@ifaceR_is)<|xt (@build_q)<|xt (@vk)<|xt (@aggO_some)<|xt (@fill_nil)<|xt (@fill_q)<|xt (@fills_one)<|xt (@fills_agg)<|xt (@setL_nil)<|xt (@setL_cons)<|xt (@bD)<|xt (@fl_bool)<|xt (@fl_str)<|xt (@eG)<|xt (@bF)<|xt (@fl_map)<|xt (@jx)<|xt (@fl_nilf)<|xt (@fl_nili)<|(@fl_iface)
end Go.Ab

namespace Go.Ab
structure ItS(h0:Hp)(D:Nat->Prop)(h:Hp)(F:List Nat):Prop where
 ok:h.t.Sized h.n
 n:h0.n<=h.n
 data: ∀b,b<h0.n->D b->h.get b=h0.get b
 apart: ∀b∈F,¬(b<h0.n/\D b)
 lt: ∀b∈F,b<h.n
section
variable{h0 h h':Hp}{D:Nat->Prop}{F F':List Nat}
theorem ItS.gr(s:ItS h0 D h F)(g:Gr h h'):ItS h0 D h' F:=
 ⟨g.ok,xQ s.n g.n,fun b hb hd=>(g.get b (xK hb s.n)).trans (s.data b hb hd),s.apart,fun b hb=>xK (s.lt b hb) g.n⟩
theorem ItS.mo(s:ItS h0 D h F)(m:Mo (· ∈F) h h')(hf: ∀b∈F',b∈F\/h.n<=b)(hl: ∀b∈F',b<h'.n):ItS h0 D h' F':=
 ⟨m.ok,xQ s.n m.n,fun b hb hd=>(m.get b (xK hb s.n) (fun hf=>s.apart b hf ⟨hb,hd⟩)).trans (s.data b hb hd),
  fun b hb hd=>(hf b hb).elim (fun hb=>s.apart b hb hd) (fun hb=>by have:=s.n;omega),hl⟩
theorem ItS.load(s:ItS h0 D h F){b o n:Nat}{l:List Value}(ok0:h0.t.Sized h0.n)(e:h0.load b o n=some l)(hd:D b):h.load b o n=some l:=by
 have:=s.data b (bK ok0 e) hd
 unfold Hp.load at e⊢
 rw [this];exact e
theorem ItS.sl{α:Type}{k:Nat}{enc:α->List Value}{v:Value}{xs:List α}(s:ItS h0 D h F)(ok0:h0.t.Sized h0.n)(e:ay h0 k enc v xs)(hd: ∀b,av v b->D b):ay h k enc v xs:=by
 rcases e with e|⟨b,o,s',c,h1,h2,h3⟩
 . exact .inl e
 . exact .inr ⟨b,o,s',c,h1,h2,s.load ok0 h3 (hd b (by rw [h1];rfl))⟩
end
structure Yld(E:Env)(lb:Nat)(J:Nat->Hp->List Nat->Prop)(Z:Out->Hp->Prop)(xs:List (List Value)):Prop where
 lt: ∀i h F,J i h F->h.t.Sized h.n/\ ∀b∈F,b<h.n
 gr: ∀i h F h',J i h F->Gr h h'->J i h' F
 zgr: ∀h h',Z (.ret (.bool false)) h->Gr h h'->Z (.ret (.bool false)) h'
 round: ∀i x h F,xs[i]? =some x->J i h F->jc E lb x h fun o h'=>(o=.ret (.bool true)/\ ∃F',J (i+1) h' F'/\Mo (· ∈F) h h'/\ ∀b∈F',b∈F\/h.n<=b)\/(o=.ret (.bool false)/\Z o h'/\h'.t.Sized h'.n)\/((∃v,o=.pan v)/\Z o h')
def YQ(J:Nat->Hp->List Nat->Prop)(Z:Out->Hp->Prop)(n:Nat)(o:Out)(rc:Option (Value×Bool))(h':Hp):Prop:=
 rc=none/\((∃u F',o=.ret u/\J n h' F')\/(∃u,o=.ret u/\Z (.ret (.bool false)) h')\/(∃v,o=.pan v/\Z o h'))
theorem pb{E:Env}{g:FuncId}{pre post:List Value}{h0:Hp}{D:Nat->Prop}{xs:List (List Value)}
 (H: ∀lb J Z,Yld E lb J Z xs-> ∀h F,ItS h0 D h F->J 0 h F->ey E g (pre++[.func (.yield lb) #[] #[]]++post) none h (YQ J Z xs.length)):Iter E g pre post h0 D xs:=by
 intro lb J Z h F ok hn hd hlt hgr hz ha hr hj
 exact H lb J Z ⟨hlt,hgr,hz,hr⟩ h F ⟨ok,hn,hd,ha,(hlt 0 h F hj).2⟩ hj
theorem tv{E:Env}{g:FuncId}{pre post:List Value}{h0:Hp}{D:Nat->Prop}{xs:List (List Value)}(H:Iter E g pre post h0 D xs){lb:Nat}{J:Nat->Hp->List Nat->Prop}{Z:Out->Hp->Prop}(Y:Yld E lb J Z xs)
 {h:Hp} {F:List Nat} (g0:Mo (fun b=> ¬D b) h0 h) (ha: ∀b∈F,b<h0.n-> ¬D b) (hj:J 0 h F):ey E g (pre++[.func (.yield lb) #[] #[]]++post) none h (YQ J Z xs.length):=
 H lb J Z h F g0.ok g0.n (fun b hb hd=>g0.get b hb (fun hn=>hn hd)) Y.lt Y.gr Y.zgr (fun b hb h=>ha b hb h.1 h.2) Y.round hj
theorem eL{E:Env}{cx:Cx}{o:Oper}{l:Loc}{K:Ex->Loc->Hp->Prop}{h0 h:Hp}{D:Nat->Prop}{lb i:Nat}{J:Nat->Hp->List Nat->Prop}{Z:Out->Hp->Prop}{xs:List (List Value)}{x:List Value}{F:List Nat}
 (Y:Yld E lb J Z xs) (s:ItS h0 D h F) (hj:J i h F) (hx:xs[i]? =some x)
 (k1: ∀h' F',J (i+1) h' F'->ItS h0 D h' F'->Mo (· ∈F) h h'->(∀b∈F',b∈F\/h.n<=b)->K .normal (l.put o.dst (.bool true)) h')
 (k2: ∀h',Z (.ret (.bool false)) h'->h'.t.Sized h'.n->K .normal (l.put o.dst (.bool false)) h') (k3: ∀v h',Z (.pan v) h'->K (.pan v) l h'):dX E cx o l K (some (.yield lb x,h)):=by
 refine qx (Y.round i x h F hx hj) ?_
 rintro q h' (⟨rfl,F',a,b,c⟩|⟨rfl,a,b⟩|⟨⟨v,rfl⟩,a⟩)
 . exact k1 h' F' a (s.mo b c (Y.lt _ _ _ a).2) b c
 . exact k2 h' a b
 . exact k3 v h' a

section
variable{M:Nat->Prop}{h0 h h':Hp}{L L':List (Nat×Ob)}{G G':List GL}
theorem St.base(S:St M h0 h L G):St (· ∈keys L G) h h L G:=
 ⟨Mo.refl S.ok,fun p hp=>⟨.inr (gH hp),(S.own p hp).2⟩,fun p hp=>⟨(S.gown p hp).1,fun b hb=>.inr (eJ hp hb)⟩,S.apart⟩
theorem St.key_own(S:St M h0 h L G){b:Nat}(hb:b∈keys L G):h0.n<=b\/M b:=by
 unfold keys at hb
 rcases List.mem_append.1 hb with hb|hb
 . obtain⟨p,hp,rfl⟩:=List.mem_map.1 hb
   exact(S.own p hp).1
 . obtain⟨p,hp,hk⟩:=List.mem_filterMap.1 hb
   exact(S.gown p hp).2 b hk
theorem St.rebase(S:St M h0 h L G)(T:St (· ∈keys L G) h h' L' G'):St M h0 h' L' G':=by
 have hk: ∀b,h.n<=b\/b∈keys L G->h0.n<=b\/M b:=fun b hb=>hb.elim (fun hb=>.inl (xQ S.fr.n hb)) S.key_own
 exact⟨S.fr.trans T.fr fun b hb=>(S.key_own hb).symm,fun p hp=>⟨hk _ (T.own p hp).1,(T.own p hp).2⟩,fun p hp=>⟨(T.gown p hp).1,fun b hb=>hk b ((T.gown p hp).2 b hb)⟩,T.apart⟩
theorem St.key_new(T:St (· ∈keys L G) h h' L' G'): ∀b∈keys L' G',b∈keys L G\/h.n<=b:=fun _ hb=>(T.key_own hb).symm
theorem St.sub(S:St M h0 h L G)(hl:L'.Sublist L)(hg:G'.Sublist G):St M h0 h L' G':=
 ⟨S.fr,fun p hp=>S.own p (hl.subset hp),fun p hp=>S.gown p (hg.subset hp),S.apart.sublist ((hl.map _).append (hg.filterMap _))⟩
theorem St.drop1{x:Nat×Ob}(S:St M h0 h (x::L) G):St M h0 h L G:=S.sub (List.sublist_cons_self _ _) (List.Sublist.refl _)
end
theorem gJ{E:Env}{f:FuncId}{args:List Value}{rc:Option (Value×Bool)}{h:Hp}{P Q:Out->Option (Value×Bool)->Hp->Prop}(hc:ey E f args rc h P)(hk: ∀o rc' h',P o rc' h'->Q o rc' h'):ey E f args rc h Q:=by
 obtain⟨o,rc',h',a,b⟩:=hc;exact⟨o,rc',h',a,hk _ _ _ b⟩
theorem nD{E:Env}{f:FuncId}{args:List Value}{h:Hp}{P Q:Value->Hp->Prop}(hc:Ret E f args h P)(hk: ∀v h',P v h'->Q v h'):Ret E f args h Q:=Ret.mono hk hc
theorem kw{E:Env}{cx:Cx}{Q:dP}{k:List Fr}{l:Loc}{lb:Nat}{J:Nat->Hp->List Nat->Prop}{n:Nat}{o:Out}{rc:Option (Value×Bool)}{h:Hp}(y:YQ J (fun _ _=>False) n o rc h)
 (hk: ∀F,J n h F-> ∃x,h.get lb=some (.loop x)/\x.st≠1/\RangeGo E cx Q k l (h.put lb .dead) x.pending):RangeQ E cx Q k l lb o rc h:=by
 obtain⟨_,⟨u,F,rfl,hj⟩|⟨u,_,hz⟩|⟨v,_,hz⟩⟩:=y
 . exact hk F hj
 . exact hz.elim
 . exact hz.elim
theorem St.dead{M:Nat->Prop}{h0 h:Hp}{L:List (Nat×Ob)}{G:List GL}{b:Nat}{o:Ob}(S:St M h0 h ((b,o)::L) G):St M h0 (h.put b .dead) L G:=by
 have hb:=S.own _ m0
 refine⟨S.fr.put hb.1 _,fun p hp=>⟨(S.own p (.tail _ hp)).1,(S.own p (.tail _ hp)).2.of_get (bM fun e=>?_)⟩,fun p hp=>⟨(S.gown p hp).1.of_get fun c hc=>bM fun e=>?_,(S.gown p hp).2⟩,(List.nodup_cons.1 S.apart).2⟩
 . exact(List.nodup_cons.1 S.apart).1 (by show b∈keys L G;rw [e];exact gH hp)
 . exact(List.nodup_cons.1 S.apart).1 (by show b∈keys L G;rw [e];exact eJ hp hc)
theorem St.get{M:Nat->Prop}{h0 h:Hp}{L:List (Nat×Ob)}{G:List GL}{b:Nat}{x:fm}(S:St M h0 h L G)(hi:(b,Ob.loop x)∈L):h.get b=some (.loop x):=(S.own _ hi).2
theorem St.getD{M:Nat->Prop}{h0 h:Hp}{L:List (Nat×Ob)}{G:List GL}{b:Nat}(S:St M h0 h L G)(hi:(b,Ob.dfr)∈L):h.get b=some .dfr:=(S.own _ hi).2

theorem ot{E:Env}{cx:Cx}{Q:dP}{k:List Fr}{n:Nat}{rc:Option (Value×Bool)}{b:Code}{α:Type}(I:α->(Nat->Value)->List Deferred->Hp->Prop)(m:α->Nat)
 (hs: ∀a,(∀a' ρ' d' h',m a'<m a->I a' ρ' d' h'->Run E (lim E) cx Q (.code (.loop b)::k) .normal (LL n ρ' d' rc) h')-> ∀ρ d h,I a ρ d h->Run E (lim E) cx Q (.code b:: .code (.loop b)::k) .normal (LL n ρ d rc) h):
 ∀a ρ d h,I a ρ d h->Run E (lim E) cx Q (.code (.loop b)::k) .normal (LL n ρ d rc) h:=by
 have key: ∀j a,m a<j-> ∀ρ d h,I a ρ d h->Run E (lim E) cx Q (.code (.loop b)::k) .normal (LL n ρ d rc) h:=by
  intro j
  induction j with
  |zero=>intro a ha;omega
  | succ j ih=>
    intro a ha ρ d h hi
    rw [bV]
    exact hs a (fun a' ρ' d' h' hlt hi'=>ih a' (by omega) ρ' d' h' hi') ρ d h hi
 intro a ρ d h hi
 exact key (m a+1) a (by omega) ρ d h hi
def dD(dbs:List Nat):List (Nat×Ob):=dbs.map fun b=>(b,Ob.dfr)
theorem jM{E:Env}{M:Nat->Prop}{h0:Hp}{L:List (Nat×Ob)}{G:List GL}{m:Option Value}{P:Option Value->Hp->Prop}: ∀(dbs:List Nat) (h:Hp),St M h0 h (dD dbs++L) G->(∀h',St M h0 h' L G->P m h')->UnQ E (dbs.map mZ) m h P
 | [],h,S,hp=>dr (hp h S)
 |b::dbs,h,S,hp=>un_dfr (S.getD m0) (jM dbs _ (S.dead) hp)

theorem oO{E:Env}{n:Nat}{ρ:Nat->Value}{h:Hp}{t:Tmp}{ty:TypeId}{v:Value}(ht:t<n)(hv:dK E h ty (ρ t)=some v):aN E (tab n ρ) h [.cell t ty]=some [v]:=by
 simp only [aN,js,if_pos ht,hv]
theorem qW{E:Env}{h:Hp}{t:TypeId}{b o:Nat}{s:Option Nat}{v:Value}(ha:E.agg t=some false)(hl:h.load b o 1=some [v]):dK E h t (.pointer (some ⟨b,o,s⟩))=some v:=by
 rw [load_q,ha,loadq_f,hl];rfl
theorem cd{E:Env}{h:Hp}{t:TypeId}{b o n:Nat}{s:Option Nat}{l:List Value}(ha:E.agg t=some true)(hs:E.sz t=some n)(hl:h.load b o n=some l):dK E h t (.pointer (some ⟨b,o,s⟩))=some (.agg ⟨l⟩):=by
 rw [load_q,ha,hs,loadq_t,hl];rfl

theorem St.call1{M:Nat->Prop}{h0 h h':Hp}{L:List (Nat×Ob)}{G:List GL}(S:St M h0 h L G){i b:Nat}{o o':Ob}(hi:L[i]? =some (b,o))(f:Mo (· =b) h h')(ho:Has h' b o'):St M h0 h' (L.set i (b,o')) G:=by
 have hb:=S.own _ (xu hi)
 have hkey:(keys L G)[i]? =some b:=lq hi
 refine⟨S.fr.trans f (fun c hc=>by subst hc;exact hb.1.symm),fun p hp=>?_,fun p hp=>⟨(S.gown p hp).1.of_get fun c hc=>?_,(S.gown p hp).2⟩,?_⟩
 . rcases jt hp with rfl|⟨j,hj,hp⟩
   . exact⟨hb.1,ho⟩
   . have h1:=S.own p (xu hp)
     refine⟨h1.1,h1.2.of_get (f.get _ (h1.2.lt S.ok) fun e=>hj ?_)⟩
     have h2:(keys L G)[j]? =some b:=by rw [lq hp];rw [e]
     exact ml S.apart h2 hkey
 . refine f.get c ((S.gown p hp).1.lt S.ok hc) fun e=>?_
   subst e
   have h1:=S.apart
   unfold keys at h1
   rw [xO]at h1
   exact h1.2.2 c (List.mem_map.2 ⟨_,xu hi,rfl⟩) c (List.mem_filterMap.2 ⟨p,hp,hc⟩) rfl
 . have:keys (L.set i (b,o')) G=keys L G:=by
    unfold keys
    congr 1
    rw [List.map_set]
    refine xz fun j=>?_
    rw [xN]
    split
    . rename_i e;subst e
      have:=(List.getElem?_eq_some_iff.1 hi).1
      rw [if_pos (by simpa using this),List.getElem?_map,hi];rfl
    . rfl
   rw [this];exact S.apart
theorem St.init1{h:Hp}(ok:h.t.Sized h.n){b:Nat}{o:Ob}(ho:Has h b o):St (· =b) h h [(b,o)] []:=(St.init ok).push (.inr rfl) ho (by simp [keys])
theorem wrap8(z:Int):0<=ar .u8 z/\ar .u8 z<256:=by
 unfold ar
 cases z with
 | ofNat m=>
   simp only [hf,sgn,pw]
   cases hb:Nat.blt m 256 with
   | true=>
     rw [Nat.blt_eq]at hb
     simp only [cond_true]
     exact⟨xL m,Int.ofNat_lt.2 hb⟩
   | false=>
     simp only [cond_false]
     exact⟨xL _,Int.ofNat_lt.2 (Nat.mod_lt _ (by omega))⟩
 | negSucc m=>
   simp only [hf,sgn,pw,cond_false]
   exact⟨xL _,Int.ofNat_lt.2 (show 256-1-m%256<256 by omega)⟩
theorem aX{tr:List (Nat×Tch)}{i j:Nat}{l:List (Nat×Nat)}:dI tr ((i,j)::l)=(iH (bL i tr) (bL j tr)&&dI tr l):=rfl
theorem bG{a:Nat}{h h':Hp}(e:leaves h h' a=true):iH (some (.blk a)) (some (.run h h'))=true:=e
theorem bQ{a:Nat}{h h':Hp}(e:leaves h h' a=true):iH (some (.run h h')) (some (.blk a))=true:=e
theorem ii{a b:Nat}(e:a≠b):iH (some (.blk a)) (some (.blk b))=true:=by
 simp only [iH]
 cases hb:xX a b with
 |false=>rfl
 |true=>exact absurd (Nat.eq_of_beq_eq_true hb) e
theorem bz{i:Nat}{b:Tch}{l:List (Nat×Tch)}:bL i ((i,b)::l)=some b:=by simp [bL,xG]
theorem aV{i k:Nat}{b:Tch}{l:List (Nat×Tch)}(h:i≠k):bL i ((k,b)::l)=bL i l:=by
 have h:xX i k=false:=by rw [cu];simpa using h
 simp [bL,h]
theorem St.leaves{M:Nat->Prop}{h0 h h':Hp}{L:List (Nat×Ob)}{G:List GL}(S:St M h0 h L G){b c:Nat}{o:Ob}(hm:(c,o)∈L)(f:Mo (· =b) h h')(hn:c≠b):leaves h h' c=true:=
 pz (f.get c ((S.own _ hm).2.lt S.ok) hn)

theorem aS{i k:Nat}{x:Option Tch}{tr:List (Nat×Tch)}(h:i≠k):bL i (fi k tr x)=bL i tr:=by
 cases x with
 |none=>rfl
 |some b=>exact aV h
theorem bE{ρ:Operand->Value}{b:Bool}{t:TypeId}{a:Operand}{h h':Hp}:ca ρ b (.load t a) h h'=(match ρ a with| .pointer (some a)=>some (.blk a.block)|_=>none):=by
 simp only [ca,dh,iD,dS,touch,cond_false]
 cases ρ a<;>first|rfl|(rename_i x;cases x<;>rfl)
theorem bR{ρ:Operand->Value}{f:Operand}{as:Array Operand}{ts:Array TypeId}{h h':Hp}:ca ρ false (.call ⟨.value f,as,ts⟩) h h'=some (.run h h'):=rfl
theorem bC{ρ:Operand->Value}{b:Bool}{t:TypeId}{h h':Hp}:ca ρ b (.alloc t) h h'=some (.blk h.n):=rfl

theorem St.gset {M:Nat->Prop} {h0 h:Hp} {L:List (Nat×Ob)} {G:List GL} (S:St M h0 h L G) {E:Env} {t:TypeId} {j i:Nat} {v:Value} {vs:List Value} {kd:IntKind} (hj:G[j]? =some (v,1,vs)) (hi:i<vs.length) (hs:E.sz t=some 1):
 ∃b,idxS (some 1) v (.int kd i)=some (.pointer (some ⟨b,i,none⟩))/\ ∀x,Fl x-> ∃h',fJ E h t (.pointer (some ⟨b,i,none⟩)) x=some h'/\St M h0 h' L (G.set j (v,1,vs.set i x)):=by
 obtain⟨hg,hown⟩:=S.gown _ (xu hj)
 rcases hg with⟨_,k2⟩|⟨b,n,k1,k2,k3⟩
 . simp only []at k2;subst k2;simp at hi
 . simp only [] at k1 k2 k3
   subst k1
   have hn:n=vs.length:=by omega
   refine⟨b,?_,fun x hx=>?_⟩
   . rw [nA,iu (by omega)]
     simp [putI]
   . obtain ⟨y, h1,h2⟩:=k3.store S.ok Nat.one_ne_zero (o:=i) (vs:=[x]) (by simp;omega) (by simp [hx.2.1])
     have e:lay vs i [x]=vs.set i x:=by
      refine xz fun j=>?_
      rw [g9 (by simp;omega),xN]
      simp only [xC,xy]
      by_cases hij:i=j
      . subst hij;rw [if_pos ⟨xV _,by omega⟩,if_pos rfl,if_pos hi];simp
      . rw [if_neg (by omega),if_neg hij]
     rw [e]at h2
     refine⟨h.put b y,?_,?_⟩
     . have:fJ E h t (.pointer (some ⟨b,i,none⟩)) x=h.store b i [x]:=by
        simp only [fJ,hs]
        have hv:ae x=[x]:=hx.1
        have h5:(bif xX (ae x).length 1 then h.store b i (ae x)else none)=h.store b i [x]:=by rw [hv];rfl
        revert h5
        cases x<;>first|exact fun h=>h|exact absurd rfl (hx.2.2 _)
       rw [this];exact h1
     . have hkey:dt (Value.slice (some ⟨b,0,some 1⟩) n n,1,vs)=some b:=rfl
       have hb:=hown b hkey
       have hlt:=(List.getElem?_eq_some_iff.1 hj).1
       have hL: ∀c∈L.map Prod.fst,c≠b:=fun c hc e=>by
        have h1:=S.apart
        unfold keys at h1
        rw [xO]at h1
        exact h1.2.2 c hc b (List.mem_filterMap.2 ⟨_,xu hj,hkey⟩) e
       have hkeys:keys L (G.set j (Value.slice (some ⟨b,0,some 1⟩) n n,1,vs.set i x))=keys L G:=by
        unfold keys
        congr 1
        have: ∀(G:List GL) (j:Nat) (p q:GL),G[j]? =some p->dt q=dt p->(G.set j q).filterMap dt=G.filterMap dt:=by
         intro G
         induction G with
         |nil=>intro j p q hj;simp at hj
         | cons g G ih=>
           intro j p q hj hq
           cases j with
           |zero=>simp at hj;subst hj;simp [xJ,hq]
           |succ j=>simp at hj;simp only [List.set_cons_succ,xJ,ih j p q hj hq]
        exact this G j _ _ hj rfl
       refine⟨S.fr.put hb y,fun p hp=>⟨(S.own p hp).1,(S.own p hp).2.of_get (bM fun e=>hL _ (List.mem_map_of_mem hp) e.symm)⟩,fun p hp=>?_,by rw [hkeys];exact S.apart⟩
       rcases jt hp with rfl|⟨j',hj',hp⟩
       . exact⟨.inr ⟨b,n,rfl,by simpa using k2,h2⟩,fun c hc=>by cases hc;exact hb⟩
       . refine ⟨(S.gown p (xu hp)).1.of_get fun c hc=>bM fun e=>hj' ?_,(S.gown p (xu hp)).2⟩
         subst e
         have h2:=S.apart
         unfold keys at h2
         have h3:=(List.nodup_append.1 h2).2.1
         have key: ∀(G:List GL) (a c:Nat) (p q:GL),(G.filterMap dt).Nodup->G[a]? =some p->G[c]? =some q-> ∀x,dt p=some x->dt q=some x->a=c:=by
          intro G
          induction G with
          |nil=>intro a c p q _ ha;simp at ha
          | cons g G ih=>
            intro a c p q hn ha hc x hp hq
            have hn':(G.filterMap dt).Nodup:=by
             rw [xJ]at hn
             split at hn
             . exact hn
             . exact(List.nodup_cons.1 hn).2
            cases a with
            | zero=>
              cases c with
              |zero=>rfl
              | succ c=>
                simp at ha hc
                subst ha
                rw [xR hp]at hn
                exact absurd (List.mem_filterMap.2 ⟨q,xu hc,hq⟩) (List.nodup_cons.1 hn).1
            | succ a=>
              cases c with
              | zero=>
                simp at ha hc
                subst hc
                rw [xR hq]at hn
                exact absurd (List.mem_filterMap.2 ⟨p,xu ha,hp⟩) (List.nodup_cons.1 hn).1
              | succ c=>
                simp at ha hc
                rw [ih a c p q hn' ha hc x hp hq]
         exact key G j' j p _ h3 hp hj b hc hkey

def JP(n:Nat)(d:List Deferred)(rc:Option (Value×Bool))(J:(Nat->Value)->Hp->Prop):dP:=fun e l h=>e=.normal/\ ∃ρ,l=LL n ρ d rc/\J ρ h
theorem tB{E:Env}{cx:Cx}{Q:dP}{k:List Fr}{n:Nat}{d:List Deferred}{rc:Option (Value×Bool)}{J:(Nat->Value)->Hp->Prop}{c:Code}{l:Loc}{h:Hp}
 (hc:Run E (lim E) cx (JP n d rc J) [.code c] .normal l h) (hJ: ∀ρ h,J ρ h->Run E (lim E) cx Q k .normal (LL n ρ d rc) h):Run E (lim E) cx Q (.code c::k) .normal l h:=by
 obtain⟨e',l',h',h1,h2⟩:=hc
 obtain⟨rfl,ρ,rfl,h3⟩:=h2
 exact⟨_,_,_,h1,hJ ρ h' h3⟩
theorem wg{E:Env}{cx:Cx}{Q:dP}{k:List Fr}{n:Nat}{d:List Deferred}{rc:Option (Value×Bool)}(J:(Nat->Value)->Hp->Prop){a b:Code}{ρ0:Nat->Value}{h:Hp}{t:Bool}
 (h1:t=true->Run E (lim E) cx (JP n d rc J) [.code a] .normal (LL n ρ0 d rc) h) (h2:t=false->Run E (lim E) cx (JP n d rc J) [.code b] .normal (LL n ρ0 d rc) h)
 (hJ: ∀ρ h,J ρ h->Run E (lim E) cx Q k .normal (LL n ρ d rc) h):CStep E cx Q a b k (LL n ρ0 d rc) h (.bool t):=by
 cases t with
 |true=>exact tB (h1 rfl) hJ
 |false=>exact tB (h2 rfl) hJ
theorem kJ{n:Nat}{d:List Deferred}{rc:Option (Value×Bool)}{J:(Nat->Value)->Hp->Prop}{ρ:Nat->Value}{h:Hp}(hj:J ρ h):JP n d rc J .normal (LL n ρ d rc) h:=⟨rfl,ρ,rfl,hj⟩

theorem oQ{E:Env}{R:Rec}{cx:Cx}{Q:dP}{k2:List Fr}: ∀(k1:List Fr) (e:Ex) (l:Loc) (h:Hp),Run E R cx (fun e l h=>Run E R cx Q k2 e l h) k1 e l h->Run E R cx Q (k1++k2) e l h
 | [],e,l,h,hr=>hr
 | f ::k1,e,l,h,hr=>by
   have ih:=oQ (E:=E) (R:=R) (cx:=cx) (Q:=Q) (k2:=k2) k1
   cases f with
   | code c=>
     cases e with
     |normal=>obtain⟨e',l',h',a,b⟩:=hr;exact⟨e',l',h',a,ih _ _ _ b⟩
     |exit i=>exact ih _ _ _ hr
     |ret=>exact ih _ _ _ hr
     |pan v=>exact ih _ _ _ hr
   | blk id=>
     cases e with
     |normal=>exact ih _ _ _ hr
     | exit i=>
       simp only [Run,List.cons_append]at hr⊢
       by_cases hi:i=id
       . rw [if_pos hi]at hr⊢;exact ih _ _ _ hr
       . rw [if_neg hi]at hr⊢;exact ih _ _ _ hr
     |ret=>exact ih _ _ _ hr
     |pan v=>exact ih _ _ _ hr
   | ops a os=>
     cases e with
     |normal=>obtain⟨e',l',h',a,b⟩:=hr;exact⟨e',l',h',a,ih _ _ _ b⟩
     |exit i=>exact ih _ _ _ hr
     |ret=>exact ih _ _ _ hr
     |pan v=>exact ih _ _ _ hr
   | opsD a q ps os i tr=>
     cases e with
     |normal=>obtain⟨l',h',tr',a,b,c⟩:=hr;exact⟨l',h',tr',a,b,ih _ _ _ c⟩
     |exit i=>exact ih _ _ _ hr
     |ret=>exact ih _ _ _ hr
     |pan v=>exact ih _ _ _ hr
theorem run_post{E:Env}{R:Rec}{cx:Cx}{Q Q':dP}(hq: ∀e l h,Q e l h->Q' e l h): ∀(k:List Fr) (e:Ex) (l:Loc) (h:Hp),Run E R cx Q k e l h->Run E R cx Q' k e l h
 | k, e, l,h,hr=>by
   have:=oQ (E:=E) (R:=R) (cx:=cx) (Q:=Q') (k2:=[]) k e l h
   rw [xU]at this
   refine this ?_
   revert hr
   induction k generalizing e l h with
   |nil=>intro hr;exact hq _ _ _ hr
   | cons f k ih=>
     intro hr
     have ih:=fun e l h hr=>ih e l h (by have:=oQ (E:=E) (R:=R) (cx:=cx) (Q:=Q') (k2:=[]) k e l h;rwa [xU]at this) hr
     cases f with
     | code c=>
       cases e with
       |normal=>obtain⟨e',l',h',a,b⟩:=hr;exact⟨e',l',h',a,ih _ _ _ b⟩
       |exit i=>exact ih _ _ _ hr
       |ret=>exact ih _ _ _ hr
       |pan v=>exact ih _ _ _ hr
     | blk id=>
       cases e with
       |normal=>exact ih _ _ _ hr
       | exit i=>
         simp only [Run]at hr⊢
         by_cases hi:i=id
         . rw [if_pos hi]at hr⊢;exact ih _ _ _ hr
         . rw [if_neg hi]at hr⊢;exact ih _ _ _ hr
       |ret=>exact ih _ _ _ hr
       |pan v=>exact ih _ _ _ hr
     | ops a os=>
       cases e with
       |normal=>obtain⟨e',l',h',a,b⟩:=hr;exact⟨e',l',h',a,ih _ _ _ b⟩
       |exit i=>exact ih _ _ _ hr
       |ret=>exact ih _ _ _ hr
       |pan v=>exact ih _ _ _ hr
     | opsD a q ps os i tr=>
       cases e with
       |normal=>obtain⟨l',h',tr',a,b,c⟩:=hr;exact⟨l',h',tr',a,b,ih _ _ _ c⟩
       |exit i=>exact ih _ _ _ hr
       |ret=>exact ih _ _ _ hr
       |pan v=>exact ih _ _ _ hr
theorem uy{E:Env}{cx:Cx}{Q:dP}{k:List Fr}{n:Nat}{d:List Deferred}{rc:Option (Value×Bool)}{b:Code}{id:Nat}{α:Type}(J:(Nat->Value)->Hp->Prop)(I:α->(Nat->Value)->Hp->Prop)(m:α->Nat)
 (hs: ∀a,(∀a' ρ' h',m a'<m a->I a' ρ' h'->Run E (lim E) cx (JP n d rc J) [.code (.loop b),.blk id] .normal (LL n ρ' d rc) h')-> ∀ρ h,I a ρ h->Run E (lim E) cx (JP n d rc J) [.code b,.code (.loop b),.blk id] .normal (LL n ρ d rc) h)
 (hJ: ∀ρ h,J ρ h->Run E (lim E) cx Q k .normal (LL n ρ d rc) h) (a:α) {ρ:Nat->Value} {h:Hp} (hi:I a ρ h):Run E (lim E) cx Q (.code (.loop b):: .blk id::k) .normal (LL n ρ d rc) h:=by
 have h1:=aT I m hs a ρ h hi
 refine oQ [.code (.loop b),.blk id] _ _ _ (run_post (fun e l h hj=>?_) _ _ _ _ h1)
 obtain⟨rfl,ρ,rfl,hj⟩:=hj
 exact hJ ρ h hj

theorem oz{ops:List Oper}{ord:List Nat}{os:List Oper}(h1:(ops.any ou&&ops.all (mI ops.length))=true)(h2:ordL ops=ord)(h3:fk ops ord ord=os):dL ops=os:=by unfold dL;rw [h1,h2,h3];rfl
theorem St.gblk{M:Nat->Prop}{h0 h:Hp}{L:List (Nat×Ob)}{G:List GL}(S:St M h0 h L G){p:GL}(hp:p∈G){c:Nat}(hb:av p.1 c):(h0.n<=c\/M c)/\c∉L.map Prod.fst:=by
 have hk:dt p=some c:=by
  rcases(S.gown p hp).1 with⟨e,_⟩|⟨b,n,e,_⟩
  . rw [e]at hb;exact hb.elim
  . obtain⟨v,k,vs⟩:=p
    simp only []at e hb
    subst e
    exact congrArg some hb
 refine⟨(S.gown p hp).2 c hk,fun hc=>?_⟩
 have h1:=S.apart
 unfold keys at h1
 rw [xO]at h1
 exact h1.2.2 c hc c (List.mem_filterMap.2 ⟨p,hp,hk⟩) rfl
end Go.Ab

namespace Go.Ab
structure Arc where
 s:Nat
 t:Nat
 w:Nat
deriving Inhabited
def cC(a:Arc):List Value:=[.int .i64 a.s,.int .i64 a.t,.int .i64 a.w]
theorem d6(a:Arc):(cC a).length=3:=rfl
structure Gra where
 nodes:Nat
 X:List Int
 Y:List Int
 arcs:List Arc
structure Good(g:Gra):Prop where
 n1:1<=g.nodes
 n2:g.nodes<=12
 lX:g.X.length=g.nodes
 lY:g.Y.length=g.nodes
 cX: ∀x∈g.X,-2147483648<=x/\x<=2147483647
 cY: ∀x∈g.Y,-2147483648<=x/\x<=2147483647
 many:g.arcs.length<=100
 arcs: ∀a∈g.arcs,a.s<g.nodes/\a.t<g.nodes/\a.w<=2147483647
structure cm(h:Hp)(vx vy va:Value)(g:Gra):Prop where
 X:ay h 1 (encI .i64) vx g.X
 Y:ay h 1 (encI .i64) vy g.Y
 A:ay h 3 cC va g.arcs
theorem cm.gr{h h':Hp}{vx vy va:Value}{g:Gra}(a:cm h vx vy va g)(r:Gr h h'):cm h' vx vy va g:=⟨a.X.gr r,a.Y.gr r,a.A.gr r⟩
def gf(g:Gra)(vx vy va:Value):Value:=.agg ⟨[.int .i64 g.nodes,vx,vy,va]⟩
structure Pl where
 i:Int
 f:Int
 c:Int
 n:Int
 lo:Int
 hi:Int
def im(p:Pl):List Value:=[.int .i64 p.i,.int .i64 p.f,.int .i64 p.c,.int .i64 p.n,.int .i64 p.lo,.int .i64 p.hi]
theorem encP_len(p:Pl):(im p).length=6:=rfl
end Go.Ab

/- A deterministic evaluator of the model's code, and that the model follows it (part 6). -/
import Derived.Test.YtdpmdpbhjgaocaaGreatDoorAbE
open And renaming intro->xW
open List renaming mem_of_getElem?->xX,length_append->xZ,length_nil->ya,ext_getElem?->yb,length_cons->yd,getElem?_eq_none->yi,filterMap_cons->yj,flatMap_cons->ym,getElem?_set->yn,nodup_append->yo,take_length->yp,filterMap_cons_some->yr,append_nil->yu,drop_zero->yw
open Nat renaming ble_eq_true_of_le->xY,le_of_ble_eq_true->yc,eq_of_mul_eq_mul_right->ye,succ_mul->yf,beq_refl->yg,ble->yh,lt_of_lt_of_le->yk,le_trans->yq,le_mul_of_pos_right->yt,le_refl->yv,beq->yx,mul_le_mul_right->yy,add_mul->yz
open Int renaming natCast_nonneg->yl
set_option maxHeartbeats 400000
set_option linter.defProp false
set_option linter.unusedVariables false
set_option linter.unusedSimpArgs false
namespace Go.Ab

theorem load_len{h:Hp}{b o n:Nat}{l:List Value}(e:h.load b o n=some l):l.length=n:=by
 unfold Hp.load at e
 split at e
 next t sz el md hg=>
  cases hb:yh (o+n) sz with
  |false=>rw [hb]at e;cases e
  |true=>rw [hb]at e;exact(Tr.slice_spec e).1
 next=>cases e
theorem kB{h:Hp}{b o n:Nat}{l:List Value}(e:h.load b o n=some l){i m:Nat}(hi:i+m<=n):h.load b (o+i) m=some ((l.drop i).take m):=by
 unfold Hp.load at e⊢
 split at e
 next t sz el md hg=>
  cases hb:yh (o+n) sz with
  |false=>rw [hb]at e;cases e
  | true=>
    rw [hb]at e
    have hle:=yc hb
    rw [xY (by omega:o+i+m<=sz)]
    simp only [cond_true]at e⊢
    obtain⟨h1,h2⟩:=Tr.slice_spec e
    obtain⟨l',h3⟩:=Tr.slice_mk (t:=t) (i:=o+i) (n:=m) (fun k hk=>by
     have:=h2 (i+k) (by omega)
     rw [show o+i+k=o+(i+k) by omega,this]
     rw [List.getElem?_eq_getElem (by omega)];rfl)
    rw [h3]
    obtain⟨h4,h5⟩:=Tr.slice_spec h3
    congr 1
    refine yb fun k=>?_
    rw [List.getElem?_take]
    split
    . rename_i hk
      rw [<-h5 k hk,List.getElem?_drop,<-h2 (i+k) (by omega)]
      congr 1
      omega
    . exact yi (by omega)
 next=>cases e
theorem load_join{h:Hp}{b o n:Nat}{f:Nat->Value}(h0: ∃l,h.load b o 0=some l)(e: ∀i,i<n->h.load b (o+i) 1=some [f i]):h.load b o n=some ((List.range n).map f):=by
 unfold Hp.load at h0 e⊢
 cases hg:h.get b with
 |none=>rw [hg]at h0;obtain⟨l,h0⟩:=h0;cases h0
 |some blk=>
 cases blk with
 |dead=>rw [hg]at h0;obtain⟨l,h0⟩:=h0;cases h0
 |map=>rw [hg]at h0;obtain⟨l,h0⟩:=h0;cases h0
 |loop=>rw [hg]at h0;obtain⟨l,h0⟩:=h0;cases h0
 |dfr=>rw [hg]at h0;obtain⟨l,h0⟩:=h0;cases h0
 | cells t sz el md=>
   rw [hg]at h0
   simp only [hg]at e
   simp only []at h0
   have hle:o+n<=sz:=by
    cases n with
    | zero=>
      obtain⟨l,h0⟩:=h0
      cases hb:yh (o+0) sz with
      |false=>rw [hb]at h0;cases h0
      |true=>exact yc hb
    | succ n=>
      have:=e n (by omega)
      cases hb:yh (o+n+1) sz with
      |false=>rw [hb]at this;cases this
      |true=>have:=yc hb;omega
   have hget: ∀i,i<n->t.get (o+i)=some (f i):=by
    intro i hi
    have:=e i hi
    rw [xY (by omega:o+i+1<=sz)]at this
    have:=(Tr.slice_spec this).2 0 (by omega)
    simpa using this
   simp only []
   rw [xY hle]
   simp only [cond_true]
   obtain⟨l,hl⟩:=Tr.slice_mk (t:=t) (i:=o) (n:=n) (fun k hk=>by rw [hget k hk];rfl)
   rw [hl]
   obtain⟨h4,h5⟩:=Tr.slice_spec hl
   congr 1
   refine yb fun k=>?_
   rw [List.getElem?_map]
   rcases Nat.lt_or_ge k n with hk|hk
   . rw [<-h5 k hk,hget k hk,List.getElem?_range hk];rfl
   . rw [yi (by omega),yi (by simpa using hk)];rfl

section
variable{α:Type}
theorem bj{k:Nat}{enc:α->List Value}(he: ∀x,(enc x).length=k)(xs:List α):(xs.flatMap enc).length=xs.length*k:=by
 induction xs with
 |nil=>simp
 |cons x xs ih=>rw [ym,xZ,he,ih,yd,yf];omega
theorem xm{k:Nat}{enc:α->List Value}(he: ∀x,(enc x).length=k)(xs:List α){i:Nat}(hi:i<xs.length):((xs.flatMap enc).drop (i*k)).take k=enc xs[i]:=by
 induction xs generalizing i with
 |nil=>simp at hi
 | cons x xs ih=>
   cases i with
   |zero=>simp [ym,<-he x]
   | succ i=>
     rw [ym,yf,Nat.add_comm,<-List.drop_drop]
     rw [show List.drop k (enc x++List.flatMap enc xs)=List.flatMap enc xs by rw [<-he x];exact List.drop_left]
     simpa using ih (i:=i) (by simpa using hi)
def aA(h:Hp)(k:Nat)(enc:α->List Value)(v:Value)(xs:List α):Prop:=
 (v=.slice none 0 0/\xs=[])\/ ∃b o s c,v=.slice (some ⟨b,o,s⟩) xs.length c/\xs.length<=c/\h.load b o (xs.length*k)=some (xs.flatMap enc)
variable{h:Hp}{k:Nat}{enc:α->List Value}{v:Value}{xs:List α}
theorem aA.gr{h':Hp}(g:Gr h h')(s:aA h k enc v xs):aA h' k enc v xs:=by
 rcases s with s|⟨b,o,s,c,h1,h2,h3⟩
 . exact .inl s
 . exact .inr ⟨b,o,s,c,h1,h2,g.load h3⟩
def av:Value->Nat->Prop
 | .slice (some a) _ _,b=>a.block=b
 | .pointer (some a),b=>a.block=b
 |_,_=>False
theorem aA.mo{M:Nat->Prop}{h':Hp}(g:Mo M h h')(s:aA h k enc v xs)(hm: ∀b,av v b-> ¬M b):aA h' k enc v xs:=by
 rcases s with s|⟨b,o,s,c,h1,h2,h3⟩
 . exact .inl s
 . refine .inr ⟨b,o,s,c,h1,h2,?_⟩
   have:=g.get b (bg g.ok0 h3) (hm b (by rw [h1];rfl))
   unfold Hp.load at h3⊢
   rw [this];exact h3
theorem aA.lt(ok:h.t.Sized h.n)(s:aA h k enc v xs){b:Nat}(hb:av v b):b<h.n:=by
 rcases s with⟨rfl,_⟩|⟨b',o,s,c,rfl,h2,h3⟩
 . exact hb.elim
 . have:b'=b:=hb
   subst this
   exact bg ok h3
theorem aA.len{E:Env}{t e:TypeId}(s:aA h k enc v xs)(hu:E.und t=some (.slice e)):lh E t v=some (.int .i64 xs.length):=by
 rcases s with⟨rfl,rfl⟩|⟨b,o,s,c,rfl,h2,h3⟩<;>simp [lh,hu]
theorem aA.idx(s:aA h k enc v xs)(he: ∀x,(enc x).length=k){i:Nat}(hi:i<xs.length): ∃b o s' c,v=.slice (some ⟨b,o,s'⟩) xs.length c/\h.load b (o+i*k) k=some (enc xs[i]):=by
 rcases s with⟨rfl,rfl⟩|⟨b,o,s,c,rfl,h2,h3⟩
 . simp at hi
 . refine⟨b,o,s,c,rfl,?_⟩
   have:i*k+k<=xs.length*k:=by rw [<-yf];exact yy _ hi
   rw [kB h3 this,xm he xs hi]
theorem aA.at{E:Env}{t e:TypeId}{kd:IntKind}(s:aA h k enc v xs)(he: ∀x,(enc x).length=k)(hu:E.und t=some (.slice e))(hs:E.sz e=some k){i:Nat}(hi:i<xs.length):
 ∃b o,dE E t v (.int kd i)=some (.pointer (some ⟨b,o,none⟩))/\h.load b o k=some (enc xs[i]):=by
 obtain⟨b,o,s',c,rfl,hl⟩:=s.idx he hi
 refine⟨b,o+i*k,?_,hl⟩
 rw [ia_slice hu hs,iN hi]
 rfl
theorem aA.src(s:aA h k enc v xs):aO h k v=some (xs.length,xs.flatMap enc):=by
 rcases s with⟨rfl,rfl⟩|⟨b,o,s,c,rfl,h2,h3⟩
 . rfl
 . cases c with
   | zero=>
     have:xs.length=0:=by omega
     have hx:xs=[]:=List.length_eq_zero_iff.1 this
     subst hx
     simp only [aO,ya]at h3⊢
     rw [h3]
   | succ c=>
     simp only [aO]
     rw [h3]
theorem eQ.sl{vs:List Value}(g:eQ h (v,k,vs))(hv:vs=xs.flatMap enc)(he: ∀x,(enc x).length=k)(hk:0<k):aA h k enc v xs:=by
 rcases g with⟨h1,h2⟩|⟨b,n,h1,h2,h3⟩
 . simp only []at h1 h2
   refine .inl ⟨h1,?_⟩
   rw [h2]at hv
   have:=bj he xs
   rw [<-hv]at this
   cases xs with
   |nil=>rfl
   | cons x xs=>
     simp only [ya,yd,yf]at this
     omega
 . simp only []at h1 h2 h3
   have hn:n=xs.length:=by
    rw [hv,bj he]at h2
    exact ye hk h2
   subst hn
   refine .inr ⟨b,0,some k,xs.length,h1,yv _,?_⟩
   rw [h3.load (by omega),h2,yw,yp,hv]
theorem eQ.len{E:Env}{t e:TypeId}{vs:List Value}(g:eQ h (v,k,vs))(hk:0<k)(hu:E.und t=some (.slice e)){n:Nat}(hn:n*k=vs.length):lh E t v=some (.int .i64 n):=by
 rcases g with⟨h1,h2⟩|⟨b,m,h1,h2,h3⟩
 . simp only []at h1 h2
   subst h1 h2
   have:n=0:=by
    cases n with
    |zero=>rfl
    |succ n=>simp only [ya,yf]at hn;omega
   subst this
   simp [lh,hu]
 . simp only []at h1 h2
   subst h1
   have:m=n:=ye hk (h2.trans hn.symm)
   subst this
   simp [lh,hu]
end
def encI(kd:IntKind)(x:Int):List Value:=[.int kd x]
def encB(x:Bool):List Value:=[.bool x]
theorem dJ(kd:IntKind)(x:Int):(encI kd x).length=1:=rfl
theorem encB_len(x:Bool):(encB x).length=1:=rfl

def agg1:Option (List Value)->Option Value
 |some l=>some (.agg ⟨l⟩)
 |none=>none
theorem agg1_some{l:List Value}:agg1 (some l)=some (.agg ⟨l⟩):=rfl
theorem loadV_agg{E:Env}{h:Hp}{t:TypeId}{b o n:Nat}{s:Option Nat}(ht:E.agg t=some true)(hs:E.sz t=some n):dP E h t (.pointer (some ⟨b,o,s⟩))=agg1 (h.load b o n):=by
 simp only [dP,ht,hs]
 cases h.load b o n<;>rfl

def isIface(E:Env)(t:TypeId):Bool:=match E.und t with
 |some (.interface _)=>true
 |_=>false
def fS(E:Env)(t:TypeId):Bool:=match E.und t with
 |some (.pointer _)=>true
 |_=>false
def aQ(E:Env)(t:TypeId):Bool:=match E.und t with
 |some (.struct _)=>true
 |some (.int _)=>true
 |some (.pointer _)=>true
 |_=>false
section
variable{E:Env}{t:TypeId}{x y:Operand}
theorem ml(hu:isIface E t=true): ∃a,E.und t=some (.interface a):=by
 unfold isIface at hu;split at hu<;>first|exact⟨_, ‹_›⟩|cases hu
theorem pD(hu:fS E t=true): ∃a,E.und t=some (.pointer a):=by
 unfold fS at hu;split at hu<;>first|exact⟨_, ‹_›⟩|cases hu
theorem n_iface(hu:isIface E t=true){u:TypeId}{v:Value}:bD E .neq t x y (.iface u v) .nilIface=some (.bool true):=by
 obtain⟨a,ha⟩:=ml hu
 simp [bD,eC,ez,ha]
theorem n_nil(hu:isIface E t=true){v:Value}:bD E .neq t x (.const v) .nilIface .nilIface=some (.bool false):=by
 obtain⟨a,ha⟩:=ml hu
 cases x<;>simp [bD,eC,ez,ha]
theorem e_iface(hu:isIface E t=true){u:TypeId}{v:Value}:bD E .eql t x y (.iface u v) .nilIface=some (.bool false):=by
 obtain⟨a,ha⟩:=ml hu
 simp [bD,eC,ez,ha]
theorem e_nil(hu:isIface E t=true){v:Value}:bD E .eql t x (.const v) .nilIface .nilIface=some (.bool true):=by
 obtain⟨a,ha⟩:=ml hu
 cases x<;>simp [bD,eC,ez,ha]
theorem n_ptr(hu:fS E t=true){a:Addr}:bD E .neq t x y (.pointer (some a)) (.pointer none)=some (.bool true):=by
 obtain⟨e,ha⟩:=pD hu
 simp [bD,eC,ez,ha]
theorem e_ptr(hu:fS E t=true){a:Addr}:bD E .eql t x y (.pointer (some a)) (.pointer none)=some (.bool false):=by
 obtain⟨e,ha⟩:=pD hu
 simp [bD,eC,ez,ha]
theorem n_pnil(hu:fS E t=true):bD E .neq t x y (.pointer none) (.pointer none)=some (.bool false):=by
 obtain⟨e,ha⟩:=pD hu
 simp [bD,eC,ez,ha]
theorem e_pnil(hu:fS E t=true):bD E .eql t x y (.pointer none) (.pointer none)=some (.bool true):=by
 obtain⟨e,ha⟩:=pD hu
 simp [bD,eC,ez,ha]
theorem pV(hu:aQ E t=true): ∃d,E.und t=some d/\ ∀a,d≠ .interface a:=by
 unfold aQ at hu
 split at hu<;>first|exact⟨_, ‹_›,by intro a e;cases e⟩|cases hu
theorem assert_is(hu:aQ E t=true){v:Value}:lP E (.iface t v) t true=some (.tuple #[v,.bool true]):=by
 obtain⟨d,h1,h2⟩:=pV hu
 unfold lP
 rw [h1]
 cases d<;>first|exact absurd rfl (h2 _)|simp [pg]
theorem mk_iface(hu:aQ E t=true){v:Value}:(match E.und t with|none=>none|some (.interface _)=>none|some _=>some (Value.iface t v))=some (.iface t v):=by
 obtain⟨d,h1,h2⟩:=pV hu
 rw [h1]
 cases d<;>first|exact absurd rfl (h2 _)|rfl
end

theorem o_recover{E:Env}{ρ:Operand->Value}{h:Hp}{as:Array Operand}{ts:Array TypeId}:aop E ρ h (.call ⟨.builtin .recover,as,ts⟩)=some (.recov,h):=rfl
theorem o_deferR{E:Env}{ρ:Operand->Value}{h:Hp}{f:Operand}{as:Array Operand}{ts:Array TypeId}:aop E ρ h (.defer ⟨.value f,as,ts⟩)=match ρ f with
 | .func (.func g) a b=>some (.defer {target:=.fn (.func g) b,args:=⟨a.toList++as.toList.map ρ⟩},h)
 |_=>none:=rfl
def panR(h:Hp):Value->Option (cR×Hp)
 | .iface t v=>some (.panic (.iface t v),h)
 |_=>none
theorem o_panicR{E:Env}{ρ:Operand->Value}{h:Hp}{x:Operand}:aop E ρ h (.panic x)=panR h (ρ x):=by
 simp only [aop,panR];cases ρ x<;>rfl
theorem xg{h:Hp}{t:TypeId}{v:Value}:panR h (.iface t v)=some (.panic (.iface t v),h):=rfl
section
variable{E:Env}{cx:Cx}{o:Oper}{K:Ex->Loc->Hp->Prop}{h:Hp}{n:Nat}{ρ:Nat->Value}{d:List Deferred}
theorem rD{v:Value}:eh E cx o (LL n ρ d (some (v,false))) K (some (.recov,h))↔cx.round=none/\K .normal ((LL n ρ d (some (v,true))).put o.dst v) h:=Iff.rfl
theorem qI:eh E cx o (LL n ρ d none) K (some (.recov,h))↔cx.round=none/\K .normal ((LL n ρ d none).put o.dst .nilIface) h:=Iff.rfl
theorem step_defer{rc:Option (Value×Bool)}{x:Deferred}:eh E cx o (LL n ρ d rc) K (some (.defer x,h))↔cx.round=none/\K .normal ((LL n ρ (x::d) rc).put o.dst (.tuple #[])) h:=Iff.rfl
theorem rK{l:Loc}{b:Nat}{args:List Value}{P:Out->Hp->Prop}(hr:jt E b args h P)(hk: ∀x h',P x h'->match x with
 | .ret v=>K .normal (l.put o.dst v) h'
 | .pan v=>K (.pan v) l h'):eh E cx o l K (some (.yield b args,h)):=by
 obtain⟨x,h',a,b⟩:=hr
 exact⟨x,h',a,hk x h' b⟩
end
theorem uJ{b:Nat}{args:List Value}:target (.func (.yield b) #[] #[]) args=some (.yield b args):=rfl
def UnQ(E:Env)(ds:List Deferred)(m:Option Value)(h:Hp)(Q:Option Value->Hp->Prop):Prop:= ∃m' h',bH (lim E) ds m h=some (m',h')/\Q m' h'
section
variable{E:Env}{rs:List ResultVar}{Q:Out->Option (Value×Bool)->Hp->Prop}{n:Nat}{ρ:Nat->Value}{d:List Deferred}{rc:Option (Value×Bool)}{h:Hp}
theorem eJ(hu:UnQ E d none h fun m h'=>m=none/\ ∃vs,aR E (tab n ρ) h' rs=some vs/\Q (.ret (ab vs)) rc h'):lI E rs Q .ret (LL n ρ d rc) h:=by
 obtain⟨m,h',h1,rfl,h2⟩:=hu
 exact⟨h',h1,h2⟩
theorem dv(hu:UnQ E d none h fun m h'=>m=none/\ ∃vs,aR E (tab n ρ) h' rs=some vs/\Q (.ret (ab vs)) rc h'):lI E rs Q .normal (LL n ρ d rc) h:=eJ hu
theorem iO{v:Value}(hu:UnQ E d (some v) h fun m h'=>match m with
 |some v=>Q (.pan v) rc h'
 |none=> ∃vs,aR E (tab n ρ) h' rs=some vs/\Q (.ret (ab vs)) rc h'):lI E rs Q (.pan v) (LL n ρ d rc) h:=by
 obtain⟨m,h',h1,h2⟩:=hu
 exact⟨m,h',h1,h2⟩
theorem dy{m:Option Value}{P:Option Value->Hp->Prop}(hp:P m h):UnQ E [] m h P:=⟨m,h,rfl,hp⟩
theorem un_dfr{b:Nat}{ds:List Deferred}{m:Option Value}{P:Option Value->Hp->Prop}(hb:h.get b=some .dfr)(hu:UnQ E ds m (h.put b .dead) P):UnQ E (nV b::ds) m h P:=by
 obtain⟨m',h',h1,h2⟩:=hu
 refine⟨m',h',?_,h2⟩
 simp only [bH,nV,hb]
 exact h1
theorem un_fn{f:FuncId}{cap args:Array Value}{ds:List Deferred}{P:Option Value->Hp->Prop}(hc:eN E f (args.toList++cap.toList) none h fun o rc h'=>(∃v,o=.ret v)/\rc=none/\UnQ E ds none h' P):UnQ E ({target:=.fn (.func f) cap,args}::ds) none h P:=by
 obtain⟨o,rc',h1,h2,⟨v,rfl⟩,rfl,m',h',h3,h4⟩:=hc
 refine⟨m',h',?_,h4⟩
 simp only [bH,h2]
 exact h3
theorem iw{vs:List Value}(hv:aR E (tab n ρ) h rs=some vs)(hq:Q (.ret (ab vs)) rc h):lI E rs Q .ret (LL n ρ [] rc) h:=eJ (dy ⟨rfl,vs,hv,hq⟩)
end
end Go.Ab

namespace Go.Ab
section
variable{M:Nat->Prop}{h0 h:Hp}{L:List (Nat×Ob)}{G:List GL}{E:Env}
theorem bL{t e:TypeId}{by_ k n:Nat}{zs cs:List Value}{parts:List (Nat×Value)}(hu:E.und t=some (.slice e))(he:dN E e by_ k zs)(hn:n*k<=16777216)
 (hf:gK (fun i=>some (i*k,k)) (aU zs n) parts=some cs):mF h (fun h=>cv (iz E h t n parts)) (fun b=>.slice (some ⟨b,0,none⟩) n n) (.row cs 1):=by
 obtain⟨⟨i,hi,rfl,rfl⟩,hz,hl⟩:=he
 have hs:E.sz e=some i.size:=by unfold Env.sz;rw [hi]
 refine⟨.cells (Tr.ofList cs) cs.length e 1,fun x=>?_,fun ok=>lU ok _ _ _⟩
 simp only [iz,hu,hs,xY hn,hz,hl,yg,hf,cond_true]
 rfl
theorem St.clone(S:St M h0 h L G){t tx e:TypeId}{by_ k m n md:Nat}{zs new vs:List Value}{b:Nat}{x:Value}(hu:E.und t=some (.slice e))(he:dN E e by_ k zs)(hb:0<by_)
 (hx:ax E tx=some false) (hsrc:aO h k x=some (m,new)) (hm:m*k=new.length) (hn:n*k=vs.length) (hk:0<k) (hsz:(vs.length+new.length)*(by_+1)<=70368744177664) {ts:List TypeId}
 (hl:Row h b vs md):
 ∃ h' v',c9 E h (t::tx::ts) (.slice (some ⟨b,0,none⟩) n n) x=some (h',v')/\
   ((m=0/\h'=h/\v'=.slice (some ⟨b,0,none⟩) n n)\/ ∃b',v'=.slice (some ⟨b',0,some k⟩) (n+m) (n+m)/\St M h0 h' ((b',.row (vs++new) 1)::L) G):=by
 obtain⟨⟨i,hi,rfl,rfl⟩,hz,hl2⟩:=he
 have hst:c9 E h (t::tx::ts) (.slice (some ⟨b,0,none⟩) n n) x=ey E h e i (some ⟨b,0,none⟩) n n m new:=by
  simp only [c9,hx,jf,hu,hi,hsrc]
 rw [hst]
 by_cases h1:m=0
 . subst h1
   have:new=[]:=by
    cases new with
    |nil=>rfl
    |cons a l=>simp at hm
   subst this
   refine⟨h,_,?_,.inl ⟨rfl,rfl,rfl⟩⟩
   unfold ey
   rw [xY (by omega:n+0<=n)]
   rfl
 . have hcap:yh (n+m) n=false:=by
    cases hx:yh (n+m) n with
    |false=>rfl
    |true=>exact absurd (yc hx) (by omega)
   have hmul:n+m<=vs.length+new.length:=by
    rw [<-hn,<-hm]
    have h1:=yt n hk
    have h2:=yt m hk
    omega
   have hguard:(yh ((n+m)*(i.bytes+1)) 70368744177664&&Nat.blt 0 i.bytes)=true:=by
    rw [xY (yq (yy _ hmul) hsz)]
    simp only [Bool.true_and]
    rw [Nat.blt_eq];exact hb
   have hzl:yx zs.length i.size=true:=by rw [hl2];exact yg _
   have hstart:ey E h e i (some ⟨b,0,none⟩) n n m new=lz h e i.size (some ⟨b,0,none⟩) n m new:=by
    unfold ey
    rw [hcap]
    simp only [cond_false]
    rw [hguard,hz]
    simp only [cond_true,hzl]
   rw [hstart]
   obtain⟨tr,el,hget,hsz',htr⟩:=hl
   have hgt:jv tr vs.length 0 (n*i.size) new=some (tr.pushAll vs.length new,vs.length+new.length):=by
    unfold jv
    rw [hn,yg vs.length]
    rfl
   refine⟨h.new (.cells (tr.pushAll vs.length new) (vs.length+new.length) e 1),.slice (some ⟨h.n,0,some i.size⟩) (n+m) (n+m),?_,.inr ⟨h.n,rfl,?_⟩⟩
   . unfold lz
     simp only [hget,hgt]
   . refine S.new ⟨tr.pushAll vs.length new,e,?_,?_,fun j=>?_⟩
     . rw [h.get_new _ S.ok,if_pos rfl,xZ]
     . rw [xZ];exact Tr.sized_pushAll _ hsz'
     . rw [Tr.get_pushAll _ _ _ hsz',List.getElem?_append]
       split
       . exact htr j
       . rfl
theorem St.cloneSl{α:Type}{enc:α->List Value}{xs ys:List α}(S:St M h0 h L G){t tx e:TypeId}{by_ k md:Nat}{zs:List Value}{b:Nat}{x:Value}(hu:E.und t=some (.slice e))(he:dN E e by_ k zs)(hb:0<by_)
 (hx:ax E tx=some false) (hs:aA h k enc x ys) (hen: ∀x,(enc x).length=k) (hk:0<k) (hsz:((xs.length+ys.length)*k)*(by_+1)<=70368744177664) {ts:List TypeId}
 (hl:Row h b (xs.flatMap enc) md):
 ∃h' v',c9 E h (t::tx::ts) (.slice (some ⟨b,0,none⟩) xs.length xs.length) x=some (h',v')/\St M h0 h' L G/\Gr h h'/\aA h' k enc v' (xs++ys)/\(∀c,av v' c->c=b\/h.n<=c):=by
 obtain⟨h',v',h1,h2⟩:=S.clone hu he hb hx hs.src (bj hen ys).symm (bj hen xs).symm hk (by rw [bj hen,bj hen,<-yz];exact hsz) (ts:=ts) hl
 refine⟨h',v',h1,?_⟩
 rcases h2 with⟨hm,rfl,rfl⟩|⟨b',rfl,hS⟩
 . have hy:ys=[]:=List.length_eq_zero_iff.1 hm
   subst hy
   refine⟨S,Gr.refl S.ok,.inr ⟨b,0,none,xs.length,by simp,by simp,?_⟩,fun c hc=>.inl (Eq.symm hc)⟩
   rw [yu,hl.load (by rw [bj hen];omega),yw,<-bj hen xs,yp]
 . have S':St M h0 h' L G:=⟨hS.fr,fun p hp=>hS.own p (List.mem_cons_of_mem _ hp),hS.gown,(List.nodup_cons.1 hS.apart).2⟩
   have hrow:Row h' b' (xs.flatMap enc++ys.flatMap enc) 1:=hS.row m0
   have T:=(St.init (M:=NoM) S.ok).clone hu he hb hx hs.src (bj hen ys).symm (bj hen xs).symm hk (by rw [bj hen,bj hen,<-yz];exact hsz) (ts:=ts) hl
   obtain⟨h2',v2',k1,k2⟩:=T
   rw [h1]at k1
   cases k1
   rcases k2 with⟨hm,_,he⟩|⟨b2,e2,hT⟩
   . exact absurd he (by intro e;cases e)
   . cases e2
     refine⟨S',hT.gr,.inr ⟨b',0,some k,xs.length+ys.length,by rw [xZ],by rw [xZ];exact yv _,?_⟩,fun c hc=>?_⟩
     . rw [hrow.load (by rw [xZ,xZ,bj hen,bj hen,yz];omega),yw,<-List.flatMap_append,<-bj hen (xs++ys),yp]
     . right
       have:b'=c:=hc
       subst this
       rcases(hT.own _ m0).1 with h|h
       . exact h
       . exact h.elim
end
end Go.Ab

namespace Go.Ab
section
variable{E:Env}{t e:TypeId}{h:Hp}{x y:Operand}
noncomputable def lenR(E:Env)(h:Hp)(t:TypeId)(x:Value):Option (cR×Hp):=lenK (match x with
 | .map (some r)=>match h.get r with
   |some (.map es _)=>match E.und t with
    |some (.map _ _)=>some (.val (.int .i64 (.ofNat es.length)),h)
    |_=>none
   |_=>none
 |_=>none) h (lh E t x)
theorem o_lenR{ρ:Operand->Value}{x:Operand}:aop E ρ h (.call ⟨.builtin .len,#[x],#[t]⟩)=lenR E h t (ρ x):=o_lenK
noncomputable def lenQ(d:Option TypeDesc)(h:Hp)(x:Value):Option (cR×Hp):=match d with
 | some .string=>match x with
   | .string s=>some (.val (.int .i64 (.ofNat s.size)),h)
   |_=>none
 |some (.array n _)=>some (.val (.int .i64 (.ofNat n)),h)
 | some (.slice _)=>match x with
   | .slice _ n _=>some (.val (.int .i64 (.ofNat n)),h)
   |_=>none
 | some (.map _ _)=>match x with
   | .map none=>some (.val (.int .i64 0),h)
   | .map (some r)=>match h.get r with
     |some (.map es _)=>some (.val (.int .i64 (.ofNat es.length)),h)
     |_=>none
   |_=>none
 |_=>none
theorem len_q{x:Value}:lenR E h t x=lenQ (E.und t) h x:=by
 unfold lenR lh
 cases hu:E.und t with
 |none=>cases x<;>first|rfl|(rename_i r;cases r<;>first|rfl|(rename_i r;simp only [lenQ,lenK];cases h.get r with|none=>rfl|some b=>cases b<;>rfl))
 | some d=>
   cases d<;>cases x<;>first
    |rfl
    | (rename_i r;cases r<;>first
      |rfl
      |(rename_i r;simp only [lenQ,lenK];cases h.get r with|none=>rfl|some b=>cases b<;>rfl))
theorem xV{a:Option Addr}{n c:Nat}:lenQ (some (.slice e)) h (.slice a n c)=some (.val (.int .i64 n),h):=rfl
theorem lenq_str{s:ByteArray}:lenQ (some .string) h (.string s)=some (.val (.int .i64 s.size),h):=rfl
theorem lenq_arr{n:Nat}{v:Value}:lenQ (some (.array n e)) h v=some (.val (.int .i64 n),h):=rfl
theorem wF{k:TypeId}:lenQ (some (.map k e)) h (.map none)=some (.val (.int .i64 0),h):=rfl
theorem aA.lenq{α:Type}{k:Nat}{enc:α->List Value}{v:Value}{xs:List α}{h h':Hp}(s:aA h' k enc v xs):lenQ (some (.slice e)) h v=some (.val (.int .i64 xs.length),h):=by
 rcases s with⟨rfl,rfl⟩|⟨_,_,_,_,rfl,_⟩<;>rfl
theorem eQ.lenq{v:Value}{k n:Nat}{vs:List Value}{h h':Hp}(g:eQ h' (v,k,vs))(hk:0<k)(hn:n*k=vs.length):lenQ (some (.slice e)) h v=some (.val (.int .i64 n),h):=by
 rcases g with⟨h1,h2⟩|⟨b,m,h1,h2,h3⟩
 . simp only []at h1 h2
   subst h1 h2
   have:n=0:=by
    cases n with
    |zero=>rfl
    |succ n=>simp only [ya,yf]at hn;omega
   subst this
   rfl
 . simp only []at h1 h2
   subst h1
   have:m=n:=ye hk (h2.trans hn.symm)
   subst this
   rfl
def idxS(k:Option Nat)(v i:Value):Option Value:=match k with
 |none=>none
 | some k=>match v with
   | .slice (some a) n _=>match fK i n with
     |none=>none
     |some j=>some (.pointer (some (d5 a (j*k))))
   |_=>none
def idxA(n:Nat)(k:Option Nat)(v i:Value):Option Value:=match k with
 |none=>none
 | some k=>match v with
   | .pointer (some a)=>match fK i n with
     |none=>none
     |some j=>some (.pointer (some (d5 a (j*k))))
   |_=>none
def idxQ(E:Env)(d:Option TypeDesc)(v i:Value):Option Value:=match d with
 |some (.slice e)=>idxS (E.sz e) v i
 |some (.array n e)=>idxA n (E.sz e) v i
 |_=>none
theorem idx_q{v i:Value}:dE E t v i=idxQ E (E.und t) v i:=by
 unfold dE idxQ
 cases hu:E.und t with
 |none=>rfl
 | some d=>
   cases d<;>first
    |rfl
    |(simp only [idxS];cases hs:E.sz _<;>(split<;>first|rfl|(split<;>simp_all)))
    |(simp only [idxA];cases hs:E.sz _<;>(split<;>first|rfl|(split<;>simp_all)))
theorem wP{v i:Value}:idxQ E (some (.slice e)) v i=idxS (E.sz e) v i:=rfl
theorem wR{n:Nat}{v i:Value}:idxQ E (some (.array n e)) v i=idxA n (E.sz e) v i:=rfl
def putI(a:Addr)(k:Nat):Option Nat->Option Value
 |none=>none
 |some j=>some (.pointer (some ⟨a.block,a.off+j*k,none⟩))
theorem nZ{k n c:Nat}{a:Addr}{i:Value}:idxS (some k) (.slice (some a) n c) i=putI a k (fK i n):=by
 simp only [idxS,putI,d5]
theorem idxa_ptr{k n:Nat}{a:Addr}{i:Value}:idxA n (some k) (.pointer (some a)) i=putI a k (fK i n):=by
 simp only [idxA,putI,d5]
theorem putI_some{a:Addr}{k j:Nat}:putI a k (some j)=some (.pointer (some ⟨a.block,a.off+j*k,none⟩)):=rfl
theorem aA.ix{α:Type}{k:Nat}{enc:α->List Value}{v:Value}{xs:List α}{kd:IntKind}(s:aA h k enc v xs)(he: ∀x,(enc x).length=k){i:Nat}(hi:i<xs.length):
 ∃b o,idxS (some k) v (.int kd i)=some (.pointer (some ⟨b,o,none⟩))/\h.load b o k=some (enc xs[i]):=by
 obtain⟨b,o,s',c,rfl,hl⟩:=s.idx he hi
 refine⟨b,o+i*k,?_,hl⟩
 rw [nZ,iN hi]
 rfl
noncomputable def loadQ(g:Option Bool)(n:Option Nat)(h:Hp)(b o:Nat):Option Value:=match g with
 | some true=>match n with
   |some n=>agg1 (h.load b o n)
   |none=>none
 |some false=>one1 (h.load b o 1)
 |none=>none
theorem load_q{b o:Nat}{s:Option Nat}:dP E h t (.pointer (some ⟨b,o,s⟩))=loadQ (E.agg t) (E.sz t) h b o:=by
 cases ha:E.agg t with
 |none=>simp [dP,loadQ,ha]
 | some g=>
   cases g with
   |false=>exact xB ha
   | true=>
     cases hs:E.sz t with
     |none=>simp [dP,loadQ,ha,hs]
     |some n=>exact loadV_agg ha hs
theorem loadq_f{b o:Nat}{n:Option Nat}:loadQ (some false) n h b o=one1 (h.load b o 1):=rfl
theorem loadq_t{b o n:Nat}:loadQ (some true) (some n) h b o=agg1 (h.load b o n):=rfl
def jn(E:Env)(t:TypeId):Bool:=match E.und t with
 |some (.slice _)=>true
 |_=>false
theorem sl_und(hu:jn E t=true): ∃a,E.und t=some (.slice a):=by
 unfold jn at hu;split at hu<;>first|exact⟨_, ‹_›⟩|cases hu
theorem e_slice{a:Addr}{n c:Nat}(hu:jn E t=true):bD E .eql t x y (.slice (some a) n c) (.slice none 0 0)=some (.bool false):=by
 obtain⟨e,hu⟩:=sl_und hu
 simp [bD,eC,ez,hu]
theorem e_snil(hu:jn E t=true):bD E .eql t x y (.slice none 0 0) (.slice none 0 0)=some (.bool true):=by
 obtain⟨e,hu⟩:=sl_und hu
 simp [bD,eC,ez,hu]

def Fl(v:Value):Prop:=ag v=[v]/\iK v=true/\ ∀x,v≠ .chan x
theorem bw{k:IntKind}{n:Int}:Fl (.int k n):=⟨rfl,rfl,nofun⟩
theorem mU{b:Bool}:Fl (.bool b):=⟨rfl,rfl,nofun⟩
theorem fl_str{b:ByteArray}:Fl (.string b):=⟨rfl,rfl,nofun⟩
theorem fb{a:Option Addr}:Fl (.pointer a):=⟨rfl,rfl,nofun⟩
theorem aW{a:Option Addr}{n c:Nat}:Fl (.slice a n c):=⟨rfl,rfl,nofun⟩
theorem fl_map{a:Option Nat}:Fl (.map a):=⟨rfl,rfl,nofun⟩
theorem ja{f:Fn}{a b:Array Value}:Fl (.func f a b):=⟨rfl,rfl,nofun⟩
theorem fl_nilf:Fl .nilFunc:=⟨rfl,rfl,nofun⟩
theorem fl_nili:Fl .nilIface:=⟨rfl,rfl,nofun⟩
theorem fl_iface{t:TypeId}{v:Value}:Fl (.iface t v):=⟨rfl,rfl,nofun⟩
theorem aA.fl{α:Type}{k:Nat}{enc:α->List Value}{v:Value}{xs:List α}(s:aA h k enc v xs):Fl v:=by
 rcases s with⟨rfl,_⟩|⟨_,_,_,_,rfl,_⟩<;>exact aW
theorem eQ.fl{p:GL}(g:eQ h p):Fl p.1:=by
 rcases g with⟨e,_⟩|⟨_,_,e,_⟩<;>rw [e]<;>exact aW
def placesOf(E:Env)(t:TypeId):Option (List (Nat×Nat)):=match E.und t with
 |some (.struct fs)=>ky E fs.toList
 |_=>none
def aggO:Option (List Value)->Option Value
 |some l=>some (.agg ⟨l⟩)
 |none=>none
theorem aggO_some{l:List Value}:aggO (some l)=some (.agg ⟨l⟩):=rfl
def jw(ps:List (Nat×Nat))(l:List Value)(parts:List (Nat×Value)):Option (List Value):=gK (fun i=>ps[i]?) l parts
theorem build_st{zs:List Value}{ps:List (Nat×Nat)}{parts:List (Nat×Value)}(hz:E.zero t=some zs)(hp:placesOf E t=some ps):kW E t parts=aggO (jw ps zs parts):=by
 unfold placesOf at hp
 unfold kW jw
 rw [hz]
 split at hp
 . rename_i fs hu
   simp only [hu,hp]
   cases gK (fun i=>ps[i]?) zs parts<;>rfl
 . cases hp
theorem fill_nil{ps:List (Nat×Nat)}{l:List Value}:jw ps l []=some l:=rfl
def buildQ(z:Option (List Value))(p:Option (List (Nat×Nat)))(parts:List (Nat×Value)):Option Value:=match z with
 |none=>none
 | some z=>match p with
   |none=>none
   |some p=>aggO (jw p z parts)
theorem build_q{parts:List (Nat×Value)}(hz:(placesOf E t).isSome=true):kW E t parts=buildQ (E.zero t) (placesOf E t) parts:=by
 cases hp:placesOf E t with
 |none=>rw [hp]at hz;cases hz
 | some ps=>
   cases h0:E.zero t with
   |none=>simp [kW,buildQ,h0]
   |some z=>exact build_st h0 hp
theorem vZ{zs:List Value}{ps:List (Nat×Nat)}{parts:List (Nat×Value)}:buildQ (some zs) (some ps) parts=aggO (jw ps zs parts):=rfl
def pG(ps:List (Nat×Nat))(l:List Value)(v:Value)(r:List (Nat×Value)):Option (Nat×Nat)->Option (List Value)
 |none=>none
 |some (o,n)=>match v with
  | .chan _=>none
  |v=>bif yx (ag v).length n&&yh (o+n) l.length then jw ps (bI l o (ag v)) r else none
theorem fill_q{ps:List (Nat×Nat)}{l:List Value}{i:Nat}{v:Value}{r:List (Nat×Value)}:jw ps l ((i,v)::r)=pG ps l v r (ps[i]?):=by
 unfold jw
 cases hp:ps[i]? with
 |none=>simp [gK,pG,hp]
 |some q=>obtain⟨o,n⟩:=q;simp only [gK,pG,hp];rfl
theorem fills_one{ps:List (Nat×Nat)}{l:List Value}{o:Nat}{v:Value}{r:List (Nat×Value)}(hv:Fl v)(ho:o<l.length):pG ps l v r (some (o,1))=jw ps (l.set o v) r:=by
 have e:(bif yx (ag v).length 1&&yh (o+1) l.length then jw ps (bI l o (ag v)) r else none)=jw ps (l.set o v) r:=by
  rw [hv.1]
  simp only [yd,ya,Nat.zero_add,yg,xY (show o+1<=l.length from ho),Bool.and_self,cond_true,bI]
 cases v<;>first|exact e|exact absurd rfl (hv.2.2 _)
theorem fills_agg{ps:List (Nat×Nat)}{l c:List Value}{o n:Nat}{r:List (Nat×Value)}(hn:c.length=n)(ho:o+n<=l.length):pG ps l (.agg ⟨c⟩) r (some (o,n))=jw ps (bI l o c) r:=by
 simp only [pG,ag,hn,yg,xY ho,Bool.and_self,cond_true]
theorem setL_nil{l:List Value}{o:Nat}:bI l o []=l:=rfl
theorem setL_cons{l vs:List Value}{o:Nat}{v:Value}:bI l o (v::vs)=bI (l.set o v) (o+1) vs:=rfl
theorem co{v:Value}(hv:Fl v):mF h (fun h=>boxR h t v) ptrTo (.row [v] 1):=by
 have:=bE (h:=h) (t:=t) hv.2.2
 rw [hv.1]at this
 exact this
theorem aB{M:Nat->Prop}{h0:Hp}{L:List (Nat×Ob)}{G:List GL}(S:St M h0 h L G){i b off md:Nat}{s:Option Nat}{l:List Value}{v:Value}(hi:L[i]? =some (b,.row l md))(hs:E.sz t=some 1)(hv:Fl v)
 (ho:off<l.length) (hmd:md≠0): ∃h',gc E h t (.pointer (some ⟨b,off,s⟩)) v=some h'/\St M h0 h' (L.set i (b,.row (l.set off v) md)) G/\Mo (· =b) h h':=by
 have hvc:ag v=[v]:=hv.1
 have:=S.store (v:=v) (t:=t) (s:=s) (off:=off) (n:=1) hi hs hv.2.2 (by rw [hvc];rfl) (by rw [hvc];simp [hv.2.1]) (by omega) hmd
 rw [hvc]at this
 have e:lay l off [v]=l.set off v:=by
  refine yb fun j=>?_
  rw [iH (by simp;omega),yn]
  simp only [yd,ya]
  by_cases hj:off=j
  . subst hj;rw [if_pos ⟨yv _,by omega⟩,if_pos rfl,if_pos ho];simp
  . rw [if_neg (by omega),if_neg hj]
 rw [e]at this
 exact this
end
def ifaceR(E:Env)(t:TypeId)(v:Value):Option Value:=match E.und t with
 |none=>none
 |some (.interface _)=>none
 |some _=>some (.iface t v)
theorem o_ifaceR{E:Env}{ρ:Operand->Value}{h:Hp}{t:TypeId}{x:Operand}:aop E ρ h (.makeInterface t x)=bO h (ifaceR E t (ρ x)):=rfl
theorem ifaceR_is{E:Env}{t:TypeId}{v:Value}(hu:aQ E t=true):ifaceR E t v=some (.iface t v):=mk_iface hu
def nilcR:Value->Option Value
 | .pointer (some a)=>some (.pointer (some a))
 | .func (.func f) a b=>some (.func (.func f) a b)
 |_=>none
theorem o_nilcR{E:Env}{ρ:Operand->Value}{h:Hp}{x:Operand}:aop E ρ h (.nilCheck x)=bO h (nilcR (ρ x)):=rfl
theorem nilcR_ptr{a:Addr}:nilcR (.pointer (some a))=some (.pointer (some a)):=rfl
def pickR(c a b:Value):Option Value:=match c with
 | .bool t=>some (bif t then a else b)
 |_=>none
theorem o_pickR{E:Env}{ρ:Operand->Value}{h:Hp}{c a b:Operand}:aop E ρ h (.pick c a b)=bO h (pickR (ρ c) (ρ a) (ρ b)):=rfl
theorem pick_t{a b:Value}:pickR (.bool true) a b=some a:=rfl
theorem pick_f{a b:Value}:pickR (.bool false) a b=some b:=rfl
def extrR(i:Nat):Value->Option Value
 | .tuple vs=>vs.toList[i]?
 |_=>none
theorem o_extrR{E:Env}{ρ:Operand->Value}{h:Hp}{x:Operand}{i:Nat}:aop E ρ h (.extract x i)=bO h (extrR i (ρ x)):=by
 rw [o_extract];rfl
theorem extr_0{a:Value}{l:List Value}:extrR 0 (.tuple ⟨a::l⟩)=some a:=rfl
theorem extr_1{a b:Value}{l:List Value}:extrR 1 (.tuple ⟨a::b::l⟩)=some b:=rfl
theorem extr_2{a b c:Value}{l:List Value}:extrR 2 (.tuple ⟨a::b::c::l⟩)=some c:=rfl
noncomputable def delR(E:Env)(h:Hp)(t:TypeId)(m k:Value):Option (cR×Hp):=match jX E h t m k with
 |none=>none
 |some h'=>some (.val (.tuple #[]),h')
theorem o_delR{E:Env}{ρ:Operand->Value}{h:Hp}{m k:Operand}{t:TypeId}{ts:List TypeId}:aop E ρ h (.call ⟨.builtin .delete,#[m,k],⟨t::ts⟩⟩)=delR E h t (ρ m) (ρ k):=rfl
theorem aI{a b:Nat}:((a:Int)<(b:Int))=(a<b):=by simp
def BS:=xW (@run_seq)<|xW (@xI)<|xW (@r_ops)<|xW (@g_true)<|xW (@g_false)<|xW (@wK)<|xW (@run_ret)<|xW (@run_nil)<|xW (@run_skip)<|xW (@run_block)<|xW (@run_scope)<|xW (@run_blk)<|xW (@run_exit)<|xW (@vq)<|xW (@tI)<|xW (@tY)<|xW (@xe)<|xW (@wO)<|xW (@r_cond)<|xW (@c_true)<|xW (@c_false)<|xW (@r_opsD)<|xW (@dn_loud)<|xW (@dn_quiet)<|xW (@dn_val)<|xW (@dn_skip)<|xW (@d_skip)<|xW (@jS)<|xW (@aY)<|xW (@bu)<|xW (@uD)<|xW (@guard_no)<|xW (@xk)<|xW (@gj_some)<|xW (@gv_true)<|xW (@gv_false)<|xW (@gv_tuple)<|xW (@o_move)<|xW (@o_assign)<|xW (@o_pickR)<|xW (@pick_t)<|xW (@pick_f)<|xW (@o_load)<|xW (@o_store)<|xW (@o_binOp)<|xW (@o_unOp)<|xW (@o_nilcR)<|xW (@nilcR_ptr)<|xW (@o_ifaceR)<|xW (@xz)<|xW (@o_slice)<|xW (@wE)<|xW (@o_field)<|xW (@vW)<|xW (@o_index)<|xW (@o_extrR)<|xW (@extr_0)<|xW (@extr_1)<|xW (@extr_2)<|xW (@o_build)<|xW (@vu)<|xW (@wH)<|xW (@wX)<|xW (@uA)<|xW (@o_convert)<|xW (@o_lookup)<|xW (@vU)<|xW (@xG)<|xW (@uk)<|xW (@o_allocR)<|xW (@o_boxR)<|xW (@o_callv)<|xW (@o_max)<|xW (@o_min)<|xW (@o_append)<|xW (@o_copy)<|xW (@o_lenR)<|xW (@o_delR)<|xW (@o_recover)<|xW (@o_deferR)<|xW (@o_panicR)<|xW (@xg)<|xW (@xp)<|xW (@xU)<|xW (@xn)<|xW (@tG)<|xW (@rU)<|xW (@rE)<|xW (@rD)<|xW (@qI)<|xW (@step_defer)<|xW (@target_fn)<|xW (@uJ)<|xW (@b_add)<|xW (@b_sub)<|xW (@b_mul)<|xW (@b_eql)<|xW (@b_neq)<|xW (@b_lss)<|xW (@b_leq)<|xW (@b_gtr)<|xW (@b_geq)<|xW (@b_eqlB)<|xW (@b_neqB)<|xW (@same_bool)<|xW (@u_not)<|xW (@mm_max)<|xW (@mm_min)<|xW (@ah)<|xW (@one1_some)<|xW (@agg1_some)<|xW (@cD)<|xW (@ll_put0)<|xW (@bK)<|xW (@ll_func)<|xW (@c_int)<|xW (@c_bool)<|xW (@c_string)<|xW (@c_nilp)<|xW (@c_nils)<|xW (@c_nilm)<|xW (@c_nilf)<|xW (@c_nili)<|xW (@ll_regs)<|xW (@jL)<|xW (@aK)<|xW (@aV)<|xW (@bV)<|xW (@sC)<|xW (@tV)<|xW (@jb)<|xW (@dr)<|xW (@hush_s)<|xW (@idxP_in)<|xW (@iN)<|xW (@idx_q)<|xW (@wP)<|xW (@wR)<|xW (@nZ)<|xW (@idxa_ptr)<|xW (@putI_some)<|xW (@len_q)<|xW (@xV)<|xW (@lenq_str)<|xW (@lenq_arr)<|xW (@wF)<|xW (@load_q)<|xW (@loadq_f)<|xW (@loadq_t)<|xW (@n_iface)<|xW (@n_nil)<|xW (@e_iface)<|xW (@e_nil)<|xW (@n_ptr)<|xW (@e_ptr)<|xW (@n_pnil)<|xW (@e_pnil)<|xW (@e_slice)<|xW (@e_snil)<|xW (@assert_is)<|xW (@ifaceR_is)<|xW (@build_q)<|xW (@vZ)<|xW (@aggO_some)<|xW (@fill_nil)<|xW (@fill_q)<|xW (@fills_one)<|xW (@fills_agg)<|xW (@setL_nil)<|xW (@setL_cons)<|xW (@bw)<|xW (@mU)<|xW (@fl_str)<|xW (@fb)<|xW (@aW)<|xW (@fl_map)<|xW (@ja)<|xW (@fl_nilf)<|xW (@fl_nili)<|(@fl_iface)
end Go.Ab

namespace Go.Ab
structure ItS(h0:Hp)(D:Nat->Prop)(h:Hp)(F:List Nat):Prop where
 ok:h.t.Sized h.n
 n:h0.n<=h.n
 data: ∀b,b<h0.n->D b->h.get b=h0.get b
 apart: ∀b∈F,¬(b<h0.n/\D b)
 lt: ∀b∈F,b<h.n
section
variable{h0 h h':Hp}{D:Nat->Prop}{F F':List Nat}
theorem ItS.gr(s:ItS h0 D h F)(g:Gr h h'):ItS h0 D h' F:=
 ⟨g.ok,yq s.n g.n,fun b hb hd=>(g.get b (yk hb s.n)).trans (s.data b hb hd),s.apart,fun b hb=>yk (s.lt b hb) g.n⟩
theorem ItS.mo(s:ItS h0 D h F)(m:Mo (· ∈F) h h')(hf: ∀b∈F',b∈F\/h.n<=b)(hl: ∀b∈F',b<h'.n):ItS h0 D h' F':=
 ⟨m.ok,yq s.n m.n,fun b hb hd=>(m.get b (yk hb s.n) (fun hf=>s.apart b hf ⟨hb,hd⟩)).trans (s.data b hb hd),
  fun b hb hd=>(hf b hb).elim (fun hb=>s.apart b hb hd) (fun hb=>by have:=s.n;omega),hl⟩
theorem ItS.load(s:ItS h0 D h F){b o n:Nat}{l:List Value}(ok0:h0.t.Sized h0.n)(e:h0.load b o n=some l)(hd:D b):h.load b o n=some l:=by
 have:=s.data b (bg ok0 e) hd
 unfold Hp.load at e⊢
 rw [this];exact e
theorem ItS.sl{α:Type}{k:Nat}{enc:α->List Value}{v:Value}{xs:List α}(s:ItS h0 D h F)(ok0:h0.t.Sized h0.n)(e:aA h0 k enc v xs)(hd: ∀b,av v b->D b):aA h k enc v xs:=by
 rcases e with e|⟨b,o,s',c,h1,h2,h3⟩
 . exact .inl e
 . exact .inr ⟨b,o,s',c,h1,h2,s.load ok0 h3 (hd b (by rw [h1];rfl))⟩
end
structure Yld(E:Env)(lb:Nat)(J:Nat->Hp->List Nat->Prop)(Z:Out->Hp->Prop)(xs:List (List Value)):Prop where
 lt: ∀i h F,J i h F->h.t.Sized h.n/\ ∀b∈F,b<h.n
 gr: ∀i h F h',J i h F->Gr h h'->J i h' F
 zgr: ∀h h',Z (.ret (.bool false)) h->Gr h h'->Z (.ret (.bool false)) h'
 round: ∀i x h F,xs[i]? =some x->J i h F->jt E lb x h fun o h'=>(o=.ret (.bool true)/\ ∃F',J (i+1) h' F'/\Mo (· ∈F) h h'/\ ∀b∈F',b∈F\/h.n<=b)\/(o=.ret (.bool false)/\Z o h'/\h'.t.Sized h'.n)\/((∃v,o=.pan v)/\Z o h')
def YQ(J:Nat->Hp->List Nat->Prop)(Z:Out->Hp->Prop)(n:Nat)(o:Out)(rc:Option (Value×Bool))(h':Hp):Prop:=
 rc=none/\((∃u F',o=.ret u/\J n h' F')\/(∃u,o=.ret u/\Z (.ret (.bool false)) h')\/(∃v,o=.pan v/\Z o h'))
theorem pC{E:Env}{g:FuncId}{pre post:List Value}{h0:Hp}{D:Nat->Prop}{xs:List (List Value)}
 (H: ∀lb J Z,Yld E lb J Z xs-> ∀h F,ItS h0 D h F->J 0 h F->eN E g (pre++[.func (.yield lb) #[] #[]]++post) none h (YQ J Z xs.length)):Iter E g pre post h0 D xs:=by
 intro lb J Z h F ok hn hd hlt hgr hz ha hr hj
 exact H lb J Z ⟨hlt,hgr,hz,hr⟩ h F ⟨ok,hn,hd,ha,(hlt 0 h F hj).2⟩ hj
theorem vv{E:Env}{g:FuncId}{pre post:List Value}{h0:Hp}{D:Nat->Prop}{xs:List (List Value)}(H:Iter E g pre post h0 D xs){lb:Nat}{J:Nat->Hp->List Nat->Prop}{Z:Out->Hp->Prop}(Y:Yld E lb J Z xs)
 {h:Hp} {F:List Nat} (g0:Mo (fun b=> ¬D b) h0 h) (ha: ∀b∈F,b<h0.n-> ¬D b) (hj:J 0 h F):eN E g (pre++[.func (.yield lb) #[] #[]]++post) none h (YQ J Z xs.length):=
 H lb J Z h F g0.ok g0.n (fun b hb hd=>g0.get b hb (fun hn=>hn hd)) Y.lt Y.gr Y.zgr (fun b hb h=>ha b hb h.1 h.2) Y.round hj
theorem eG{E:Env}{cx:Cx}{o:Oper}{l:Loc}{K:Ex->Loc->Hp->Prop}{h0 h:Hp}{D:Nat->Prop}{lb i:Nat}{J:Nat->Hp->List Nat->Prop}{Z:Out->Hp->Prop}{xs:List (List Value)}{x:List Value}{F:List Nat}
 (Y:Yld E lb J Z xs) (s:ItS h0 D h F) (hj:J i h F) (hx:xs[i]? =some x)
 (k1: ∀h' F',J (i+1) h' F'->ItS h0 D h' F'->Mo (· ∈F) h h'->(∀b∈F',b∈F\/h.n<=b)->K .normal (l.put o.dst (.bool true)) h')
 (k2: ∀h',Z (.ret (.bool false)) h'->h'.t.Sized h'.n->K .normal (l.put o.dst (.bool false)) h') (k3: ∀v h',Z (.pan v) h'->K (.pan v) l h'):eh E cx o l K (some (.yield lb x,h)):=by
 refine rK (Y.round i x h F hx hj) ?_
 rintro q h' (⟨rfl,F',a,b,c⟩|⟨rfl,a,b⟩|⟨⟨v,rfl⟩,a⟩)
 . exact k1 h' F' a (s.mo b c (Y.lt _ _ _ a).2) b c
 . exact k2 h' a b
 . exact k3 v h' a

section
variable{M:Nat->Prop}{h0 h h':Hp}{L L':List (Nat×Ob)}{G G':List GL}
theorem St.base(S:St M h0 h L G):St (· ∈keys L G) h h L G:=
 ⟨Mo.refl S.ok,fun p hp=>⟨.inr (ie hp),(S.own p hp).2⟩,fun p hp=>⟨(S.gown p hp).1,fun b hb=>.inr (fi hp hb)⟩,S.apart⟩
theorem St.key_own(S:St M h0 h L G){b:Nat}(hb:b∈keys L G):h0.n<=b\/M b:=by
 unfold keys at hb
 rcases List.mem_append.1 hb with hb|hb
 . obtain⟨p,hp,rfl⟩:=List.mem_map.1 hb
   exact(S.own p hp).1
 . obtain⟨p,hp,hk⟩:=List.mem_filterMap.1 hb
   exact(S.gown p hp).2 b hk
theorem St.rebase(S:St M h0 h L G)(T:St (· ∈keys L G) h h' L' G'):St M h0 h' L' G':=by
 have hk: ∀b,h.n<=b\/b∈keys L G->h0.n<=b\/M b:=fun b hb=>hb.elim (fun hb=>.inl (yq S.fr.n hb)) S.key_own
 exact⟨S.fr.trans T.fr fun b hb=>(S.key_own hb).symm,fun p hp=>⟨hk _ (T.own p hp).1,(T.own p hp).2⟩,fun p hp=>⟨(T.gown p hp).1,fun b hb=>hk b ((T.gown p hp).2 b hb)⟩,T.apart⟩
theorem St.key_new(T:St (· ∈keys L G) h h' L' G'): ∀b∈keys L' G',b∈keys L G\/h.n<=b:=fun _ hb=>(T.key_own hb).symm
theorem St.sub(S:St M h0 h L G)(hl:L'.Sublist L)(hg:G'.Sublist G):St M h0 h L' G':=
 ⟨S.fr,fun p hp=>S.own p (hl.subset hp),fun p hp=>S.gown p (hg.subset hp),S.apart.sublist ((hl.map _).append (hg.filterMap _))⟩
theorem St.drop1{x:Nat×Ob}(S:St M h0 h (x::L) G):St M h0 h L G:=S.sub (List.sublist_cons_self _ _) (List.Sublist.refl _)
end
theorem fg{E:Env}{f:FuncId}{args:List Value}{rc:Option (Value×Bool)}{h:Hp}{P Q:Out->Option (Value×Bool)->Hp->Prop}(hc:eN E f args rc h P)(hk: ∀o rc' h',P o rc' h'->Q o rc' h'):eN E f args rc h Q:=by
 obtain⟨o,rc',h',a,b⟩:=hc;exact⟨o,rc',h',a,hk _ _ _ b⟩
theorem nT{E:Env}{f:FuncId}{args:List Value}{h:Hp}{P Q:Value->Hp->Prop}(hc:Ret E f args h P)(hk: ∀v h',P v h'->Q v h'):Ret E f args h Q:=Ret.mono hk hc
theorem jJ{E:Env}{cx:Cx}{Q:dW}{k:List Fr}{l:Loc}{lb:Nat}{J:Nat->Hp->List Nat->Prop}{n:Nat}{o:Out}{rc:Option (Value×Bool)}{h:Hp}(y:YQ J (fun _ _=>False) n o rc h)
 (hk: ∀F,J n h F-> ∃x,h.get lb=some (.loop x)/\x.st≠1/\RangeGo E cx Q k l (h.put lb .dead) x.pending):RangeQ E cx Q k l lb o rc h:=by
 obtain⟨_,⟨u,F,rfl,hj⟩|⟨u,_,hz⟩|⟨v,_,hz⟩⟩:=y
 . exact hk F hj
 . exact hz.elim
 . exact hz.elim
theorem St.dead{M:Nat->Prop}{h0 h:Hp}{L:List (Nat×Ob)}{G:List GL}{b:Nat}{o:Ob}(S:St M h0 h ((b,o)::L) G):St M h0 (h.put b .dead) L G:=by
 have hb:=S.own _ m0
 refine⟨S.fr.put hb.1 _,fun p hp=>⟨(S.own p (.tail _ hp)).1,(S.own p (.tail _ hp)).2.of_get (bM fun e=>?_)⟩,fun p hp=>⟨(S.gown p hp).1.of_get fun c hc=>bM fun e=>?_,(S.gown p hp).2⟩,(List.nodup_cons.1 S.apart).2⟩
 . exact(List.nodup_cons.1 S.apart).1 (by show b∈keys L G;rw [e];exact ie hp)
 . exact(List.nodup_cons.1 S.apart).1 (by show b∈keys L G;rw [e];exact fi hp hc)
theorem St.get{M:Nat->Prop}{h0 h:Hp}{L:List (Nat×Ob)}{G:List GL}{b:Nat}{x:eo}(S:St M h0 h L G)(hi:(b,Ob.loop x)∈L):h.get b=some (.loop x):=(S.own _ hi).2
theorem St.getD{M:Nat->Prop}{h0 h:Hp}{L:List (Nat×Ob)}{G:List GL}{b:Nat}(S:St M h0 h L G)(hi:(b,Ob.dfr)∈L):h.get b=some .dfr:=(S.own _ hi).2

theorem oB{E:Env}{cx:Cx}{Q:dW}{k:List Fr}{n:Nat}{rc:Option (Value×Bool)}{b:Code}{α:Type}(I:α->(Nat->Value)->List Deferred->Hp->Prop)(m:α->Nat)
 (hs: ∀a,(∀a' ρ' d' h',m a'<m a->I a' ρ' d' h'->Run E (lim E) cx Q (.code (.loop b)::k) .normal (LL n ρ' d' rc) h')-> ∀ρ d h,I a ρ d h->Run E (lim E) cx Q (.code b:: .code (.loop b)::k) .normal (LL n ρ d rc) h):
 ∀a ρ d h,I a ρ d h->Run E (lim E) cx Q (.code (.loop b)::k) .normal (LL n ρ d rc) h:=by
 have key: ∀j a,m a<j-> ∀ρ d h,I a ρ d h->Run E (lim E) cx Q (.code (.loop b)::k) .normal (LL n ρ d rc) h:=by
  intro j
  induction j with
  |zero=>intro a ha;omega
  | succ j ih=>
    intro a ha ρ d h hi
    rw [bS]
    exact hs a (fun a' ρ' d' h' hlt hi'=>ih a' (by omega) ρ' d' h' hi') ρ d h hi
 intro a ρ d h hi
 exact key (m a+1) a (by omega) ρ d h hi
def dG(dbs:List Nat):List (Nat×Ob):=dbs.map fun b=>(b,Ob.dfr)
theorem iD{E:Env}{M:Nat->Prop}{h0:Hp}{L:List (Nat×Ob)}{G:List GL}{m:Option Value}{P:Option Value->Hp->Prop}: ∀(dbs:List Nat) (h:Hp),St M h0 h (dG dbs++L) G->(∀h',St M h0 h' L G->P m h')->UnQ E (dbs.map nV) m h P
 | [],h,S,hp=>dy (hp h S)
 |b::dbs,h,S,hp=>un_dfr (S.getD m0) (iD dbs _ (S.dead) hp)

theorem pJ{E:Env}{n:Nat}{ρ:Nat->Value}{h:Hp}{t:Tmp}{ty:TypeId}{v:Value}(ht:t<n)(hv:dP E h ty (ρ t)=some v):aR E (tab n ρ) h [.cell t ty]=some [v]:=by
 simp only [aR,jL,if_pos ht,hv]
theorem ii{E:Env}{h:Hp}{t:TypeId}{b o:Nat}{s:Option Nat}{v:Value}(ha:E.agg t=some false)(hl:h.load b o 1=some [v]):dP E h t (.pointer (some ⟨b,o,s⟩))=some v:=by
 rw [load_q,ha,loadq_f,hl];rfl
theorem cm{E:Env}{h:Hp}{t:TypeId}{b o n:Nat}{s:Option Nat}{l:List Value}(ha:E.agg t=some true)(hs:E.sz t=some n)(hl:h.load b o n=some l):dP E h t (.pointer (some ⟨b,o,s⟩))=some (.agg ⟨l⟩):=by
 rw [load_q,ha,hs,loadq_t,hl];rfl

theorem St.call1{M:Nat->Prop}{h0 h h':Hp}{L:List (Nat×Ob)}{G:List GL}(S:St M h0 h L G){i b:Nat}{o o':Ob}(hi:L[i]? =some (b,o))(f:Mo (· =b) h h')(ho:Has h' b o'):St M h0 h' (L.set i (b,o')) G:=by
 have hb:=S.own _ (xX hi)
 have hkey:(keys L G)[i]? =some b:=lS hi
 refine⟨S.fr.trans f (fun c hc=>by subst hc;exact hb.1.symm),fun p hp=>?_,fun p hp=>⟨(S.gown p hp).1.of_get fun c hc=>?_,(S.gown p hp).2⟩,?_⟩
 . rcases jK hp with rfl|⟨j,hj,hp⟩
   . exact⟨hb.1,ho⟩
   . have h1:=S.own p (xX hp)
     refine⟨h1.1,h1.2.of_get (f.get _ (h1.2.lt S.ok) fun e=>hj ?_)⟩
     have h2:(keys L G)[j]? =some b:=by rw [lS hp];rw [e]
     exact mJ S.apart h2 hkey
 . refine f.get c ((S.gown p hp).1.lt S.ok hc) fun e=>?_
   subst e
   have h1:=S.apart
   unfold keys at h1
   rw [yo]at h1
   exact h1.2.2 c (List.mem_map.2 ⟨_,xX hi,rfl⟩) c (List.mem_filterMap.2 ⟨p,hp,hc⟩) rfl
 . have:keys (L.set i (b,o')) G=keys L G:=by
    unfold keys
    congr 1
    rw [List.map_set]
    refine yb fun j=>?_
    rw [yn]
    split
    . rename_i e;subst e
      have:=(List.getElem?_eq_some_iff.1 hi).1
      rw [if_pos (by simpa using this),List.getElem?_map,hi];rfl
    . rfl
   rw [this];exact S.apart
theorem St.init1{h:Hp}(ok:h.t.Sized h.n){b:Nat}{o:Ob}(ho:Has h b o):St (· =b) h h [(b,o)] []:=(St.init ok).push (.inr rfl) ho (by simp [keys])
theorem wrap8(z:Int):0<=au .u8 z/\au .u8 z<256:=by
 unfold au
 cases z with
 | ofNat m=>
   simp only [hf,sgn,pw]
   cases hb:Nat.blt m 256 with
   | true=>
     rw [Nat.blt_eq]at hb
     simp only [cond_true]
     exact⟨yl m,Int.ofNat_lt.2 hb⟩
   | false=>
     simp only [cond_false]
     exact⟨yl _,Int.ofNat_lt.2 (Nat.mod_lt _ (by omega))⟩
 | negSucc m=>
   simp only [hf,sgn,pw,cond_false]
   exact⟨yl _,Int.ofNat_lt.2 (show 256-1-m%256<256 by omega)⟩
theorem aX{tr:List (Nat×Tch)}{i j:Nat}{l:List (Nat×Nat)}:dK tr ((i,j)::l)=(iP (bN i tr) (bN j tr)&&dK tr l):=rfl
theorem aN{a:Nat}{h h':Hp}(e:leaves h h' a=true):iP (some (.blk a)) (some (.run h h'))=true:=e
theorem aP{a:Nat}{h h':Hp}(e:leaves h h' a=true):iP (some (.run h h')) (some (.blk a))=true:=e
theorem iG{a b:Nat}(e:a≠b):iP (some (.blk a)) (some (.blk b))=true:=by
 simp only [iP]
 cases hb:yx a b with
 |false=>rfl
 |true=>exact absurd (Nat.eq_of_beq_eq_true hb) e
theorem bz{i:Nat}{b:Tch}{l:List (Nat×Tch)}:bN i ((i,b)::l)=some b:=by simp [bN,yg]
theorem aT{i k:Nat}{b:Tch}{l:List (Nat×Tch)}(h:i≠k):bN i ((k,b)::l)=bN i l:=by
 have h:yx i k=false:=by rw [cw];simpa using h
 simp [bN,h]
theorem St.leaves{M:Nat->Prop}{h0 h h':Hp}{L:List (Nat×Ob)}{G:List GL}(S:St M h0 h L G){b c:Nat}{o:Ob}(hm:(c,o)∈L)(f:Mo (· =b) h h')(hn:c≠b):leaves h h' c=true:=
 pM (f.get c ((S.own _ hm).2.lt S.ok) hn)

theorem aS{i k:Nat}{x:Option Tch}{tr:List (Nat×Tch)}(h:i≠k):bN i (fQ k tr x)=bN i tr:=by
 cases x with
 |none=>rfl
 |some b=>exact aT h
theorem bF{ρ:Operand->Value}{b:Bool}{t:TypeId}{a:Operand}{h h':Hp}:cb ρ b (.load t a) h h'=(match ρ a with| .pointer (some a)=>some (.blk a.block)|_=>none):=by
 simp only [cb,dm,iW,dZ,touch,cond_false]
 cases ρ a<;>first|rfl|(rename_i x;cases x<;>rfl)
theorem bJ{ρ:Operand->Value}{f:Operand}{as:Array Operand}{ts:Array TypeId}{h h':Hp}:cb ρ false (.call ⟨.value f,as,ts⟩) h h'=some (.run h h'):=rfl
theorem bA{ρ:Operand->Value}{b:Bool}{t:TypeId}{h h':Hp}:cb ρ b (.alloc t) h h'=some (.blk h.n):=rfl

theorem St.gset {M:Nat->Prop} {h0 h:Hp} {L:List (Nat×Ob)} {G:List GL} (S:St M h0 h L G) {E:Env} {t:TypeId} {j i:Nat} {v:Value} {vs:List Value} {kd:IntKind} (hj:G[j]? =some (v,1,vs)) (hi:i<vs.length) (hs:E.sz t=some 1):
 ∃b,idxS (some 1) v (.int kd i)=some (.pointer (some ⟨b,i,none⟩))/\ ∀x,Fl x-> ∃h',gc E h t (.pointer (some ⟨b,i,none⟩)) x=some h'/\St M h0 h' L (G.set j (v,1,vs.set i x)):=by
 obtain⟨hg,hown⟩:=S.gown _ (xX hj)
 rcases hg with⟨_,k2⟩|⟨b,n,k1,k2,k3⟩
 . simp only []at k2;subst k2;simp at hi
 . simp only [] at k1 k2 k3
   subst k1
   have hn:n=vs.length:=by omega
   refine⟨b,?_,fun x hx=>?_⟩
   . rw [nZ,iN (by omega)]
     simp [putI]
   . obtain ⟨y, h1,h2⟩:=k3.store S.ok Nat.one_ne_zero (o:=i) (vs:=[x]) (by simp;omega) (by simp [hx.2.1])
     have e:lay vs i [x]=vs.set i x:=by
      refine yb fun j=>?_
      rw [iH (by simp;omega),yn]
      simp only [yd,ya]
      by_cases hij:i=j
      . subst hij;rw [if_pos ⟨yv _,by omega⟩,if_pos rfl,if_pos hi];simp
      . rw [if_neg (by omega),if_neg hij]
     rw [e]at h2
     refine⟨h.put b y,?_,?_⟩
     . have:gc E h t (.pointer (some ⟨b,i,none⟩)) x=h.store b i [x]:=by
        simp only [gc,hs]
        have hv:ag x=[x]:=hx.1
        have h5:(bif yx (ag x).length 1 then h.store b i (ag x)else none)=h.store b i [x]:=by rw [hv];rfl
        revert h5
        cases x<;>first|exact fun h=>h|exact absurd rfl (hx.2.2 _)
       rw [this];exact h1
     . have hkey:dR (Value.slice (some ⟨b,0,some 1⟩) n n,1,vs)=some b:=rfl
       have hb:=hown b hkey
       have hlt:=(List.getElem?_eq_some_iff.1 hj).1
       have hL: ∀c∈L.map Prod.fst,c≠b:=fun c hc e=>by
        have h1:=S.apart
        unfold keys at h1
        rw [yo]at h1
        exact h1.2.2 c hc b (List.mem_filterMap.2 ⟨_,xX hj,hkey⟩) e
       have hkeys:keys L (G.set j (Value.slice (some ⟨b,0,some 1⟩) n n,1,vs.set i x))=keys L G:=by
        unfold keys
        congr 1
        have: ∀(G:List GL) (j:Nat) (p q:GL),G[j]? =some p->dR q=dR p->(G.set j q).filterMap dR=G.filterMap dR:=by
         intro G
         induction G with
         |nil=>intro j p q hj;simp at hj
         | cons g G ih=>
           intro j p q hj hq
           cases j with
           |zero=>simp at hj;subst hj;simp [yj,hq]
           |succ j=>simp at hj;simp only [List.set_cons_succ,yj,ih j p q hj hq]
        exact this G j _ _ hj rfl
       refine⟨S.fr.put hb y,fun p hp=>⟨(S.own p hp).1,(S.own p hp).2.of_get (bM fun e=>hL _ (List.mem_map_of_mem hp) e.symm)⟩,fun p hp=>?_,by rw [hkeys];exact S.apart⟩
       rcases jK hp with rfl|⟨j',hj',hp⟩
       . exact⟨.inr ⟨b,n,rfl,by simpa using k2,h2⟩,fun c hc=>by cases hc;exact hb⟩
       . refine ⟨(S.gown p (xX hp)).1.of_get fun c hc=>bM fun e=>hj' ?_,(S.gown p (xX hp)).2⟩
         subst e
         have h2:=S.apart
         unfold keys at h2
         have h3:=(List.nodup_append.1 h2).2.1
         have key: ∀(G:List GL) (a c:Nat) (p q:GL),(G.filterMap dR).Nodup->G[a]? =some p->G[c]? =some q-> ∀x,dR p=some x->dR q=some x->a=c:=by
          intro G
          induction G with
          |nil=>intro a c p q _ ha;simp at ha
          | cons g G ih=>
            intro a c p q hn ha hc x hp hq
            have hn':(G.filterMap dR).Nodup:=by
             rw [yj]at hn
             split at hn
             . exact hn
             . exact(List.nodup_cons.1 hn).2
            cases a with
            | zero=>
              cases c with
              |zero=>rfl
              | succ c=>
                simp at ha hc
                subst ha
                rw [yr hp]at hn
                exact absurd (List.mem_filterMap.2 ⟨q,xX hc,hq⟩) (List.nodup_cons.1 hn).1
            | succ a=>
              cases c with
              | zero=>
                simp at ha hc
                subst hc
                rw [yr hq]at hn
                exact absurd (List.mem_filterMap.2 ⟨p,xX ha,hp⟩) (List.nodup_cons.1 hn).1
              | succ c=>
                simp at ha hc
                rw [ih a c p q hn' ha hc x hp hq]
         exact key G j' j p _ h3 hp hj b hc hkey

def JP(n:Nat)(d:List Deferred)(rc:Option (Value×Bool))(J:(Nat->Value)->Hp->Prop):dW:=fun e l h=>e=.normal/\ ∃ρ,l=LL n ρ d rc/\J ρ h
theorem uI{E:Env}{cx:Cx}{Q:dW}{k:List Fr}{n:Nat}{d:List Deferred}{rc:Option (Value×Bool)}{J:(Nat->Value)->Hp->Prop}{c:Code}{l:Loc}{h:Hp}
 (hc:Run E (lim E) cx (JP n d rc J) [.code c] .normal l h) (hJ: ∀ρ h,J ρ h->Run E (lim E) cx Q k .normal (LL n ρ d rc) h):Run E (lim E) cx Q (.code c::k) .normal l h:=by
 obtain⟨e',l',h',h1,h2⟩:=hc
 obtain⟨rfl,ρ,rfl,h3⟩:=h2
 exact⟨_,_,_,h1,hJ ρ h' h3⟩
theorem xP{E:Env}{cx:Cx}{Q:dW}{k:List Fr}{n:Nat}{d:List Deferred}{rc:Option (Value×Bool)}(J:(Nat->Value)->Hp->Prop){a b:Code}{ρ0:Nat->Value}{h:Hp}{t:Bool}
 (h1:t=true->Run E (lim E) cx (JP n d rc J) [.code a] .normal (LL n ρ0 d rc) h) (h2:t=false->Run E (lim E) cx (JP n d rc J) [.code b] .normal (LL n ρ0 d rc) h)
 (hJ: ∀ρ h,J ρ h->Run E (lim E) cx Q k .normal (LL n ρ d rc) h):CStep E cx Q a b k (LL n ρ0 d rc) h (.bool t):=by
 cases t with
 |true=>exact uI (h1 rfl) hJ
 |false=>exact uI (h2 rfl) hJ
theorem kZ{n:Nat}{d:List Deferred}{rc:Option (Value×Bool)}{J:(Nat->Value)->Hp->Prop}{ρ:Nat->Value}{h:Hp}(hj:J ρ h):JP n d rc J .normal (LL n ρ d rc) h:=⟨rfl,ρ,rfl,hj⟩

theorem pd{E:Env}{R:Rec}{cx:Cx}{Q:dW}{k2:List Fr}: ∀(k1:List Fr) (e:Ex) (l:Loc) (h:Hp),Run E R cx (fun e l h=>Run E R cx Q k2 e l h) k1 e l h->Run E R cx Q (k1++k2) e l h
 | [],e,l,h,hr=>hr
 | f ::k1,e,l,h,hr=>by
   have ih:=pd (E:=E) (R:=R) (cx:=cx) (Q:=Q) (k2:=k2) k1
   cases f with
   | code c=>
     cases e with
     |normal=>obtain⟨e',l',h',a,b⟩:=hr;exact⟨e',l',h',a,ih _ _ _ b⟩
     |exit i=>exact ih _ _ _ hr
     |ret=>exact ih _ _ _ hr
     |pan v=>exact ih _ _ _ hr
   | blk id=>
     cases e with
     |normal=>exact ih _ _ _ hr
     | exit i=>
       simp only [Run,List.cons_append]at hr⊢
       by_cases hi:i=id
       . rw [if_pos hi]at hr⊢;exact ih _ _ _ hr
       . rw [if_neg hi]at hr⊢;exact ih _ _ _ hr
     |ret=>exact ih _ _ _ hr
     |pan v=>exact ih _ _ _ hr
   | ops a os=>
     cases e with
     |normal=>obtain⟨e',l',h',a,b⟩:=hr;exact⟨e',l',h',a,ih _ _ _ b⟩
     |exit i=>exact ih _ _ _ hr
     |ret=>exact ih _ _ _ hr
     |pan v=>exact ih _ _ _ hr
   | opsD a q ps os i tr=>
     cases e with
     |normal=>obtain⟨l',h',tr',a,b,c⟩:=hr;exact⟨l',h',tr',a,b,ih _ _ _ c⟩
     |exit i=>exact ih _ _ _ hr
     |ret=>exact ih _ _ _ hr
     |pan v=>exact ih _ _ _ hr
theorem run_post{E:Env}{R:Rec}{cx:Cx}{Q Q':dW}(hq: ∀e l h,Q e l h->Q' e l h): ∀(k:List Fr) (e:Ex) (l:Loc) (h:Hp),Run E R cx Q k e l h->Run E R cx Q' k e l h
 | k, e, l,h,hr=>by
   have:=pd (E:=E) (R:=R) (cx:=cx) (Q:=Q') (k2:=[]) k e l h
   rw [yu]at this
   refine this ?_
   revert hr
   induction k generalizing e l h with
   |nil=>intro hr;exact hq _ _ _ hr
   | cons f k ih=>
     intro hr
     have ih:=fun e l h hr=>ih e l h (by have:=pd (E:=E) (R:=R) (cx:=cx) (Q:=Q') (k2:=[]) k e l h;rwa [yu]at this) hr
     cases f with
     | code c=>
       cases e with
       |normal=>obtain⟨e',l',h',a,b⟩:=hr;exact⟨e',l',h',a,ih _ _ _ b⟩
       |exit i=>exact ih _ _ _ hr
       |ret=>exact ih _ _ _ hr
       |pan v=>exact ih _ _ _ hr
     | blk id=>
       cases e with
       |normal=>exact ih _ _ _ hr
       | exit i=>
         simp only [Run]at hr⊢
         by_cases hi:i=id
         . rw [if_pos hi]at hr⊢;exact ih _ _ _ hr
         . rw [if_neg hi]at hr⊢;exact ih _ _ _ hr
       |ret=>exact ih _ _ _ hr
       |pan v=>exact ih _ _ _ hr
     | ops a os=>
       cases e with
       |normal=>obtain⟨e',l',h',a,b⟩:=hr;exact⟨e',l',h',a,ih _ _ _ b⟩
       |exit i=>exact ih _ _ _ hr
       |ret=>exact ih _ _ _ hr
       |pan v=>exact ih _ _ _ hr
     | opsD a q ps os i tr=>
       cases e with
       |normal=>obtain⟨l',h',tr',a,b,c⟩:=hr;exact⟨l',h',tr',a,b,ih _ _ _ c⟩
       |exit i=>exact ih _ _ _ hr
       |ret=>exact ih _ _ _ hr
       |pan v=>exact ih _ _ _ hr
theorem u7{E:Env}{cx:Cx}{Q:dW}{k:List Fr}{n:Nat}{d:List Deferred}{rc:Option (Value×Bool)}{b:Code}{id:Nat}{α:Type}(J:(Nat->Value)->Hp->Prop)(I:α->(Nat->Value)->Hp->Prop)(m:α->Nat)
 (hs: ∀a,(∀a' ρ' h',m a'<m a->I a' ρ' h'->Run E (lim E) cx (JP n d rc J) [.code (.loop b),.blk id] .normal (LL n ρ' d rc) h')-> ∀ρ h,I a ρ h->Run E (lim E) cx (JP n d rc J) [.code b,.code (.loop b),.blk id] .normal (LL n ρ d rc) h)
 (hJ: ∀ρ h,J ρ h->Run E (lim E) cx Q k .normal (LL n ρ d rc) h) (a:α) {ρ:Nat->Value} {h:Hp} (hi:I a ρ h):Run E (lim E) cx Q (.code (.loop b):: .blk id::k) .normal (LL n ρ d rc) h:=by
 have h1:=aZ I m hs a ρ h hi
 refine pd [.code (.loop b),.blk id] _ _ _ (run_post (fun e l h hj=>?_) _ _ _ _ h1)
 obtain⟨rfl,ρ,rfl,hj⟩:=hj
 exact hJ ρ h hj

theorem mL{ops:List Oper}{ord:List Nat}{os:List Oper}(h1:(ops.any oC&&ops.all (mY ops.length))=true)(h2:ordL ops=ord)(h3:fh ops ord ord=os):dQ ops=os:=by unfold dQ;rw [h1,h2,h3];rfl
theorem St.gblk{M:Nat->Prop}{h0 h:Hp}{L:List (Nat×Ob)}{G:List GL}(S:St M h0 h L G){p:GL}(hp:p∈G){c:Nat}(hb:av p.1 c):(h0.n<=c\/M c)/\c∉L.map Prod.fst:=by
 have hk:dR p=some c:=by
  rcases(S.gown p hp).1 with⟨e,_⟩|⟨b,n,e,_⟩
  . rw [e]at hb;exact hb.elim
  . obtain⟨v,k,vs⟩:=p
    simp only []at e hb
    subst e
    exact congrArg some hb
 refine⟨(S.gown p hp).2 c hk,fun hc=>?_⟩
 have h1:=S.apart
 unfold keys at h1
 rw [yo]at h1
 exact h1.2.2 c hc c (List.mem_filterMap.2 ⟨p,hp,hk⟩) rfl
end Go.Ab

namespace Go.Ab
structure Arc where
 s:Nat
 t:Nat
 w:Nat
deriving Inhabited
def cI(a:Arc):List Value:=[.int .i64 a.s,.int .i64 a.t,.int .i64 a.w]
theorem eP(a:Arc):(cI a).length=3:=rfl
structure Gra where
 nodes:Nat
 X:List Int
 Y:List Int
 arcs:List Arc
structure Good(g:Gra):Prop where
 n1:1<=g.nodes
 n2:g.nodes<=12
 lX:g.X.length=g.nodes
 lY:g.Y.length=g.nodes
 cX: ∀x∈g.X,-2147483648<=x/\x<=2147483647
 cY: ∀x∈g.Y,-2147483648<=x/\x<=2147483647
 many:g.arcs.length<=100
 arcs: ∀a∈g.arcs,a.s<g.nodes/\a.t<g.nodes/\a.w<=2147483647
structure cN(h:Hp)(vx vy va:Value)(g:Gra):Prop where
 X:aA h 1 (encI .i64) vx g.X
 Y:aA h 1 (encI .i64) vy g.Y
 A:aA h 3 cI va g.arcs
theorem cN.gr{h h':Hp}{vx vy va:Value}{g:Gra}(a:cN h vx vy va g)(r:Gr h h'):cN h' vx vy va g:=⟨a.X.gr r,a.Y.gr r,a.A.gr r⟩
def gH(g:Gra)(vx vy va:Value):Value:=.agg ⟨[.int .i64 g.nodes,vx,vy,va]⟩
structure Pl where
 i:Int
 f:Int
 c:Int
 n:Int
 lo:Int
 hi:Int
def iI(p:Pl):List Value:=[.int .i64 p.i,.int .i64 p.f,.int .i64 p.c,.int .i64 p.n,.int .i64 p.lo,.int .i64 p.hi]
theorem encP_len(p:Pl):(iI p).length=6:=rfl
end Go.Ab

/- A deterministic evaluator of the model's code, and that the model follows it (part 7). -/
import Derived.Test.YtnandelhggbchaaGreatDoorMbF
open And renaming intro->zM
open List renaming mem_of_getElem?->zN,length_append->Xb,length_nil->Xc,ext_getElem?->Xd,length_cons->Xf,getElem?_eq_none->Xk,filterMap_cons->Xl,flatMap_cons->Xo,getElem?_set->Xp,nodup_append->Xq,take_length->Xr,filterMap_cons_some->Xt,append_nil->Xv,drop_zero->Xx
open Nat renaming ble_eq_true_of_le->Xa,le_of_ble_eq_true->Xe,eq_of_mul_eq_mul_right->Xg,succ_mul->Xh,beq_refl->Xi,ble->Xj,lt_of_lt_of_le->Xm,le_trans->Xs,le_mul_of_pos_right->Xu,le_refl->Xw,beq->Xy,mul_le_mul_right->Xz,add_mul->XA
open Int renaming natCast_nonneg->Xn
set_option maxHeartbeats 400000
set_option linter.defProp false
set_option linter.unusedVariables false
set_option linter.unusedSimpArgs false
namespace Go.Ab

theorem load_len{h:Hp}{b o n:Nat}{l:List Value}(e:h.load b o n=some l):l.length=n:=by
 unfold Hp.load at e
 split at e
 next t c el d f=>
  cases a:Xj (o+n) c with
  |false=>rw [a]at e;cases e
  |true=>rw [a]at e;exact(Tr.slice_spec e).1
 next=>cases e
theorem ou{h:Hp}{b o n:Nat}{l:List Value}(e:h.load b o n=some l){i m:Nat}(p:i+m<=n):h.load b (o+i) m=some ((l.drop i).take m):=by
 unfold Hp.load at e⊢
 split at e
 next t c el q r=>
  cases a:Xj (o+n) c with
  |false=>rw [a]at e;cases e
  | true=>
    rw [a]at e
    have hle:=Xe a
    rw [Xa (by omega:o+i+m<=c)]
    simp only [cond_true]at e⊢
    obtain⟨s,d⟩:=Tr.slice_spec e
    obtain⟨u,f⟩:=Tr.slice_mk (t:=t) (i:=o+i) (n:=m) (fun k g=>by
     have:=d (i+k) (by omega)
     rw [show o+i+k=o+(i+k) by omega,this]
     rw [List.getElem?_eq_getElem (by omega)];rfl)
    rw [f]
    obtain⟨v,j⟩:=Tr.slice_spec f
    congr 1
    refine Xd fun k=>?_
    rw [List.getElem?_take]
    split
    . rename_i g
      rw [<-j k g,List.getElem?_drop,<-d (i+k) (by omega)]
      congr 1
      omega
    . exact Xk (by omega)
 next=>cases e
theorem load_join{h:Hp}{b o n:Nat}{f:Nat->Value}(h0: ∃l,h.load b o 0=some l)(e: ∀i,i<n->h.load b (o+i) 1=some [f i]):h.load b o n=some ((List.range n).map f):=by
 unfold Hp.load at h0 e⊢
 cases c:h.get b with
 |none=>rw [c]at h0;obtain⟨l,h0⟩:=h0;cases h0
 |some m=>
 cases m with
 |dead=>rw [c]at h0;obtain⟨l,h0⟩:=h0;cases h0
 |map=>rw [c]at h0;obtain⟨l,h0⟩:=h0;cases h0
 |loop=>rw [c]at h0;obtain⟨l,h0⟩:=h0;cases h0
 |dfr=>rw [c]at h0;obtain⟨l,h0⟩:=h0;cases h0
 | cells t j el s=>
   rw [c]at h0
   simp only [c]at e
   simp only []at h0
   have hle:o+n<=j:=by
    cases n with
    | zero=>
      obtain⟨l,h0⟩:=h0
      cases g:Xj (o+0) j with
      |false=>rw [g]at h0;cases h0
      |true=>exact Xe g
    | succ n=>
      have:=e n (by omega)
      cases g:Xj (o+n+1) j with
      |false=>rw [g]at this;cases this
      |true=>have:=Xe g;omega
   have a: ∀i,i<n->t.get (o+i)=some (f i):=by
    intro i q
    have:=e i q
    rw [Xa (by omega:o+i+1<=j)]at this
    have:=(Tr.slice_spec this).2 0 (by omega)
    simpa using this
   simp only []
   rw [Xa hle]
   simp only [cond_true]
   obtain⟨l,p⟩:=Tr.slice_mk (t:=t) (i:=o) (n:=n) (fun k d=>by rw [a k d];rfl)
   rw [p]
   obtain⟨u,r⟩:=Tr.slice_spec p
   congr 1
   refine Xd fun k=>?_
   rw [List.getElem?_map]
   rcases Nat.lt_or_ge k n with d|d
   . rw [<-r k d,a k d,List.getElem?_range d];rfl
   . rw [Xk (by omega),Xk (by simpa using d)];rfl

section
variable{α:Type}
theorem bw{k:Nat}{enc:α->List Value}(a: ∀x,(enc x).length=k)(xs:List α):(xs.flatMap enc).length=xs.length*k:=by
 induction xs with
 |nil=>simp
 |cons x xs b=>rw [Xo,Xb,a,b,Xf,Xh];omega
theorem Au{k:Nat}{enc:α->List Value}(a: ∀x,(enc x).length=k)(xs:List α){i:Nat}(b:i<xs.length):((xs.flatMap enc).drop (i*k)).take k=enc xs[i]:=by
 induction xs generalizing i with
 |nil=>simp at b
 | cons x xs c=>
   cases i with
   |zero=>simp [Xo,<-a x]
   | succ i=>
     rw [Xo,Xh,Nat.add_comm,<-List.drop_drop]
     rw [show List.drop k (enc x++List.flatMap enc xs)=List.flatMap enc xs by rw [<-a x];exact List.drop_left]
     simpa using c (i:=i) (by simpa using b)
def au(h:Hp)(k:Nat)(enc:α->List Value)(v:Value)(xs:List α):Prop:=
 (v=.slice none 0 0/\xs=[])\/ ∃b o s c,v=.slice (some ⟨b,o,s⟩) xs.length c/\xs.length<=c/\h.load b o (xs.length*k)=some (xs.flatMap enc)
variable{h:Hp}{k:Nat}{enc:α->List Value}{v:Value}{xs:List α}
theorem au.gr{h':Hp}(g:Gr h h')(s:au h k enc v xs):au h' k enc v xs:=by
 rcases s with s|⟨b,o,s,c,a,d,e⟩
 . exact .inl s
 . exact .inr ⟨b,o,s,c,a,d,g.load e⟩
def aq:Value->Nat->Prop
 | .slice (some a) _ _,b=>a.block=b
 | .pointer (some a),b=>a.block=b
 |_,_=>False
theorem au.mo{M:Nat->Prop}{h':Hp}(g:Mo M h h')(s:au h k enc v xs)(e: ∀b,aq v b-> ¬M b):au h' k enc v xs:=by
 rcases s with s|⟨b,o,s,c,d,f,a⟩
 . exact .inl s
 . refine .inr ⟨b,o,s,c,d,f,?_⟩
   have:=g.get b (bD g.ok0 a) (e b (by rw [d];rfl))
   unfold Hp.load at a⊢
   rw [this];exact a
theorem au.lt(d:h.t.Sized h.n)(s:au h k enc v xs){b:Nat}(a:aq v b):b<h.n:=by
 rcases s with⟨rfl,_⟩|⟨e,o,s,c,rfl,g,f⟩
 . exact a.elim
 . have:e=b:=a
   subst this
   exact bD d f
theorem au.len{E:Env}{t e:TypeId}(s:au h k enc v xs)(a:E.und t=some (.slice e)):ns E t v=some (.int .i64 xs.length):=by
 rcases s with⟨rfl,rfl⟩|⟨b,o,s,c,rfl,d,f⟩<;>simp [ns,a]
theorem au.idx(s:au h k enc v xs)(d: ∀x,(enc x).length=k){i:Nat}(a:i<xs.length): ∃b o s' c,v=.slice (some ⟨b,o,s'⟩) xs.length c/\h.load b (o+i*k) k=some (enc xs[i]):=by
 rcases s with⟨rfl,rfl⟩|⟨b,o,s,c,rfl,f,e⟩
 . simp at a
 . refine⟨b,o,s,c,rfl,?_⟩
   have:i*k+k<=xs.length*k:=by rw [<-Xh];exact Xz _ a
   rw [ou e this,Au d xs a]
theorem au.at{E:Env}{t e:TypeId}{kd:IntKind}(s:au h k enc v xs)(d: ∀x,(enc x).length=k)(f:E.und t=some (.slice e))(g:E.sz e=some k){i:Nat}(a:i<xs.length):
 ∃b o,er E t v (.int kd i)=some (.pointer (some ⟨b,o,none⟩))/\h.load b o k=some (enc xs[i]):=by
 obtain⟨b,o,l,c,rfl,j⟩:=s.idx d a
 refine⟨b,o+i*k,?_,j⟩
 rw [ia_slice f g,ir a]
 rfl
theorem au.src(s:au h k enc v xs):aM h k v=some (xs.length,xs.flatMap enc):=by
 rcases s with⟨rfl,rfl⟩|⟨b,o,s,c,rfl,e,a⟩
 . rfl
 . cases c with
   | zero=>
     have:xs.length=0:=by omega
     have d:xs=[]:=List.length_eq_zero_iff.1 this
     subst d
     simp only [aM,Xc]at a⊢
     rw [a]
   | succ c=>
     simp only [aM]
     rw [a]
theorem fL.sl{vs:List Value}(g:fL h (v,k,vs))(d:vs=xs.flatMap enc)(e: ∀x,(enc x).length=k)(i:0<k):au h k enc v xs:=by
 rcases g with⟨c,a⟩|⟨b,n,c,a,f⟩
 . simp only []at c a
   refine .inl ⟨c,?_⟩
   rw [a]at d
   have:=bw e xs
   rw [<-d]at this
   cases xs with
   |nil=>rfl
   | cons x xs=>
     simp only [Xc,Xf,Xh]at this
     omega
 . simp only []at c a f
   have j:n=xs.length:=by
    rw [d,bw e]at a
    exact Xg i a
   subst j
   refine .inr ⟨b,0,some k,xs.length,c,Xw _,?_⟩
   rw [f.load (by omega),a,Xx,Xr,d]
theorem fL.len{E:Env}{t e:TypeId}{vs:List Value}(g:fL h (v,k,vs))(i:0<k)(d:E.und t=some (.slice e)){n:Nat}(f:n*k=vs.length):ns E t v=some (.int .i64 n):=by
 rcases g with⟨a,c⟩|⟨b,m,a,c,j⟩
 . simp only []at a c
   subst a c
   have:n=0:=by
    cases n with
    |zero=>rfl
    |succ n=>simp only [Xc,Xh]at f;omega
   subst this
   simp [ns,d]
 . simp only []at a c
   subst a
   have:m=n:=Xg i (c.trans f.symm)
   subst this
   simp [ns,d]
end
def encI(kd:IntKind)(x:Int):List Value:=[.int kd x]
theorem dh(kd:IntKind)(x:Int):(encI kd x).length=1:=rfl
def agg1:Option (List Value)->Option Value
 |some l=>some (.agg ⟨l⟩)
 |none=>none
theorem agg1_some{l:List Value}:agg1 (some l)=some (.agg ⟨l⟩):=rfl
theorem loadV_agg{E:Env}{h:Hp}{t:TypeId}{b o n:Nat}{s:Option Nat}(a:E.agg t=some true)(c:E.sz t=some n):eJ E h t (.pointer (some ⟨b,o,s⟩))=agg1 (h.load b o n):=by
 simp only [eJ,a,c]
 cases h.load b o n<;>rfl

def isIface(E:Env)(t:TypeId):Bool:=match E.und t with
 |some (.interface _)=>true
 |_=>false
def pq(E:Env)(t:TypeId):Bool:=match E.und t with
 |some (.pointer _)=>true
 |_=>false
def jM(E:Env)(t:TypeId):Bool:=match E.und t with
 |some (.struct _)=>true
 |some (.int _)=>true
 |some (.pointer _)=>true
 |_=>false
section
variable{E:Env}{t:TypeId}{x y:Operand}
theorem oY(b:isIface E t=true): ∃a,E.und t=some (.interface a):=by
 unfold isIface at b;split at b<;>first|exact⟨_, ‹_›⟩|cases b
theorem rU(b:pq E t=true): ∃a,E.und t=some (.pointer a):=by
 unfold pq at b;split at b<;>first|exact⟨_, ‹_›⟩|cases b
theorem n_iface(b:isIface E t=true){u:TypeId}{v:Value}:bQ E .neq t x y (.iface u v) .nilIface=some (.bool true):=by
 obtain⟨a,c⟩:=oY b
 simp [bQ,fm,dN,c]
theorem n_nil(b:isIface E t=true){v:Value}:bQ E .neq t x (.const v) .nilIface .nilIface=some (.bool false):=by
 obtain⟨a,c⟩:=oY b
 cases x<;>simp [bQ,fm,dN,c]
theorem e_iface(b:isIface E t=true){u:TypeId}{v:Value}:bQ E .eql t x y (.iface u v) .nilIface=some (.bool false):=by
 obtain⟨a,c⟩:=oY b
 simp [bQ,fm,dN,c]
theorem e_nil(b:isIface E t=true){v:Value}:bQ E .eql t x (.const v) .nilIface .nilIface=some (.bool true):=by
 obtain⟨a,c⟩:=oY b
 cases x<;>simp [bQ,fm,dN,c]
theorem n_ptr(b:pq E t=true){a:Addr}:bQ E .neq t x y (.pointer (some a)) (.pointer none)=some (.bool true):=by
 obtain⟨e,c⟩:=rU b
 simp [bQ,fm,dN,c]
theorem e_ptr(b:pq E t=true){a:Addr}:bQ E .eql t x y (.pointer (some a)) (.pointer none)=some (.bool false):=by
 obtain⟨e,c⟩:=rU b
 simp [bQ,fm,dN,c]
theorem n_pnil(a:pq E t=true):bQ E .neq t x y (.pointer none) (.pointer none)=some (.bool false):=by
 obtain⟨e,b⟩:=rU a
 simp [bQ,fm,dN,b]
theorem e_pnil(a:pq E t=true):bQ E .eql t x y (.pointer none) (.pointer none)=some (.bool true):=by
 obtain⟨e,b⟩:=rU a
 simp [bQ,fm,dN,b]
theorem sH(b:jM E t=true): ∃d,E.und t=some d/\ ∀a,d≠ .interface a:=by
 unfold jM at b
 split at b<;>first|exact⟨_, ‹_›,by intro a e;cases e⟩|cases b
theorem assert_is(a:jM E t=true){v:Value}:ol E (.iface t v) t true=some (.tuple #[v,.bool true]):=by
 obtain⟨d,b,c⟩:=sH a
 unfold ol
 rw [b]
 cases d<;>first|exact absurd rfl (c _)|simp [sg]
theorem mk_iface(a:jM E t=true){v:Value}:(match E.und t with|none=>none|some (.interface _)=>none|some _=>some (Value.iface t v))=some (.iface t v):=by
 obtain⟨d,b,c⟩:=sH a
 rw [b]
 cases d<;>first|exact absurd rfl (c _)|rfl
end

theorem o_recover{E:Env}{ρ:Operand->Value}{h:Hp}{as:Array Operand}{ts:Array TypeId}:aop E ρ h (.call ⟨.builtin .recover,as,ts⟩)=some (.recov,h):=rfl
theorem o_deferR{E:Env}{ρ:Operand->Value}{h:Hp}{f:Operand}{as:Array Operand}{ts:Array TypeId}:aop E ρ h (.defer ⟨.value f,as,ts⟩)=match ρ f with
 | .func (.func g) a b=>some (.defer {target:=.fn (.func g) b,args:=⟨a.toList++as.toList.map ρ⟩},h)
 |_=>none:=rfl
def panR(h:Hp):Value->Option (c8×Hp)
 | .iface t v=>some (.panic (.iface t v),h)
 |_=>none
theorem o_panicR{E:Env}{ρ:Operand->Value}{h:Hp}{x:Operand}:aop E ρ h (.panic x)=panR h (ρ x):=by
 simp only [aop,panR];cases ρ x<;>rfl
theorem Ax{h:Hp}{t:TypeId}{v:Value}:panR h (.iface t v)=some (.panic (.iface t v),h):=rfl
section
variable{E:Env}{cx:Cx}{o:Oper}{K:Ex->Loc->Hp->Prop}{h:Hp}{n:Nat}{ρ:Nat->Value}{d:List Deferred}
theorem uK{v:Value}:eR E cx o (LL n ρ d (some (v,false))) K (some (.recov,h))↔cx.round=none/\K .normal ((LL n ρ d (some (v,true))).put o.dst v) h:=Iff.rfl
theorem uh:eR E cx o (LL n ρ d none) K (some (.recov,h))↔cx.round=none/\K .normal ((LL n ρ d none).put o.dst .nilIface) h:=Iff.rfl
theorem step_defer{a:Option (Value×Bool)}{x:Deferred}:eR E cx o (LL n ρ d a) K (some (.defer x,h))↔cx.round=none/\K .normal ((LL n ρ (x::d) a).put o.dst (.tuple #[])) h:=Iff.rfl
theorem wV{l:Loc}{f:FuncId}{args:List Value}{P:Out->Option (Value×Bool)->Hp->Prop}(e:eu E f args none h P)(g: ∀x c h',P x c h'->match x with
 | .ret v=>K .normal (l.put o.dst v) h'
 | .pan v=>K (.pan v) l h'):eR E cx o l K (some (.call f args,h)):=by
 obtain⟨x,c,h',a,b⟩:=e
 exact⟨x,c,h',a,g x c h' b⟩
theorem uH{l:Loc}{b:Nat}{args:List Value}{P:Out->Hp->Prop}(c:j5 E b args h P)(e: ∀x h',P x h'->match x with
 | .ret v=>K .normal (l.put o.dst v) h'
 | .pan v=>K (.pan v) l h'):eR E cx o l K (some (.yield b args,h)):=by
 obtain⟨x,h',a,b⟩:=c
 exact⟨x,h',a,e x h' b⟩
end
theorem xI{b:Nat}{args:List Value}:target (.func (.yield b) #[] #[]) args=some (.yield b args):=rfl
def UnQ(E:Env)(c:List Deferred)(m:Option Value)(h:Hp)(Q:Option Value->Hp->Prop):Prop:= ∃a b,bR (lim E) c m h=some (a,b)/\Q a b
section
variable{E:Env}{rs:List ResultVar}{Q:Out->Option (Value×Bool)->Hp->Prop}{n:Nat}{ρ:Nat->Value}{d:List Deferred}{rc:Option (Value×Bool)}{h:Hp}
theorem fD(a:UnQ E d none h fun m h'=>m=none/\ ∃vs,aU E (tab n ρ) h' rs=some vs/\Q (.ret (ac vs)) rc h'):nD E rs Q .ret (LL n ρ d rc) h:=by
 obtain⟨m,h',b,rfl,c⟩:=a
 exact⟨h',b,c⟩
theorem dP(a:UnQ E d none h fun m h'=>m=none/\ ∃vs,aU E (tab n ρ) h' rs=some vs/\Q (.ret (ac vs)) rc h'):nD E rs Q .normal (LL n ρ d rc) h:=fD a
theorem im{v:Value}(a:UnQ E d (some v) h fun m h'=>match m with
 |some v=>Q (.pan v) rc h'
 |none=> ∃vs,aU E (tab n ρ) h' rs=some vs/\Q (.ret (ac vs)) rc h'):nD E rs Q (.pan v) (LL n ρ d rc) h:=by
 obtain⟨m,h',b,c⟩:=a
 exact⟨m,h',b,c⟩
theorem c9{m:Option Value}{P:Option Value->Hp->Prop}(a:P m h):UnQ E [] m h P:=⟨m,h,rfl,a⟩
theorem un_dfr{b:Nat}{a:List Deferred}{m:Option Value}{P:Option Value->Hp->Prop}(c:h.get b=some .dfr)(e:UnQ E a m (h.put b .dead) P):UnQ E (qx b::a) m h P:=by
 obtain⟨f,g,i,j⟩:=e
 refine⟨f,g,?_,j⟩
 simp only [bR,qx,c]
 exact i
theorem un_fn{f:FuncId}{cap args:Array Value}{a:List Deferred}{P:Option Value->Hp->Prop}(b:eu E f (args.toList++cap.toList) none h fun o rc h'=>(∃v,o=.ret v)/\rc=none/\UnQ E a none h' P):UnQ E ({target:=.fn (.func f) cap,args}::a) none h P:=by
 obtain⟨o,c,k,e,⟨v,rfl⟩,rfl,g,h',i,j⟩:=b
 refine⟨g,h',?_,j⟩
 simp only [bR,e]
 exact i
theorem un_fn_pan{f:FuncId}{cap args:Array Value}{a:List Deferred}{v:Value}{P:Option Value->Hp->Prop}(e:eu E f (args.toList++cap.toList) (some (v,false)) h fun o rc h'=>(∃u,o=.ret u)/\ ∃v' b,rc=some (v',b)/\UnQ E a (if b=true then none else some v') h' P):
 UnQ E ({target:=.fn (.func f) cap,args}::a) (some v) h P:=by
 obtain⟨o,g,l,i,⟨u,rfl⟩,v',b,rfl,j,h',c,k⟩:=e
 refine⟨j,h',?_,k⟩
 simp only [bR,i]
 cases b with
 |true=>exact c
 |false=>exact c
theorem jb{vs:List Value}(a:aU E (tab n ρ) h rs=some vs)(hq:Q (.ret (ac vs)) rc h):nD E rs Q .ret (LL n ρ [] rc) h:=fD (c9 ⟨rfl,vs,a,hq⟩)
end
end Go.Ab

namespace Go.Ab
section
variable{M:Nat->Prop}{h0 h:Hp}{L:List (Nat×Ob)}{G:List GL}{E:Env}
theorem co{t e:TypeId}{c k n:Nat}{d cs:List Value}{a:List (Nat×Value)}(f:E.und t=some (.slice e))(g:eS E e c k d)(j:n*k<=16777216)
 (hf:iz (fun i=>some (i*k,k)) (bA d n) a=some cs):px h (fun h=>cR (je E h t n a)) (fun b=>.slice (some ⟨b,0,none⟩) n n) (.row cs 1):=by
 obtain⟨⟨i,l,rfl,rfl⟩,m,o⟩:=g
 have p:E.sz e=some i.size:=by unfold Env.sz;rw [l]
 refine⟨.cells (Tr.ofList cs) cs.length e 1,fun x=>?_,fun q=>oe q _ _ _⟩
 simp only [je,f,p,Xa j,m,o,Xi,hf,cond_true]
 rfl
theorem St.clone(S:St M h0 h L G){t u e:TypeId}{g k m n md:Nat}{D new vs:List Value}{b:Nat}{x:Value}(N:E.und t=some (.slice e))(O:eS E e g k D)(P:0<g)
 (v:dD E u=some false) (o:aM h k x=some (m,new)) (F:m*k=new.length) (H:n*k=vs.length) (I:0<k) (w:(vs.length+new.length)*(g+1)<=70368744177664) {ts:List TypeId}
 (Q:Row h b vs md):
 ∃ h' v',cZ E h (t::u::ts) (.slice (some ⟨b,0,none⟩) n n) x=some (h',v')/\
   ((m=0/\h'=h/\v'=.slice (some ⟨b,0,none⟩) n n)\/ ∃J,v'=.slice (some ⟨J,0,some k⟩) (n+m) (n+m)/\St M h0 h' ((J,.row (vs++new) 1)::L) G):=by
 obtain⟨⟨i,R,rfl,rfl⟩,T,y⟩:=O
 have z:cZ E h (t::u::ts) (.slice (some ⟨b,0,none⟩) n n) x=eZ E h e i (some ⟨b,0,none⟩) n n m new:=by
  simp only [cZ,v,jg,N,R,o]
 rw [z]
 by_cases K:m=0
 . subst K
   have:new=[]:=by
    cases new with
    |nil=>rfl
    |cons a l=>simp at F
   subst this
   refine⟨h,_,?_,.inl ⟨rfl,rfl,rfl⟩⟩
   unfold eZ
   rw [Xa (by omega:n+0<=n)]
   rfl
 . have p:Xj (n+m) n=false:=by
    cases v:Xj (n+m) n with
    |false=>rfl
    |true=>exact absurd (Xe v) (by omega)
   have q:n+m<=vs.length+new.length:=by
    rw [<-H,<-F]
    have K:=Xu n I
    have U:=Xu m I
    omega
   have c:(Xj ((n+m)*(i.bytes+1)) 70368744177664&&Nat.blt 0 i.bytes)=true:=by
    rw [Xa (Xs (Xz _ q) w)]
    simp only [Bool.true_and]
    rw [Nat.blt_eq];exact P
   have A:Xy D.length i.size=true:=by rw [y];exact Xi _
   have d:eZ E h e i (some ⟨b,0,none⟩) n n m new=mD h e i.size (some ⟨b,0,none⟩) n m new:=by
    unfold eZ
    rw [p]
    simp only [cond_false]
    rw [c,T]
    simp only [cond_true,A]
   rw [d]
   obtain⟨s,el,r,f,B⟩:=Q
   have C:i6 s vs.length 0 (n*i.size) new=some (s.pushAll vs.length new,vs.length+new.length):=by
    unfold i6
    rw [H,Xi vs.length]
    rfl
   refine⟨h.new (.cells (s.pushAll vs.length new) (vs.length+new.length) e 1),.slice (some ⟨h.n,0,some i.size⟩) (n+m) (n+m),?_,.inr ⟨h.n,rfl,?_⟩⟩
   . unfold mD
     simp only [r,C]
   . refine S.new ⟨s.pushAll vs.length new,e,?_,?_,fun j=>?_⟩
     . rw [h.get_new _ S.ok,if_pos rfl,Xb]
     . rw [Xb];exact Tr.sized_pushAll _ f
     . rw [Tr.get_pushAll _ _ _ f,List.getElem?_append]
       split
       . exact B j
       . rfl
theorem St.cloneSl{α:Type}{enc:α->List Value}{xs ys:List α}(S:St M h0 h L G){t o e:TypeId}{d k md:Nat}{B:List Value}{b:Nat}{x:Value}(q:E.und t=some (.slice e))(j:eS E e d k B)(r:0<d)
 (s:dD E o=some false) (u:au h k enc x ys) (a: ∀x,(enc x).length=k) (v:0<k) (f:((xs.length+ys.length)*k)*(d+1)<=70368744177664) {ts:List TypeId}
 (l:Row h b (xs.flatMap enc) md):
 ∃h' v',cZ E h (t::o::ts) (.slice (some ⟨b,0,none⟩) xs.length xs.length) x=some (h',v')/\St M h0 h' L G/\Gr h h'/\au h' k enc v' (xs++ys)/\(∀c,aq v' c->c=b\/h.n<=c):=by
 obtain⟨h',v',w,C⟩:=S.clone q j r s u.src (bw a ys).symm (bw a xs).symm v (by rw [bw a,bw a,<-XA];exact f) (ts:=ts) l
 refine⟨h',v',w,?_⟩
 rcases C with⟨y,rfl,rfl⟩|⟨m,rfl,g⟩
 . have D:ys=[]:=List.length_eq_zero_iff.1 y
   subst D
   refine⟨S,Gr.refl S.ok,.inr ⟨b,0,none,xs.length,by simp,by simp,?_⟩,fun c n=>.inl (Eq.symm n)⟩
   rw [Xv,l.load (by rw [bw a];omega),Xx,<-bw a xs,Xr]
 . have F:St M h0 h' L G:=⟨g.fr,fun p H=>g.own p (List.mem_cons_of_mem _ H),g.gown,(List.nodup_cons.1 g.apart).2⟩
   have i:Row h' m (xs.flatMap enc++ys.flatMap enc) 1:=g.row m0
   have T:=(St.init (M:=NoM) S.ok).clone q j r s u.src (bw a ys).symm (bw a xs).symm v (by rw [bw a,bw a,<-XA];exact f) (ts:=ts) l
   obtain⟨I,J,z,K⟩:=T
   rw [w]at z
   cases z
   rcases K with⟨y,_,j⟩|⟨O,N,A⟩
   . exact absurd j (by intro e;cases e)
   . cases N
     refine⟨F,A.gr,.inr ⟨m,0,some k,xs.length+ys.length,by rw [Xb],by rw [Xb];exact Xw _,?_⟩,fun c n=>?_⟩
     . rw [i.load (by rw [Xb,Xb,bw a,bw a,XA];omega),Xx,<-List.flatMap_append,<-bw a (xs++ys),Xr]
     . right
       have:m=c:=n
       subst this
       rcases(A.own _ m0).1 with h|h
       . exact h
       . exact h.elim
end
end Go.Ab

namespace Go.Ab
section
variable{E:Env}{t e:TypeId}{h:Hp}{x y:Operand}
noncomputable def lenR(E:Env)(h:Hp)(t:TypeId)(x:Value):Option (c8×Hp):=lenK (match x with
 | .map (some r)=>match h.get r with
   |some (.map a _)=>match E.und t with
    |some (.map _ _)=>some (.val (.int .i64 (.ofNat a.length)),h)
    |_=>none
   |_=>none
 |_=>none) h (ns E t x)
theorem o_lenR{ρ:Operand->Value}{x:Operand}:aop E ρ h (.call ⟨.builtin .len,#[x],#[t]⟩)=lenR E h t (ρ x):=o_lenK
noncomputable def lenQ(d:Option TypeDesc)(h:Hp)(x:Value):Option (c8×Hp):=match d with
 | some .string=>match x with
   | .string s=>some (.val (.int .i64 (.ofNat s.size)),h)
   |_=>none
 |some (.array n _)=>some (.val (.int .i64 (.ofNat n)),h)
 | some (.slice _)=>match x with
   | .slice _ n _=>some (.val (.int .i64 (.ofNat n)),h)
   |_=>none
 | some (.map _ _)=>match x with
   | .map none=>some (.val (.int .i64 0),h)
   | .map (some r)=>match h.get r with
     |some (.map a _)=>some (.val (.int .i64 (.ofNat a.length)),h)
     |_=>none
   |_=>none
 |_=>none
theorem len_q{x:Value}:lenR E h t x=lenQ (E.und t) h x:=by
 unfold lenR ns
 cases a:E.und t with
 |none=>cases x<;>first|rfl|(rename_i r;cases r<;>first|rfl|(rename_i r;simp only [lenQ,lenK];cases h.get r with|none=>rfl|some b=>cases b<;>rfl))
 | some d=>
   cases d<;>cases x<;>first
    |rfl
    | (rename_i r;cases r<;>first
      |rfl
      |(rename_i r;simp only [lenQ,lenK];cases h.get r with|none=>rfl|some b=>cases b<;>rfl))
theorem Ai{a:Option Addr}{n c:Nat}:lenQ (some (.slice e)) h (.slice a n c)=some (.val (.int .i64 n),h):=rfl
theorem lenq_str{s:ByteArray}:lenQ (some .string) h (.string s)=some (.val (.int .i64 s.size),h):=rfl
theorem lenq_arr{n:Nat}{v:Value}:lenQ (some (.array n e)) h v=some (.val (.int .i64 n),h):=rfl
theorem zu{k:TypeId}:lenQ (some (.map k e)) h (.map none)=some (.val (.int .i64 0),h):=rfl
theorem au.lenq{α:Type}{k:Nat}{enc:α->List Value}{v:Value}{xs:List α}{h h':Hp}(s:au h' k enc v xs):lenQ (some (.slice e)) h v=some (.val (.int .i64 xs.length),h):=by
 rcases s with⟨rfl,rfl⟩|⟨_,_,_,_,rfl,_⟩<;>rfl
theorem fL.lenq{v:Value}{k n:Nat}{vs:List Value}{h h':Hp}(g:fL h' (v,k,vs))(f:0<k)(d:n*k=vs.length):lenQ (some (.slice e)) h v=some (.val (.int .i64 n),h):=by
 rcases g with⟨a,c⟩|⟨b,m,a,c,i⟩
 . simp only []at a c
   subst a c
   have:n=0:=by
    cases n with
    |zero=>rfl
    |succ n=>simp only [Xc,Xh]at d;omega
   subst this
   rfl
 . simp only []at a c
   subst a
   have:m=n:=Xg f (c.trans d.symm)
   subst this
   rfl
def idxS(k:Option Nat)(v i:Value):Option Value:=match k with
 |none=>none
 | some k=>match v with
   | .slice (some a) n _=>match fU i n with
     |none=>none
     |some j=>some (.pointer (some (eH a (j*k))))
   |_=>none
def idxA(n:Nat)(k:Option Nat)(v i:Value):Option Value:=match k with
 |none=>none
 | some k=>match v with
   | .pointer (some a)=>match fU i n with
     |none=>none
     |some j=>some (.pointer (some (eH a (j*k))))
   |_=>none
def idxQ(E:Env)(d:Option TypeDesc)(v i:Value):Option Value:=match d with
 |some (.slice e)=>idxS (E.sz e) v i
 |some (.array n e)=>idxA n (E.sz e) v i
 |_=>none
theorem idx_q{v i:Value}:er E t v i=idxQ E (E.und t) v i:=by
 unfold er idxQ
 cases b:E.und t with
 |none=>rfl
 | some d=>
   cases d<;>first
    |rfl
    |(simp only [idxS];cases a:E.sz _<;>(split<;>first|rfl|(split<;>simp_all)))
    |(simp only [idxA];cases a:E.sz _<;>(split<;>first|rfl|(split<;>simp_all)))
theorem Am{v i:Value}:idxQ E (some (.slice e)) v i=idxS (E.sz e) v i:=rfl
theorem At{n:Nat}{v i:Value}:idxQ E (some (.array n e)) v i=idxA n (E.sz e) v i:=rfl
def putI(a:Addr)(k:Nat):Option Nat->Option Value
 |none=>none
 |some j=>some (.pointer (some ⟨a.block,a.off+j*k,none⟩))
theorem pZ{k n c:Nat}{a:Addr}{i:Value}:idxS (some k) (.slice (some a) n c) i=putI a k (fU i n):=by
 simp only [idxS,putI,eH]
theorem idxa_ptr{k n:Nat}{a:Addr}{i:Value}:idxA n (some k) (.pointer (some a)) i=putI a k (fU i n):=by
 simp only [idxA,putI,eH]
theorem putI_some{a:Addr}{k j:Nat}:putI a k (some j)=some (.pointer (some ⟨a.block,a.off+j*k,none⟩)):=rfl
theorem au.ix{α:Type}{k:Nat}{enc:α->List Value}{v:Value}{xs:List α}{kd:IntKind}(s:au h k enc v xs)(d: ∀x,(enc x).length=k){i:Nat}(a:i<xs.length):
 ∃b o,idxS (some k) v (.int kd i)=some (.pointer (some ⟨b,o,none⟩))/\h.load b o k=some (enc xs[i]):=by
 obtain⟨b,o,g,c,rfl,f⟩:=s.idx d a
 refine⟨b,o+i*k,?_,f⟩
 rw [pZ,ir a]
 rfl
noncomputable def loadQ(g:Option Bool)(n:Option Nat)(h:Hp)(b o:Nat):Option Value:=match g with
 | some true=>match n with
   |some n=>agg1 (h.load b o n)
   |none=>none
 |some false=>one1 (h.load b o 1)
 |none=>none
theorem load_q{b o:Nat}{s:Option Nat}:eJ E h t (.pointer (some ⟨b,o,s⟩))=loadQ (E.agg t) (E.sz t) h b o:=by
 cases a:E.agg t with
 |none=>simp [eJ,loadQ,a]
 | some g=>
   cases g with
   |false=>exact AD a
   | true=>
     cases c:E.sz t with
     |none=>simp [eJ,loadQ,a,c]
     |some n=>exact loadV_agg a c
theorem loadq_f{b o:Nat}{n:Option Nat}:loadQ (some false) n h b o=one1 (h.load b o 1):=rfl
theorem loadq_t{b o n:Nat}:loadQ (some true) (some n) h b o=agg1 (h.load b o n):=rfl
def isSl(E:Env)(t:TypeId):Bool:=match E.und t with
 |some (.slice _)=>true
 |_=>false
theorem sl_und(b:isSl E t=true): ∃a,E.und t=some (.slice a):=by
 unfold isSl at b;split at b<;>first|exact⟨_, ‹_›⟩|cases b
theorem e_slice{a:Addr}{n c:Nat}(b:isSl E t=true):bQ E .eql t x y (.slice (some a) n c) (.slice none 0 0)=some (.bool false):=by
 obtain⟨e,b⟩:=sl_und b
 simp [bQ,fm,dN,b]
theorem e_snil(a:isSl E t=true):bQ E .eql t x y (.slice none 0 0) (.slice none 0 0)=some (.bool true):=by
 obtain⟨e,a⟩:=sl_und a
 simp [bQ,fm,dN,a]

def Fl(v:Value):Prop:=ah v=[v]/\iU v=true/\ ∀x,v≠ .chan x
theorem aY{k:IntKind}{n:Int}:Fl (.int k n):=⟨rfl,rfl,nofun⟩
theorem fl_bool{b:Bool}:Fl (.bool b):=⟨rfl,rfl,nofun⟩
theorem fl_str{b:ByteArray}:Fl (.string b):=⟨rfl,rfl,nofun⟩
theorem dz{a:Option Addr}:Fl (.pointer a):=⟨rfl,rfl,nofun⟩
theorem bq{a:Option Addr}{n c:Nat}:Fl (.slice a n c):=⟨rfl,rfl,nofun⟩
theorem fl_map{a:Option Nat}:Fl (.map a):=⟨rfl,rfl,nofun⟩
theorem fO{f:Fn}{a b:Array Value}:Fl (.func f a b):=⟨rfl,rfl,nofun⟩
theorem fl_nilf:Fl .nilFunc:=⟨rfl,rfl,nofun⟩
theorem fl_nili:Fl .nilIface:=⟨rfl,rfl,nofun⟩
theorem fl_iface{t:TypeId}{v:Value}:Fl (.iface t v):=⟨rfl,rfl,nofun⟩
theorem au.fl{α:Type}{k:Nat}{enc:α->List Value}{v:Value}{xs:List α}(s:au h k enc v xs):Fl v:=by
 rcases s with⟨rfl,_⟩|⟨_,_,_,_,rfl,_⟩<;>exact bq
theorem fL.fl{p:GL}(g:fL h p):Fl p.1:=by
 rcases g with⟨e,_⟩|⟨_,_,e,_⟩<;>rw [e]<;>exact bq
def placesOf(E:Env)(t:TypeId):Option (List (Nat×Nat)):=match E.und t with
 |some (.struct a)=>mC E a.toList
 |_=>none
def aggO:Option (List Value)->Option Value
 |some l=>some (.agg ⟨l⟩)
 |none=>none
theorem aggO_some{l:List Value}:aggO (some l)=some (.agg ⟨l⟩):=rfl
def kh(ps:List (Nat×Nat))(l:List Value)(a:List (Nat×Value)):Option (List Value):=iz (fun i=>ps[i]?) l a
theorem build_st{c:List Value}{ps:List (Nat×Nat)}{a:List (Nat×Value)}(d:E.zero t=some c)(b:placesOf E t=some ps):iK E t a=aggO (kh ps c a):=by
 unfold placesOf at b
 unfold iK kh
 rw [d]
 split at b
 . rename_i g f
   simp only [f,b]
   cases iz (fun i=>ps[i]?) c a<;>rfl
 . cases b
theorem fill_nil{ps:List (Nat×Nat)}{l:List Value}:kh ps l []=some l:=rfl
def buildQ(z:Option (List Value))(p:Option (List (Nat×Nat)))(a:List (Nat×Value)):Option Value:=match z with
 |none=>none
 | some z=>match p with
   |none=>none
   |some p=>aggO (kh p z a)
theorem build_q{a:List (Nat×Value)}(b:(placesOf E t).isSome=true):iK E t a=buildQ (E.zero t) (placesOf E t) a:=by
 cases c:placesOf E t with
 |none=>rw [c]at b;cases b
 | some f=>
   cases d:E.zero t with
   |none=>simp [iK,buildQ,d]
   |some z=>exact build_st d c
theorem Ad{b:List Value}{ps:List (Nat×Nat)}{a:List (Nat×Value)}:buildQ (some b) (some ps) a=aggO (kh ps b a):=rfl
def se(ps:List (Nat×Nat))(l:List Value)(v:Value)(r:List (Nat×Value)):Option (Nat×Nat)->Option (List Value)
 |none=>none
 |some (o,n)=>match v with
  | .chan _=>none
  |v=>bif Xy (ah v).length n&&Xj (o+n) l.length then kh ps (bS l o (ah v)) r else none
theorem fill_q{ps:List (Nat×Nat)}{l:List Value}{i:Nat}{v:Value}{r:List (Nat×Value)}:kh ps l ((i,v)::r)=se ps l v r (ps[i]?):=by
 unfold kh
 cases a:ps[i]? with
 |none=>simp [iz,se,a]
 |some q=>obtain⟨o,n⟩:=q;simp only [iz,se,a];rfl
theorem fills_one{ps:List (Nat×Nat)}{l:List Value}{o:Nat}{v:Value}{r:List (Nat×Value)}(a:Fl v)(b:o<l.length):se ps l v r (some (o,1))=kh ps (l.set o v) r:=by
 have e:(bif Xy (ah v).length 1&&Xj (o+1) l.length then kh ps (bS l o (ah v)) r else none)=kh ps (l.set o v) r:=by
  rw [a.1]
  simp only [Xf,Xc,Nat.zero_add,Xi,Xa (show o+1<=l.length from b),Bool.and_self,cond_true,bS]
 cases v<;>first|exact e|exact absurd rfl (a.2.2 _)
theorem fills_agg{ps:List (Nat×Nat)}{l c:List Value}{o n:Nat}{r:List (Nat×Value)}(a:c.length=n)(b:o+n<=l.length):se ps l (.agg ⟨c⟩) r (some (o,n))=kh ps (bS l o c) r:=by
 simp only [se,ah,a,Xi,Xa b,Bool.and_self,cond_true]
theorem setL_nil{l:List Value}{o:Nat}:bS l o []=l:=rfl
theorem setL_cons{l vs:List Value}{o:Nat}{v:Value}:bS l o (v::vs)=bS (l.set o v) (o+1) vs:=rfl
theorem cK{v:Value}(a:Fl v):px h (fun h=>boxR h t v) ptrTo (.row [v] 1):=by
 have:=aS (h:=h) (t:=t) a.2.2
 rw [a.1]at this
 exact this
theorem aC{M:Nat->Prop}{h0:Hp}{L:List (Nat×Ob)}{G:List GL}(S:St M h0 h L G){i b off md:Nat}{s:Option Nat}{l:List Value}{v:Value}(g:L[i]? =some (b,.row l md))(k:E.sz t=some 1)(c:Fl v)
 (m:off<l.length) (d:md≠0): ∃h',ii E h t (.pointer (some ⟨b,off,s⟩)) v=some h'/\St M h0 h' (L.set i (b,.row (l.set off v) md)) G/\Mo (· =b) h h':=by
 have a:ah v=[v]:=c.1
 have:=S.store (v:=v) (t:=t) (s:=s) (off:=off) (n:=1) g k c.2.2 (by rw [a];rfl) (by rw [a];simp [c.2.1]) (by omega) d
 rw [a]at this
 have e:lay l off [v]=l.set off v:=by
  refine Xd fun j=>?_
  rw [jj (by simp;omega),Xp]
  simp only [Xf,Xc]
  by_cases f:off=j
  . subst f;rw [if_pos ⟨Xw _,by omega⟩,if_pos rfl,if_pos m];simp
  . rw [if_neg (by omega),if_neg f]
 rw [e]at this
 exact this
end
def ifaceR(E:Env)(t:TypeId)(v:Value):Option Value:=match E.und t with
 |none=>none
 |some (.interface _)=>none
 |some _=>some (.iface t v)
theorem o_ifaceR{E:Env}{ρ:Operand->Value}{h:Hp}{t:TypeId}{x:Operand}:aop E ρ h (.makeInterface t x)=cq h (ifaceR E t (ρ x)):=rfl
theorem ifaceR_is{E:Env}{t:TypeId}{v:Value}(a:jM E t=true):ifaceR E t v=some (.iface t v):=mk_iface a
def nilcR:Value->Option Value
 | .pointer (some a)=>some (.pointer (some a))
 | .func (.func f) a b=>some (.func (.func f) a b)
 |_=>none
theorem o_nilcR{E:Env}{ρ:Operand->Value}{h:Hp}{x:Operand}:aop E ρ h (.nilCheck x)=cq h (nilcR (ρ x)):=rfl
theorem nilcR_ptr{a:Addr}:nilcR (.pointer (some a))=some (.pointer (some a)):=rfl
def pickR(c a b:Value):Option Value:=match c with
 | .bool t=>some (bif t then a else b)
 |_=>none
theorem o_pickR{E:Env}{ρ:Operand->Value}{h:Hp}{c a b:Operand}:aop E ρ h (.pick c a b)=cq h (pickR (ρ c) (ρ a) (ρ b)):=rfl
theorem pick_t{a b:Value}:pickR (.bool true) a b=some a:=rfl
theorem pick_f{a b:Value}:pickR (.bool false) a b=some b:=rfl
def extrR(i:Nat):Value->Option Value
 | .tuple a=>a.toList[i]?
 |_=>none
theorem o_extrR{E:Env}{ρ:Operand->Value}{h:Hp}{x:Operand}{i:Nat}:aop E ρ h (.extract x i)=cq h (extrR i (ρ x)):=by
 rw [o_extract];rfl
theorem extr_0{a:Value}{l:List Value}:extrR 0 (.tuple ⟨a::l⟩)=some a:=rfl
theorem extr_1{a b:Value}{l:List Value}:extrR 1 (.tuple ⟨a::b::l⟩)=some b:=rfl
theorem extr_2{a b c:Value}{l:List Value}:extrR 2 (.tuple ⟨a::b::c::l⟩)=some c:=rfl
noncomputable def delR(E:Env)(h:Hp)(t:TypeId)(m k:Value):Option (c8×Hp):=match lq E h t m k with
 |none=>none
 |some a=>some (.val (.tuple #[]),a)
theorem o_delR{E:Env}{ρ:Operand->Value}{h:Hp}{m k:Operand}{t:TypeId}{ts:List TypeId}:aop E ρ h (.call ⟨.builtin .delete,#[m,k],⟨t::ts⟩⟩)=delR E h t (ρ m) (ρ k):=rfl
theorem aK{a b:Nat}:((a:Int)<(b:Int))=(a<b):=by simp
def BS:=zM (@run_seq)<|zM (@A7)<|zM (@r_ops)<|zM (@g_true)<|zM (@g_false)<|zM (@zt)<|zM (@run_ret)<|zM (@run_nil)<|zM (@run_skip)<|zM (@run_block)<|zM (@run_scope)<|zM (@run_blk)<|zM (@run_exit)<|zM (@ym)<|zM (@xh)<|zM (@yN)<|zM (@Ap)<|zM (@AK)<|zM (@r_cond)<|zM (@c_true)<|zM (@c_false)<|zM (@r_opsD)<|zM (@dn_loud)<|zM (@dn_quiet)<|zM (@dn_val)<|zM (@dn_skip)<|zM (@d_skip)<|zM (@kZ)<|zM (@aX)<|zM (@bE)<|zM (@xR)<|zM (@guard_no)<|zM (@AE)<|zM (@gj_some)<|zM (@gv_true)<|zM (@gv_false)<|zM (@gv_tuple)<|zM (@o_move)<|zM (@o_assign)<|zM (@o_pickR)<|zM (@pick_t)<|zM (@pick_f)<|zM (@o_load)<|zM (@o_store)<|zM (@o_binOp)<|zM (@o_unOp)<|zM (@o_nilcR)<|zM (@nilcR_ptr)<|zM (@o_ifaceR)<|zM (@Ak)<|zM (@o_slice)<|zM (@zI)<|zM (@o_field)<|zM (@zP)<|zM (@o_index)<|zM (@o_extrR)<|zM (@extr_0)<|zM (@extr_1)<|zM (@extr_2)<|zM (@o_build)<|zM (@xV)<|zM (@zZ)<|zM (@Bf)<|zM (@zj)<|zM (@o_convert)<|zM (@o_lookup)<|zM (@zY)<|zM (@AO)<|zM (@zk)<|zM (@o_allocR)<|zM (@o_boxR)<|zM (@o_callv)<|zM (@o_max)<|zM (@o_min)<|zM (@o_append)<|zM (@o_copy)<|zM (@o_lenR)<|zM (@o_delR)<|zM (@o_recover)<|zM (@o_deferR)<|zM (@o_panicR)<|zM (@Ax)<|zM (@AC)<|zM (@AQ)<|zM (@AW)<|zM (@wU)<|zM (@vg)<|zM (@uM)<|zM (@uK)<|zM (@uh)<|zM (@step_defer)<|zM (@target_fn)<|zM (@xI)<|zM (@b_add)<|zM (@b_sub)<|zM (@b_mul)<|zM (@b_eql)<|zM (@b_neq)<|zM (@b_lss)<|zM (@b_leq)<|zM (@b_gtr)<|zM (@b_geq)<|zM (@b_eqlB)<|zM (@b_neqB)<|zM (@same_bool)<|zM (@u_not)<|zM (@mm_max)<|zM (@mm_min)<|zM (@ag)<|zM (@one1_some)<|zM (@agg1_some)<|zM (@cM)<|zM (@ll_put0)<|zM (@cb)<|zM (@ll_func)<|zM (@c_int)<|zM (@c_bool)<|zM (@c_string)<|zM (@c_nilp)<|zM (@c_nils)<|zM (@c_nilm)<|zM (@c_nilf)<|zM (@c_nili)<|zM (@ll_regs)<|zM (@kT)<|zM (@aO)<|zM (@aZ)<|zM (@cG)<|zM (@vC)<|zM (@xu)<|zM (@eY)<|zM (@eE)<|zM (@hush_s)<|zM (@idxP_in)<|zM (@ir)<|zM (@idx_q)<|zM (@Am)<|zM (@At)<|zM (@pZ)<|zM (@idxa_ptr)<|zM (@putI_some)<|zM (@len_q)<|zM (@Ai)<|zM (@lenq_str)<|zM (@lenq_arr)<|zM (@zu)<|zM (@load_q)<|zM (@loadq_f)<|zM (@loadq_t)<|zM (@n_iface)<|zM (@n_nil)<|zM (@e_iface)<|zM (@e_nil)<|zM (@n_ptr)<|zM (@e_ptr)<|zM (@n_pnil)<|zM (@e_pnil)<|zM (@e_slice)<|zM (@e_snil)<|zM (@assert_is)<|zM (@ifaceR_is)<|zM (@build_q)<|zM (@Ad)<|zM (@aggO_some)<|zM (@fill_nil)<|zM (@fill_q)<|zM (@fills_one)<|zM (@fills_agg)<|zM (@setL_nil)<|zM (@setL_cons)<|zM (@aY)<|zM (@fl_bool)<|zM (@fl_str)<|zM (@dz)<|zM (@bq)<|zM (@fl_map)<|zM (@fO)<|zM (@fl_nilf)<|zM (@fl_nili)<|(@fl_iface)
end Go.Ab

namespace Go.Ab
structure ItS(h0:Hp)(D:Nat->Prop)(h:Hp)(F:List Nat):Prop where
 ok:h.t.Sized h.n
 n:h0.n<=h.n
 data: ∀b,b<h0.n->D b->h.get b=h0.get b
 apart: ∀b∈F,¬(b<h0.n/\D b)
 lt: ∀b∈F,b<h.n
section
variable{h0 h h':Hp}{D:Nat->Prop}{F F':List Nat}
theorem ItS.gr(s:ItS h0 D h F)(g:Gr h h'):ItS h0 D h' F:=
 ⟨g.ok,Xs s.n g.n,fun b a c=>(g.get b (Xm a s.n)).trans (s.data b a c),s.apart,fun b a=>Xm (s.lt b a) g.n⟩
theorem ItS.mo(s:ItS h0 D h F)(m:Mo (· ∈F) h h')(hf: ∀b∈F',b∈F\/h.n<=b)(d: ∀b∈F',b<h'.n):ItS h0 D h' F':=
 ⟨m.ok,Xs s.n m.n,fun b a c=>(m.get b (Xm a s.n) (fun hf=>s.apart b hf ⟨a,c⟩)).trans (s.data b a c),
  fun b a c=>(hf b a).elim (fun a=>s.apart b a c) (fun a=>by have:=s.n;omega),d⟩
theorem ItS.load(s:ItS h0 D h F){b o n:Nat}{l:List Value}(a:h0.t.Sized h0.n)(e:h0.load b o n=some l)(c:D b):h.load b o n=some l:=by
 have:=s.data b (bD a e) c
 unfold Hp.load at e⊢
 rw [this];exact e
theorem ItS.sl{α:Type}{k:Nat}{enc:α->List Value}{v:Value}{xs:List α}(s:ItS h0 D h F)(a:h0.t.Sized h0.n)(e:au h0 k enc v xs)(f: ∀b,aq v b->D b):au h k enc v xs:=by
 rcases e with e|⟨b,o,g,c,d,i,j⟩
 . exact .inl e
 . exact .inr ⟨b,o,g,c,d,i,s.load a j (f b (by rw [d];rfl))⟩
end
structure Yld(E:Env)(lb:Nat)(J:Nat->Hp->List Nat->Prop)(Z:Out->Hp->Prop)(xs:List (List Value)):Prop where
 lt: ∀i h F,J i h F->h.t.Sized h.n/\ ∀b∈F,b<h.n
 gr: ∀i h F h',J i h F->Gr h h'->J i h' F
 zgr: ∀h h',Z (.ret (.bool false)) h->Gr h h'->Z (.ret (.bool false)) h'
 round: ∀i x h F,xs[i]? =some x->J i h F->j5 E lb x h fun o h'=>(o=.ret (.bool true)/\ ∃F',J (i+1) h' F'/\Mo (· ∈F) h h'/\ ∀b∈F',b∈F\/h.n<=b)\/(o=.ret (.bool false)/\Z o h'/\h'.t.Sized h'.n)\/((∃v,o=.pan v)/\Z o h')
def YQ(J:Nat->Hp->List Nat->Prop)(Z:Out->Hp->Prop)(n:Nat)(o:Out)(a:Option (Value×Bool))(h':Hp):Prop:=
 a=none/\((∃u b,o=.ret u/\J n h' b)\/(∃u,o=.ret u/\Z (.ret (.bool false)) h')\/(∃v,o=.pan v/\Z o h'))
theorem rW{E:Env}{g:FuncId}{a post:List Value}{h0:Hp}{D:Nat->Prop}{xs:List (List Value)}
 (H: ∀b J Z,Yld E b J Z xs-> ∀h F,ItS h0 D h F->J 0 h F->eu E g (a++[.func (.yield b) #[] #[]]++post) none h (YQ J Z xs.length)):Iter E g a post h0 D xs:=by
 intro b J Z h F e f i hlt c j k l d
 exact H b J Z ⟨hlt,c,j,l⟩ h F ⟨e,f,i,k,(hlt 0 h F d).2⟩ d
theorem yE{E:Env}{g:FuncId}{a post:List Value}{h0:Hp}{D:Nat->Prop}{xs:List (List Value)}(H:Iter E g a post h0 D xs){c:Nat}{J:Nat->Hp->List Nat->Prop}{Z:Out->Hp->Prop}(Y:Yld E c J Z xs)
 {h:Hp} {F:List Nat} (d:Mo (fun b=> ¬D b) h0 h) (f: ∀b∈F,b<h0.n-> ¬D b) (i:J 0 h F):eu E g (a++[.func (.yield c) #[] #[]]++post) none h (YQ J Z xs.length):=
 H c J Z h F d.ok d.n (fun b e j=>d.get b e (fun k=>k j)) Y.lt Y.gr Y.zgr (fun b e h=>f b e h.1 h.2) Y.round i
theorem gu{E:Env}{cx:Cx}{o:Oper}{l:Loc}{K:Ex->Loc->Hp->Prop}{h0 h:Hp}{D:Nat->Prop}{d i:Nat}{J:Nat->Hp->List Nat->Prop}{Z:Out->Hp->Prop}{xs:List (List Value)}{x:List Value}{F:List Nat}
 (Y:Yld E d J Z xs) (s:ItS h0 D h F) (e:J i h F) (f:xs[i]? =some x)
 (g: ∀h' F',J (i+1) h' F'->ItS h0 D h' F'->Mo (· ∈F) h h'->(∀b∈F',b∈F\/h.n<=b)->K .normal (l.put o.dst (.bool true)) h')
 (k2: ∀h',Z (.ret (.bool false)) h'->h'.t.Sized h'.n->K .normal (l.put o.dst (.bool false)) h') (j: ∀v h',Z (.pan v) h'->K (.pan v) l h'):eR E cx o l K (some (.yield d x,h)):=by
 refine uH (Y.round i x h F f e) ?_
 rintro q h' (⟨rfl,F',a,b,c⟩|⟨rfl,a,b⟩|⟨⟨v,rfl⟩,a⟩)
 . exact g h' F' a (s.mo b c (Y.lt _ _ _ a).2) b c
 . exact k2 h' a b
 . exact j v h' a

section
variable{M:Nat->Prop}{h0 h h':Hp}{L L':List (Nat×Ob)}{G G':List GL}
theorem St.base(S:St M h0 h L G):St (· ∈keys L G) h h L G:=
 ⟨Mo.refl S.ok,fun p a=>⟨.inr (gm a),(S.own p a).2⟩,fun p a=>⟨(S.gown p a).1,fun b c=>.inr (eW a c)⟩,S.apart⟩
theorem St.key_own(S:St M h0 h L G){b:Nat}(a:b∈keys L G):h0.n<=b\/M b:=by
 unfold keys at a
 rcases List.mem_append.1 a with a|a
 . obtain⟨p,c,rfl⟩:=List.mem_map.1 a
   exact(S.own p c).1
 . obtain⟨p,c,d⟩:=List.mem_filterMap.1 a
   exact(S.gown p c).2 b d
theorem St.rebase(S:St M h0 h L G)(T:St (· ∈keys L G) h h' L' G'):St M h0 h' L' G':=by
 have d: ∀b,h.n<=b\/b∈keys L G->h0.n<=b\/M b:=fun b a=>a.elim (fun a=>.inl (Xs S.fr.n a)) S.key_own
 exact⟨S.fr.trans T.fr fun b a=>(S.key_own a).symm,fun p c=>⟨d _ (T.own p c).1,(T.own p c).2⟩,fun p c=>⟨(T.gown p c).1,fun b a=>d b ((T.gown p c).2 b a)⟩,T.apart⟩
theorem St.key_new(T:St (· ∈keys L G) h h' L' G'): ∀b∈keys L' G',b∈keys L G\/h.n<=b:=fun _ a=>(T.key_own a).symm
theorem St.sub(S:St M h0 h L G)(b:L'.Sublist L)(c:G'.Sublist G):St M h0 h L' G':=
 ⟨S.fr,fun p a=>S.own p (b.subset a),fun p a=>S.gown p (c.subset a),S.apart.sublist ((b.map _).append (c.filterMap _))⟩
theorem St.drop1{x:Nat×Ob}(S:St M h0 h (x::L) G):St M h0 h L G:=S.sub (List.sublist_cons_self _ _) (List.Sublist.refl _)
end
theorem fk{E:Env}{f:FuncId}{args:List Value}{d:Option (Value×Bool)}{h:Hp}{P Q:Out->Option (Value×Bool)->Hp->Prop}(e:eu E f args d h P)(g: ∀o c h',P o c h'->Q o c h'):eu E f args d h Q:=by
 obtain⟨o,c,h',a,b⟩:=e;exact⟨o,c,h',a,g _ _ _ b⟩
theorem qH{E:Env}{f:FuncId}{args:List Value}{h:Hp}{P Q:Value->Hp->Prop}(a:Ret E f args h P)(b: ∀v h',P v h'->Q v h'):Ret E f args h Q:=Ret.mono b a
theorem mS{E:Env}{cx:Cx}{Q:ew}{k:List Fr}{l:Loc}{a:Nat}{J:Nat->Hp->List Nat->Prop}{n:Nat}{o:Out}{c:Option (Value×Bool)}{h:Hp}(y:YQ J (fun _ _=>False) n o c h)
 (d: ∀F,J n h F-> ∃x,h.get a=some (.loop x)/\x.st≠1/\RangeGo E cx Q k l (h.put a .dead) x.pending):RangeQ E cx Q k l a o c h:=by
 obtain⟨_,⟨u,F,rfl,e⟩|⟨u,_,b⟩|⟨v,_,b⟩⟩:=y
 . exact d F e
 . exact b.elim
 . exact b.elim
theorem St.dead{M:Nat->Prop}{h0 h:Hp}{L:List (Nat×Ob)}{G:List GL}{b:Nat}{o:Ob}(S:St M h0 h ((b,o)::L) G):St M h0 (h.put b .dead) L G:=by
 have d:=S.own _ m0
 refine⟨S.fr.put d.1 _,fun p a=>⟨(S.own p (.tail _ a)).1,(S.own p (.tail _ a)).2.of_get (cd fun e=>?_)⟩,fun p a=>⟨(S.gown p a).1.of_get fun c f=>cd fun e=>?_,(S.gown p a).2⟩,(List.nodup_cons.1 S.apart).2⟩
 . exact(List.nodup_cons.1 S.apart).1 (by show b∈keys L G;rw [e];exact gm a)
 . exact(List.nodup_cons.1 S.apart).1 (by show b∈keys L G;rw [e];exact eW a f)
theorem St.get{M:Nat->Prop}{h0 h:Hp}{L:List (Nat×Ob)}{G:List GL}{b:Nat}{x:gW}(S:St M h0 h L G)(a:(b,Ob.loop x)∈L):h.get b=some (.loop x):=(S.own _ a).2
theorem St.getD{M:Nat->Prop}{h0 h:Hp}{L:List (Nat×Ob)}{G:List GL}{b:Nat}(S:St M h0 h L G)(a:(b,Ob.dfr)∈L):h.get b=some .dfr:=(S.own _ a).2

theorem rh{E:Env}{cx:Cx}{Q:ew}{k:List Fr}{n:Nat}{e:Option (Value×Bool)}{b:Code}{α:Type}(I:α->(Nat->Value)->List Deferred->Hp->Prop)(m:α->Nat)
 (p: ∀a,(∀f c g h',m f<m a->I f c g h'->Run E (lim E) cx Q (.code (.loop b)::k) .normal (LL n c g e) h')-> ∀ρ d h,I a ρ d h->Run E (lim E) cx Q (.code b:: .code (.loop b)::k) .normal (LL n ρ d e) h):
 ∀a ρ d h,I a ρ d h->Run E (lim E) cx Q (.code (.loop b)::k) .normal (LL n ρ d e) h:=by
 have i: ∀j a,m a<j-> ∀ρ d h,I a ρ d h->Run E (lim E) cx Q (.code (.loop b)::k) .normal (LL n ρ d e) h:=by
  intro j
  induction j with
  |zero=>intro a q;omega
  | succ j r=>
    intro a q ρ d h l
    rw [bG]
    exact p a (fun f c g h' hlt o=>r f (by omega) c g h' o) ρ d h l
 intro a ρ d h l
 exact i (m a+1) a (by omega) ρ d h l
def ey(a:List Nat):List (Nat×Ob):=a.map fun b=>(b,Ob.dfr)
theorem kK{E:Env}{M:Nat->Prop}{h0:Hp}{L:List (Nat×Ob)}{G:List GL}{m:Option Value}{P:Option Value->Hp->Prop}: ∀(a:List Nat) (h:Hp),St M h0 h (ey a++L) G->(∀h',St M h0 h' L G->P m h')->UnQ E (a.map qx) m h P
 | [],h,S,c=>c9 (c h S)
 |b::a,h,S,c=>un_dfr (S.getD m0) (kK a _ (S.dead) c)

theorem rV{E:Env}{n:Nat}{ρ:Nat->Value}{h:Hp}{t:Tmp}{ty:TypeId}{v:Value}(a:t<n)(b:eJ E h ty (ρ t)=some v):aU E (tab n ρ) h [.cell t ty]=some [v]:=by
 simp only [aU,kT,if_pos a,b]
theorem qk{E:Env}{h:Hp}{t:TypeId}{b o:Nat}{s:Option Nat}{v:Value}(a:E.agg t=some false)(c:h.load b o 1=some [v]):eJ E h t (.pointer (some ⟨b,o,s⟩))=some v:=by
 rw [load_q,a,loadq_f,c];rfl
theorem cP{E:Env}{h:Hp}{t:TypeId}{b o n:Nat}{s:Option Nat}{l:List Value}(a:E.agg t=some true)(c:E.sz t=some n)(d:h.load b o n=some l):eJ E h t (.pointer (some ⟨b,o,s⟩))=some (.agg ⟨l⟩):=by
 rw [load_q,a,c,loadq_t,d];rfl

theorem St.call1{M:Nat->Prop}{h0 h h':Hp}{L:List (Nat×Ob)}{G:List GL}(S:St M h0 h L G){i b:Nat}{o o':Ob}(g:L[i]? =some (b,o))(f:Mo (· =b) h h')(n:Has h' b o'):St M h0 h' (L.set i (b,o')) G:=by
 have m:=S.own _ (zN g)
 have k:(keys L G)[i]? =some b:=oa g
 refine⟨S.fr.trans f (fun c l=>by subst l;exact m.1.symm),fun p a=>?_,fun p a=>⟨(S.gown p a).1.of_get fun c l=>?_,(S.gown p a).2⟩,?_⟩
 . rcases kW a with rfl|⟨j,q,a⟩
   . exact⟨m.1,n⟩
   . have d:=S.own p (zN a)
     refine⟨d.1,d.2.of_get (f.get _ (d.2.lt S.ok) fun e=>q ?_)⟩
     have r:(keys L G)[j]? =some b:=by rw [oa a];rw [e]
     exact oW S.apart r k
 . refine f.get c ((S.gown p a).1.lt S.ok l) fun e=>?_
   subst e
   have d:=S.apart
   unfold keys at d
   rw [Xq]at d
   exact d.2.2 c (List.mem_map.2 ⟨_,zN g,rfl⟩) c (List.mem_filterMap.2 ⟨p,a,l⟩) rfl
 . have:keys (L.set i (b,o')) G=keys L G:=by
    unfold keys
    congr 1
    rw [List.map_set]
    refine Xd fun j=>?_
    rw [Xp]
    split
    . rename_i e;subst e
      have:=(List.getElem?_eq_some_iff.1 g).1
      rw [if_pos (by simpa using this),List.getElem?_map,g];rfl
    . rfl
   rw [this];exact S.apart
theorem St.init1{h:Hp}(a:h.t.Sized h.n){b:Nat}{o:Ob}(c:Has h b o):St (· =b) h h [(b,o)] []:=(St.init a).push (.inr rfl) c (by simp [keys])
theorem wrap8(z:Int):0<=an .u8 z/\an .u8 z<256:=by
 unfold an
 cases z with
 | ofNat m=>
   simp only [hf,sgn,pw]
   cases a:Nat.blt m 256 with
   | true=>
     rw [Nat.blt_eq]at a
     simp only [cond_true]
     exact⟨Xn m,Int.ofNat_lt.2 a⟩
   | false=>
     simp only [cond_false]
     exact⟨Xn _,Int.ofNat_lt.2 (Nat.mod_lt _ (by omega))⟩
 | negSucc m=>
   simp only [hf,sgn,pw,cond_false]
   exact⟨Xn _,Int.ofNat_lt.2 (show 256-1-m%256<256 by omega)⟩
theorem bn{a:List (Nat×Tch)}{i j:Nat}{l:List (Nat×Nat)}:cg a ((i,j)::l)=(i7 (cu i a) (cu j a)&&cg a l):=rfl
theorem av{a:Nat}{h h':Hp}(e:leaves h h' a=true):i7 (some (.blk a)) (some (.run h h'))=true:=e
theorem aD{a:Nat}{h h':Hp}(e:leaves h h' a=true):i7 (some (.run h h')) (some (.blk a))=true:=e
theorem ib{a b:Nat}(e:a≠b):i7 (some (.blk a)) (some (.blk b))=true:=by
 simp only [i7]
 cases c:Xy a b with
 |false=>rfl
 |true=>exact absurd (Nat.eq_of_beq_eq_true c) e
theorem bJ{i:Nat}{b:Tch}{l:List (Nat×Tch)}:cu i ((i,b)::l)=some b:=by simp [cu,Xi]
theorem aV{i k:Nat}{b:Tch}{l:List (Nat×Tch)}(h:i≠k):cu i ((k,b)::l)=cu i l:=by
 have h:Xy i k=false:=by rw [bN];simpa using h
 simp [cu,h]
theorem St.leaves{M:Nat->Prop}{h0 h h':Hp}{L:List (Nat×Ob)}{G:List GL}(S:St M h0 h L G){b c:Nat}{o:Ob}(a:(c,o)∈L)(f:Mo (· =b) h h')(d:c≠b):leaves h h' c=true:=
 sI (f.get c ((S.own _ a).2.lt S.ok) d)

theorem aT{i k:Nat}{x:Option Tch}{a:List (Nat×Tch)}(h:i≠k):cu i (gw k a x)=cu i a:=by
 cases x with
 |none=>rfl
 |some b=>exact aV h
theorem bK{ρ:Operand->Value}{b:Bool}{t:TypeId}{a:Operand}{h h':Hp}:bU ρ b (.load t a) h h'=(match ρ a with| .pointer (some a)=>some (.blk a.block)|_=>none):=by
 simp only [bU,di,ij,dR,touch,cond_false]
 cases ρ a<;>first|rfl|(rename_i x;cases x<;>rfl)
theorem bZ{ρ:Operand->Value}{f:Operand}{as:Array Operand}{ts:Array TypeId}{h h':Hp}:bU ρ false (.call ⟨.value f,as,ts⟩) h h'=some (.run h h'):=rfl
theorem bg{ρ:Operand->Value}{b:Bool}{t:TypeId}{h h':Hp}:bU ρ b (.alloc t) h h'=some (.blk h.n):=rfl

theorem St.gset {M:Nat->Prop} {h0 h:Hp} {L:List (Nat×Ob)} {G:List GL} (S:St M h0 h L G) {E:Env} {t:TypeId} {j i:Nat} {v:Value} {vs:List Value} {kd:IntKind} (f:G[j]? =some (v,1,vs)) (K:i<vs.length) (Q:E.sz t=some 1):
 ∃b,idxS (some 1) v (.int kd i)=some (.pointer (some ⟨b,i,none⟩))/\ ∀x,Fl x-> ∃h',ii E h t (.pointer (some ⟨b,i,none⟩)) x=some h'/\St M h0 h' L (G.set j (v,1,vs.set i x)):=by
 obtain⟨R,w⟩:=S.gown _ (zN f)
 rcases R with⟨_,z⟩|⟨b,n,N,z,O⟩
 . simp only []at z;subst z;simp at K
 . simp only [] at N z O
   subst N
   have m:n=vs.length:=by omega
   refine⟨b,?_,fun x D=>?_⟩
   . rw [pZ,ir (by omega)]
     simp [putI]
   . obtain ⟨y, A,B⟩:=O.store S.ok Nat.one_ne_zero (o:=i) (vs:=[x]) (by simp;omega) (by simp [D.2.1])
     have e:lay vs i [x]=vs.set i x:=by
      refine Xd fun j=>?_
      rw [jj (by simp;omega),Xp]
      simp only [Xf,Xc]
      by_cases C:i=j
      . subst C;rw [if_pos ⟨Xw _,by omega⟩,if_pos rfl,if_pos K];simp
      . rw [if_neg (by omega),if_neg C]
     rw [e]at B
     refine⟨h.put b y,?_,?_⟩
     . have:ii E h t (.pointer (some ⟨b,i,none⟩)) x=h.store b i [x]:=by
        simp only [ii,Q]
        have T:ah x=[x]:=D.1
        have U:(bif Xy (ah x).length 1 then h.store b i (ah x)else none)=h.store b i [x]:=by rw [T];rfl
        revert U
        cases x<;>first|exact fun h=>h|exact absurd rfl (D.2.2 _)
       rw [this];exact A
     . have l:dM (Value.slice (some ⟨b,0,some 1⟩) n n,1,vs)=some b:=rfl
       have P:=w b l
       have hlt:=(List.getElem?_eq_some_iff.1 f).1
       have V: ∀c∈L.map Prod.fst,c≠b:=fun c k e=>by
        have A:=S.apart
        unfold keys at A
        rw [Xq]at A
        exact A.2.2 c k b (List.mem_filterMap.2 ⟨_,zN f,l⟩) e
       have s:keys L (G.set j (Value.slice (some ⟨b,0,some 1⟩) n n,1,vs.set i x))=keys L G:=by
        unfold keys
        congr 1
        have: ∀(G:List GL) (j:Nat) (p q:GL),G[j]? =some p->dM q=dM p->(G.set j q).filterMap dM=G.filterMap dM:=by
         intro G
         induction G with
         |nil=>intro j p q f;simp at f
         | cons g G F=>
           intro j p q f u
           cases j with
           |zero=>simp at f;subst f;simp [Xl,u]
           |succ j=>simp at f;simp only [List.set_cons_succ,Xl,F j p q f u]
        exact this G j _ _ f rfl
       refine⟨S.fr.put P y,fun p d=>⟨(S.own p d).1,(S.own p d).2.of_get (cd fun e=>V _ (List.mem_map_of_mem d) e.symm)⟩,fun p d=>?_,by rw [s];exact S.apart⟩
       rcases kW d with rfl|⟨W,H,d⟩
       . exact⟨.inr ⟨b,n,rfl,by simpa using z,B⟩,fun c k=>by cases k;exact P⟩
       . refine ⟨(S.gown p (zN d)).1.of_get fun c k=>cd fun e=>H ?_,(S.gown p (zN d)).2⟩
         subst e
         have B:=S.apart
         unfold keys at B
         have X:=(List.nodup_append.1 B).2.1
         have I: ∀(G:List GL) (a c:Nat) (p q:GL),(G.filterMap dM).Nodup->G[a]? =some p->G[c]? =some q-> ∀x,dM p=some x->dM q=some x->a=c:=by
          intro G
          induction G with
          |nil=>intro a c p q _ r;simp at r
          | cons g G F=>
            intro a c p q m r k x d u
            have J:(G.filterMap dM).Nodup:=by
             rw [Xl]at m
             split at m
             . exact m
             . exact(List.nodup_cons.1 m).2
            cases a with
            | zero=>
              cases c with
              |zero=>rfl
              | succ c=>
                simp at r k
                subst r
                rw [Xt d]at m
                exact absurd (List.mem_filterMap.2 ⟨q,zN k,u⟩) (List.nodup_cons.1 m).1
            | succ a=>
              cases c with
              | zero=>
                simp at r k
                subst k
                rw [Xt u]at m
                exact absurd (List.mem_filterMap.2 ⟨p,zN r,d⟩) (List.nodup_cons.1 m).1
              | succ c=>
                simp at r k
                rw [F a c p q J r k x d u]
         exact I G W j p _ X d f b k l

def JP(n:Nat)(d:List Deferred)(b:Option (Value×Bool))(J:(Nat->Value)->Hp->Prop):ew:=fun e l h=>e=.normal/\ ∃a,l=LL n a d b/\J a h
theorem yg{E:Env}{cx:Cx}{Q:ew}{k:List Fr}{n:Nat}{d:List Deferred}{a:Option (Value×Bool)}{J:(Nat->Value)->Hp->Prop}{c:Code}{l:Loc}{h:Hp}
 (b:Run E (lim E) cx (JP n d a J) [.code c] .normal l h) (e: ∀ρ h,J ρ h->Run E (lim E) cx Q k .normal (LL n ρ d a) h):Run E (lim E) cx Q (.code c::k) .normal l h:=by
 obtain⟨m,o,f,g,i⟩:=b
 obtain⟨rfl,ρ,rfl,j⟩:=i
 exact⟨_,_,_,g,e ρ f j⟩
theorem qc{E:Env}{cx:Cx}{Q:ew}{k:List Fr}{n:Nat}{d:List Deferred}{e:Option (Value×Bool)}(J:(Nat->Value)->Hp->Prop){a b:Code}{c:Nat->Value}{h:Hp}{t:Bool}
 (g:t=true->Run E (lim E) cx (JP n d e J) [.code a] .normal (LL n c d e) h) (i:t=false->Run E (lim E) cx (JP n d e J) [.code b] .normal (LL n c d e) h)
 (f: ∀ρ h,J ρ h->Run E (lim E) cx Q k .normal (LL n ρ d e) h):CStep E cx Q a b k (LL n c d e) h (.bool t):=by
 cases t with
 |true=>exact yg (g rfl) f
 |false=>exact yg (i rfl) f
theorem dX{n:Nat}{d:List Deferred}{a:Option (Value×Bool)}{J:(Nat->Value)->Hp->Prop}{ρ:Nat->Value}{h:Hp}(b:J ρ h):JP n d a J .normal (LL n ρ d a) h:=⟨rfl,ρ,rfl,b⟩

theorem rR{E:Env}{R:Rec}{cx:Cx}{Q:ew}{k2:List Fr}: ∀(m:List Fr) (e:Ex) (l:Loc) (h:Hp),Run E R cx (fun e l h=>Run E R cx Q k2 e l h) m e l h->Run E R cx Q (m++k2) e l h
 | [],e,l,h,d=>d
 | f ::m,e,l,h,d=>by
   have g:=rR (E:=E) (R:=R) (cx:=cx) (Q:=Q) (k2:=k2) m
   cases f with
   | code c=>
     cases e with
     |normal=>obtain⟨n,j,k,a,b⟩:=d;exact⟨n,j,k,a,g _ _ _ b⟩
     |exit i=>exact g _ _ _ d
     |ret=>exact g _ _ _ d
     |pan v=>exact g _ _ _ d
   | blk id=>
     cases e with
     |normal=>exact g _ _ _ d
     | exit i=>
       simp only [Run,List.cons_append]at d⊢
       by_cases p:i=id
       . rw [if_pos p]at d⊢;exact g _ _ _ d
       . rw [if_neg p]at d⊢;exact g _ _ _ d
     |ret=>exact g _ _ _ d
     |pan v=>exact g _ _ _ d
   | ops a r=>
     cases e with
     |normal=>obtain⟨n,j,k,a,b⟩:=d;exact⟨n,j,k,a,g _ _ _ b⟩
     |exit i=>exact g _ _ _ d
     |ret=>exact g _ _ _ d
     |pan v=>exact g _ _ _ d
   | kill t=>
     cases e with
     |normal=>obtain⟨b,s,c,x,y,z⟩:=d;exact⟨b,s,c,x,y,g _ _ _ z⟩
     |exit i=>exact g _ _ _ d
     |ret=>exact g _ _ _ d
     |pan v=>exact g _ _ _ d
   | opsD a q u r i w=>
     cases e with
     |normal=>obtain⟨j,k,o,a,b,c⟩:=d;exact⟨j,k,o,a,b,g _ _ _ c⟩
     |exit i=>exact g _ _ _ d
     |ret=>exact g _ _ _ d
     |pan v=>exact g _ _ _ d
theorem run_post{E:Env}{R:Rec}{cx:Cx}{Q n:ew}(hq: ∀e l h,Q e l h->n e l h): ∀(k:List Fr) (e:Ex) (l:Loc) (h:Hp),Run E R cx Q k e l h->Run E R cx n k e l h
 | k, e, l,h,d=>by
   have:=rR (E:=E) (R:=R) (cx:=cx) (Q:=n) (k2:=[]) k e l h
   rw [Xv]at this
   refine this ?_
   revert d
   induction k generalizing e l h with
   |nil=>intro d;exact hq _ _ _ d
   | cons f k g=>
     intro d
     have g:=fun e l h d=>g e l h (by have:=rR (E:=E) (R:=R) (cx:=cx) (Q:=n) (k2:=[]) k e l h;rwa [Xv]at this) d
     cases f with
     | code c=>
       cases e with
       |normal=>obtain⟨o,j,m,a,b⟩:=d;exact⟨o,j,m,a,g _ _ _ b⟩
       |exit i=>exact g _ _ _ d
       |ret=>exact g _ _ _ d
       |pan v=>exact g _ _ _ d
     | blk id=>
       cases e with
       |normal=>exact g _ _ _ d
       | exit i=>
         simp only [Run]at d⊢
         by_cases r:i=id
         . rw [if_pos r]at d⊢;exact g _ _ _ d
         . rw [if_neg r]at d⊢;exact g _ _ _ d
       |ret=>exact g _ _ _ d
       |pan v=>exact g _ _ _ d
     | ops a s=>
       cases e with
       |normal=>obtain⟨o,j,m,a,b⟩:=d;exact⟨o,j,m,a,g _ _ _ b⟩
       |exit i=>exact g _ _ _ d
       |ret=>exact g _ _ _ d
       |pan v=>exact g _ _ _ d
     | kill t=>
       cases e with
       |normal=>obtain⟨b,u,c,x,y,z⟩:=d;exact⟨b,u,c,x,y,g _ _ _ z⟩
       |exit i=>exact g _ _ _ d
       |ret=>exact g _ _ _ d
       |pan v=>exact g _ _ _ d
     | opsD a q w s i A=>
       cases e with
       |normal=>obtain⟨j,m,p,a,b,c⟩:=d;exact⟨j,m,p,a,b,g _ _ _ c⟩
       |exit i=>exact g _ _ _ d
       |ret=>exact g _ _ _ d
       |pan v=>exact g _ _ _ d
theorem kz{E:Env}{cx:Cx}{Q:ew}{k:List Fr}{n:Nat}{d:List Deferred}{c:Option (Value×Bool)}{b:Code}{id:Nat}{α:Type}(J:(Nat->Value)->Hp->Prop)(I:α->(Nat->Value)->Hp->Prop)(m:α->Nat)
 (j: ∀a,(∀i f h',m i<m a->I i f h'->Run E (lim E) cx (JP n d c J) [.code (.loop b),.blk id] .normal (LL n f d c) h')-> ∀ρ h,I a ρ h->Run E (lim E) cx (JP n d c J) [.code b,.code (.loop b),.blk id] .normal (LL n ρ d c) h)
 (o: ∀ρ h,J ρ h->Run E (lim E) cx Q k .normal (LL n ρ d c) h) (a:α) {ρ:Nat->Value} {h:Hp} (p:I a ρ h):Run E (lim E) cx Q (.code (.loop b):: .blk id::k) .normal (LL n ρ d c) h:=by
 have q:=bL I m j a ρ h p
 refine rR [.code (.loop b),.blk id] _ _ _ (run_post (fun e l h g=>?_) _ _ _ _ q)
 obtain⟨rfl,ρ,rfl,g⟩:=g
 exact o ρ h g

theorem oU{ops:List Oper}{ord:List Nat}{os:List Oper}(a:((ops.any ry||qR ops)&&ops.all (iJ ops.length))=true)(b:ordL ops=ord)(h3:dY ops ord ord=os):bC ops=os:=by unfold bC;rw [a,b,h3];rfl
theorem St.gblk{M:Nat->Prop}{h0 h:Hp}{L:List (Nat×Ob)}{G:List GL}(S:St M h0 h L G){p:GL}(d:p∈G){c:Nat}(a:aq p.1 c):(h0.n<=c\/M c)/\c∉L.map Prod.fst:=by
 have g:dM p=some c:=by
  rcases(S.gown p d).1 with⟨e,_⟩|⟨b,n,e,_⟩
  . rw [e]at a;exact a.elim
  . obtain⟨v,k,j⟩:=p
    simp only []at e a
    subst e
    exact congrArg some a
 refine⟨(S.gown p d).2 c g,fun i=>?_⟩
 have f:=S.apart
 unfold keys at f
 rw [Xq]at f
 exact f.2.2 c i c (List.mem_filterMap.2 ⟨p,d,g⟩) rfl
end Go.Ab

namespace Go.Ab
structure Arc where
 s:Nat
 t:Nat
 w:Nat
deriving Inhabited
def ct(a:Arc):List Value:=[.int .i64 a.s,.int .i64 a.t,.int .i64 a.w]
theorem ip(a:Arc):(ct a).length=3:=rfl
structure Gra where
 nodes:Nat
 X:List Int
 Y:List Int
 arcs:List Arc
structure Good(g:Gra):Prop where
 n1:1<=g.nodes
 n2:g.nodes<=12
 lX:g.X.length=g.nodes
 lY:g.Y.length=g.nodes
 cX: ∀x∈g.X,-2147483648<=x/\x<=2147483647
 cY: ∀x∈g.Y,-2147483648<=x/\x<=2147483647
 many:g.arcs.length<=100
 arcs: ∀a∈g.arcs,a.s<g.nodes/\a.t<g.nodes/\a.w<=2147483647
structure dr(h:Hp)(vx vy va:Value)(g:Gra):Prop where
 X:au h 1 (encI .i64) vx g.X
 Y:au h 1 (encI .i64) vy g.Y
 A:au h 3 ct va g.arcs
theorem dr.gr{h h':Hp}{b c d:Value}{g:Gra}(a:dr h b c d g)(r:Gr h h'):dr h' b c d g:=⟨a.X.gr r,a.Y.gr r,a.A.gr r⟩
def iF(g:Gra)(a b c:Value):Value:=.agg ⟨[.int .i64 g.nodes,a,b,c]⟩
structure Pl where
 i:Int
 f:Int
 c:Int
 n:Int
 lo:Int
 hi:Int
def jk(p:Pl):List Value:=[.int .i64 p.i,.int .i64 p.f,.int .i64 p.c,.int .i64 p.n,.int .i64 p.lo,.int .i64 p.hi]
theorem encP_len(p:Pl):(jk p).length=6:=rfl
end Go.Ab

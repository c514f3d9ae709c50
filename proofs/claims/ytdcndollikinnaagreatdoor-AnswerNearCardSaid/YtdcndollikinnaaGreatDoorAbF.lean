/- A deterministic evaluator of the model's code, and that the model follows it (part 6). -/
import Derived.Test.YtdcndollikinnaaGreatDoorAbE
open And renaming intro->zM
open Nat renaming ble_eq_true_of_le->zO,eq_of_mul_eq_mul_right->Xc,le_trans->Xd,ble->Xe,le_of_ble_eq_true->Xf,beq_refl->Xg,lt_of_lt_of_le->Xi,le_mul_of_pos_right->Xk,beq->Xm,mul_le_mul_right->Xn,add_mul->Xo
open List renaming mem_of_getElem?->Xa,ext_getElem?->Xb,length_append->Xh,take_length->Xj,drop_zero->Xl
set_option maxHeartbeats 400000
set_option linter.defProp false
set_option linter.unusedVariables false
set_option linter.unusedSimpArgs false
namespace Go.Ab

theorem aV{E:Env}{cx:Cx}{Q:fC}{k:List Fr}{n:Nat}{d:List Deferred}{e:Option (Value×Bool)}{b:Code}{g:Type}(I:g->(Nat->Value)->Hp->Prop)(m:g->Nat)
 (p: ∀a,(∀i c l,m i<m a->I i c l->Run E (lim E) cx Q (.code (.loop b)::k) .normal (LL n c d e) l)-> ∀ρ h,I a ρ h->Run E (lim E) cx Q (.code b:: .code (.loop b)::k) .normal (LL n ρ d e) h):
 ∀a ρ h,I a ρ h->Run E (lim E) cx Q (.code (.loop b)::k) .normal (LL n ρ d e) h:=by
 have f: ∀j a,m a<j-> ∀ρ h,I a ρ h->Run E (lim E) cx Q (.code (.loop b)::k) .normal (LL n ρ d e) h:=by
  intro j
  induction j with
  |zero=>omega| succ j q=>grind[cE]
 intro a ρ h o;exact f (m a+1) a (by omega) ρ h o

def qy(b:Nat):Deferred:={target:=.collected b,args:=#[]}
section
variable(E:Env)(cx:Cx)(Q:fC)(k:List Fr)
def RangeGo(l:Loc)(h:Hp):Option Code->Prop
 |none=>Run E (lim E) cx Q k .normal l h|some (.exit id)=>Run E (lim E) cx Q k (.exit id) l h|some .ret=>Run E (lim E) cx Q k .ret l h|_=>False
def RangeQ(l:Loc)(b:Nat):Out->Option (Value×Bool)->Hp->Prop
 | .pan v,_,a=>Run E (lim E) cx Q k (.pan v) l a| .ret _,_,a=> ∃x,a.get b=some (.loop x)/\x.st≠1/\RangeGo E cx Q k l (a.put b .dead) x.pending
end
section
variable{E:Env}{cx:Cx}{Q:fC}{k:List Fr}{n:Nat}{ρ:Nat->Value}{d:List Deferred}{rc:Option (Value×Bool)}{M:Nat->Prop}{h0 h:Hp}{L:List (Nat×Ob)}{G:List GL}
theorem Cd {f:Operand} {params:Array Tmp} {assign body:Code} {g:FuncId} {a b:Array Value} {j:Hp} {m:Nat} {dfs:List Deferred} (hf:(LL n ρ d rc).ev f=.func (.func g) a b) (D:cx.nr=n)
 (F :(match cx.round with
   |none=>some (h.new .dfr,h.n,({target:=.collected h.n,args:=#[]}:Deferred)::d)| some r=>match h.get r with
     |some (.loop x)=>some (h,x.defers,d)|_=>none)=some (j,m,dfs))
 (H:fZ E g (a.toList++[.func (.yield j.n) #[] #[]]++b.toList) none (j.new (.loop {fn:=cx.fn,regs:=tab n ρ,nr:=n,params,assign,body,st:=0,pending:=none,defers:=m})) (RangeQ E cx Q k (LL n ρ dfs rc) j.n)):
 Run E (lim E) cx Q (.code (.rangeFunc f params assign body)::k) .normal (LL n ρ d rc) h:=by
 obtain⟨o,I,l,J,y⟩:=H;simp only [Run];have e:aI E (lim E) cx (.rangeFunc f params assign body) (LL n ρ d rc) h=iM (lim E) cx ((LL n ρ d rc).ev f) params assign body (LL n ρ d rc) h:=rfl;rw [e,hf];have K:iM (lim E) cx (.func (.func g) a b) params assign body (LL n ρ d rc) h=(match(some (j,m,dfs):Option (Hp×Nat×List Deferred))with
  |none=>none| some (j,m,dfs)=>
    match(lim E).call g (a.toList++[.func (.yield j.n) #[] #[]]++b.toList) none
     (j.new (.loop {fn:=cx.fn,regs:=tab n ρ,nr:=cx.nr,params,assign,body,st:=0,pending:=none,defers:=m}))with
    |none=>none|some (.pan v,_,l)=>some (.pan v,LL n ρ dfs rc,l)| some (.ret _,_,l)=>match l.get j.n with
      | some (.loop x)=>match x.st with
        |1=>none| _=>match x.pending with
          |none=>some (.normal,LL n ρ dfs rc,l.put j.n .dead)|some (.exit id)=>some (.exit id,LL n ρ dfs rc,l.put j.n .dead)|some .ret=>some (.ret,LL n ρ dfs rc,l.put j.n .dead)|_=>none
      |_=>none):=by rw [<-F];rfl
 rw [K];simp only [D,J];cases o with
 |pan v=>exact⟨_,_,_,rfl,y⟩| ret v=>
   obtain⟨x,N,O,s⟩:=y;simp only [N];obtain⟨P,u,R,p,q,w,S,i,t⟩:=x;simp only []at O s;have z: ∃A B C,(match i with
    |none=>some (Ex.normal,LL n ρ dfs rc,l.put j.n .dead)|some (.exit id)=>some (.exit id,LL n ρ dfs rc,l.put j.n .dead)|some .ret=>some (.ret,LL n ρ dfs rc,l.put j.n .dead)|_=>none)=some (A,B,C)/\Run E (lim E) cx Q k A B C:=by
    cases i with
    |none=>exact⟨_,_,_,rfl,s⟩|some c=>cases c<;>first|exact s.elim|exact⟨_,_,_,rfl,s⟩
   omega
theorem hZ(S:St M h0 h L G){f:Operand}{params:Array Tmp}{assign body:Code}{g:FuncId}{a b:Array Value}(hf:(LL n ρ d rc).ev f=.func (.func g) a b)(l:cx.nr=n)(m:cx.round=none)
 (p: ∀i c e,St M h0 i ((e,.loop {fn:=cx.fn,regs:=tab n ρ,nr:=n,params,assign,body,st:=0,pending:=none,defers:=c})::(c,.dfr)::L) G->h.n<=c->h.n<=e->Gr h i->
   fZ E g (a.toList++[.func (.yield e) #[] #[]]++b.toList) none i (RangeQ E cx Q k (LL n ρ (qy c::d) rc) e)):
 Run E (lim E) cx Q (.code (.rangeFunc f params assign body)::k) .normal (LL n ρ d rc) h:=by
 have j:St M h0 (h.new .dfr) ((h.n,.dfr)::L) G:=S.new (by show(h.new _).get h.n=_;rw [h.get_new _ S.ok,if_pos rfl]);have q:=j.new (x:=.loop {fn:=cx.fn,regs:=tab n ρ,nr:=n,params,assign,body,st:=0,pending:=none,defers:=h.n}) (o:=.loop {fn:=cx.fn,regs:=tab n ρ,nr:=n,params,assign,body,st:=0,pending:=none,defers:=h.n})
  (by show(Hp.new _ _).get _=_;rw [Hp.get_new _ _ j.ok,if_pos rfl])
 exact Cd hf l (by rw [m];rfl) (p _ _ _ q (Nat.le_refl _) (Nat.le_succ _) ((Gr.new S.ok _).trans (Gr.new j.ok _)))
end

section
variable(E:Env)(cx:Cx)(lb:Nat)(Q:Out->Hp->Prop)
def rQ:fC
 | .normal,_,a=> ∃x,a.get lb=some (.loop x)/\Q (.ret (.bool true)) (a.put lb (.loop {x with st:=0,pending:=none}))
 | .exit id,_,a=> ∃x,a.get lb=some (.loop x)/\Q (.ret (.bool false)) (a.put lb (.loop {x with st:=2,pending:=some (.exit id)}))
 | .ret,_,a=> ∃x,a.get lb=some (.loop x)/\Q (.ret (.bool false)) (a.put lb (.loop {x with st:=2,pending:=some .ret}))
 | .pan v,b,a=>b.dfs=[]/\Q (.pan v) a
def yf(body:Code):fC
 | .normal,l,a=> ∃x,a.get lb=some (.loop x)/\x.st=0/\x.fn=cx.fn/\x.nr=cx.nr/\x.body=body/\Run E (lim E) cx (rQ lb Q) [.code body] .normal l (a.put lb (.loop {x with st:=1}))
 |_,_,_=>False
end
def setPs(ρ:Nat->Value):List Tmp->List Value->Option (Nat->Value)
 | [],[]=>some ρ|t::a,v::b=>setPs (aw ρ t v) a b|_,_=>none
theorem rU{n:Nat}: ∀(ts:List Tmp) (vs:List Value) (ρ a:Nat->Value),setPs ρ ts vs=some a->oO (tab n ρ) ts vs=some (tab n a)
 | [],[],ρ,a,h=>by cases h;rfl
 | t::ts,v::vs,ρ,a,h=>by simp only [oO,tab_set];exact rU ts vs _ _ h| [],_::_,_,_,h=>by cases h
 |_::_,[],_,_,h=>by cases h
theorem uh{E:Env}{cx:Cx}{Q:fC}{c:Code}{l:Loc}{h:Hp}(b:Run E (lim E) cx Q [.code c] .normal l h): ∃e l' a,(lim E).code cx c l h=some (e,l',a)/\Q e l' a:=by obtain⟨e,l',a,d,f⟩:=b;exact⟨e,l',a,by rw [xC];exact d,f⟩
theorem ia{E:Env}{c n:Nat}{args:List Value}{h:Hp}{Q:Out->Hp->Prop}{fn:FuncId}{ρ a:Nat->Value}{params:Array Tmp}{assign body:Code}{o:Nat}
 (d:h.get c=some (.loop {fn,regs:=tab n ρ,nr:=n,params,assign,body,st:=0,pending:=none,defers:=o})) (g:(E.fn fn).isSome=true) (p:setPs ρ params.toList args=some a)
 (q:Run E (lim E) ⟨fn,n,some c⟩ (yf E ⟨fn,n,some c⟩ c Q body) [.code assign] .normal (LL n a [] none) h):kX E c args h Q:=by
 obtain⟨e,l,z,r,f⟩:=uh q;unfold kX jr;rw [d];simp only [g,cond_true,rU _ _ _ _ p];rw [show Loc.mk (tab n a) [] none=LL n a [] none from rfl,r];cases e with
 |exit i=>exact f.elim|ret=>exact f.elim|pan v=>exact f.elim| normal=>
   obtain⟨x,s,t,A,B,C,u⟩:=f;obtain⟨w,D,F,j,b⟩:=uh u;simp only [s,t,j];cases w with
   |normal=>obtain⟨y,k,m⟩:=b;grind
   |exit i=>obtain⟨y,k,m⟩:=b;grind
   |ret=>obtain⟨y,k,m⟩:=b;grind
   |pan v=>obtain⟨k,m⟩:=b;grind
section
variable{E:Env}{cx:Cx}{lb:Nat}{Q:Out->Hp->Prop}{M:Nat->Prop}{h0 h:Hp}{L:List (Nat×Ob)}{G:List GL}{body:Code}{l:Loc}
theorem St.loopPut(S:St M h0 h L G){i:Nat}{X Y:fu}(a:L[i]? =some (lb,.loop X)):h.get lb=some (.loop X)/\St M h0 (h.put lb (.loop Y)) (L.set i (lb,.loop Y)) G:=by have b:h.get lb=some (.loop X):=(S.own _ (Xa a)).2;refine⟨b,S.put a ?_⟩;show(h.put lb _).get lb=_;rw [Hp.get_put,if_pos ⟨rfl,by rw [b];rfl⟩]
theorem fU(S:St M h0 h L G){i:Nat}{X:fu}(b:L[i]? =some (lb,.loop X))(c:X.st=0)(d:X.fn=cx.fn)(e:X.nr=cx.nr)(f:X.body=body)
 (g: ∀a,St M h0 a (L.set i (lb,.loop {X with st:=1})) G->Run E (lim E) cx (rQ lb Q) [.code body] .normal l a):yf E cx lb Q body .normal l h:=by
 obtain⟨j,k⟩:=S.loopPut (Y:={X with st:=1}) b;exact⟨X,j,c,d,e,f,g _ k⟩
theorem eg(S:St M h0 h L G){i:Nat}{X:fu}(b:L[i]? =some (lb,.loop X))(c: ∀a,St M h0 a (L.set i (lb,.loop {X with st:=0,pending:=none})) G->Q (.ret (.bool true)) a):rQ lb Q .normal l h:=by obtain⟨d,e⟩:=S.loopPut (Y:={X with st:=0,pending:=none}) b;exact⟨X,d,c _ e⟩
theorem round_ret(S:St M h0 h L G){i:Nat}{X:fu}(b:L[i]? =some (lb,.loop X))(c: ∀a,St M h0 a (L.set i (lb,.loop {X with st:=2,pending:=some .ret})) G->Q (.ret (.bool false)) a):rQ lb Q .ret l h:=by obtain⟨d,e⟩:=S.loopPut (Y:={X with st:=2,pending:=some .ret}) b;exact⟨X,d,c _ e⟩
end

def Iter(E:Env)(g:FuncId)(d post:List Value)(h0:Hp)(D:Nat->Prop)(xs:List (List Value)):Prop:=
 ∀ (e:Nat) (J:Nat->Hp->List Nat->Prop) (Z:Out->Hp->Prop) (h:Hp) (F:List Nat),
   h.t.Sized h.n->h0.n<=h.n->(∀b,b<h0.n->D b->h.get b=h0.get b)->
   (∀i h F,J i h F->h.t.Sized h.n/\ ∀b∈F,b<h.n)->(∀i h F a,J i h F->Gr h a->J i a F)->(∀h a,Z (.ret (.bool false)) h->Gr h a->Z (.ret (.bool false)) a)->(∀b∈F,¬(b<h0.n/\D b))->
   (∀i x h F,xs[i]? =some x->J i h F->kX E e x h fun o a=>(o=.ret (.bool true)/\ ∃c,J (i+1) a c/\Mo (· ∈F) h a/\ ∀b∈c,b∈F\/h.n<=b)\/(o=.ret (.bool false)/\Z o a/\a.t.Sized a.n)\/((∃v,o=.pan v)/\Z o a))->
   J 0 h F->fZ E g (d++[.func (.yield e) #[] #[]]++post) none h fun o f a=>f=none/\((∃u c,o=.ret u/\J xs.length a c)\/(∃u,o=.ret u/\Z (.ret (.bool false)) a)\/(∃v,o=.pan v/\Z o a))
end Go.Ab

namespace Go.Ab

theorem load_len{h:Hp}{b o n:Nat}{l:List Value}(e:h.load b o n=some l):l.length=n:=by grind[Hp.load,Xe,Tr.slice_spec]
theorem kx{h:Hp}{b o n:Nat}{l:List Value}(e:h.load b o n=some l){i m:Nat}(g:i+m<=n):h.load b (o+i) m=some ((l.drop i).take m):=by
 unfold Hp.load at e⊢
 split at e
 next t a el j p=>
  cases c:Xe (o+n) a with
  |false=>grind| true=>
    rw [c]at e;have hle:=Xf c;rw [zO (by omega:o+i+m<=a)];simp only [cond_true]at e⊢;obtain⟨q,f⟩:=Tr.slice_spec e;obtain⟨r,d⟩:=Tr.slice_mk (t:=t) (i:=o+i) (n:=m) (fun k s=>by
     have:=f (i+k) (by omega);grind)
    rw [d];obtain⟨u,v⟩:=Tr.slice_spec d;congr 1;refine Xb fun k=>?_;grind
 next=>cases e
theorem load_join{h:Hp}{b o n:Nat}{f:Nat->Value}(h0: ∃l,h.load b o 0=some l)(e: ∀i,i<n->h.load b (o+i) 1=some [f i]):h.load b o n=some ((List.range n).map f):=by
 unfold Hp.load at h0 e⊢;cases d:h.get b with
 |none=>grind|some c=>
 cases c with
 |dead=>grind|map=>grind|loop=>grind|dfr=>grind| cells t a el q=>
   rw [d]at h0;simp only [d]at e;simp only []at h0;have hle:o+n<=a:=by
    cases n with
    | zero=>
      obtain⟨l,h0⟩:=h0;cases g:Xe (o+0) a with
      |false=>grind|true=>simp_all
    | succ n=>
      have:=e n (by omega);cases g:Xe (o+n+1) a with
      |false=>grind|true=>have:=Xf g;omega
   have j: ∀i,i<n->t.get (o+i)=some (f i):=(by intro i p;have:=e i p;rw [zO (by omega:o+i+1<=a)]at this;have:=(Tr.slice_spec this).2 0 (by omega);simpa using this);simp only [];rw [zO hle];simp only [cond_true];obtain⟨l,m⟩:=Tr.slice_mk (t:=t) (i:=o) (n:=n) (fun k r=>by grind);rw [m];obtain⟨s,u⟩:=Tr.slice_spec m;congr 1;refine Xb fun k=>?_;grind

section
variable{α:Type}
theorem ct{k:Nat}{enc:α->List Value}(a: ∀x,(enc x).length=k)(xs:List α):(xs.flatMap enc).length=xs.length*k:=by
 induction xs with
 |nil=>simp|cons x xs b=>grind
theorem B7{k:Nat}{enc:α->List Value}(b: ∀x,(enc x).length=k)(xs:List α){i:Nat}(a:i<xs.length):((xs.flatMap enc).drop (i*k)).take k=enc xs[i]:=by
 induction xs generalizing i with
 |nil=>simp at a| cons x xs c=>
   cases i with
   |zero=>grind| succ i=>grind[Nat.succ_mul,Nat.add_comm,List.drop_drop,List.drop,List.flatMap,List.drop_left]
def av(h:Hp)(k:Nat)(enc:α->List Value)(v:Value)(xs:List α):Prop:=
 (v=.slice none 0 0/\xs=[])\/ ∃b o s c,v=.slice (some ⟨b,o,s⟩) xs.length c/\xs.length<=c/\h.load b o (xs.length*k)=some (xs.flatMap enc)
variable{h:Hp}{k:Nat}{enc:α->List Value}{v:Value}{xs:List α}
theorem av.gr{a:Hp}(g:Gr h a)(s:av h k enc v xs):av a k enc v xs:=by
 rcases s with s|⟨b,o,s,c,d,e,f⟩
 . exact .inl s
 . exact .inr ⟨b,o,s,c,d,e,g.load f⟩
def aq:Value->Nat->Prop
 | .slice (some a) _ _,b=>a.block=b| .pointer (some a),b=>a.block=b|_,_=>False
theorem av.mo{M:Nat->Prop}{a:Hp}(g:Mo M h a)(s:av h k enc v xs)(e: ∀b,aq v b-> ¬M b):av a k enc v xs:=by
 rcases s with s|⟨b,o,s,c,d,f,i⟩
 . exact .inl s
 . refine .inr ⟨b,o,s,c,d,f,?_⟩;have:=g.get b (bC g.ok0 i) (e b (by rw [d];rfl));grind[Hp.load]
theorem av.lt(d:h.t.Sized h.n)(s:av h k enc v xs){b:Nat}(a:aq v b):b<h.n:=by
 rcases s with⟨rfl,_⟩|⟨e,o,s,c,rfl,g,f⟩
 . exact a.elim
 . have:e=b:=a;subst this;exact bC d f
theorem av.len{E:Env}{t e:TypeId}(s:av h k enc v xs)(a:E.und t=some (.slice e)):oW E t v=some (.int .i64 xs.length):=by rcases s with⟨rfl,rfl⟩|⟨b,o,s,c,rfl,d,f⟩<;>simp [oW,a]
theorem av.idx(s:av h k enc v xs)(d: ∀x,(enc x).length=k){i:Nat}(a:i<xs.length): ∃b o s' c,v=.slice (some ⟨b,o,s'⟩) xs.length c/\h.load b (o+i*k) k=some (enc xs[i]):=by
 rcases s with⟨rfl,rfl⟩|⟨b,o,s,c,rfl,f,e⟩
 . simp at a
 . refine⟨b,o,s,c,rfl,?_⟩;have:i*k+k<=xs.length*k:=(by rw [<-Nat.succ_mul];exact Xn _ a);rw [kx e this,B7 d xs a]
theorem av.at{E:Env}{t e:TypeId}{kd:IntKind}(s:av h k enc v xs)(d: ∀x,(enc x).length=k)(f:E.und t=some (.slice e))(g:E.sz e=some k){i:Nat}(a:i<xs.length):
 ∃b o,fi E t v (.int kd i)=some (.pointer (some ⟨b,o,none⟩))/\h.load b o k=some (enc xs[i]):=by
 obtain⟨b,o,l,c,rfl,j⟩:=s.idx d a;refine⟨b,o+i*k,?_,j⟩;rw [ia_slice f g,ju a];rfl
theorem av.src(s:av h k enc v xs):aR h k v=some (xs.length,xs.flatMap enc):=by
 rcases s with⟨rfl,rfl⟩|⟨b,o,s,c,rfl,a,d⟩
 . rfl
 grind[List.length_eq_zero_iff,aR,List.length_nil]
theorem gf.sl{vs:List Value}(g:gf h (v,k,vs))(d:vs=xs.flatMap enc)(e: ∀x,(enc x).length=k)(i:0<k):av h k enc v xs:=by
 rcases g with⟨c,a⟩|⟨b,n,c,a,f⟩
 . simp only []at c a;refine .inl ⟨c,?_⟩;rw [a]at d;have:=ct e xs;rw [<-d]at this;cases xs with
   |nil=>rfl| cons x xs=>grind
 . simp only []at c a f;have j:n=xs.length:=(by rw [d,ct e]at a;exact Xc i a);subst j;refine .inr ⟨b,0,some k,xs.length,c,Nat.le_refl _,?_⟩;rw [f.load (by omega),a,Xl,Xj,d]
theorem gf.len{E:Env}{t e:TypeId}{vs:List Value}(g:gf h (v,k,vs))(f:0<k)(d:E.und t=some (.slice e)){n:Nat}(i:n*k=vs.length):oW E t v=some (.int .i64 n):=by
 rcases g with⟨a,c⟩|⟨b,m,a,c,j⟩
 . simp only []at a c;subst a c;have:n=0:=by
    cases n with
    |zero=>rfl|succ n=>grind
   subst this;simp [oW,d]
 grind[Xc,oW]
end
def encI(kd:IntKind)(x:Int):List Value:=[.int kd x]
def encB(x:Bool):List Value:=[.bool x]
theorem bG(kd:IntKind)(x:Int):(encI kd x).length=1:=rfl
theorem AK(x:Bool):(encB x).length=1:=rfl

def agg1:Option (List Value)->Option Value
 |some l=>some (.agg ⟨l⟩)|none=>none
theorem agg1_some{l:List Value}:agg1 (some l)=some (.agg ⟨l⟩):=rfl
theorem loadV_agg{E:Env}{h:Hp}{t:TypeId}{b o n:Nat}{s:Option Nat}(a:E.agg t=some true)(c:E.sz t=some n):fh E h t (.pointer (some ⟨b,o,s⟩))=agg1 (h.load b o n):=by simp only [fh,a,c];cases h.load b o n<;>rfl

def isIface(E:Env)(t:TypeId):Bool:=match E.und t with
 |some (.interface _)=>true|_=>false
def pE(E:Env)(t:TypeId):Bool:=match E.und t with
 |some (.pointer _)=>true|_=>false
def kJ(E:Env)(t:TypeId):Bool:=match E.und t with
 |some (.struct _)=>true|some (.int _)=>true|some (.pointer _)=>true|_=>false
section
variable{E:Env}{t:TypeId}{x y:Operand}
theorem qv(b:isIface E t=true): ∃a,E.und t=some (.interface a):=by grind[isIface]
theorem tv(b:pE E t=true): ∃a,E.und t=some (.pointer a):=by grind[pE]
theorem n_iface(a:isIface E t=true){u:TypeId}{v:Value}:bF E .neq t x y (.iface u v) .nilIface=some (.bool true):=by grind[qv,bF,gb,eG]
theorem n_nil(b:isIface E t=true){v:Value}:bF E .neq t x (.const v) .nilIface .nilIface=some (.bool false):=by obtain⟨a,c⟩:=qv b;cases x<;>simp [bF,gb,eG,c]
theorem e_iface(a:isIface E t=true){u:TypeId}{v:Value}:bF E .eql t x y (.iface u v) .nilIface=some (.bool false):=by grind[qv,bF,gb,eG]
theorem e_nil(b:isIface E t=true){v:Value}:bF E .eql t x (.const v) .nilIface .nilIface=some (.bool true):=by obtain⟨a,c⟩:=qv b;cases x<;>simp [bF,gb,eG,c]
theorem n_ptr(b:pE E t=true){a:Addr}:bF E .neq t x y (.pointer (some a)) (.pointer none)=some (.bool true):=by grind[tv,bF,gb,eG]
theorem e_ptr(b:pE E t=true){a:Addr}:bF E .eql t x y (.pointer (some a)) (.pointer none)=some (.bool false):=by grind[tv,bF,gb,eG]
theorem n_pnil(a:pE E t=true):bF E .neq t x y (.pointer none) (.pointer none)=some (.bool false):=by grind[tv,bF,gb,eG]
theorem e_pnil(a:pE E t=true):bF E .eql t x y (.pointer none) (.pointer none)=some (.bool true):=by grind[tv,bF,gb,eG]
theorem us(b:kJ E t=true): ∃d,E.und t=some d/\ ∀a,d≠ .interface a:=by grind[kJ]
theorem assert_is(a:kJ E t=true){v:Value}:pO E (.iface t v) t true=some (.tuple #[v,.bool true]):=by obtain⟨d,b,c⟩:=us a;unfold pO;rw [b];cases d<;>first|exact absurd rfl (c _)|simp [tW]
theorem mk_iface(a:kJ E t=true){v:Value}:(match E.und t with|none=>none|some (.interface _)=>none|some _=>some (Value.iface t v))=some (.iface t v):=by obtain⟨d,b,c⟩:=us a;grind
end

theorem o_recover{E:Env}{ρ:Operand->Value}{h:Hp}{as:Array Operand}{ts:Array TypeId}:aop E ρ h (.call ⟨.builtin .recover,as,ts⟩)=some (.recov,h):=rfl
theorem o_deferR{E:Env}{ρ:Operand->Value}{h:Hp}{f:Operand}{as:Array Operand}{ts:Array TypeId}:aop E ρ h (.defer ⟨.value f,as,ts⟩)=match ρ f with
 | .func (.func g) a b=>some (.defer {target:=.fn (.func g) b,args:=⟨a.toList++as.toList.map ρ⟩},h)|_=>none:=rfl
def panR(h:Hp):Value->Option (dH×Hp)
 | .iface t v=>some (.panic (.iface t v),h)|_=>none
theorem o_panicR{E:Env}{ρ:Operand->Value}{h:Hp}{x:Operand}:aop E ρ h (.panic x)=panR h (ρ x):=by rfl
theorem Ct{h:Hp}{t:TypeId}{v:Value}:panR h (.iface t v)=some (.panic (.iface t v),h):=rfl
section
variable{E:Env}{cx:Cx}{o:Oper}{K:Ex->Loc->Hp->Prop}{h:Hp}{n:Nat}{ρ:Nat->Value}{d:List Deferred}
theorem wh{v:Value}:fJ E cx o (LL n ρ d (some (v,false))) K (some (.recov,h))↔cx.round=none/\K .normal ((LL n ρ d (some (v,true))).put o.dst v) h:=Iff.rfl
theorem xb:fJ E cx o (LL n ρ d none) K (some (.recov,h))↔cx.round=none/\K .normal ((LL n ρ d none).put o.dst .nilIface) h:=Iff.rfl
theorem step_defer{a:Option (Value×Bool)}{x:Deferred}:fJ E cx o (LL n ρ d a) K (some (.defer x,h))↔cx.round=none/\K .normal ((LL n ρ (x::d) a).put o.dst (.tuple #[])) h:=Iff.rfl
theorem wI{l:Loc}{b:Nat}{args:List Value}{P:Out->Hp->Prop}(e:kX E b args h P)(f: ∀x c,P x c->match x with
 | .ret v=>K .normal (l.put o.dst v) c| .pan v=>K (.pan v) l c):fJ E cx o l K (some (.yield b args,h)):=by
 obtain⟨x,c,a,b⟩:=e;exact⟨x,c,a,f x c b⟩
end
theorem zV{b:Nat}{args:List Value}:target (.func (.yield b) #[] #[]) args=some (.yield b args):=rfl
def UnQ(E:Env)(c:List Deferred)(m:Option Value)(h:Hp)(Q:Option Value->Hp->Prop):Prop:= ∃a b,cB (lim E) c m h=some (a,b)/\Q a b
section
variable{E:Env}{rs:List ResultVar}{Q:Out->Option (Value×Bool)->Hp->Prop}{n:Nat}{ρ:Nat->Value}{d:List Deferred}{rc:Option (Value×Bool)}{h:Hp}
theorem dJ(b:UnQ E d none h fun m a=>m=none/\ ∃vs,bH E (tab n ρ) a rs=some vs/\Q (.ret (ab vs)) rc a):pq E rs Q .ret (LL n ρ d rc) h:=by obtain⟨m,a,c,rfl,e⟩:=b;exact⟨a,c,e⟩
theorem cy(b:UnQ E d none h fun m a=>m=none/\ ∃vs,bH E (tab n ρ) a rs=some vs/\Q (.ret (ab vs)) rc a):pq E rs Q .normal (LL n ρ d rc) h:=dJ b
theorem ku{v:Value}(b:UnQ E d (some v) h fun m a=>match m with
 |some v=>Q (.pan v) rc a|none=> ∃vs,bH E (tab n ρ) a rs=some vs/\Q (.ret (ab vs)) rc a):pq E rs Q (.pan v) (LL n ρ d rc) h:=by
 obtain⟨m,a,c,e⟩:=b;exact⟨m,a,c,e⟩
theorem cJ{m:Option Value}{P:Option Value->Hp->Prop}(a:P m h):UnQ E [] m h P:=⟨m,h,rfl,a⟩
theorem un_dfr{b:Nat}{a:List Deferred}{m:Option Value}{P:Option Value->Hp->Prop}(i:h.get b=some .dfr)(c:UnQ E a m (h.put b .dead) P):UnQ E (qy b::a) m h P:=by obtain⟨e,f,j,g⟩:=c;refine⟨e,f,?_,g⟩;simp_all[cB,qy]
theorem un_fn{f:FuncId}{cap args:Array Value}{b:List Deferred}{P:Option Value->Hp->Prop}(c:fZ E f (args.toList++cap.toList) none h fun o rc a=>(∃v,o=.ret v)/\rc=none/\UnQ E b none a P):UnQ E ({target:=.fn (.func f) cap,args}::b) none h P:=by obtain⟨o,e,l,g,⟨v,rfl⟩,rfl,i,a,j,k⟩:=c;refine⟨i,a,?_,k⟩;simp only [cB,g];exact j
theorem gy{vs:List Value}(a:bH E (tab n ρ) h rs=some vs)(hq:Q (.ret (ab vs)) rc h):pq E rs Q .ret (LL n ρ [] rc) h:=dJ (cJ ⟨rfl,vs,a,hq⟩)
end
end Go.Ab

namespace Go.Ab
section
variable{M:Nat->Prop}{h0 h:Hp}{L:List (Nat×Ob)}{G:List GL}{E:Env}
theorem bV{t e:TypeId}{c k n:Nat}{d cs:List Value}{a:List (Nat×Value)}(f:E.und t=some (.slice e))(g:eK E e c k d)(j:n*k<=16777216)
 (hf:jZ (fun i=>some (i*k,k)) (a9 d n) a=some cs):qB h (fun h=>dq (jR E h t n a)) (fun b=>.slice (some ⟨b,0,none⟩) n n) (.row cs 1):=by
 obtain⟨⟨i,l,rfl,rfl⟩,m,o⟩:=g;have p:E.sz e=some i.size:=by unfold Env.sz;rw [l]
 refine⟨.cells (Tr.ofList cs) cs.length e 1,fun x=>?_,fun q=>pN q _ _ _⟩;simp only [jR,f,p,zO j,m,o,Xg,hf,cond_true];rfl
theorem St.clone(S:St M h0 h L G){t o e:TypeId}{c k m n md:Nat}{s new vs:List Value}{b:Nat}{x:Value}(O:E.und t=some (.slice e))(C:eK E e c k s)(P:0<c)
 (u:d9 E o=some false) (v:aR h k x=some (m,new)) (D:m*k=new.length) (F:n*k=vs.length) (w:0<k) (p:(vs.length+new.length)*(c+1)<=70368744177664) {ts:List TypeId}
 (H:Row h b vs md):
 ∃ q v',dG E h (t::o::ts) (.slice (some ⟨b,0,none⟩) n n) x=some (q,v')/\
   ((m=0/\q=h/\v'=.slice (some ⟨b,0,none⟩) n n)\/ ∃y,v'=.slice (some ⟨y,0,some k⟩) (n+m) (n+m)/\St M h0 q ((y,.row (vs++new) 1)::L) G):=by
 obtain⟨⟨i,Q,rfl,rfl⟩,R,I⟩:=C;have r:dG E h (t::o::ts) (.slice (some ⟨b,0,none⟩) n n) x=fH E h e i (some ⟨b,0,none⟩) n n m new:=by grind[dG,jP]
 rw [r];by_cases z:m=0
 . subst z;have:new=[]:=(by grind);subst this;refine⟨h,_,?_,.inl ⟨rfl,rfl,rfl⟩⟩;grind[fH,zO]
 . have A:Xe (n+m) n=false:=by
    cases u:Xe (n+m) n with
    |false=>rfl|true=>exact absurd (Xf u) (by omega)
   have d:n+m<=vs.length+new.length:=(by rw [<-F,<-D];have z:=Xk n w;have T:=Xk m w;omega);have g:(Xe ((n+m)*(i.bytes+1)) 70368744177664&&Nat.blt 0 i.bytes)=true:=(by rw [zO (Xd (Xn _ d) p)];simp_all);have J:Xm s.length i.size=true:=(by simp_all);have a:fH E h e i (some ⟨b,0,none⟩) n n m new=om h e i.size (some ⟨b,0,none⟩) n m new:=(by unfold fH;grind);rw [a];obtain⟨l,el,B,f,K⟩:=H;have N:jH l vs.length 0 (n*i.size) new=some (l.pushAll vs.length new,vs.length+new.length):=(by grind[jH,Xg]);refine⟨h.new (.cells (l.pushAll vs.length new) (vs.length+new.length) e 1),.slice (some ⟨h.n,0,some i.size⟩) (n+m) (n+m),?_,.inr ⟨h.n,rfl,?_⟩⟩
   . grind[om]
   . refine S.new ⟨l.pushAll vs.length new,e,?_,?_,fun j=>?_⟩
     . rw [h.get_new _ S.ok,if_pos rfl,Xh]
     . rw [Xh];exact Tr.sized_pushAll _ f
     grind[Tr.get_pushAll]
theorem St.cloneSl{o:Type}{enc:o->List Value}{xs ys:List o}(S:St M h0 h L G){t q e:TypeId}{f k md:Nat}{C:List Value}{b:Nat}{x:Value}(r:E.und t=some (.slice e))(j:eK E e f k C)(s:0<f)
 (u:d9 E q=some false) (v:av h k enc x ys) (a: ∀x,(enc x).length=k) (w:0<k) (D:((xs.length+ys.length)*k)*(f+1)<=70368744177664) {ts:List TypeId}
 (l:Row h b (xs.flatMap enc) md):
 ∃d v',dG E h (t::q::ts) (.slice (some ⟨b,0,none⟩) xs.length xs.length) x=some (d,v')/\St M h0 d L G/\Gr h d/\av d k enc v' (xs++ys)/\(∀c,aq v' c->c=b\/h.n<=c):=by
 obtain⟨d,v',y,F⟩:=S.clone r j s u v.src (ct a ys).symm (ct a xs).symm w (by grind[ct,Xo]) (ts:=ts) l;refine⟨d,v',y,?_⟩;rcases F with⟨z,rfl,rfl⟩|⟨m,rfl,g⟩
 . have H:ys=[]:=List.length_eq_zero_iff.1 z;subst H;refine⟨S,Gr.refl S.ok,.inr ⟨b,0,none,xs.length,by simp,by simp,?_⟩,fun c n=>.inl (Eq.symm n)⟩;rw [List.append_nil,l.load (by rw [ct a];omega),Xl,<-ct a xs,Xj]
 . have I:St M h0 d L G:=⟨g.fr,fun p J=>g.own p (List.mem_cons_of_mem _ J),g.gown,(List.nodup_cons.1 g.apart).2⟩;have i:Row d m (xs.flatMap enc++ys.flatMap enc) 1:=g.row m0;have T:=(St.init (M:=NoM) S.ok).clone r j s u v.src (ct a ys).symm (ct a xs).symm w (by grind[ct,Xo]) (ts:=ts) l;obtain⟨K,N,A,O⟩:=T;rw [y]at A;cases A;rcases O with⟨z,_,j⟩|⟨Q,P,B⟩
   . grind
   . cases P;refine⟨I,B.gr,.inr ⟨m,0,some k,xs.length+ys.length,by grind,by grind,?_⟩,fun c n=>?_⟩
     . rw [i.load (by grind[Xh,ct,Xo]),Xl,<-List.flatMap_append,<-ct a (xs++ys),Xj]
     . right;have:m=c:=n;subst this;rcases(B.own _ m0).1 with h|h
       . exact h
       . exact h.elim
end
end Go.Ab

namespace Go.Ab
section
variable{E:Env}{t e:TypeId}{h:Hp}{x y:Operand}
noncomputable def lenR(E:Env)(h:Hp)(t:TypeId)(x:Value):Option (dH×Hp):=lenK (match x with
 | .map (some r)=>match h.get r with
   |some (.map a _)=>match E.und t with
    |some (.map _ _)=>some (.val (.int .i64 (.ofNat a.length)),h)|_=>none
   |_=>none
 |_=>none) h (oW E t x)
theorem o_lenR{ρ:Operand->Value}{x:Operand}:aop E ρ h (.call ⟨.builtin .len,#[x],#[t]⟩)=lenR E h t (ρ x):=o_lenK
noncomputable def oU(d:Option TypeDesc)(h:Hp)(x:Value):Option (dH×Hp):=match d with
 | some .string=>match x with
   | .string s=>some (.val (.int .i64 (.ofNat s.size)),h)|_=>none
 |some (.array n _)=>some (.val (.int .i64 (.ofNat n)),h)| some (.slice _)=>match x with
   | .slice _ n _=>some (.val (.int .i64 (.ofNat n)),h)|_=>none
 | some (.map _ _)=>match x with
   | .map none=>some (.val (.int .i64 0),h)| .map (some r)=>match h.get r with
     |some (.map a _)=>some (.val (.int .i64 (.ofNat a.length)),h)|_=>none
   |_=>none
 |_=>none
theorem len_q{x:Value}:lenR E h t x=oU (E.und t) h x:=by unfold lenR oW;grind[oU,lenK]
theorem BT{a:Option Addr}{n c:Nat}:oU (some (.slice e)) h (.slice a n c)=some (.val (.int .i64 n),h):=rfl
theorem lenq_str{s:ByteArray}:oU (some .string) h (.string s)=some (.val (.int .i64 s.size),h):=rfl
theorem lenq_arr{n:Nat}{v:Value}:oU (some (.array n e)) h v=some (.val (.int .i64 n),h):=rfl
theorem Bh{k:TypeId}:oU (some (.map k e)) h (.map none)=some (.val (.int .i64 0),h):=rfl
theorem lenq_map{k:TypeId}{r:Nat}{a:List (Value×Value×Nat)}{c:Nat}(b:h.get r=some (.map a c)):oU (some (.map k e)) h (.map (some r))=some (.val (.int .i64 a.length),h):=by simp [oU,b]
theorem av.lenq{a:Type}{k:Nat}{enc:a->List Value}{v:Value}{xs:List a}{h b:Hp}(s:av b k enc v xs):oU (some (.slice e)) h v=some (.val (.int .i64 xs.length),h):=by rcases s with⟨rfl,rfl⟩|⟨_,_,_,_,rfl,_⟩<;>rfl
theorem gf.lenq{v:Value}{k n:Nat}{vs:List Value}{h d:Hp}(g:gf d (v,k,vs))(f:0<k)(i:n*k=vs.length):oU (some (.slice e)) h v=some (.val (.int .i64 n),h):=by
 rcases g with⟨a,c⟩|⟨b,m,a,c,j⟩
 . simp only []at a c;subst a c;have:n=0:=by
    cases n with
    |zero=>rfl|succ n=>grind
   subst this;rfl
 . simp only []at a c;subst a;have:m=n:=Xc f (c.trans i.symm);subst this;rfl
def kV(k:Option Nat)(v i:Value):Option Value:=match k with
 |none=>none| some k=>match v with
   | .slice (some a) n _=>match jg i n with
     |none=>none|some j=>some (.pointer (some (gw a (j*k))))
   |_=>none
def idxA(n:Nat)(k:Option Nat)(v i:Value):Option Value:=match k with
 |none=>none| some k=>match v with
   | .pointer (some a)=>match jg i n with
     |none=>none|some j=>some (.pointer (some (gw a (j*k))))
   |_=>none
def idxQ(E:Env)(d:Option TypeDesc)(v i:Value):Option Value:=match d with
 |some (.slice e)=>kV (E.sz e) v i|some (.array n e)=>idxA n (E.sz e) v i|_=>none
theorem idx_q{v i:Value}:fi E t v i=idxQ E (E.und t) v i:=by
 unfold fi idxQ;cases a:E.und t with
 |none=>rfl| some d=>
   cases d<;>first
    |rfl
    |(simp only [kV];cases b:E.sz _<;>(split<;>first|rfl|(split<;>simp_all)))
    |(simp only [idxA];grind)
theorem BP{v i:Value}:idxQ E (some (.slice e)) v i=kV (E.sz e) v i:=rfl
theorem Cg{n:Nat}{v i:Value}:idxQ E (some (.array n e)) v i=idxA n (E.sz e) v i:=rfl
def putI(a:Addr)(k:Nat):Option Nat->Option Value
 |none=>none|some j=>some (.pointer (some ⟨a.block,a.off+j*k,none⟩))
theorem mK{k n c:Nat}{a:Addr}{i:Value}:kV (some k) (.slice (some a) n c) i=putI a k (jg i n):=by rfl
theorem idxa_ptr{k n:Nat}{a:Addr}{i:Value}:idxA n (some k) (.pointer (some a)) i=putI a k (jg i n):=by rfl
theorem s9{a:Addr}{k j:Nat}:putI a k (some j)=some (.pointer (some ⟨a.block,a.off+j*k,none⟩)):=rfl
theorem av.ix{a:Type}{k:Nat}{enc:a->List Value}{v:Value}{xs:List a}{kd:IntKind}(s:av h k enc v xs)(f: ∀x,(enc x).length=k){i:Nat}(d:i<xs.length):
 ∃b o,kV (some k) v (.int kd i)=some (.pointer (some ⟨b,o,none⟩))/\h.load b o k=some (enc xs[i]):=by
 obtain⟨b,o,j,c,rfl,g⟩:=s.idx f d;refine⟨b,o+i*k,?_,g⟩;rw [mK,ju d];rfl
noncomputable def loadQ(g:Option Bool)(n:Option Nat)(h:Hp)(b o:Nat):Option Value:=match g with
 | some true=>match n with
   |some n=>agg1 (h.load b o n)|none=>none
 |some false=>one1 (h.load b o 1)|none=>none
theorem load_q{b o:Nat}{s:Option Nat}:fh E h t (.pointer (some ⟨b,o,s⟩))=loadQ (E.agg t) (E.sz t) h b o:=by grind[fh,loadQ,CE,loadV_agg]
theorem loadq_f{b o:Nat}{n:Option Nat}:loadQ (some false) n h b o=one1 (h.load b o 1):=rfl
theorem loadq_t{b o n:Nat}:loadQ (some true) (some n) h b o=agg1 (h.load b o n):=rfl
def isSl(E:Env)(t:TypeId):Bool:=match E.und t with
 |some (.slice _)=>true|_=>false
theorem sl_und(b:isSl E t=true): ∃a,E.und t=some (.slice a):=by grind[isSl]
theorem e_slice{a:Addr}{n c:Nat}(b:isSl E t=true):bF E .eql t x y (.slice (some a) n c) (.slice none 0 0)=some (.bool false):=by grind[sl_und,bF,gb,eG]
theorem e_snil(a:isSl E t=true):bF E .eql t x y (.slice none 0 0) (.slice none 0 0)=some (.bool true):=by grind[sl_und,bF,gb,eG]

def Fl(v:Value):Prop:=ae v=[v]/\lh v=true/\ ∀x,v≠ .chan x
theorem bR{k:IntKind}{n:Int}:Fl (.int k n):=⟨rfl,rfl,nofun⟩
theorem lP{b:Bool}:Fl (.bool b):=⟨rfl,rfl,nofun⟩
theorem fl_str{b:ByteArray}:Fl (.string b):=⟨rfl,rfl,nofun⟩
theorem cP{a:Option Addr}:Fl (.pointer a):=⟨rfl,rfl,nofun⟩
theorem bO{a:Option Addr}{n c:Nat}:Fl (.slice a n c):=⟨rfl,rfl,nofun⟩
theorem fl_map{a:Option Nat}:Fl (.map a):=⟨rfl,rfl,nofun⟩
theorem fT{f:Fn}{a b:Array Value}:Fl (.func f a b):=⟨rfl,rfl,nofun⟩
theorem fl_nilf:Fl .nilFunc:=⟨rfl,rfl,nofun⟩
theorem fl_nili:Fl .nilIface:=⟨rfl,rfl,nofun⟩
theorem fl_iface{t:TypeId}{v:Value}:Fl (.iface t v):=⟨rfl,rfl,nofun⟩
theorem av.fl{a:Type}{k:Nat}{enc:a->List Value}{v:Value}{xs:List a}(s:av h k enc v xs):Fl v:=by rcases s with⟨rfl,_⟩|⟨_,_,_,_,rfl,_⟩<;>exact bO
theorem gf.fl{p:GL}(g:gf h p):Fl p.1:=by rcases g with⟨e,_⟩|⟨_,_,e,_⟩<;>rw [e]<;>exact bO
def placesOf(E:Env)(t:TypeId):Option (List (Nat×Nat)):=match E.und t with
 |some (.struct a)=>nw E a.toList|_=>none
def aggO:Option (List Value)->Option Value
 |some l=>some (.agg ⟨l⟩)|none=>none
theorem aggO_some{l:List Value}:aggO (some l)=some (.agg ⟨l⟩):=rfl
def mH(ps:List (Nat×Nat))(l:List Value)(a:List (Nat×Value)):Option (List Value):=jZ (fun i=>ps[i]?) l a
theorem build_st{c:List Value}{ps:List (Nat×Nat)}{a:List (Nat×Value)}(d:E.zero t=some c)(b:placesOf E t=some ps):lg E t a=aggO (mH ps c a):=by
 unfold placesOf at b;unfold lg mH;rw [d]
 split at b
 . rename_i g f;simp only [f,b];cases jZ (fun i=>ps[i]?) c a<;>rfl
 . cases b
theorem fill_nil{ps:List (Nat×Nat)}{l:List Value}:mH ps l []=some l:=rfl
def buildQ(z:Option (List Value))(p:Option (List (Nat×Nat)))(a:List (Nat×Value)):Option Value:=match z with
 |none=>none| some z=>match p with
   |none=>none|some p=>aggO (mH p z a)
theorem build_q{a:List (Nat×Value)}(b:(placesOf E t).isSome=true):lg E t a=buildQ (E.zero t) (placesOf E t) a:=by grind[placesOf,lg,buildQ,build_st]
theorem Bc{b:List Value}{ps:List (Nat×Nat)}{a:List (Nat×Value)}:buildQ (some b) (some ps) a=aggO (mH ps b a):=rfl
def fillS(ps:List (Nat×Nat))(l:List Value)(v:Value)(r:List (Nat×Value)):Option (Nat×Nat)->Option (List Value)
 |none=>none|some (o,n)=>match v with
  | .chan _=>none|v=>bif Xm (ae v).length n&&Xe (o+n) l.length then mH ps (bQ l o (ae v)) r else none
theorem fill_q{ps:List (Nat×Nat)}{l:List Value}{i:Nat}{v:Value}{r:List (Nat×Value)}:mH ps l ((i,v)::r)=fillS ps l v r (ps[i]?):=by rfl
theorem fills_one{ps:List (Nat×Nat)}{l:List Value}{o:Nat}{v:Value}{r:List (Nat×Value)}(a:Fl v)(b:o<l.length):fillS ps l v r (some (o,1))=mH ps (l.set o v) r:=by
 have e:(bif Xm (ae v).length 1&&Xe (o+1) l.length then mH ps (bQ l o (ae v)) r else none)=mH ps (l.set o v) r:=by rw [a.1];simp only [List.length_cons,List.length_nil,Nat.zero_add,Xg,zO (show o+1<=l.length from b),Bool.and_self,cond_true,bQ]
 cases v<;>first|exact e|exact absurd rfl (a.2.2 _)
theorem fills_agg{ps:List (Nat×Nat)}{l c:List Value}{o n:Nat}{r:List (Nat×Value)}(a:c.length=n)(b:o+n<=l.length):fillS ps l (.agg ⟨c⟩) r (some (o,n))=mH ps (bQ l o c) r:=by simp only [fillS,ae,a,Xg,zO b,Bool.and_self,cond_true]
theorem setL_nil{l:List Value}{o:Nat}:bQ l o []=l:=rfl
theorem setL_cons{l vs:List Value}{o:Nat}{v:Value}:bQ l o (v::vs)=bQ (l.set o v) (o+1) vs:=rfl
theorem bW{v:Value}(a:Fl v):qB h (fun h=>boxR h t v) ptrTo (.row [v] 1):=by have:=bg (h:=h) (t:=t) a.2.2;rw [a.1]at this;exact this
theorem aA{M:Nat->Prop}{h0:Hp}{L:List (Nat×Ob)}{G:List GL}(S:St M h0 h L G){i b off md:Nat}{s:Option Nat}{l:List Value}{v:Value}(g:L[i]? =some (b,.row l md))(k:E.sz t=some 1)(c:Fl v)
 (m:off<l.length) (d:md≠0): ∃f,i6 E h t (.pointer (some ⟨b,off,s⟩)) v=some f/\St M h0 f (L.set i (b,.row (l.set off v) md)) G/\Mo (· =b) h f:=by
 have a:ae v=[v]:=c.1;have:=S.store (v:=v) (t:=t) (s:=s) (off:=off) (n:=1) g k c.2.2 (by rw [a];rfl) (by rw [a];simp [c.2.1]) (by omega) d;rw [a]at this;have e:lay l off [v]=l.set off v:=by refine Xb fun j=>?_;rw [jO (by simp;omega),List.getElem?_set];grind
 grind
end
def ifaceR(E:Env)(t:TypeId)(v:Value):Option Value:=match E.und t with
 |none=>none|some (.interface _)=>none|some _=>some (.iface t v)
theorem o_ifaceR{E:Env}{ρ:Operand->Value}{h:Hp}{t:TypeId}{x:Operand}:aop E ρ h (.makeInterface t x)=cL h (ifaceR E t (ρ x)):=rfl
theorem ifaceR_is{E:Env}{t:TypeId}{v:Value}(a:kJ E t=true):ifaceR E t v=some (.iface t v):=mk_iface a
def nilcR:Value->Option Value
 | .pointer (some a)=>some (.pointer (some a))| .func (.func f) a b=>some (.func (.func f) a b)|_=>none
theorem o_nilcR{E:Env}{ρ:Operand->Value}{h:Hp}{x:Operand}:aop E ρ h (.nilCheck x)=cL h (nilcR (ρ x)):=rfl
theorem nilcR_ptr{a:Addr}:nilcR (.pointer (some a))=some (.pointer (some a)):=rfl
def pickR(c a b:Value):Option Value:=match c with
 | .bool t=>some (bif t then a else b)
 |_=>none
theorem o_pickR{E:Env}{ρ:Operand->Value}{h:Hp}{c a b:Operand}:aop E ρ h (.pick c a b)=cL h (pickR (ρ c) (ρ a) (ρ b)):=rfl
theorem pick_t{a b:Value}:pickR (.bool true) a b=some a:=rfl
theorem pick_f{a b:Value}:pickR (.bool false) a b=some b:=rfl
def extrR(i:Nat):Value->Option Value
 | .tuple a=>a.toList[i]?|_=>none
theorem o_extrR{E:Env}{ρ:Operand->Value}{h:Hp}{x:Operand}{i:Nat}:aop E ρ h (.extract x i)=cL h (extrR i (ρ x)):=by rfl
theorem extr_0{a:Value}{l:List Value}:extrR 0 (.tuple ⟨a::l⟩)=some a:=rfl
theorem extr_1{a b:Value}{l:List Value}:extrR 1 (.tuple ⟨a::b::l⟩)=some b:=rfl
theorem extr_2{a b c:Value}{l:List Value}:extrR 2 (.tuple ⟨a::b::c::l⟩)=some c:=rfl
noncomputable def delR(E:Env)(h:Hp)(t:TypeId)(m k:Value):Option (dH×Hp):=match mI E h t m k with
 |none=>none|some a=>some (.val (.tuple #[]),a)
theorem o_delR{E:Env}{ρ:Operand->Value}{h:Hp}{m k:Operand}{t:TypeId}{ts:List TypeId}:aop E ρ h (.call ⟨.builtin .delete,#[m,k],⟨t::ts⟩⟩)=delR E h t (ρ m) (ρ k):=rfl
theorem az{a b:Nat}:((a:Int)<(b:Int))=(a<b):=by simp
def BS:=zM (@run_seq)<|zM (@Cw)<|zM (@r_ops)<|zM (@g_true)<|zM (@g_false)<|zM (@A4)<|zM (@run_ret)<|zM (@run_nil)<|zM (@run_skip)<|zM (@run_block)<|zM (@run_scope)<|zM (@run_blk)<|zM (@run_exit)<|zM (@AO)<|zM (@yR)<|zM (@AL)<|zM (@CV)<|zM (@BL)<|zM (@r_cond)<|zM (@c_true)<|zM (@c_false)<|zM (@r_opsD)<|zM (@dn_loud)<|zM (@dn_quiet)<|zM (@dn_val)<|zM (@dn_skip)<|zM (@d_skip)<|zM (@mg)<|zM (@aM)<|zM (@aS)<|zM (@AG)<|zM (@guard_no)<|zM (@CK)<|zM (@gj_some)<|zM (@gv_true)<|zM (@gv_false)<|zM (@gv_tuple)<|zM (@o_move)<|zM (@o_assign)<|zM (@o_pickR)<|zM (@pick_t)<|zM (@pick_f)<|zM (@o_load)<|zM (@o_store)<|zM (@o_binOp)<|zM (@o_unOp)<|zM (@o_nilcR)<|zM (@nilcR_ptr)<|zM (@o_ifaceR)<|zM (@C5)<|zM (@o_slice)<|zM (@Bo)<|zM (@o_field)<|zM (@Bp)<|zM (@o_index)<|zM (@o_extrR)<|zM (@extr_0)<|zM (@extr_1)<|zM (@extr_2)<|zM (@o_build)<|zM (@zK)<|zM (@BC)<|zM (@CT)<|zM (@zD)<|zM (@o_convert)<|zM (@o_lookup)<|zM (@Bq)<|zM (@CL)<|zM (@AZ)<|zM (@o_allocR)<|zM (@o_boxR)<|zM (@o_callv)<|zM (@o_max)<|zM (@o_min)<|zM (@o_append)<|zM (@o_copy)<|zM (@o_lenR)<|zM (@o_delR)<|zM (@o_recover)<|zM (@o_deferR)<|zM (@o_panicR)<|zM (@Ct)<|zM (@BQ)<|zM (@CO)<|zM (@C8)<|zM (@yP)<|zM (@xB)<|zM (@xa)<|zM (@wh)<|zM (@xb)<|zM (@step_defer)<|zM (@target_fn)<|zM (@zV)<|zM (@b_add)<|zM (@b_sub)<|zM (@b_mul)<|zM (@b_eql)<|zM (@b_neq)<|zM (@b_lss)<|zM (@b_leq)<|zM (@b_gtr)<|zM (@b_geq)<|zM (@b_eqlB)<|zM (@b_neqB)<|zM (@same_bool)<|zM (@u_not)<|zM (@mm_max)<|zM (@mm_min)<|zM (@ah)<|zM (@one1_some)<|zM (@agg1_some)<|zM (@ca)<|zM (@ll_put0)<|zM (@bA)<|zM (@ll_func)<|zM (@c_int)<|zM (@c_bool)<|zM (@c_string)<|zM (@c_nilp)<|zM (@c_nils)<|zM (@c_nilm)<|zM (@c_nilf)<|zM (@c_nili)<|zM (@ll_regs)<|zM (@lK)<|zM (@aD)<|zM (@cD)<|zM (@dK)<|zM (@ym)<|zM (@zG)<|zM (@fQ)<|zM (@cK)<|zM (@hush_s)<|zM (@idxP_in)<|zM (@ju)<|zM (@idx_q)<|zM (@BP)<|zM (@Cg)<|zM (@mK)<|zM (@idxa_ptr)<|zM (@s9)<|zM (@len_q)<|zM (@BT)<|zM (@lenq_str)<|zM (@lenq_arr)<|zM (@Bh)<|zM (@load_q)<|zM (@loadq_f)<|zM (@loadq_t)<|zM (@n_iface)<|zM (@n_nil)<|zM (@e_iface)<|zM (@e_nil)<|zM (@n_ptr)<|zM (@e_ptr)<|zM (@n_pnil)<|zM (@e_pnil)<|zM (@e_slice)<|zM (@e_snil)<|zM (@assert_is)<|zM (@ifaceR_is)<|zM (@build_q)<|zM (@Bc)<|zM (@aggO_some)<|zM (@fill_nil)<|zM (@fill_q)<|zM (@fills_one)<|zM (@fills_agg)<|zM (@setL_nil)<|zM (@setL_cons)<|zM (@bR)<|zM (@lP)<|zM (@fl_str)<|zM (@cP)<|zM (@bO)<|zM (@fl_map)<|zM (@fT)<|zM (@fl_nilf)<|zM (@fl_nili)<|(@fl_iface)
end Go.Ab

namespace Go.Ab
structure ItS(h0:Hp)(D:Nat->Prop)(h:Hp)(F:List Nat):Prop where
 ok:h.t.Sized h.n
 n:h0.n<=h.n
 data: ∀b,b<h0.n->D b->h.get b=h0.get b
 apart: ∀b∈F,¬(b<h0.n/\D b)
 lt: ∀b∈F,b<h.n
section
variable{h0 h h':Hp}{D:Nat->Prop}{F F':List Nat}
theorem ItS.gr(s:ItS h0 D h F)(g:Gr h h'):ItS h0 D h' F:=
 ⟨g.ok,Xd s.n g.n,fun b a c=>(g.get b (Xi a s.n)).trans (s.data b a c),s.apart,fun b a=>Xi (s.lt b a) g.n⟩
theorem ItS.mo(s:ItS h0 D h F)(m:Mo (· ∈F) h h')(hf: ∀b∈F',b∈F\/h.n<=b)(d: ∀b∈F',b<h'.n):ItS h0 D h' F':=
 ⟨m.ok,Xd s.n m.n,fun b a c=>(m.get b (Xi a s.n) (fun hf=>s.apart b hf ⟨a,c⟩)).trans (s.data b a c),
  fun b a c=>(hf b a).elim (fun a=>s.apart b a c) (fun a=>by have:=s.n;omega),d⟩
theorem ItS.load(s:ItS h0 D h F){b o n:Nat}{l:List Value}(a:h0.t.Sized h0.n)(e:h0.load b o n=some l)(c:D b):h.load b o n=some l:=by have:=s.data b (bC a e) c;grind[Hp.load]
theorem ItS.sl{d:Type}{k:Nat}{enc:d->List Value}{v:Value}{xs:List d}(s:ItS h0 D h F)(a:h0.t.Sized h0.n)(e:av h0 k enc v xs)(g: ∀b,aq v b->D b):av h k enc v xs:=by
 rcases e with e|⟨b,o,i,c,f,j,l⟩
 . exact .inl e
 . exact .inr ⟨b,o,i,c,f,j,s.load a l (g b (by rw [f];rfl))⟩
end
structure Yld(E:Env)(lb:Nat)(J:Nat->Hp->List Nat->Prop)(Z:Out->Hp->Prop)(xs:List (List Value)):Prop where
 lt: ∀i h F,J i h F->h.t.Sized h.n/\ ∀b∈F,b<h.n
 gr: ∀i h F h',J i h F->Gr h h'->J i h' F
 zgr: ∀h h',Z (.ret (.bool false)) h->Gr h h'->Z (.ret (.bool false)) h'
 round: ∀i x h F,xs[i]? =some x->J i h F->kX E lb x h fun o h'=>(o=.ret (.bool true)/\ ∃F',J (i+1) h' F'/\Mo (· ∈F) h h'/\ ∀b∈F',b∈F\/h.n<=b)\/(o=.ret (.bool false)/\Z o h'/\h'.t.Sized h'.n)\/((∃v,o=.pan v)/\Z o h')
def YQ(J:Nat->Hp->List Nat->Prop)(Z:Out->Hp->Prop)(n:Nat)(o:Out)(b:Option (Value×Bool))(a:Hp):Prop:=
 b=none/\((∃u c,o=.ret u/\J n a c)\/(∃u,o=.ret u/\Z (.ret (.bool false)) a)\/(∃v,o=.pan v/\Z o a))
theorem tD{E:Env}{g:FuncId}{a post:List Value}{h0:Hp}{D:Nat->Prop}{xs:List (List Value)}
 (H: ∀b J Z,Yld E b J Z xs-> ∀h F,ItS h0 D h F->J 0 h F->fZ E g (a++[.func (.yield b) #[] #[]]++post) none h (YQ J Z xs.length)):Iter E g a post h0 D xs:=by
 intro b J Z h F e f i hlt c j k l d;exact H b J Z ⟨hlt,c,j,l⟩ h F ⟨e,f,i,k,(hlt 0 h F d).2⟩ d
theorem yX{E:Env}{g:FuncId}{a post:List Value}{h0:Hp}{D:Nat->Prop}{xs:List (List Value)}(H:Iter E g a post h0 D xs){c:Nat}{J:Nat->Hp->List Nat->Prop}{Z:Out->Hp->Prop}(Y:Yld E c J Z xs)
 {h:Hp} {F:List Nat} (d:Mo (fun b=> ¬D b) h0 h) (f: ∀b∈F,b<h0.n-> ¬D b) (i:J 0 h F):fZ E g (a++[.func (.yield c) #[] #[]]++post) none h (YQ J Z xs.length):=
 H c J Z h F d.ok d.n (fun b e j=>d.get b e (fun k=>k j)) Y.lt Y.gr Y.zgr (fun b e h=>f b e h.1 h.2) Y.round i
theorem cZ{E:Env}{cx:Cx}{o:Oper}{l:Loc}{K:Ex->Loc->Hp->Prop}{h0 h:Hp}{D:Nat->Prop}{e i:Nat}{J:Nat->Hp->List Nat->Prop}{Z:Out->Hp->Prop}{xs:List (List Value)}{x:List Value}{F:List Nat}
 (Y:Yld E e J Z xs) (s:ItS h0 D h F) (f:J i h F) (g:xs[i]? =some x)
 (j: ∀d F',J (i+1) d F'->ItS h0 D d F'->Mo (· ∈F) h d->(∀b∈F',b∈F\/h.n<=b)->K .normal (l.put o.dst (.bool true)) d)
 (k2: ∀d,Z (.ret (.bool false)) d->d.t.Sized d.n->K .normal (l.put o.dst (.bool false)) d) (k: ∀v d,Z (.pan v) d->K (.pan v) l d):fJ E cx o l K (some (.yield e x,h)):=by
 refine wI (Y.round i x h F g f) ?_;rintro q d (⟨rfl,F',a,b,c⟩|⟨rfl,a,b⟩|⟨⟨v,rfl⟩,a⟩)
 . exact j d F' a (s.mo b c (Y.lt _ _ _ a).2) b c
 . exact k2 d a b
 grind

section
variable{M:Nat->Prop}{h0 h h':Hp}{L L':List (Nat×Ob)}{G G':List GL}
theorem St.base(S:St M h0 h L G):St (· ∈keys L G) h h L G:=
 ⟨Mo.refl S.ok,fun p a=>⟨.inr (jz a),(S.own p a).2⟩,fun p a=>⟨(S.gown p a).1,fun b c=>.inr (hI a c)⟩,S.apart⟩
theorem St.key_own(S:St M h0 h L G){b:Nat}(a:b∈keys L G):h0.n<=b\/M b:=by
 unfold keys at a;rcases List.mem_append.1 a with a|a
 . obtain⟨p,c,rfl⟩:=List.mem_map.1 a;exact(S.own p c).1
 . obtain⟨p,c,d⟩:=List.mem_filterMap.1 a;exact(S.gown p c).2 b d
theorem St.rebase(S:St M h0 h L G)(T:St (· ∈keys L G) h h' L' G'):St M h0 h' L' G':=by have d: ∀b,h.n<=b\/b∈keys L G->h0.n<=b\/M b:=fun b a=>a.elim (fun a=>.inl (Xd S.fr.n a)) S.key_own;exact⟨S.fr.trans T.fr fun b a=>(S.key_own a).symm,fun p c=>⟨d _ (T.own p c).1,(T.own p c).2⟩,fun p c=>⟨(T.gown p c).1,fun b a=>d b ((T.gown p c).2 b a)⟩,T.apart⟩
theorem St.key_new(T:St (· ∈keys L G) h h' L' G'): ∀b∈keys L' G',b∈keys L G\/h.n<=b:=fun _ a=>(T.key_own a).symm
theorem St.sub(S:St M h0 h L G)(b:L'.Sublist L)(c:G'.Sublist G):St M h0 h L' G':=
 ⟨S.fr,fun p a=>S.own p (b.subset a),fun p a=>S.gown p (c.subset a),S.apart.sublist ((b.map _).append (c.filterMap _))⟩
theorem St.drop1{x:Nat×Ob}(S:St M h0 h (x::L) G):St M h0 h L G:=S.sub (List.sublist_cons_self _ _) (List.Sublist.refl _)
end
theorem eH{E:Env}{f:FuncId}{args:List Value}{e:Option (Value×Bool)}{h:Hp}{P Q:Out->Option (Value×Bool)->Hp->Prop}(g:fZ E f args e h P)(i: ∀o c d,P o c d->Q o c d):fZ E f args e h Q:=by obtain⟨o,c,d,a,b⟩:=g;exact⟨o,c,d,a,i _ _ _ b⟩
theorem rq{E:Env}{f:FuncId}{args:List Value}{h:Hp}{P Q:Value->Hp->Prop}(b:Ret E f args h P)(c: ∀v a,P v a->Q v a):Ret E f args h Q:=Ret.mono c b
theorem jn{E:Env}{cx:Cx}{Q:fC}{k:List Fr}{l:Loc}{a:Nat}{J:Nat->Hp->List Nat->Prop}{n:Nat}{o:Out}{c:Option (Value×Bool)}{h:Hp}(y:YQ J (fun _ _=>False) n o c h)
 (d: ∀F,J n h F-> ∃x,h.get a=some (.loop x)/\x.st≠1/\RangeGo E cx Q k l (h.put a .dead) x.pending):RangeQ E cx Q k l a o c h:=by
 obtain⟨_,⟨u,F,rfl,e⟩|⟨u,_,b⟩|⟨v,_,b⟩⟩:=y
 . exact d F e
 . exact b.elim
 . exact b.elim
theorem St.dead{M:Nat->Prop}{h0 h:Hp}{L:List (Nat×Ob)}{G:List GL}{b:Nat}{o:Ob}(S:St M h0 h ((b,o)::L) G):St M h0 (h.put b .dead) L G:=by
 have d:=S.own _ m0;refine⟨S.fr.put d.1 _,fun p a=>⟨(S.own p (.tail _ a)).1,(S.own p (.tail _ a)).2.of_get (dk fun e=>?_)⟩,fun p a=>⟨(S.gown p a).1.of_get fun c f=>dk fun e=>?_,(S.gown p a).2⟩,(List.nodup_cons.1 S.apart).2⟩
 . exact(List.nodup_cons.1 S.apart).1 (by show b∈keys L G;rw [e];exact jz a)
 . exact(List.nodup_cons.1 S.apart).1 (by show b∈keys L G;rw [e];exact hI a f)
theorem St.get{M:Nat->Prop}{h0 h:Hp}{L:List (Nat×Ob)}{G:List GL}{b:Nat}{x:fu}(S:St M h0 h L G)(a:(b,Ob.loop x)∈L):h.get b=some (.loop x):=(S.own _ a).2
theorem St.getD{M:Nat->Prop}{h0 h:Hp}{L:List (Nat×Ob)}{G:List GL}{b:Nat}(S:St M h0 h L G)(a:(b,Ob.dfr)∈L):h.get b=some .dfr:=(S.own _ a).2

theorem qw{E:Env}{cx:Cx}{Q:fC}{k:List Fr}{n:Nat}{e:Option (Value×Bool)}{b:Code}{g:Type}(I:g->(Nat->Value)->List Deferred->Hp->Prop)(m:g->Nat)
 (q: ∀a,(∀i c l o,m i<m a->I i c l o->Run E (lim E) cx Q (.code (.loop b)::k) .normal (LL n c l e) o)-> ∀ρ d h,I a ρ d h->Run E (lim E) cx Q (.code b:: .code (.loop b)::k) .normal (LL n ρ d e) h):
 ∀a ρ d h,I a ρ d h->Run E (lim E) cx Q (.code (.loop b)::k) .normal (LL n ρ d e) h:=by
 have f: ∀j a,m a<j-> ∀ρ d h,I a ρ d h->Run E (lim E) cx Q (.code (.loop b)::k) .normal (LL n ρ d e) h:=by
  intro j
  induction j with
  |zero=>omega| succ j r=>grind[cE]
 intro a ρ d h p;exact f (m a+1) a (by omega) ρ d h p
def dB(a:List Nat):List (Nat×Ob):=a.map fun b=>(b,Ob.dfr)
theorem gu{E:Env}{M:Nat->Prop}{h0:Hp}{L:List (Nat×Ob)}{G:List GL}{m:Option Value}{P:Option Value->Hp->Prop}: ∀(a:List Nat) (h:Hp),St M h0 h (dB a++L) G->(∀d,St M h0 d L G->P m d)->UnQ E (a.map qy) m h P
 | [],h,S,c=>cJ (c h S)|b::a,h,S,c=>un_dfr (S.getD m0) (gu a _ (S.dead) c)

theorem tP{E:Env}{n:Nat}{ρ:Nat->Value}{h:Hp}{t:Tmp}{ty:TypeId}{v:Value}(a:t<n)(b:fh E h ty (ρ t)=some v):bH E (tab n ρ) h [.cell t ty]=some [v]:=by simp only [bH,lK,if_pos a,b]
theorem js{E:Env}{h:Hp}{t:TypeId}{b o:Nat}{s:Option Nat}{v:Value}(a:E.agg t=some false)(c:h.load b o 1=some [v]):fh E h t (.pointer (some ⟨b,o,s⟩))=some v:=by rw [load_q,a,loadq_f,c];rfl
theorem bN{E:Env}{h:Hp}{t:TypeId}{b o n:Nat}{s:Option Nat}{l:List Value}(a:E.agg t=some true)(c:E.sz t=some n)(d:h.load b o n=some l):fh E h t (.pointer (some ⟨b,o,s⟩))=some (.agg ⟨l⟩):=by rw [load_q,a,c,loadq_t,d];rfl

theorem St.call1{M:Nat->Prop}{h0 h k:Hp}{L:List (Nat×Ob)}{G:List GL}(S:St M h0 h L G){i b:Nat}{o o':Ob}(l:L[i]? =some (b,o))(f:Mo (· =b) h k)(r:Has k b o'):St M h0 k (L.set i (b,o')) G:=by
 have s:=S.own _ (Xa l);have g:(keys L G)[i]? =some b:=lO l;refine⟨S.fr.trans f (fun c m=>by grind),fun p a=>?_,fun p a=>⟨(S.gown p a).1.of_get fun c m=>?_,(S.gown p a).2⟩,?_⟩
 . rcases lM a with rfl|⟨j,n,a⟩
   . grind
   . have d:=S.own p (Xa a);refine⟨d.1,d.2.of_get (f.get _ (d.2.lt S.ok) fun e=>n ?_)⟩;have q:(keys L G)[j]? =some b:=(by rw [lO a];rw [e]);exact oz S.apart q g
 . refine f.get c ((S.gown p a).1.lt S.ok m) fun e=>?_;subst e;have d:=S.apart;unfold keys at d;rw [List.nodup_append]at d;exact d.2.2 c (List.mem_map.2 ⟨_,Xa l,rfl⟩) c (List.mem_filterMap.2 ⟨p,a,m⟩) rfl
 . have:keys (L.set i (b,o')) G=keys L G:=(by unfold keys;congr 1;rw [List.map_set];refine Xb fun j=>?_;grind);rw [this];exact S.apart
theorem St.init1{h:Hp}(a:h.t.Sized h.n){b:Nat}{o:Ob}(c:Has h b o):St (· =b) h h [(b,o)] []:=(St.init a).push (.inr rfl) c (by simp [keys])
theorem wrap8(z:Int):0<=am .u8 z/\am .u8 z<256:=by
 unfold am;cases z with
 | ofNat m=>
   simp only [hf,sgn,pw];cases a:Nat.blt m 256 with
   | true=>rw [Nat.blt_eq]at a;grind| false=>grind
 | negSucc m=>simp only [hf,sgn,pw,cond_false];grind
theorem aK{a:List (Nat×Tch)}{i j:Nat}{l:List (Nat×Nat)}:cG a ((i,j)::l)=(jI (cM i a) (cM j a)&&cG a l):=rfl
theorem aB{a:Nat}{h b:Hp}(e:leaves h b a=true):jI (some (.blk a)) (some (.run h b))=true:=e
theorem aF{a:Nat}{h b:Hp}(e:leaves h b a=true):jI (some (.run h b)) (some (.blk a))=true:=e
theorem cS{a b:Nat}(e:a≠b):jI (some (.blk a)) (some (.blk b))=true:=by grind[jI,Xm,absurd,Nat.eq_of_beq_eq_true]
theorem aU{i:Nat}{b:Tch}{l:List (Nat×Tch)}:cM i ((i,b)::l)=some b:=by simp [cM,Xg]
theorem aJ{i k:Nat}{b:Tch}{l:List (Nat×Tch)}(h:i≠k):cM i ((k,b)::l)=cM i l:=by grind[Xm,cF,cM]
theorem St.leaves{M:Nat->Prop}{h0 h a:Hp}{L:List (Nat×Ob)}{G:List GL}(S:St M h0 h L G){b c:Nat}{o:Ob}(d:(c,o)∈L)(f:Mo (· =b) h a)(e:c≠b):leaves h a c=true:=
 oe (f.get c ((S.own _ d).2.lt S.ok) e)

theorem aH{i k:Nat}{x:Option Tch}{a:List (Nat×Tch)}(h:i≠k):cM i (g9 k a x)=cM i a:=by
 cases x with
 |none=>rfl|some b=>exact aJ h
theorem aW{ρ:Operand->Value}{b:Bool}{t:TypeId}{a:Operand}{h c:Hp}:cQ ρ b (.load t a) h c=(match ρ a with| .pointer (some a)=>some (.blk a.block)|_=>none):=by simp only [cQ,dM,jG,fo,touch,cond_false];grind
theorem aZ{ρ:Operand->Value}{f:Operand}{as:Array Operand}{ts:Array TypeId}{h a:Hp}:cQ ρ false (.call ⟨.value f,as,ts⟩) h a=some (.run h a):=rfl
theorem aT{ρ:Operand->Value}{b:Bool}{t:TypeId}{h a:Hp}:cQ ρ b (.alloc t) h a=some (.blk h.n):=rfl

theorem St.gset {M:Nat->Prop} {h0 h:Hp} {L:List (Nat×Ob)} {G:List GL} (S:St M h0 h L G) {E:Env} {t:TypeId} {j i:Nat} {v:Value} {vs:List Value} {kd:IntKind} (r:G[j]? =some (v,1,vs)) (Q:i<vs.length) (F:E.sz t=some 1):
 ∃b,kV (some 1) v (.int kd i)=some (.pointer (some ⟨b,i,none⟩))/\ ∀x,Fl x-> ∃A,i6 E h t (.pointer (some ⟨b,i,none⟩)) x=some A/\St M h0 A L (G.set j (v,1,vs.set i x)):=by
 obtain⟨H,k⟩:=S.gown _ (Xa r);rcases H with⟨_,s⟩|⟨b,n,B,s,C⟩
 . grind
 . simp only []at B s C;subst B;have R:n=vs.length:=(by omega);refine⟨b,?_,fun x u=>?_⟩
   . grind[mK,ju,putI]
   . obtain ⟨y,I,l⟩:=C.store S.ok Nat.one_ne_zero (o:=i) (vs:=[x]) (by simp;omega) (by simp [u.2.1]);have e:lay vs i [x]=vs.set i x:=(by refine Xb fun j=>?_;rw [jO (by simp;omega),List.getElem?_set];grind);rw [e]at l;refine⟨h.put b y,?_,?_⟩
     . have:i6 E h t (.pointer (some ⟨b,i,none⟩)) x=h.store b i [x]:=(by simp only [i6,F];have J:ae x=[x]:=u.1;have K:(bif Xm (ae x).length 1 then h.store b i (ae x)else none)=h.store b i [x]:=(by rw [J];rfl);revert K;cases x<;>first|exact fun h=>h|exact absurd rfl (u.2.2 _));grind
     . have m:eZ (Value.slice (some ⟨b,0,some 1⟩) n n,1,vs)=some b:=rfl;have D:=k b m;have hlt:=(List.getElem?_eq_some_iff.1 r).1;have N: ∀c∈L.map Prod.fst,c≠b:=fun c w e=>(by have I:=S.apart;grind[keys,List.nodup_append,Xa]);have f:keys L (G.set j (Value.slice (some ⟨b,0,some 1⟩) n n,1,vs.set i x))=keys L G:=by
        unfold keys;congr 1;have: ∀(G:List GL) (j:Nat) (p q:GL),G[j]? =some p->eZ q=eZ p->(G.set j q).filterMap eZ=G.filterMap eZ:=by
         intro G
         induction G with
         |nil=>grind| cons g G O=>
           intro j p q r T;cases j with
           |zero=>grind|succ j=>grind
        exact this G j _ _ r rfl
       refine⟨S.fr.put D y,fun p d=>⟨(S.own p d).1,(S.own p d).2.of_get (dk fun e=>N _ (List.mem_map_of_mem d) e.symm)⟩,fun p d=>?_,by rw [f];exact S.apart⟩;rcases lM d with rfl|⟨U,z,d⟩
       . exact⟨.inr ⟨b,n,rfl,by simpa using s,l⟩,fun c w=>by cases w;exact D⟩
       . refine⟨(S.gown p (Xa d)).1.of_get fun c w=>dk fun e=>z ?_,(S.gown p (Xa d)).2⟩;subst e;have l:=S.apart;unfold keys at l;have V:=(List.nodup_append.1 l).2.1;have P: ∀(G:List GL) (a c:Nat) (p q:GL),(G.filterMap eZ).Nodup->G[a]? =some p->G[c]? =some q-> ∀x,eZ p=some x->eZ q=some x->a=c:=by
          intro G
          induction G with
          |nil=>grind| cons g G O=>grind
         grind

def JP(n:Nat)(d:List Deferred)(b:Option (Value×Bool))(J:(Nat->Value)->Hp->Prop):fC:=fun e l h=>e=.normal/\ ∃a,l=LL n a d b/\J a h
theorem zU{E:Env}{cx:Cx}{Q:fC}{k:List Fr}{n:Nat}{d:List Deferred}{a:Option (Value×Bool)}{J:(Nat->Value)->Hp->Prop}{c:Code}{l:Loc}{h:Hp}
 (b:Run E (lim E) cx (JP n d a J) [.code c] .normal l h) (e: ∀ρ h,J ρ h->Run E (lim E) cx Q k .normal (LL n ρ d a) h):Run E (lim E) cx Q (.code c::k) .normal l h:=by
 obtain⟨m,o,f,g,i⟩:=b;obtain⟨rfl,ρ,rfl,j⟩:=i;exact⟨_,_,_,g,e ρ f j⟩
theorem rS{E:Env}{cx:Cx}{Q:fC}{k:List Fr}{n:Nat}{d:List Deferred}{e:Option (Value×Bool)}(J:(Nat->Value)->Hp->Prop){a b:Code}{c:Nat->Value}{h:Hp}{t:Bool}
 (g:t=true->Run E (lim E) cx (JP n d e J) [.code a] .normal (LL n c d e) h) (i:t=false->Run E (lim E) cx (JP n d e J) [.code b] .normal (LL n c d e) h)
 (f: ∀ρ h,J ρ h->Run E (lim E) cx Q k .normal (LL n ρ d e) h):CStep E cx Q a b k (LL n c d e) h (.bool t):=by
 cases t with
 |true=>exact zU (g rfl) f|false=>exact zU (i rfl) f
theorem dT{n:Nat}{d:List Deferred}{a:Option (Value×Bool)}{J:(Nat->Value)->Hp->Prop}{ρ:Nat->Value}{h:Hp}(b:J ρ h):JP n d a J .normal (LL n ρ d a) h:=⟨rfl,ρ,rfl,b⟩

theorem uc{E:Env}{R:Rec}{cx:Cx}{Q:fC}{k2:List Fr}: ∀(m:List Fr) (e:Ex) (l:Loc) (h:Hp),Run E R cx (fun e l h=>Run E R cx Q k2 e l h) m e l h->Run E R cx Q (m++k2) e l h
 | [],e,l,h,d=>d| f ::m,e,l,h,d=>by
   have g:=uc (E:=E) (R:=R) (cx:=cx) (Q:=Q) (k2:=k2) m;cases f with
   | code c=>
     cases e with
     |normal=>obtain⟨n,j,k,a,b⟩:=d;exact⟨n,j,k,a,g _ _ _ b⟩
     |exit i=>exact g _ _ _ d|ret=>exact g _ _ _ d|pan v=>exact g _ _ _ d
   | blk id=>
     cases e with
     |normal=>exact g _ _ _ d| exit i=>simp only [Run,List.cons_append]at d⊢;grind|ret=>exact g _ _ _ d|pan v=>exact g _ _ _ d
   | ops a p=>
     cases e with
     |normal=>obtain⟨n,j,k,a,b⟩:=d;exact⟨n,j,k,a,g _ _ _ b⟩
     |exit i=>exact g _ _ _ d|ret=>exact g _ _ _ d|pan v=>exact g _ _ _ d
   | kill t=>
     cases e with
     |normal=>obtain⟨b,r,c,x,y,z⟩:=d;exact⟨b,r,c,x,y,g _ _ _ z⟩
     |exit i=>exact g _ _ _ d|ret=>exact g _ _ _ d|pan v=>exact g _ _ _ d
   | opsD a q s p i u=>
     cases e with
     |normal=>obtain⟨j,k,o,a,b,c⟩:=d;exact⟨j,k,o,a,b,g _ _ _ c⟩
     |exit i=>exact g _ _ _ d|ret=>exact g _ _ _ d|pan v=>exact g _ _ _ d
theorem run_post{E:Env}{R:Rec}{cx:Cx}{Q n:fC}(hq: ∀e l h,Q e l h->n e l h): ∀(k:List Fr) (e:Ex) (l:Loc) (h:Hp),Run E R cx Q k e l h->Run E R cx n k e l h
 | k, e, l,h,d=>by
   have:=uc (E:=E) (R:=R) (cx:=cx) (Q:=n) (k2:=[]) k e l h;rw [List.append_nil]at this;refine this ?_;revert d
   induction k generalizing e l h with
   |nil=>intro d;exact hq _ _ _ d| cons f k g=>
     intro d;have g:=fun e l h d=>g e l h (by have:=uc (E:=E) (R:=R) (cx:=cx) (Q:=n) (k2:=[]) k e l h;grind) d;cases f with
     | code c=>
       cases e with
       |normal=>obtain⟨o,j,m,a,b⟩:=d;exact⟨o,j,m,a,g _ _ _ b⟩
       |exit i=>exact g _ _ _ d|ret=>exact g _ _ _ d|pan v=>exact g _ _ _ d
     | blk id=>
       cases e with
       |normal=>exact g _ _ _ d| exit i=>
         simp only [Run]at d⊢;by_cases r:i=id
         . rw [if_pos r]at d⊢;exact g _ _ _ d
         . rw [if_neg r]at d⊢;exact g _ _ _ d
       |ret=>exact g _ _ _ d|pan v=>exact g _ _ _ d
     | ops a s=>
       cases e with
       |normal=>obtain⟨o,j,m,a,b⟩:=d;exact⟨o,j,m,a,g _ _ _ b⟩
       |exit i=>exact g _ _ _ d|ret=>exact g _ _ _ d|pan v=>exact g _ _ _ d
     | kill t=>
       cases e with
       |normal=>obtain⟨b,u,c,x,y,z⟩:=d;exact⟨b,u,c,x,y,g _ _ _ z⟩
       |exit i=>exact g _ _ _ d|ret=>exact g _ _ _ d|pan v=>exact g _ _ _ d
     | opsD a q w s i A=>
       cases e with
       |normal=>obtain⟨j,m,p,a,b,c⟩:=d;exact⟨j,m,p,a,b,g _ _ _ c⟩
       |exit i=>exact g _ _ _ d|ret=>exact g _ _ _ d|pan v=>exact g _ _ _ d
theorem rK{E:Env}{cx:Cx}{Q:fC}{k:List Fr}{n:Nat}{d:List Deferred}{c:Option (Value×Bool)}{b:Code}{id:Nat}{g:Type}(J:(Nat->Value)->Hp->Prop)(I:g->(Nat->Value)->Hp->Prop)(m:g->Nat)
 (p: ∀a,(∀j f o,m j<m a->I j f o->Run E (lim E) cx (JP n d c J) [.code (.loop b),.blk id] .normal (LL n f d c) o)-> ∀ρ h,I a ρ h->Run E (lim E) cx (JP n d c J) [.code b,.code (.loop b),.blk id] .normal (LL n ρ d c) h)
 (q: ∀ρ h,J ρ h->Run E (lim E) cx Q k .normal (LL n ρ d c) h) (a:g) {ρ:Nat->Value} {h:Hp} (r:I a ρ h):Run E (lim E) cx Q (.code (.loop b):: .blk id::k) .normal (LL n ρ d c) h:=by
 have s:=aV I m p a ρ h r;refine uc [.code (.loop b),.blk id] _ _ _ (run_post (fun e l h i=>?_) _ _ _ _ s);obtain⟨rfl,ρ,rfl,i⟩:=i;exact q ρ h i

theorem kI{ops:List Oper}{ord:List Nat}{os:List Oper}(a:((ops.any sH||sJ ops)&&ops.all (iH ops.length))=true)(b:ordL ops=ord)(c:dW ops ord ord=os):bU ops=os:=by unfold bU;grind
theorem St.gblk{M:Nat->Prop}{h0 h:Hp}{L:List (Nat×Ob)}{G:List GL}(S:St M h0 h L G){p:GL}(d:p∈G){c:Nat}(a:aq p.1 c):(h0.n<=c\/M c)/\c∉L.map Prod.fst:=by
 have f:eZ p=some c:=by
  rcases(S.gown p d).1 with⟨e,_⟩|⟨b,n,e,_⟩
  . rw [e]at a;exact a.elim
  . obtain⟨v,k,i⟩:=p;simp only []at e a;subst e;exact congrArg some a
 refine⟨(S.gown p d).2 c f,fun j=>?_⟩;have g:=S.apart;unfold keys at g;grind
end Go.Ab

namespace Go.Ab
structure Arc where
 s:Nat
 t:Nat
 w:Nat
deriving Inhabited
def dw(a:Arc):List Value:=[.int .i64 a.s,.int .i64 a.t,.int .i64 a.w]
theorem iR(a:Arc):(dw a).length=3:=rfl
structure Gra where
 nodes:Nat
 X:List Int
 Y:List Int
 arcs:List Arc
structure Good(g:Gra):Prop where
 n1:1<=g.nodes
 n2:g.nodes<=12
 lX:g.X.length=g.nodes
 lY:g.Y.length=g.nodes
 cX: ∀x∈g.X,-2147483648<=x/\x<=2147483647
 cY: ∀x∈g.Y,-2147483648<=x/\x<=2147483647
 many:g.arcs.length<=100
 arcs: ∀a∈g.arcs,a.s<g.nodes/\a.t<g.nodes/\a.w<=2147483647
structure jY(g:Gra):Prop where
 n1:1<=g.nodes
 n2:g.nodes<=300
 lX:g.X.length=g.nodes
 lY:g.Y.length=g.nodes
 cX: ∀x∈g.X,-2147483648<=x/\x<=2147483647
 cY: ∀x∈g.Y,-2147483648<=x/\x<=2147483647
 many:g.arcs.length<=400
 arcs: ∀a∈g.arcs,a.s<g.nodes/\a.t<g.nodes/\a.w<=2147483647
theorem Good.b{g:Gra}(h:Good g):jY g:=⟨h.n1,Xd h.n2 (by decide),h.lX,h.lY,h.cX,h.cY,Xd h.many (by decide),h.arcs⟩
structure dS(h:Hp)(vx vy va:Value)(g:Gra):Prop where
 X:av h 1 (encI .i64) vx g.X
 Y:av h 1 (encI .i64) vy g.Y
 A:av h 3 dw va g.arcs
theorem dS.gr{h b:Hp}{c d e:Value}{g:Gra}(a:dS h c d e g)(r:Gr h b):dS b c d e g:=⟨a.X.gr r,a.Y.gr r,a.A.gr r⟩
def kW(g:Gra)(a b c:Value):Value:=.agg ⟨[.int .i64 g.nodes,a,b,c]⟩
structure Pl where
 i:Int
 f:Int
 c:Int
 n:Int
 lo:Int
 hi:Int
def jW(p:Pl):List Value:=[.int .i64 p.i,.int .i64 p.f,.int .i64 p.c,.int .i64 p.n,.int .i64 p.lo,.int .i64 p.hi]
theorem encP_len(p:Pl):(jW p).length=6:=rfl
end Go.Ab

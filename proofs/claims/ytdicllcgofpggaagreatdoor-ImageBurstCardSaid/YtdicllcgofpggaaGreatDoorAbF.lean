/- A deterministic evaluator of the model's code, and that the model follows it (part 6). -/
import Derived.Test.YtdicllcgofpggaaGreatDoorAbE
open And renaming intro->zB
open Nat renaming ble_eq_true_of_le->zM,eq_of_mul_eq_mul_right->Xb,le_trans->Xc,ble->Xd,le_of_ble_eq_true->Xe,beq_refl->Xf,lt_of_lt_of_le->Xh,le_mul_of_pos_right->Xj,beq->Xl,mul_le_mul_right->Xm,add_mul->Xn
open List renaming mem_of_getElem?->zO,ext_getElem?->Xa,length_append->Xg,take_length->Xi,drop_zero->Xk
set_option maxHeartbeats 400000
set_option linter.defProp false
set_option linter.unusedVariables false
set_option linter.unusedSimpArgs false
namespace Go.Ab

theorem az{E:Env}{cx:Cx}{Q:fq}{k:List Fr}{n:Nat}{d:List Deferred}{e:Option (Value×Bool)}{b:Code}{g:Type}(I:g->(Nat->Value)->Hp->Prop)(m:g->Nat)
 (p: ∀a,(∀i c l,m i<m a->I i c l->Run E (lim E) cx Q (.code (.loop b)::k) .normal (LL n c d e) l)-> ∀ρ h,I a ρ h->Run E (lim E) cx Q (.code b:: .code (.loop b)::k) .normal (LL n ρ d e) h):
 ∀a ρ h,I a ρ h->Run E (lim E) cx Q (.code (.loop b)::k) .normal (LL n ρ d e) h:=by
 have f: ∀j a,m a<j-> ∀ρ h,I a ρ h->Run E (lim E) cx Q (.code (.loop b)::k) .normal (LL n ρ d e) h:=by
  intro j
  induction j with
  |zero=>omega| succ j q=>grind[dD]
 intro a ρ h o;exact f (m a+1) a (by omega) ρ h o

def qS(b:Nat):Deferred:={target:=.collected b,args:=#[]}
section
variable(E:Env)(cx:Cx)(Q:fq)(k:List Fr)
def RangeGo(l:Loc)(h:Hp):Option Code->Prop
 |none=>Run E (lim E) cx Q k .normal l h|some (.exit id)=>Run E (lim E) cx Q k (.exit id) l h|some .ret=>Run E (lim E) cx Q k .ret l h|_=>False
def RangeQ(l:Loc)(b:Nat):Out->Option (Value×Bool)->Hp->Prop
 | .pan v,_,a=>Run E (lim E) cx Q k (.pan v) l a| .ret _,_,a=> ∃x,a.get b=some (.loop x)/\x.st≠1/\RangeGo E cx Q k l (a.put b .dead) x.pending
end
section
variable{E:Env}{cx:Cx}{Q:fq}{k:List Fr}{n:Nat}{ρ:Nat->Value}{d:List Deferred}{rc:Option (Value×Bool)}{M:Nat->Prop}{h0 h:Hp}{L:List (Nat×Ob)}{G:List GL}
theorem CT {f:Operand} {params:Array Tmp} {assign body:Code} {g:FuncId} {a b:Array Value} {j:Hp} {m:Nat} {dfs:List Deferred} (hf:(LL n ρ d rc).ev f=.func (.func g) a b) (D:cx.nr=n)
 (F :(match cx.round with
   |none=>some (h.new .dfr,h.n,({target:=.collected h.n,args:=#[]}:Deferred)::d)| some r=>match h.get r with
     |some (.loop x)=>some (h,x.defers,d)|_=>none)=some (j,m,dfs))
 (H:dU E g (a.toList++[.func (.yield j.n) #[] #[]]++b.toList) none (j.new (.loop {fn:=cx.fn,regs:=tab n ρ,nr:=n,params,assign,body,st:=0,pending:=none,defers:=m})) (RangeQ E cx Q k (LL n ρ dfs rc) j.n)):
 Run E (lim E) cx Q (.code (.rangeFunc f params assign body)::k) .normal (LL n ρ d rc) h:=by
 obtain⟨o,I,l,J,y⟩:=H;simp only [Run];have e:aG E (lim E) cx (.rangeFunc f params assign body) (LL n ρ d rc) h=iR (lim E) cx ((LL n ρ d rc).ev f) params assign body (LL n ρ d rc) h:=rfl;rw [e,hf];have K:iR (lim E) cx (.func (.func g) a b) params assign body (LL n ρ d rc) h=(match(some (j,m,dfs):Option (Hp×Nat×List Deferred))with
  |none=>none| some (j,m,dfs)=>
    match(lim E).call g (a.toList++[.func (.yield j.n) #[] #[]]++b.toList) none
     (j.new (.loop {fn:=cx.fn,regs:=tab n ρ,nr:=cx.nr,params,assign,body,st:=0,pending:=none,defers:=m}))with
    |none=>none|some (.pan v,_,l)=>some (.pan v,LL n ρ dfs rc,l)| some (.ret _,_,l)=>match l.get j.n with
      | some (.loop x)=>match x.st with
        |1=>none| _=>match x.pending with
          |none=>some (.normal,LL n ρ dfs rc,l.put j.n .dead)|some (.exit id)=>some (.exit id,LL n ρ dfs rc,l.put j.n .dead)|some .ret=>some (.ret,LL n ρ dfs rc,l.put j.n .dead)|_=>none
      |_=>none):=by rw [<-F];rfl
 rw [K];simp only [D,J];cases o with
 |pan v=>exact⟨_,_,_,rfl,y⟩| ret v=>
   obtain⟨x,N,O,s⟩:=y;simp only [N];obtain⟨P,u,R,p,q,w,S,i,t⟩:=x;simp only []at O s;have z: ∃A B C,(match i with
    |none=>some (Ex.normal,LL n ρ dfs rc,l.put j.n .dead)|some (.exit id)=>some (.exit id,LL n ρ dfs rc,l.put j.n .dead)|some .ret=>some (.ret,LL n ρ dfs rc,l.put j.n .dead)|_=>none)=some (A,B,C)/\Run E (lim E) cx Q k A B C:=by
    cases i with
    |none=>exact⟨_,_,_,rfl,s⟩|some c=>cases c<;>first|exact s.elim|exact⟨_,_,_,rfl,s⟩
   omega
theorem js(S:St M h0 h L G){f:Operand}{params:Array Tmp}{assign body:Code}{g:FuncId}{a b:Array Value}(hf:(LL n ρ d rc).ev f=.func (.func g) a b)(l:cx.nr=n)(m:cx.round=none)
 (p: ∀i c e,St M h0 i ((e,.loop {fn:=cx.fn,regs:=tab n ρ,nr:=n,params,assign,body,st:=0,pending:=none,defers:=c})::(c,.dfr)::L) G->h.n<=c->h.n<=e->Gr h i->
   dU E g (a.toList++[.func (.yield e) #[] #[]]++b.toList) none i (RangeQ E cx Q k (LL n ρ (qS c::d) rc) e)):
 Run E (lim E) cx Q (.code (.rangeFunc f params assign body)::k) .normal (LL n ρ d rc) h:=by
 have j:St M h0 (h.new .dfr) ((h.n,.dfr)::L) G:=S.new (by show(h.new _).get h.n=_;rw [h.get_new _ S.ok,if_pos rfl]);have q:=j.new (x:=.loop {fn:=cx.fn,regs:=tab n ρ,nr:=n,params,assign,body,st:=0,pending:=none,defers:=h.n}) (o:=.loop {fn:=cx.fn,regs:=tab n ρ,nr:=n,params,assign,body,st:=0,pending:=none,defers:=h.n})
  (by show(Hp.new _ _).get _=_;rw [Hp.get_new _ _ j.ok,if_pos rfl])
 exact CT hf l (by rw [m];rfl) (p _ _ _ q (Nat.le_refl _) (Nat.le_succ _) ((Gr.new S.ok _).trans (Gr.new j.ok _)))
end

section
variable(E:Env)(cx:Cx)(lb:Nat)(Q:Out->Hp->Prop)
def vE:fq
 | .normal,_,a=> ∃x,a.get lb=some (.loop x)/\Q (.ret (.bool true)) (a.put lb (.loop {x with st:=0,pending:=none}))
 | .exit id,_,a=> ∃x,a.get lb=some (.loop x)/\Q (.ret (.bool false)) (a.put lb (.loop {x with st:=2,pending:=some (.exit id)}))
 | .ret,_,a=> ∃x,a.get lb=some (.loop x)/\Q (.ret (.bool false)) (a.put lb (.loop {x with st:=2,pending:=some .ret}))
 | .pan v,b,a=>b.dfs=[]/\Q (.pan v) a
def zI(body:Code):fq
 | .normal,l,a=> ∃x,a.get lb=some (.loop x)/\x.st=0/\x.fn=cx.fn/\x.nr=cx.nr/\x.body=body/\Run E (lim E) cx (vE lb Q) [.code body] .normal l (a.put lb (.loop {x with st:=1}))
 |_,_,_=>False
end
def setPs(ρ:Nat->Value):List Tmp->List Value->Option (Nat->Value)
 | [],[]=>some ρ|t::a,v::b=>setPs (am ρ t v) a b|_,_=>none
theorem sZ{n:Nat}: ∀(ts:List Tmp) (vs:List Value) (ρ a:Nat->Value),setPs ρ ts vs=some a->ph (tab n ρ) ts vs=some (tab n a)
 | [],[],ρ,a,h=>by cases h;rfl
 | t::ts,v::vs,ρ,a,h=>by simp only [ph,tab_set];exact sZ ts vs _ _ h| [],_::_,_,_,h=>by cases h
 |_::_,[],_,_,h=>by cases h
theorem uT{E:Env}{cx:Cx}{Q:fq}{c:Code}{l:Loc}{h:Hp}(b:Run E (lim E) cx Q [.code c] .normal l h): ∃e l' a,(lim E).code cx c l h=some (e,l',a)/\Q e l' a:=by obtain⟨e,l',a,d,f⟩:=b;exact⟨e,l',a,by rw [yg];exact d,f⟩
theorem ju{E:Env}{c n:Nat}{args:List Value}{h:Hp}{Q:Out->Hp->Prop}{fn:FuncId}{ρ a:Nat->Value}{params:Array Tmp}{assign body:Code}{o:Nat}
 (d:h.get c=some (.loop {fn,regs:=tab n ρ,nr:=n,params,assign,body,st:=0,pending:=none,defers:=o})) (g:(E.fn fn).isSome=true) (p:setPs ρ params.toList args=some a)
 (q:Run E (lim E) ⟨fn,n,some c⟩ (zI E ⟨fn,n,some c⟩ c Q body) [.code assign] .normal (LL n a [] none) h):kL E c args h Q:=by
 obtain⟨e,l,z,r,f⟩:=uT q;unfold kL jt;rw [d];simp only [g,cond_true,sZ _ _ _ _ p];rw [show Loc.mk (tab n a) [] none=LL n a [] none from rfl,r];cases e with
 |exit i=>exact f.elim|ret=>exact f.elim|pan v=>exact f.elim| normal=>
   obtain⟨x,s,t,A,g4,B,u⟩:=f;obtain⟨w,C,D,j,b⟩:=uT u;simp only [s,t,j];cases w with
   |normal=>obtain⟨y,k,m⟩:=b;grind
   |exit i=>obtain⟨y,k,m⟩:=b;grind
   |ret=>obtain⟨y,k,m⟩:=b;grind
   |pan v=>obtain⟨k,m⟩:=b;grind
section
variable{E:Env}{cx:Cx}{lb:Nat}{Q:Out->Hp->Prop}{M:Nat->Prop}{h0 h:Hp}{L:List (Nat×Ob)}{G:List GL}{body:Code}{l:Loc}
theorem St.loopPut(S:St M h0 h L G){i:Nat}{X Y:gC}(a:L[i]? =some (lb,.loop X)):h.get lb=some (.loop X)/\St M h0 (h.put lb (.loop Y)) (L.set i (lb,.loop Y)) G:=by have b:h.get lb=some (.loop X):=(S.own _ (zO a)).2;refine⟨b,S.put a ?_⟩;show(h.put lb _).get lb=_;rw [Hp.get_put,if_pos ⟨rfl,by rw [b];rfl⟩]
theorem iT(S:St M h0 h L G){i:Nat}{X:gC}(b:L[i]? =some (lb,.loop X))(c:X.st=0)(d:X.fn=cx.fn)(e:X.nr=cx.nr)(f:X.body=body)
 (g: ∀a,St M h0 a (L.set i (lb,.loop {X with st:=1})) G->Run E (lim E) cx (vE lb Q) [.code body] .normal l a):zI E cx lb Q body .normal l h:=by
 obtain⟨j,k⟩:=S.loopPut (Y:={X with st:=1}) b;exact⟨X,j,c,d,e,f,g _ k⟩
theorem fG(S:St M h0 h L G){i:Nat}{X:gC}(b:L[i]? =some (lb,.loop X))(c: ∀a,St M h0 a (L.set i (lb,.loop {X with st:=0,pending:=none})) G->Q (.ret (.bool true)) a):vE lb Q .normal l h:=by obtain⟨d,e⟩:=S.loopPut (Y:={X with st:=0,pending:=none}) b;exact⟨X,d,c _ e⟩
end

def Iter(E:Env)(g:FuncId)(e post:List Value)(c:Hp)(D:Nat->Prop)(xs:List (List Value)):Prop:=
 ∀ (f:Nat) (J:Nat->Hp->List Nat->Prop) (Z:Out->Hp->Prop) (h:Hp) (F:List Nat),
   h.t.Sized h.n->c.n<=h.n->(∀b,b<c.n->D b->h.get b=c.get b)->
   (∀i h F,J i h F->h.t.Sized h.n/\ ∀b∈F,b<h.n)->(∀i h F a,J i h F->Gr h a->J i a F)->(∀h a,Z (.ret (.bool false)) h->Gr h a->Z (.ret (.bool false)) a)->(∀b∈F,¬(b<c.n/\D b))->
   (∀i x h F,xs[i]? =some x->J i h F->kL E f x h fun o a=>(o=.ret (.bool true)/\ ∃d,J (i+1) a d/\Mo (· ∈F) h a/\ ∀b∈d,b∈F\/h.n<=b)\/(o=.ret (.bool false)/\Z o a/\a.t.Sized a.n)\/((∃v,o=.pan v)/\Z o a))->
   J 0 h F->dU E g (e++[.func (.yield f) #[] #[]]++post) none h fun o j a=>j=none/\((∃u d,o=.ret u/\J xs.length a d)\/(∃u,o=.ret u/\Z (.ret (.bool false)) a)\/(∃v,o=.pan v/\Z o a))
end Go.Ab

namespace Go.Ab

theorem load_len{h:Hp}{b o n:Nat}{l:List Value}(e:h.load b o n=some l):l.length=n:=by grind[Hp.load,Xd,Tr.slice_spec]
theorem gf{h:Hp}{b o n:Nat}{l:List Value}(e:h.load b o n=some l){i m:Nat}(g:i+m<=n):h.load b (o+i) m=some ((l.drop i).take m):=by
 unfold Hp.load at e⊢
 split at e
 next t a el j p=>
  cases c:Xd (o+n) a with
  |false=>grind| true=>
    rw [c]at e;have hle:=Xe c;rw [zM (by omega:o+i+m<=a)];simp only [cond_true]at e⊢;obtain⟨q,f⟩:=Tr.slice_spec e;obtain⟨r,d⟩:=Tr.slice_mk (t:=t) (i:=o+i) (n:=m) (fun k s=>by
     have:=f (i+k) (by omega);grind)
    rw [d];obtain⟨u,v⟩:=Tr.slice_spec d;congr 1;refine Xa fun k=>?_;grind
 next=>cases e
theorem load_join{h:Hp}{b o n:Nat}{f:Nat->Value}(a: ∃l,h.load b o 0=some l)(e: ∀i,i<n->h.load b (o+i) 1=some [f i]):h.load b o n=some ((List.range n).map f):=by
 unfold Hp.load at a e⊢;cases g:h.get b with
 |none=>grind|some d=>
 cases d with
 |dead=>grind|map=>grind|loop=>grind|dfr=>grind| cells t c el r=>
   rw [g]at a;simp only [g]at e;simp only []at a;have hle:o+n<=c:=by
    cases n with
    | zero=>
      obtain⟨l,a⟩:=a;cases j:Xd (o+0) c with
      |false=>grind|true=>simp_all
    | succ n=>
      have:=e n (by omega);cases j:Xd (o+n+1) c with
      |false=>grind|true=>have:=Xe j;omega
   have m: ∀i,i<n->t.get (o+i)=some (f i):=(by intro i q;have:=e i q;rw [zM (by omega:o+i+1<=c)]at this;have:=(Tr.slice_spec this).2 0 (by omega);simpa using this);simp only [];rw [zM hle];simp only [cond_true];obtain⟨l,p⟩:=Tr.slice_mk (t:=t) (i:=o) (n:=n) (fun k s=>by grind);rw [p];obtain⟨u,v⟩:=Tr.slice_spec p;congr 1;refine Xa fun k=>?_;grind

section
variable{α:Type}
theorem aI{k:Nat}{enc:α->List Value}(a: ∀x,(enc x).length=k)(xs:List α):(xs.flatMap enc).length=xs.length*k:=by
 induction xs with
 |nil=>simp|cons x xs b=>grind
theorem wY{k:Nat}{enc:α->List Value}(b: ∀x,(enc x).length=k)(xs:List α){i:Nat}(a:i<xs.length):((xs.flatMap enc).drop (i*k)).take k=enc xs[i]:=by
 induction xs generalizing i with
 |nil=>simp at a| cons x xs c=>
   cases i with
   |zero=>grind| succ i=>grind[Nat.succ_mul,Nat.add_comm,List.drop_drop,List.drop,List.flatMap,List.drop_left]
def ay(h:Hp)(k:Nat)(enc:α->List Value)(v:Value)(xs:List α):Prop:=
 (v=.slice none 0 0/\xs=[])\/ ∃b o s c,v=.slice (some ⟨b,o,s⟩) xs.length c/\xs.length<=c/\h.load b o (xs.length*k)=some (xs.flatMap enc)
variable{h:Hp}{k:Nat}{enc:α->List Value}{v:Value}{xs:List α}
theorem ay.gr{a:Hp}(g:Gr h a)(s:ay h k enc v xs):ay a k enc v xs:=by
 rcases s with s|⟨b,o,s,c,d,e,f⟩
 . exact .inl s
 . exact .inr ⟨b,o,s,c,d,e,g.load f⟩
def ar:Value->Nat->Prop
 | .slice (some a) _ _,b=>a.block=b| .pointer (some a),b=>a.block=b|_,_=>False
theorem ay.mo{M:Nat->Prop}{a:Hp}(g:Mo M h a)(s:ay h k enc v xs)(e: ∀b,ar v b-> ¬M b):ay a k enc v xs:=by
 rcases s with s|⟨b,o,s,c,d,f,i⟩
 . exact .inl s
 . refine .inr ⟨b,o,s,c,d,f,?_⟩;have:=g.get b (bJ g.ok0 i) (e b (by rw [d];rfl));grind[Hp.load]
theorem ay.lt(d:h.t.Sized h.n)(s:ay h k enc v xs){b:Nat}(a:ar v b):b<h.n:=by
 rcases s with⟨rfl,_⟩|⟨e,o,s,c,rfl,g,f⟩
 . exact a.elim
 . have:e=b:=a;subst this;exact bJ d f
theorem ay.len{E:Env}{t e:TypeId}(s:ay h k enc v xs)(a:E.und t=some (.slice e)):px E t v=some (.int .i64 xs.length):=by rcases s with⟨rfl,rfl⟩|⟨b,o,s,c,rfl,d,f⟩<;>simp [px,a]
theorem ay.idx(s:ay h k enc v xs)(d: ∀x,(enc x).length=k){i:Nat}(a:i<xs.length): ∃b o s' c,v=.slice (some ⟨b,o,s'⟩) xs.length c/\h.load b (o+i*k) k=some (enc xs[i]):=by
 rcases s with⟨rfl,rfl⟩|⟨b,o,s,c,rfl,f,e⟩
 . simp at a
 . refine⟨b,o,s,c,rfl,?_⟩;have:i*k+k<=xs.length*k:=(by rw [<-Nat.succ_mul];exact Xm _ a);rw [gf e this,wY d xs a]
theorem ay.at{E:Env}{t e:TypeId}{kd:IntKind}(s:ay h k enc v xs)(d: ∀x,(enc x).length=k)(f:E.und t=some (.slice e))(g:E.sz e=some k){i:Nat}(a:i<xs.length):
 ∃b o,eP E t v (.int kd i)=some (.pointer (some ⟨b,o,none⟩))/\h.load b o k=some (enc xs[i]):=by
 obtain⟨b,o,l,c,rfl,j⟩:=s.idx d a;refine⟨b,o+i*k,?_,j⟩;rw [ia_slice f g,eU a];rfl
theorem ay.src(s:ay h k enc v xs):aC h k v=some (xs.length,xs.flatMap enc):=by
 rcases s with⟨rfl,rfl⟩|⟨b,o,s,c,rfl,a,d⟩
 . rfl
 grind[List.length_eq_zero_iff,aC,List.length_nil]
theorem iB.sl{vs:List Value}(g:iB h (v,k,vs))(d:vs=xs.flatMap enc)(e: ∀x,(enc x).length=k)(i:0<k):ay h k enc v xs:=by
 rcases g with⟨c,a⟩|⟨b,n,c,a,f⟩
 . simp only []at c a;refine .inl ⟨c,?_⟩;rw [a]at d;have:=aI e xs;rw [<-d]at this;cases xs with
   |nil=>rfl| cons x xs=>grind
 . simp only []at c a f;have j:n=xs.length:=(by rw [d,aI e]at a;exact Xb i a);subst j;refine .inr ⟨b,0,some k,xs.length,c,Nat.le_refl _,?_⟩;rw [f.load (by omega),a,Xk,Xi,d]
theorem iB.len{E:Env}{t e:TypeId}{vs:List Value}(g:iB h (v,k,vs))(f:0<k)(d:E.und t=some (.slice e)){n:Nat}(i:n*k=vs.length):px E t v=some (.int .i64 n):=by
 rcases g with⟨a,c⟩|⟨b,m,a,c,j⟩
 . simp only []at a c;subst a c;have:n=0:=by
    cases n with
    |zero=>rfl|succ n=>grind
   subst this;simp [px,d]
 grind[Xb,px]
end
def encI(kd:IntKind)(x:Int):List Value:=[.int kd x]
def encB(x:Bool):List Value:=[.bool x]
theorem aH(kd:IntKind)(x:Int):(encI kd x).length=1:=rfl
theorem encB_len(x:Bool):(encB x).length=1:=rfl

def agg1:Option (List Value)->Option Value
 |some l=>some (.agg ⟨l⟩)|none=>none
theorem agg1_some{l:List Value}:agg1 (some l)=some (.agg ⟨l⟩):=rfl
theorem loadV_agg{E:Env}{h:Hp}{t:TypeId}{b o n:Nat}{s:Option Nat}(a:E.agg t=some true)(c:E.sz t=some n):eK E h t (.pointer (some ⟨b,o,s⟩))=agg1 (h.load b o n):=by simp only [eK,a,c];cases h.load b o n<;>rfl

def isIface(E:Env)(t:TypeId):Bool:=match E.und t with
 |some (.interface _)=>true|_=>false
def oK(E:Env)(t:TypeId):Bool:=match E.und t with
 |some (.pointer _)=>true|_=>false
def kY(E:Env)(t:TypeId):Bool:=match E.und t with
 |some (.struct _)=>true|some (.int _)=>true|some (.pointer _)=>true|_=>false
section
variable{E:Env}{t:TypeId}{x y:Operand}
theorem qY(b:isIface E t=true): ∃a,E.und t=some (.interface a):=by grind[isIface]
theorem uo(b:oK E t=true): ∃a,E.und t=some (.pointer a):=by grind[oK]
theorem n_iface(a:isIface E t=true){u:TypeId}{v:Value}:aZ E .neq t x y (.iface u v) .nilIface=some (.bool true):=by grind[qY,aZ,gH,ef]
theorem n_nil(b:isIface E t=true){v:Value}:aZ E .neq t x (.const v) .nilIface .nilIface=some (.bool false):=by obtain⟨a,c⟩:=qY b;cases x<;>simp [aZ,gH,ef,c]
theorem e_iface(a:isIface E t=true){u:TypeId}{v:Value}:aZ E .eql t x y (.iface u v) .nilIface=some (.bool false):=by grind[qY,aZ,gH,ef]
theorem e_nil(b:isIface E t=true){v:Value}:aZ E .eql t x (.const v) .nilIface .nilIface=some (.bool true):=by obtain⟨a,c⟩:=qY b;cases x<;>simp [aZ,gH,ef,c]
theorem n_ptr(b:oK E t=true){a:Addr}:aZ E .neq t x y (.pointer (some a)) (.pointer none)=some (.bool true):=by grind[uo,aZ,gH,ef]
theorem e_ptr(b:oK E t=true){a:Addr}:aZ E .eql t x y (.pointer (some a)) (.pointer none)=some (.bool false):=by grind[uo,aZ,gH,ef]
theorem n_pnil(a:oK E t=true):aZ E .neq t x y (.pointer none) (.pointer none)=some (.bool false):=by grind[uo,aZ,gH,ef]
theorem e_pnil(a:oK E t=true):aZ E .eql t x y (.pointer none) (.pointer none)=some (.bool true):=by grind[uo,aZ,gH,ef]
theorem uY(b:kY E t=true): ∃d,E.und t=some d/\ ∀a,d≠ .interface a:=by grind[kY]
theorem assert_is(a:kY E t=true){v:Value}:qi E (.iface t v) t true=some (.tuple #[v,.bool true]):=by obtain⟨d,b,c⟩:=uY a;unfold qi;rw [b];cases d<;>first|exact absurd rfl (c _)|simp [uq]
theorem mk_iface(a:kY E t=true){v:Value}:(match E.und t with|none=>none|some (.interface _)=>none|some _=>some (Value.iface t v))=some (.iface t v):=by obtain⟨d,b,c⟩:=uY a;grind
end

theorem o_recover{E:Env}{ρ:Operand->Value}{h:Hp}{as:Array Operand}{ts:Array TypeId}:aop E ρ h (.call ⟨.builtin .recover,as,ts⟩)=some (.recov,h):=rfl
theorem o_deferR{E:Env}{ρ:Operand->Value}{h:Hp}{f:Operand}{as:Array Operand}{ts:Array TypeId}:aop E ρ h (.defer ⟨.value f,as,ts⟩)=match ρ f with
 | .func (.func g) a b=>some (.defer {target:=.fn (.func g) b,args:=⟨a.toList++as.toList.map ρ⟩},h)|_=>none:=rfl
def panR(h:Hp):Value->Option (dw×Hp)
 | .iface t v=>some (.panic (.iface t v),h)|_=>none
theorem o_panicR{E:Env}{ρ:Operand->Value}{h:Hp}{x:Operand}:aop E ρ h (.panic x)=panR h (ρ x):=by rfl
theorem Dp{h:Hp}{t:TypeId}{v:Value}:panR h (.iface t v)=some (.panic (.iface t v),h):=rfl
section
variable{E:Env}{cx:Cx}{o:Oper}{K:Ex->Loc->Hp->Prop}{h:Hp}{n:Nat}{ρ:Nat->Value}{d:List Deferred}
theorem xt{v:Value}:fD E cx o (LL n ρ d (some (v,false))) K (some (.recov,h))↔cx.round=none/\K .normal ((LL n ρ d (some (v,true))).put o.dst v) h:=Iff.rfl
theorem xd:fD E cx o (LL n ρ d none) K (some (.recov,h))↔cx.round=none/\K .normal ((LL n ρ d none).put o.dst .nilIface) h:=Iff.rfl
theorem step_defer{a:Option (Value×Bool)}{x:Deferred}:fD E cx o (LL n ρ d a) K (some (.defer x,h))↔cx.round=none/\K .normal ((LL n ρ (x::d) a).put o.dst (.tuple #[])) h:=Iff.rfl
theorem fU{l:Loc}{f:FuncId}{args:List Value}{P:Out->Option (Value×Bool)->Hp->Prop}(g:dU E f args none h P)(i: ∀x e c,P x e c->match x with
 | .ret v=>K .normal (l.put o.dst v) c| .pan v=>K (.pan v) l c):fD E cx o l K (some (.call f args,h)):=by
 obtain⟨x,e,c,a,b⟩:=g;exact⟨x,e,c,a,i x e c b⟩
theorem sq{l:Loc}{b:Nat}{args:List Value}{P:Out->Hp->Prop}(e:kL E b args h P)(f: ∀x c,P x c->match x with
 | .ret v=>K .normal (l.put o.dst v) c| .pan v=>K (.pan v) l c):fD E cx o l K (some (.yield b args,h)):=by
 obtain⟨x,c,a,b⟩:=e;exact⟨x,c,a,f x c b⟩
end
theorem Bp{b:Nat}{args:List Value}:target (.func (.yield b) #[] #[]) args=some (.yield b args):=rfl
def UnQ(E:Env)(c:List Deferred)(m:Option Value)(h:Hp)(Q:Option Value->Hp->Prop):Prop:= ∃a b,ck (lim E) c m h=some (a,b)/\Q a b
section
variable{E:Env}{rs:List ResultVar}{Q:Out->Option (Value×Bool)->Hp->Prop}{n:Nat}{ρ:Nat->Value}{d:List Deferred}{rc:Option (Value×Bool)}{h:Hp}
theorem fS(b:UnQ E d none h fun m a=>m=none/\ ∃vs,bH E (tab n ρ) a rs=some vs/\Q (.ret (ab vs)) rc a):pJ E rs Q .ret (LL n ρ d rc) h:=by obtain⟨m,a,c,rfl,e⟩:=b;exact⟨a,c,e⟩
theorem dl(b:UnQ E d none h fun m a=>m=none/\ ∃vs,bH E (tab n ρ) a rs=some vs/\Q (.ret (ab vs)) rc a):pJ E rs Q .normal (LL n ρ d rc) h:=fS b
theorem dB{v:Value}(b:UnQ E d (some v) h fun m a=>match m with
 |some v=>Q (.pan v) rc a|none=> ∃vs,bH E (tab n ρ) a rs=some vs/\Q (.ret (ab vs)) rc a):pJ E rs Q (.pan v) (LL n ρ d rc) h:=by
 obtain⟨m,a,c,e⟩:=b;exact⟨m,a,c,e⟩
theorem cP{m:Option Value}{P:Option Value->Hp->Prop}(a:P m h):UnQ E [] m h P:=⟨m,h,rfl,a⟩
theorem un_dfr{b:Nat}{a:List Deferred}{m:Option Value}{P:Option Value->Hp->Prop}(i:h.get b=some .dfr)(c:UnQ E a m (h.put b .dead) P):UnQ E (qS b::a) m h P:=by obtain⟨e,f,j,g⟩:=c;refine⟨e,f,?_,g⟩;simp_all[ck,qS]
theorem un_fn{f:FuncId}{cap args:Array Value}{b:List Deferred}{P:Option Value->Hp->Prop}(c:dU E f (args.toList++cap.toList) none h fun o rc a=>(∃v,o=.ret v)/\rc=none/\UnQ E b none a P):UnQ E ({target:=.fn (.func f) cap,args}::b) none h P:=by obtain⟨o,e,l,g,⟨v,rfl⟩,rfl,i,a,j,k⟩:=c;refine⟨i,a,?_,k⟩;simp only [ck,g];exact j
theorem un_fn_pan{f:FuncId}{cap args:Array Value}{c:List Deferred}{v:Value}{P:Option Value->Hp->Prop}(e:dU E f (args.toList++cap.toList) (some (v,false)) h fun o rc a=>(∃u,o=.ret u)/\ ∃v' b,rc=some (v',b)/\UnQ E c (if b=true then none else some v') a P):
 UnQ E ({target:=.fn (.func f) cap,args}::c) (some v) h P:=by
 obtain⟨o,g,k,l,⟨u,rfl⟩,v',b,rfl,i,a,m,j⟩:=e;refine⟨i,a,?_,j⟩;grind[ck]
theorem iL{vs:List Value}(a:bH E (tab n ρ) h rs=some vs)(hq:Q (.ret (ab vs)) rc h):pJ E rs Q .ret (LL n ρ [] rc) h:=fS (cP ⟨rfl,vs,a,hq⟩)
end
end Go.Ab

namespace Go.Ab
section
variable{M:Nat->Prop}{h0 h:Hp}{L:List (Nat×Ob)}{G:List GL}{E:Env}
theorem bg{t e:TypeId}{c k n:Nat}{d cs:List Value}{a:List (Nat×Value)}(f:E.und t=some (.slice e))(g:dP E e c k d)(j:n*k<=16777216)
 (hf:kf (fun i=>some (i*k,k)) (aU d n) a=some cs):pM h (fun h=>cU (jQ E h t n a)) (fun b=>.slice (some ⟨b,0,none⟩) n n) (.row cs 1):=by
 obtain⟨⟨i,l,rfl,rfl⟩,m,o⟩:=g;have p:E.sz e=some i.size:=by unfold Env.sz;rw [l]
 refine⟨.cells (Tr.ofList cs) cs.length e 1,fun x=>?_,fun q=>nH q _ _ _⟩;simp only [jQ,f,p,zM j,m,o,Xf,hf,cond_true];rfl
theorem St.clone(S:St M h0 h L G){t o e:TypeId}{c k m n md:Nat}{s new vs:List Value}{b:Nat}{x:Value}(O:E.und t=some (.slice e))(C:dP E e c k s)(P:0<c)
 (u:dV E o=some false) (v:aC h k x=some (m,new)) (D:m*k=new.length) (F:n*k=vs.length) (w:0<k) (p:(vs.length+new.length)*(c+1)<=70368744177664) {ts:List TypeId}
 (H:Row h b vs md):
 ∃ q v',du E h (t::o::ts) (.slice (some ⟨b,0,none⟩) n n) x=some (q,v')/\
   ((m=0/\q=h/\v'=.slice (some ⟨b,0,none⟩) n n)\/ ∃y,v'=.slice (some ⟨y,0,some k⟩) (n+m) (n+m)/\St M h0 q ((y,.row (vs++new) 1)::L) G):=by
 obtain⟨⟨i,Q,rfl,rfl⟩,R,I⟩:=C;have r:du E h (t::o::ts) (.slice (some ⟨b,0,none⟩) n n) x=fK E h e i (some ⟨b,0,none⟩) n n m new:=by grind[du,jY]
 rw [r];by_cases z:m=0
 . subst z;have:new=[]:=(by grind);subst this;refine⟨h,_,?_,.inl ⟨rfl,rfl,rfl⟩⟩;grind[fK,zM]
 . have A:Xd (n+m) n=false:=by
    cases u:Xd (n+m) n with
    |false=>rfl|true=>exact absurd (Xe u) (by omega)
   have d:n+m<=vs.length+new.length:=(by rw [<-F,<-D];have z:=Xj n w;have T:=Xj m w;omega);have g:(Xd ((n+m)*(i.bytes+1)) 70368744177664&&Nat.blt 0 i.bytes)=true:=(by rw [zM (Xc (Xm _ d) p)];simp_all);have J:Xl s.length i.size=true:=(by simp_all);have a:fK E h e i (some ⟨b,0,none⟩) n n m new=oL h e i.size (some ⟨b,0,none⟩) n m new:=(by unfold fK;grind);rw [a];obtain⟨l,el,B,f,K⟩:=H;have N:jJ l vs.length 0 (n*i.size) new=some (l.pushAll vs.length new,vs.length+new.length):=(by grind[jJ,Xf]);refine⟨h.new (.cells (l.pushAll vs.length new) (vs.length+new.length) e 1),.slice (some ⟨h.n,0,some i.size⟩) (n+m) (n+m),?_,.inr ⟨h.n,rfl,?_⟩⟩
   . grind[oL]
   . refine S.new ⟨l.pushAll vs.length new,e,?_,?_,fun j=>?_⟩
     . rw [h.get_new _ S.ok,if_pos rfl,Xg]
     . rw [Xg];exact Tr.sized_pushAll _ f
     grind[Tr.get_pushAll]
theorem St.cloneSl{o:Type}{enc:o->List Value}{xs ys:List o}(S:St M h0 h L G){t q e:TypeId}{f k md:Nat}{C:List Value}{b:Nat}{x:Value}(r:E.und t=some (.slice e))(j:dP E e f k C)(s:0<f)
 (u:dV E q=some false) (v:ay h k enc x ys) (a: ∀x,(enc x).length=k) (w:0<k) (D:((xs.length+ys.length)*k)*(f+1)<=70368744177664) {ts:List TypeId}
 (l:Row h b (xs.flatMap enc) md):
 ∃d v',du E h (t::q::ts) (.slice (some ⟨b,0,none⟩) xs.length xs.length) x=some (d,v')/\St M h0 d L G/\Gr h d/\ay d k enc v' (xs++ys)/\(∀c,ar v' c->c=b\/h.n<=c):=by
 obtain⟨d,v',y,F⟩:=S.clone r j s u v.src (aI a ys).symm (aI a xs).symm w (by grind[aI,Xn]) (ts:=ts) l;refine⟨d,v',y,?_⟩;rcases F with⟨z,rfl,rfl⟩|⟨m,rfl,g⟩
 . have H:ys=[]:=List.length_eq_zero_iff.1 z;subst H;refine⟨S,Gr.refl S.ok,.inr ⟨b,0,none,xs.length,by simp,by simp,?_⟩,fun c n=>.inl (Eq.symm n)⟩;rw [List.append_nil,l.load (by rw [aI a];omega),Xk,<-aI a xs,Xi]
 . have I:St M h0 d L G:=⟨g.fr,fun p J=>g.own p (List.mem_cons_of_mem _ J),g.gown,(List.nodup_cons.1 g.apart).2⟩;have i:Row d m (xs.flatMap enc++ys.flatMap enc) 1:=g.row m0;have T:=(St.init (M:=NoM) S.ok).clone r j s u v.src (aI a ys).symm (aI a xs).symm w (by grind[aI,Xn]) (ts:=ts) l;obtain⟨K,N,A,O⟩:=T;rw [y]at A;cases A;rcases O with⟨z,_,j⟩|⟨Q,P,B⟩
   . grind
   . cases P;refine⟨I,B.gr,.inr ⟨m,0,some k,xs.length+ys.length,by grind,by grind,?_⟩,fun c n=>?_⟩
     . rw [i.load (by grind[Xg,aI,Xn]),Xk,<-List.flatMap_append,<-aI a (xs++ys),Xi]
     . right;have:m=c:=n;subst this;rcases(B.own _ m0).1 with h|h
       . exact h
       . exact h.elim
end
end Go.Ab

namespace Go.Ab
section
variable{E:Env}{t e:TypeId}{h:Hp}{x y:Operand}
noncomputable def lenR(E:Env)(h:Hp)(t:TypeId)(x:Value):Option (dw×Hp):=lenK (match x with
 | .map (some r)=>match h.get r with
   |some (.map a _)=>match E.und t with
    |some (.map _ _)=>some (.val (.int .i64 (.ofNat a.length)),h)|_=>none
   |_=>none
 |_=>none) h (px E t x)
theorem o_lenR{ρ:Operand->Value}{x:Operand}:aop E ρ h (.call ⟨.builtin .len,#[x],#[t]⟩)=lenR E h t (ρ x):=o_lenK
noncomputable def nS(d:Option TypeDesc)(h:Hp)(x:Value):Option (dw×Hp):=match d with
 | some .string=>match x with
   | .string s=>some (.val (.int .i64 (.ofNat s.size)),h)|_=>none
 |some (.array n _)=>some (.val (.int .i64 (.ofNat n)),h)| some (.slice _)=>match x with
   | .slice _ n _=>some (.val (.int .i64 (.ofNat n)),h)|_=>none
 | some (.map _ _)=>match x with
   | .map none=>some (.val (.int .i64 0),h)| .map (some r)=>match h.get r with
     |some (.map a _)=>some (.val (.int .i64 (.ofNat a.length)),h)|_=>none
   |_=>none
 |_=>none
theorem len_q{x:Value}:lenR E h t x=nS (E.und t) h x:=by unfold lenR px;grind[nS,lenK]
theorem Dq{a:Option Addr}{n c:Nat}:nS (some (.slice e)) h (.slice a n c)=some (.val (.int .i64 n),h):=rfl
theorem lenq_str{s:ByteArray}:nS (some .string) h (.string s)=some (.val (.int .i64 s.size),h):=rfl
theorem lenq_arr{n:Nat}{v:Value}:nS (some (.array n e)) h v=some (.val (.int .i64 n),h):=rfl
theorem Cl{k:TypeId}:nS (some (.map k e)) h (.map none)=some (.val (.int .i64 0),h):=rfl
theorem lenq_map{k:TypeId}{r:Nat}{a:List (Value×Value×Nat)}{c:Nat}(b:h.get r=some (.map a c)):nS (some (.map k e)) h (.map (some r))=some (.val (.int .i64 a.length),h):=by simp [nS,b]
theorem ay.lenq{a:Type}{k:Nat}{enc:a->List Value}{v:Value}{xs:List a}{h b:Hp}(s:ay b k enc v xs):nS (some (.slice e)) h v=some (.val (.int .i64 xs.length),h):=by rcases s with⟨rfl,rfl⟩|⟨_,_,_,_,rfl,_⟩<;>rfl
theorem iB.lenq{v:Value}{k n:Nat}{vs:List Value}{h d:Hp}(g:iB d (v,k,vs))(f:0<k)(i:n*k=vs.length):nS (some (.slice e)) h v=some (.val (.int .i64 n),h):=by
 rcases g with⟨a,c⟩|⟨b,m,a,c,j⟩
 . simp only []at a c;subst a c;have:n=0:=by
    cases n with
    |zero=>rfl|succ n=>grind
   subst this;rfl
 . simp only []at a c;subst a;have:m=n:=Xb f (c.trans i.symm);subst this;rfl
def iW(k:Option Nat)(v i:Value):Option Value:=match k with
 |none=>none| some k=>match v with
   | .slice (some a) n _=>match iX i n with
     |none=>none|some j=>some (.pointer (some (gQ a (j*k))))
   |_=>none
def idxA(n:Nat)(k:Option Nat)(v i:Value):Option Value:=match k with
 |none=>none| some k=>match v with
   | .pointer (some a)=>match iX i n with
     |none=>none|some j=>some (.pointer (some (gQ a (j*k))))
   |_=>none
def idxQ(E:Env)(d:Option TypeDesc)(v i:Value):Option Value:=match d with
 |some (.slice e)=>iW (E.sz e) v i|some (.array n e)=>idxA n (E.sz e) v i|_=>none
theorem idx_q{v i:Value}:eP E t v i=idxQ E (E.und t) v i:=by
 unfold eP idxQ;cases a:E.und t with
 |none=>rfl| some d=>
   cases d<;>first
    |rfl
    |(simp only [iW];cases b:E.sz _<;>(split<;>first|rfl|(split<;>simp_all)))
    |(simp only [idxA];grind)
theorem Ds{v i:Value}:idxQ E (some (.slice e)) v i=iW (E.sz e) v i:=rfl
theorem Dc{n:Nat}{v i:Value}:idxQ E (some (.array n e)) v i=idxA n (E.sz e) v i:=rfl
def putI(a:Addr)(k:Nat):Option Nat->Option Value
 |none=>none|some j=>some (.pointer (some ⟨a.block,a.off+j*k,none⟩))
theorem mJ{k n c:Nat}{a:Addr}{i:Value}:iW (some k) (.slice (some a) n c) i=putI a k (iX i n):=by rfl
theorem idxa_ptr{k n:Nat}{a:Addr}{i:Value}:idxA n (some k) (.pointer (some a)) i=putI a k (iX i n):=by rfl
theorem tN{a:Addr}{k j:Nat}:putI a k (some j)=some (.pointer (some ⟨a.block,a.off+j*k,none⟩)):=rfl
theorem ay.ix{a:Type}{k:Nat}{enc:a->List Value}{v:Value}{xs:List a}{kd:IntKind}(s:ay h k enc v xs)(f: ∀x,(enc x).length=k){i:Nat}(d:i<xs.length):
 ∃b o,iW (some k) v (.int kd i)=some (.pointer (some ⟨b,o,none⟩))/\h.load b o k=some (enc xs[i]):=by
 obtain⟨b,o,j,c,rfl,g⟩:=s.idx f d;refine⟨b,o+i*k,?_,g⟩;rw [mJ,eU d];rfl
noncomputable def loadQ(g:Option Bool)(n:Option Nat)(h:Hp)(b o:Nat):Option Value:=match g with
 | some true=>match n with
   |some n=>agg1 (h.load b o n)|none=>none
 |some false=>one1 (h.load b o 1)|none=>none
theorem load_q{b o:Nat}{s:Option Nat}:eK E h t (.pointer (some ⟨b,o,s⟩))=loadQ (E.agg t) (E.sz t) h b o:=by grind[eK,loadQ,CW,loadV_agg]
theorem loadq_f{b o:Nat}{n:Option Nat}:loadQ (some false) n h b o=one1 (h.load b o 1):=rfl
theorem loadq_t{b o n:Nat}:loadQ (some true) (some n) h b o=agg1 (h.load b o n):=rfl
def isSl(E:Env)(t:TypeId):Bool:=match E.und t with
 |some (.slice _)=>true|_=>false
theorem sl_und(b:isSl E t=true): ∃a,E.und t=some (.slice a):=by grind[isSl]
theorem e_slice{a:Addr}{n c:Nat}(b:isSl E t=true):aZ E .eql t x y (.slice (some a) n c) (.slice none 0 0)=some (.bool false):=by grind[sl_und,aZ,gH,ef]
theorem e_snil(a:isSl E t=true):aZ E .eql t x y (.slice none 0 0) (.slice none 0 0)=some (.bool true):=by grind[sl_und,aZ,gH,ef]

def Fl(v:Value):Prop:=ae v=[v]/\iQ v=true/\ ∀x,v≠ .chan x
theorem ca{k:IntKind}{n:Int}:Fl (.int k n):=⟨rfl,rfl,nofun⟩
theorem qh{b:Bool}:Fl (.bool b):=⟨rfl,rfl,nofun⟩
theorem fl_str{b:ByteArray}:Fl (.string b):=⟨rfl,rfl,nofun⟩
theorem cS{a:Option Addr}:Fl (.pointer a):=⟨rfl,rfl,nofun⟩
theorem ce{a:Option Addr}{n c:Nat}:Fl (.slice a n c):=⟨rfl,rfl,nofun⟩
theorem fl_map{a:Option Nat}:Fl (.map a):=⟨rfl,rfl,nofun⟩
theorem iq{f:Fn}{a b:Array Value}:Fl (.func f a b):=⟨rfl,rfl,nofun⟩
theorem fl_nilf:Fl .nilFunc:=⟨rfl,rfl,nofun⟩
theorem fl_nili:Fl .nilIface:=⟨rfl,rfl,nofun⟩
theorem fl_iface{t:TypeId}{v:Value}:Fl (.iface t v):=⟨rfl,rfl,nofun⟩
theorem ay.fl{a:Type}{k:Nat}{enc:a->List Value}{v:Value}{xs:List a}(s:ay h k enc v xs):Fl v:=by rcases s with⟨rfl,_⟩|⟨_,_,_,_,rfl,_⟩<;>exact ce
theorem iB.fl{p:GL}(g:iB h p):Fl p.1:=by rcases g with⟨e,_⟩|⟨_,_,e,_⟩<;>rw [e]<;>exact ce
def placesOf(E:Env)(t:TypeId):Option (List (Nat×Nat)):=match E.und t with
 |some (.struct a)=>m8 E a.toList|_=>none
def aggO:Option (List Value)->Option Value
 |some l=>some (.agg ⟨l⟩)|none=>none
theorem aggO_some{l:List Value}:aggO (some l)=some (.agg ⟨l⟩):=rfl
def mK(ps:List (Nat×Nat))(l:List Value)(a:List (Nat×Value)):Option (List Value):=kf (fun i=>ps[i]?) l a
theorem build_st{c:List Value}{ps:List (Nat×Nat)}{a:List (Nat×Value)}(d:E.zero t=some c)(b:placesOf E t=some ps):lC E t a=aggO (mK ps c a):=by
 unfold placesOf at b;unfold lC mK;rw [d]
 split at b
 . rename_i g f;simp only [f,b];cases kf (fun i=>ps[i]?) c a<;>rfl
 . cases b
theorem fill_nil{ps:List (Nat×Nat)}{l:List Value}:mK ps l []=some l:=rfl
def buildQ(z:Option (List Value))(p:Option (List (Nat×Nat)))(a:List (Nat×Value)):Option Value:=match z with
 |none=>none| some z=>match p with
   |none=>none|some p=>aggO (mK p z a)
theorem build_q{a:List (Nat×Value)}(b:(placesOf E t).isSome=true):lC E t a=buildQ (E.zero t) (placesOf E t) a:=by grind[placesOf,lC,buildQ,build_st]
theorem Cf{b:List Value}{ps:List (Nat×Nat)}{a:List (Nat×Value)}:buildQ (some b) (some ps) a=aggO (mK ps b a):=rfl
def fillS(ps:List (Nat×Nat))(l:List Value)(v:Value)(r:List (Nat×Value)):Option (Nat×Nat)->Option (List Value)
 |none=>none|some (o,n)=>match v with
  | .chan _=>none|v=>bif Xl (ae v).length n&&Xd (o+n) l.length then mK ps (bD l o (ae v)) r else none
theorem fill_q{ps:List (Nat×Nat)}{l:List Value}{i:Nat}{v:Value}{r:List (Nat×Value)}:mK ps l ((i,v)::r)=fillS ps l v r (ps[i]?):=by rfl
theorem fills_one{ps:List (Nat×Nat)}{l:List Value}{o:Nat}{v:Value}{r:List (Nat×Value)}(a:Fl v)(b:o<l.length):fillS ps l v r (some (o,1))=mK ps (l.set o v) r:=by
 have e:(bif Xl (ae v).length 1&&Xd (o+1) l.length then mK ps (bD l o (ae v)) r else none)=mK ps (l.set o v) r:=by rw [a.1];simp only [List.length_cons,List.length_nil,Nat.zero_add,Xf,zM (show o+1<=l.length from b),Bool.and_self,cond_true,bD]
 cases v<;>first|exact e|exact absurd rfl (a.2.2 _)
theorem fills_agg{ps:List (Nat×Nat)}{l c:List Value}{o n:Nat}{r:List (Nat×Value)}(a:c.length=n)(b:o+n<=l.length):fillS ps l (.agg ⟨c⟩) r (some (o,n))=mK ps (bD l o c) r:=by simp only [fillS,ae,a,Xf,zM b,Bool.and_self,cond_true]
theorem setL_nil{l:List Value}{o:Nat}:bD l o []=l:=rfl
theorem setL_cons{l vs:List Value}{o:Nat}{v:Value}:bD l o (v::vs)=bD (l.set o v) (o+1) vs:=rfl
theorem di{v:Value}(a:Fl v):pM h (fun h=>boxR h t v) ptrTo (.row [v] 1):=by have:=bR (h:=h) (t:=t) a.2.2;rw [a.1]at this;exact this
theorem aq{M:Nat->Prop}{g:Hp}{L:List (Nat×Ob)}{G:List GL}(S:St M g h L G){i b off md:Nat}{s:Option Nat}{l:List Value}{v:Value}(k:L[i]? =some (b,.row l md))(m:E.sz t=some 1)(c:Fl v)
 (o:off<l.length) (d:md≠0): ∃f,jm E h t (.pointer (some ⟨b,off,s⟩)) v=some f/\St M g f (L.set i (b,.row (l.set off v) md)) G/\Mo (· =b) h f:=by
 have a:ae v=[v]:=c.1;have:=S.store (v:=v) (t:=t) (s:=s) (off:=off) (n:=1) k m c.2.2 (by rw [a];rfl) (by rw [a];simp [c.2.1]) (by omega) d;rw [a]at this;have e:lay l off [v]=l.set off v:=by refine Xa fun j=>?_;rw [jO (by simp;omega),List.getElem?_set];grind
 grind
end
def ifaceR(E:Env)(t:TypeId)(v:Value):Option Value:=match E.und t with
 |none=>none|some (.interface _)=>none|some _=>some (.iface t v)
theorem o_ifaceR{E:Env}{ρ:Operand->Value}{h:Hp}{t:TypeId}{x:Operand}:aop E ρ h (.makeInterface t x)=cG h (ifaceR E t (ρ x)):=rfl
theorem ifaceR_is{E:Env}{t:TypeId}{v:Value}(a:kY E t=true):ifaceR E t v=some (.iface t v):=mk_iface a
def nilcR:Value->Option Value
 | .pointer (some a)=>some (.pointer (some a))| .func (.func f) a b=>some (.func (.func f) a b)|_=>none
theorem o_nilcR{E:Env}{ρ:Operand->Value}{h:Hp}{x:Operand}:aop E ρ h (.nilCheck x)=cG h (nilcR (ρ x)):=rfl
theorem nilcR_ptr{a:Addr}:nilcR (.pointer (some a))=some (.pointer (some a)):=rfl
def pickR(c a b:Value):Option Value:=match c with
 | .bool t=>some (bif t then a else b)
 |_=>none
theorem o_pickR{E:Env}{ρ:Operand->Value}{h:Hp}{c a b:Operand}:aop E ρ h (.pick c a b)=cG h (pickR (ρ c) (ρ a) (ρ b)):=rfl
theorem pick_t{a b:Value}:pickR (.bool true) a b=some a:=rfl
theorem pick_f{a b:Value}:pickR (.bool false) a b=some b:=rfl
def extrR(i:Nat):Value->Option Value
 | .tuple a=>a.toList[i]?|_=>none
theorem o_extrR{E:Env}{ρ:Operand->Value}{h:Hp}{x:Operand}{i:Nat}:aop E ρ h (.extract x i)=cG h (extrR i (ρ x)):=by rfl
theorem extr_0{a:Value}{l:List Value}:extrR 0 (.tuple ⟨a::l⟩)=some a:=rfl
theorem extr_1{a b:Value}{l:List Value}:extrR 1 (.tuple ⟨a::b::l⟩)=some b:=rfl
theorem extr_2{a b c:Value}{l:List Value}:extrR 2 (.tuple ⟨a::b::c::l⟩)=some c:=rfl
noncomputable def delR(E:Env)(h:Hp)(t:TypeId)(m k:Value):Option (dw×Hp):=match mR E h t m k with
 |none=>none|some a=>some (.val (.tuple #[]),a)
theorem o_delR{E:Env}{ρ:Operand->Value}{h:Hp}{m k:Operand}{t:TypeId}{ts:List TypeId}:aop E ρ h (.call ⟨.builtin .delete,#[m,k],⟨t::ts⟩⟩)=delR E h t (ρ m) (ρ k):=rfl
theorem an{a b:Nat}:((a:Int)<(b:Int))=(a<b):=by simp
def BS:=zB (@run_seq)<|zB (@Dk)<|zB (@r_ops)<|zB (@g_true)<|zB (@g_false)<|zB (@Ck)<|zB (@run_ret)<|zB (@run_nil)<|zB (@run_skip)<|zB (@run_block)<|zB (@run_scope)<|zB (@run_blk)<|zB (@run_exit)<|zB (@AH)<|zB (@zL)<|zB (@AM)<|zB (@CG)<|zB (@Db)<|zB (@r_cond)<|zB (@c_true)<|zB (@c_false)<|zB (@r_opsD)<|zB (@dn_loud)<|zB (@dn_quiet)<|zB (@dn_val)<|zB (@dn_skip)<|zB (@d_skip)<|zB (@pP)<|zB (@aV)<|zB (@bj)<|zB (@AE)<|zB (@guard_no)<|zB (@Ct)<|zB (@gj_some)<|zB (@gv_true)<|zB (@gv_false)<|zB (@gv_tuple)<|zB (@o_move)<|zB (@o_assign)<|zB (@o_pickR)<|zB (@pick_t)<|zB (@pick_f)<|zB (@o_load)<|zB (@o_store)<|zB (@o_binOp)<|zB (@o_unOp)<|zB (@o_nilcR)<|zB (@nilcR_ptr)<|zB (@o_ifaceR)<|zB (@CU)<|zB (@o_slice)<|zB (@Cq)<|zB (@o_field)<|zB (@B8)<|zB (@o_index)<|zB (@o_extrR)<|zB (@extr_0)<|zB (@extr_1)<|zB (@extr_2)<|zB (@o_build)<|zB (@BG)<|zB (@BR)<|zB (@C6)<|zB (@Ar)<|zB (@o_convert)<|zB (@o_lookup)<|zB (@Ca)<|zB (@CC)<|zB (@BE)<|zB (@o_allocR)<|zB (@o_boxR)<|zB (@o_callv)<|zB (@o_max)<|zB (@o_min)<|zB (@o_append)<|zB (@o_copy)<|zB (@o_lenR)<|zB (@o_delR)<|zB (@o_recover)<|zB (@o_deferR)<|zB (@o_panicR)<|zB (@Dp)<|zB (@Dn)<|zB (@Cw)<|zB (@Dg)<|zB (@zV)<|zB (@yr)<|zB (@wR)<|zB (@xt)<|zB (@xd)<|zB (@step_defer)<|zB (@target_fn)<|zB (@Bp)<|zB (@b_add)<|zB (@b_sub)<|zB (@b_mul)<|zB (@b_eql)<|zB (@b_neq)<|zB (@b_lss)<|zB (@b_leq)<|zB (@b_gtr)<|zB (@b_geq)<|zB (@b_eqlB)<|zB (@b_neqB)<|zB (@same_bool)<|zB (@u_not)<|zB (@mm_max)<|zB (@mm_min)<|zB (@al)<|zB (@one1_some)<|zB (@agg1_some)<|zB (@cw)<|zB (@ll_put0)<|zB (@bZ)<|zB (@ll_func)<|zB (@c_int)<|zB (@c_bool)<|zB (@c_string)<|zB (@c_nilp)<|zB (@c_nils)<|zB (@c_nilm)<|zB (@c_nilf)<|zB (@c_nili)<|zB (@ll_regs)<|zB (@mj)<|zB (@aS)<|zB (@cq)<|zB (@cV)<|zB (@zj)<|zB (@Ba)<|zB (@rH)<|zB (@gR)<|zB (@hush_s)<|zB (@idxP_in)<|zB (@eU)<|zB (@idx_q)<|zB (@Ds)<|zB (@Dc)<|zB (@mJ)<|zB (@idxa_ptr)<|zB (@tN)<|zB (@len_q)<|zB (@Dq)<|zB (@lenq_str)<|zB (@lenq_arr)<|zB (@Cl)<|zB (@load_q)<|zB (@loadq_f)<|zB (@loadq_t)<|zB (@n_iface)<|zB (@n_nil)<|zB (@e_iface)<|zB (@e_nil)<|zB (@n_ptr)<|zB (@e_ptr)<|zB (@n_pnil)<|zB (@e_pnil)<|zB (@e_slice)<|zB (@e_snil)<|zB (@assert_is)<|zB (@ifaceR_is)<|zB (@build_q)<|zB (@Cf)<|zB (@aggO_some)<|zB (@fill_nil)<|zB (@fill_q)<|zB (@fills_one)<|zB (@fills_agg)<|zB (@setL_nil)<|zB (@setL_cons)<|zB (@ca)<|zB (@qh)<|zB (@fl_str)<|zB (@cS)<|zB (@ce)<|zB (@fl_map)<|zB (@iq)<|zB (@fl_nilf)<|zB (@fl_nili)<|(@fl_iface)
end Go.Ab

namespace Go.Ab
structure ItS(h0:Hp)(D:Nat->Prop)(h:Hp)(F:List Nat):Prop where
 ok:h.t.Sized h.n
 n:h0.n<=h.n
 data: ∀b,b<h0.n->D b->h.get b=h0.get b
 apart: ∀b∈F,¬(b<h0.n/\D b)
 lt: ∀b∈F,b<h.n
section
variable{h0 h h':Hp}{D:Nat->Prop}{F F':List Nat}
theorem ItS.gr(s:ItS h0 D h F)(g:Gr h h'):ItS h0 D h' F:=
 ⟨g.ok,Xc s.n g.n,fun b a c=>(g.get b (Xh a s.n)).trans (s.data b a c),s.apart,fun b a=>Xh (s.lt b a) g.n⟩
theorem ItS.mo(s:ItS h0 D h F)(m:Mo (· ∈F) h h')(hf: ∀b∈F',b∈F\/h.n<=b)(d: ∀b∈F',b<h'.n):ItS h0 D h' F':=
 ⟨m.ok,Xc s.n m.n,fun b a c=>(m.get b (Xh a s.n) (fun hf=>s.apart b hf ⟨a,c⟩)).trans (s.data b a c),
  fun b a c=>(hf b a).elim (fun a=>s.apart b a c) (fun a=>by have:=s.n;omega),d⟩
theorem ItS.load(s:ItS h0 D h F){b o n:Nat}{l:List Value}(a:h0.t.Sized h0.n)(e:h0.load b o n=some l)(c:D b):h.load b o n=some l:=by have:=s.data b (bJ a e) c;grind[Hp.load]
theorem ItS.sl{d:Type}{k:Nat}{enc:d->List Value}{v:Value}{xs:List d}(s:ItS h0 D h F)(a:h0.t.Sized h0.n)(e:ay h0 k enc v xs)(g: ∀b,ar v b->D b):ay h k enc v xs:=by
 rcases e with e|⟨b,o,i,c,f,j,l⟩
 . exact .inl e
 . exact .inr ⟨b,o,i,c,f,j,s.load a l (g b (by rw [f];rfl))⟩
end
structure Yld(E:Env)(lb:Nat)(J:Nat->Hp->List Nat->Prop)(Z:Out->Hp->Prop)(xs:List (List Value)):Prop where
 lt: ∀i h F,J i h F->h.t.Sized h.n/\ ∀b∈F,b<h.n
 gr: ∀i h F h',J i h F->Gr h h'->J i h' F
 zgr: ∀h h',Z (.ret (.bool false)) h->Gr h h'->Z (.ret (.bool false)) h'
 round: ∀i x h F,xs[i]? =some x->J i h F->kL E lb x h fun o h'=>(o=.ret (.bool true)/\ ∃F',J (i+1) h' F'/\Mo (· ∈F) h h'/\ ∀b∈F',b∈F\/h.n<=b)\/(o=.ret (.bool false)/\Z o h'/\h'.t.Sized h'.n)\/((∃v,o=.pan v)/\Z o h')
def YQ(J:Nat->Hp->List Nat->Prop)(Z:Out->Hp->Prop)(n:Nat)(o:Out)(b:Option (Value×Bool))(a:Hp):Prop:=
 b=none/\((∃u c,o=.ret u/\J n a c)\/(∃u,o=.ret u/\Z (.ret (.bool false)) a)\/(∃v,o=.pan v/\Z o a))
theorem uF{E:Env}{g:FuncId}{a post:List Value}{d:Hp}{D:Nat->Prop}{xs:List (List Value)}
 (H: ∀b J Z,Yld E b J Z xs-> ∀h F,ItS d D h F->J 0 h F->dU E g (a++[.func (.yield b) #[] #[]]++post) none h (YQ J Z xs.length)):Iter E g a post d D xs:=by
 intro b J Z h F f i j hlt c k l m e;exact H b J Z ⟨hlt,c,k,m⟩ h F ⟨f,i,j,l,(hlt 0 h F e).2⟩ e
theorem AQ{E:Env}{g:FuncId}{a post:List Value}{c:Hp}{D:Nat->Prop}{xs:List (List Value)}(H:Iter E g a post c D xs){d:Nat}{J:Nat->Hp->List Nat->Prop}{Z:Out->Hp->Prop}(Y:Yld E d J Z xs)
 {h:Hp} {F:List Nat} (e:Mo (fun b=> ¬D b) c h) (i: ∀b∈F,b<c.n-> ¬D b) (j:J 0 h F):dU E g (a++[.func (.yield d) #[] #[]]++post) none h (YQ J Z xs.length):=
 H d J Z h F e.ok e.n (fun b f k=>e.get b f (fun l=>l k)) Y.lt Y.gr Y.zgr (fun b f h=>i b f h.1 h.2) Y.round j
theorem gz{E:Env}{cx:Cx}{o:Oper}{l:Loc}{K:Ex->Loc->Hp->Prop}{e h:Hp}{D:Nat->Prop}{f i:Nat}{J:Nat->Hp->List Nat->Prop}{Z:Out->Hp->Prop}{xs:List (List Value)}{x:List Value}{F:List Nat}
 (Y:Yld E f J Z xs) (s:ItS e D h F) (g:J i h F) (j:xs[i]? =some x)
 (k: ∀d F',J (i+1) d F'->ItS e D d F'->Mo (· ∈F) h d->(∀b∈F',b∈F\/h.n<=b)->K .normal (l.put o.dst (.bool true)) d)
 (k2: ∀d,Z (.ret (.bool false)) d->d.t.Sized d.n->K .normal (l.put o.dst (.bool false)) d) (m: ∀v d,Z (.pan v) d->K (.pan v) l d):fD E cx o l K (some (.yield f x,h)):=by
 refine sq (Y.round i x h F j g) ?_;rintro q d (⟨rfl,F',a,b,c⟩|⟨rfl,a,b⟩|⟨⟨v,rfl⟩,a⟩)
 . exact k d F' a (s.mo b c (Y.lt _ _ _ a).2) b c
 . exact k2 d a b
 grind

section
variable{M:Nat->Prop}{h0 h h':Hp}{L L':List (Nat×Ob)}{G G':List GL}
theorem St.base(S:St M h0 h L G):St (· ∈keys L G) h h L G:=
 ⟨Mo.refl S.ok,fun p a=>⟨.inr (mN a),(S.own p a).2⟩,fun p a=>⟨(S.gown p a).1,fun b c=>.inr (kX a c)⟩,S.apart⟩
theorem St.key_own(S:St M h0 h L G){b:Nat}(a:b∈keys L G):h0.n<=b\/M b:=by
 unfold keys at a;rcases List.mem_append.1 a with a|a
 . obtain⟨p,c,rfl⟩:=List.mem_map.1 a;exact(S.own p c).1
 . obtain⟨p,c,d⟩:=List.mem_filterMap.1 a;exact(S.gown p c).2 b d
theorem St.rebase(S:St M h0 h L G)(T:St (· ∈keys L G) h h' L' G'):St M h0 h' L' G':=by have d: ∀b,h.n<=b\/b∈keys L G->h0.n<=b\/M b:=fun b a=>a.elim (fun a=>.inl (Xc S.fr.n a)) S.key_own;exact⟨S.fr.trans T.fr fun b a=>(S.key_own a).symm,fun p c=>⟨d _ (T.own p c).1,(T.own p c).2⟩,fun p c=>⟨(T.gown p c).1,fun b a=>d b ((T.gown p c).2 b a)⟩,T.apart⟩
theorem St.key_new(T:St (· ∈keys L G) h h' L' G'): ∀b∈keys L' G',b∈keys L G\/h.n<=b:=fun _ a=>(T.key_own a).symm
theorem St.sub(S:St M h0 h L G)(b:L'.Sublist L)(c:G'.Sublist G):St M h0 h L' G':=
 ⟨S.fr,fun p a=>S.own p (b.subset a),fun p a=>S.gown p (c.subset a),S.apart.sublist ((b.map _).append (c.filterMap _))⟩
theorem St.drop1{x:Nat×Ob}(S:St M h0 h (x::L) G):St M h0 h L G:=S.sub (List.sublist_cons_self _ _) (List.Sublist.refl _)
end
theorem eQ{E:Env}{f:FuncId}{args:List Value}{e:Option (Value×Bool)}{h:Hp}{P Q:Out->Option (Value×Bool)->Hp->Prop}(g:dU E f args e h P)(i: ∀o c d,P o c d->Q o c d):dU E f args e h Q:=by obtain⟨o,c,d,a,b⟩:=g;exact⟨o,c,d,a,i _ _ _ b⟩
theorem iZ{E:Env}{f:FuncId}{args:List Value}{h:Hp}{P Q:Value->Hp->Prop}(b:Ret E f args h P)(c: ∀v a,P v a->Q v a):Ret E f args h Q:=Ret.mono c b
theorem mm{E:Env}{cx:Cx}{Q:fq}{k:List Fr}{l:Loc}{a:Nat}{J:Nat->Hp->List Nat->Prop}{n:Nat}{o:Out}{c:Option (Value×Bool)}{h:Hp}(y:YQ J (fun _ _=>False) n o c h)
 (d: ∀F,J n h F-> ∃x,h.get a=some (.loop x)/\x.st≠1/\RangeGo E cx Q k l (h.put a .dead) x.pending):RangeQ E cx Q k l a o c h:=by
 obtain⟨_,⟨u,F,rfl,e⟩|⟨u,_,b⟩|⟨v,_,b⟩⟩:=y
 . exact d F e
 . exact b.elim
 . exact b.elim
theorem St.dead{M:Nat->Prop}{d h:Hp}{L:List (Nat×Ob)}{G:List GL}{b:Nat}{o:Ob}(S:St M d h ((b,o)::L) G):St M d (h.put b .dead) L G:=by
 have f:=S.own _ m0;refine⟨S.fr.put f.1 _,fun p a=>⟨(S.own p (.tail _ a)).1,(S.own p (.tail _ a)).2.of_get (dc fun e=>?_)⟩,fun p a=>⟨(S.gown p a).1.of_get fun c g=>dc fun e=>?_,(S.gown p a).2⟩,(List.nodup_cons.1 S.apart).2⟩
 . exact(List.nodup_cons.1 S.apart).1 (by show b∈keys L G;rw [e];exact mN a)
 . exact(List.nodup_cons.1 S.apart).1 (by show b∈keys L G;rw [e];exact kX a g)
theorem St.get{M:Nat->Prop}{a h:Hp}{L:List (Nat×Ob)}{G:List GL}{b:Nat}{x:gC}(S:St M a h L G)(c:(b,Ob.loop x)∈L):h.get b=some (.loop x):=(S.own _ c).2
theorem St.getD{M:Nat->Prop}{a h:Hp}{L:List (Nat×Ob)}{G:List GL}{b:Nat}(S:St M a h L G)(c:(b,Ob.dfr)∈L):h.get b=some .dfr:=(S.own _ c).2

theorem rb{E:Env}{cx:Cx}{Q:fq}{k:List Fr}{n:Nat}{e:Option (Value×Bool)}{b:Code}{g:Type}(I:g->(Nat->Value)->List Deferred->Hp->Prop)(m:g->Nat)
 (q: ∀a,(∀i c l o,m i<m a->I i c l o->Run E (lim E) cx Q (.code (.loop b)::k) .normal (LL n c l e) o)-> ∀ρ d h,I a ρ d h->Run E (lim E) cx Q (.code b:: .code (.loop b)::k) .normal (LL n ρ d e) h):
 ∀a ρ d h,I a ρ d h->Run E (lim E) cx Q (.code (.loop b)::k) .normal (LL n ρ d e) h:=by
 have f: ∀j a,m a<j-> ∀ρ d h,I a ρ d h->Run E (lim E) cx Q (.code (.loop b)::k) .normal (LL n ρ d e) h:=by
  intro j
  induction j with
  |zero=>omega| succ j r=>grind[dD]
 intro a ρ d h p;exact f (m a+1) a (by omega) ρ d h p
def dq(a:List Nat):List (Nat×Ob):=a.map fun b=>(b,Ob.dfr)
theorem gu{E:Env}{M:Nat->Prop}{d:Hp}{L:List (Nat×Ob)}{G:List GL}{m:Option Value}{P:Option Value->Hp->Prop}: ∀(a:List Nat) (h:Hp),St M d h (dq a++L) G->(∀e,St M d e L G->P m e)->UnQ E (a.map qS) m h P
 | [],h,S,c=>cP (c h S)|b::a,h,S,c=>un_dfr (S.getD m0) (gu a _ (S.dead) c)

theorem uz{E:Env}{n:Nat}{ρ:Nat->Value}{h:Hp}{t:Tmp}{ty:TypeId}{v:Value}(a:t<n)(b:eK E h ty (ρ t)=some v):bH E (tab n ρ) h [.cell t ty]=some [v]:=by simp only [bH,mj,if_pos a,b]
theorem CE{E:Env}{h:Hp}{t:TypeId}{b o:Nat}{s:Option Nat}{v:Value}(a:E.agg t=some false)(c:h.load b o 1=some [v]):eK E h t (.pointer (some ⟨b,o,s⟩))=some v:=by rw [load_q,a,loadq_f,c];rfl
theorem gD{E:Env}{h:Hp}{t:TypeId}{b o n:Nat}{s:Option Nat}{l:List Value}(a:E.agg t=some true)(c:E.sz t=some n)(d:h.load b o n=some l):eK E h t (.pointer (some ⟨b,o,s⟩))=some (.agg ⟨l⟩):=by rw [load_q,a,c,loadq_t,d];rfl

theorem St.call1{M:Nat->Prop}{n h k:Hp}{L:List (Nat×Ob)}{G:List GL}(S:St M n h L G){i b:Nat}{o o':Ob}(l:L[i]? =some (b,o))(f:Mo (· =b) h k)(s:Has k b o'):St M n k (L.set i (b,o')) G:=by
 have t:=S.own _ (zO l);have g:(keys L G)[i]? =some b:=jV l;refine⟨S.fr.trans f (fun c m=>by grind),fun p a=>?_,fun p a=>⟨(S.gown p a).1.of_get fun c m=>?_,(S.gown p a).2⟩,?_⟩
 . rcases mw a with rfl|⟨j,q,a⟩
   . grind
   . have d:=S.own p (zO a);refine⟨d.1,d.2.of_get (f.get _ (d.2.lt S.ok) fun e=>q ?_)⟩;have r:(keys L G)[j]? =some b:=(by rw [jV a];rw [e]);exact qL S.apart r g
 . refine f.get c ((S.gown p a).1.lt S.ok m) fun e=>?_;subst e;have d:=S.apart;unfold keys at d;rw [List.nodup_append]at d;exact d.2.2 c (List.mem_map.2 ⟨_,zO l,rfl⟩) c (List.mem_filterMap.2 ⟨p,a,m⟩) rfl
 . have:keys (L.set i (b,o')) G=keys L G:=(by unfold keys;congr 1;rw [List.map_set];refine Xa fun j=>?_;grind);rw [this];exact S.apart
theorem St.init1{h:Hp}(a:h.t.Sized h.n){b:Nat}{o:Ob}(c:Has h b o):St (· =b) h h [(b,o)] []:=(St.init a).push (.inr rfl) c (by simp [keys])
theorem wrap8(z:Int):0<=ag .u8 z/\ag .u8 z<256:=by
 unfold ag;cases z with
 | ofNat m=>
   simp only [hf,sgn,pw];cases a:Nat.blt m 256 with
   | true=>rw [Nat.blt_eq]at a;grind| false=>grind
 | negSucc m=>simp only [hf,sgn,pw,cond_false];grind
theorem aY{a:List (Nat×Tch)}{i j:Nat}{l:List (Nat×Nat)}:cB a ((i,j)::l)=(kK (cF i a) (cF j a)&&cB a l):=rfl
theorem aE{a:Nat}{h b:Hp}(e:leaves h b a=true):kK (some (.blk a)) (some (.run h b))=true:=e
theorem aT{a:Nat}{h b:Hp}(e:leaves h b a=true):kK (some (.run h b)) (some (.blk a))=true:=e
theorem im{a b:Nat}(e:a≠b):kK (some (.blk a)) (some (.blk b))=true:=by grind[kK,Xl,absurd,Nat.eq_of_beq_eq_true]
theorem bo{i:Nat}{b:Tch}{l:List (Nat×Tch)}:cF i ((i,b)::l)=some b:=by simp [cF,Xf]
theorem aW{i k:Nat}{b:Tch}{l:List (Nat×Tch)}(h:i≠k):cF i ((k,b)::l)=cF i l:=by grind[Xl,cC,cF]
theorem St.leaves{M:Nat->Prop}{d h a:Hp}{L:List (Nat×Ob)}{G:List GL}(S:St M d h L G){b c:Nat}{o:Ob}(e:(c,o)∈L)(f:Mo (· =b) h a)(g:c≠b):leaves h a c=true:=
 gy (f.get c ((S.own _ e).2.lt S.ok) g)

theorem aR{i k:Nat}{x:Option Tch}{a:List (Nat×Tch)}(h:i≠k):cF i (ig k a x)=cF i a:=by
 cases x with
 |none=>rfl|some b=>exact aW h
theorem bz{ρ:Operand->Value}{b:Bool}{t:TypeId}{a:Operand}{h c:Hp}:cH ρ b (.load t a) h c=(match ρ a with| .pointer (some a)=>some (.blk a.block)|_=>none):=by simp only [cH,dG,jK,fe,touch,cond_false];grind
theorem bK{ρ:Operand->Value}{f:Operand}{as:Array Operand}{ts:Array TypeId}{h a:Hp}:cH ρ false (.call ⟨.value f,as,ts⟩) h a=some (.run h a):=rfl
theorem aX{ρ:Operand->Value}{b:Bool}{t:TypeId}{h a:Hp}:cH ρ b (.alloc t) h a=some (.blk h.n):=rfl

theorem St.gset {M:Nat->Prop} {A h:Hp} {L:List (Nat×Ob)} {G:List GL} (S:St M A h L G) {E:Env} {t:TypeId} {j i:Nat} {v:Value} {vs:List Value} {kd:IntKind} (r:G[j]? =some (v,1,vs)) (R:i<vs.length) (H:E.sz t=some 1):
 ∃b,iW (some 1) v (.int kd i)=some (.pointer (some ⟨b,i,none⟩))/\ ∀x,Fl x-> ∃B,jm E h t (.pointer (some ⟨b,i,none⟩)) x=some B/\St M A B L (G.set j (v,1,vs.set i x)):=by
 obtain⟨I,k⟩:=S.gown _ (zO r);rcases I with⟨_,s⟩|⟨b,n,C,s,D⟩
 . grind
 . simp only []at C s D;subst C;have T:n=vs.length:=(by omega);refine⟨b,?_,fun x u=>?_⟩
   . grind[mJ,eU,putI]
   . obtain ⟨y,J,l⟩:=D.store S.ok Nat.one_ne_zero (o:=i) (vs:=[x]) (by simp;omega) (by simp [u.2.1]);have e:lay vs i [x]=vs.set i x:=(by refine Xa fun j=>?_;rw [jO (by simp;omega),List.getElem?_set];grind);rw [e]at l;refine⟨h.put b y,?_,?_⟩
     . have:jm E h t (.pointer (some ⟨b,i,none⟩)) x=h.store b i [x]:=(by simp only [jm,H];have K:ae x=[x]:=u.1;have N:(bif Xl (ae x).length 1 then h.store b i (ae x)else none)=h.store b i [x]:=(by rw [K];rfl);revert N;cases x<;>first|exact fun h=>h|exact absurd rfl (u.2.2 _));grind
     . have m:fu (Value.slice (some ⟨b,0,some 1⟩) n n,1,vs)=some b:=rfl;have F:=k b m;have hlt:=(List.getElem?_eq_some_iff.1 r).1;have O: ∀c∈L.map Prod.fst,c≠b:=fun c w e=>(by have J:=S.apart;grind[keys,List.nodup_append,zO]);have f:keys L (G.set j (Value.slice (some ⟨b,0,some 1⟩) n n,1,vs.set i x))=keys L G:=by
        unfold keys;congr 1;have: ∀(G:List GL) (j:Nat) (p q:GL),G[j]? =some p->fu q=fu p->(G.set j q).filterMap fu=G.filterMap fu:=by
         intro G
         induction G with
         |nil=>grind| cons g G P=>
           intro j p q r U;cases j with
           |zero=>grind|succ j=>grind
        exact this G j _ _ r rfl
       refine⟨S.fr.put F y,fun p d=>⟨(S.own p d).1,(S.own p d).2.of_get (dc fun e=>O _ (List.mem_map_of_mem d) e.symm)⟩,fun p d=>?_,by rw [f];exact S.apart⟩;rcases mw d with rfl|⟨V,z,d⟩
       . exact⟨.inr ⟨b,n,rfl,by simpa using s,l⟩,fun c w=>by cases w;exact F⟩
       . refine⟨(S.gown p (zO d)).1.of_get fun c w=>dc fun e=>z ?_,(S.gown p (zO d)).2⟩;subst e;have l:=S.apart;unfold keys at l;have W:=(List.nodup_append.1 l).2.1;have Q: ∀(G:List GL) (a c:Nat) (p q:GL),(G.filterMap fu).Nodup->G[a]? =some p->G[c]? =some q-> ∀x,fu p=some x->fu q=some x->a=c:=by
          intro G
          induction G with
          |nil=>grind| cons g G P=>grind
         grind

def JP(n:Nat)(d:List Deferred)(b:Option (Value×Bool))(J:(Nat->Value)->Hp->Prop):fq:=fun e l h=>e=.normal/\ ∃a,l=LL n a d b/\J a h
theorem zX{E:Env}{cx:Cx}{Q:fq}{k:List Fr}{n:Nat}{d:List Deferred}{a:Option (Value×Bool)}{J:(Nat->Value)->Hp->Prop}{c:Code}{l:Loc}{h:Hp}
 (b:Run E (lim E) cx (JP n d a J) [.code c] .normal l h) (e: ∀ρ h,J ρ h->Run E (lim E) cx Q k .normal (LL n ρ d a) h):Run E (lim E) cx Q (.code c::k) .normal l h:=by
 obtain⟨m,o,f,g,i⟩:=b;obtain⟨rfl,ρ,rfl,j⟩:=i;exact⟨_,_,_,g,e ρ f j⟩
theorem mO{E:Env}{cx:Cx}{Q:fq}{k:List Fr}{n:Nat}{d:List Deferred}{e:Option (Value×Bool)}(J:(Nat->Value)->Hp->Prop){a b:Code}{c:Nat->Value}{h:Hp}{t:Bool}
 (g:t=true->Run E (lim E) cx (JP n d e J) [.code a] .normal (LL n c d e) h) (i:t=false->Run E (lim E) cx (JP n d e J) [.code b] .normal (LL n c d e) h)
 (f: ∀ρ h,J ρ h->Run E (lim E) cx Q k .normal (LL n ρ d e) h):CStep E cx Q a b k (LL n c d e) h (.bool t):=by
 cases t with
 |true=>exact zX (g rfl) f|false=>exact zX (i rfl) f
theorem cL{n:Nat}{d:List Deferred}{a:Option (Value×Bool)}{J:(Nat->Value)->Hp->Prop}{ρ:Nat->Value}{h:Hp}(b:J ρ h):JP n d a J .normal (LL n ρ d a) h:=⟨rfl,ρ,rfl,b⟩

theorem uB{E:Env}{R:Rec}{cx:Cx}{Q:fq}{k2:List Fr}: ∀(m:List Fr) (e:Ex) (l:Loc) (h:Hp),Run E R cx (fun e l h=>Run E R cx Q k2 e l h) m e l h->Run E R cx Q (m++k2) e l h
 | [],e,l,h,d=>d| f ::m,e,l,h,d=>by
   have g:=uB (E:=E) (R:=R) (cx:=cx) (Q:=Q) (k2:=k2) m;cases f with
   | code c=>
     cases e with
     |normal=>obtain⟨n,j,k,a,b⟩:=d;exact⟨n,j,k,a,g _ _ _ b⟩
     |exit i=>exact g _ _ _ d|ret=>exact g _ _ _ d|pan v=>exact g _ _ _ d
   | blk id=>
     cases e with
     |normal=>exact g _ _ _ d| exit i=>simp only [Run,List.cons_append]at d⊢;grind|ret=>exact g _ _ _ d|pan v=>exact g _ _ _ d
   | ops a p=>
     cases e with
     |normal=>obtain⟨n,j,k,a,b⟩:=d;exact⟨n,j,k,a,g _ _ _ b⟩
     |exit i=>exact g _ _ _ d|ret=>exact g _ _ _ d|pan v=>exact g _ _ _ d
   | kill t=>
     cases e with
     |normal=>obtain⟨b,r,c,x,y,z⟩:=d;exact⟨b,r,c,x,y,g _ _ _ z⟩
     |exit i=>exact g _ _ _ d|ret=>exact g _ _ _ d|pan v=>exact g _ _ _ d
   | opsD a q s p i u=>
     cases e with
     |normal=>obtain⟨j,k,o,a,b,c⟩:=d;exact⟨j,k,o,a,b,g _ _ _ c⟩
     |exit i=>exact g _ _ _ d|ret=>exact g _ _ _ d|pan v=>exact g _ _ _ d
theorem run_post{E:Env}{R:Rec}{cx:Cx}{Q n:fq}(hq: ∀e l h,Q e l h->n e l h): ∀(k:List Fr) (e:Ex) (l:Loc) (h:Hp),Run E R cx Q k e l h->Run E R cx n k e l h
 | k, e, l,h,d=>by
   have:=uB (E:=E) (R:=R) (cx:=cx) (Q:=n) (k2:=[]) k e l h;rw [List.append_nil]at this;refine this ?_;revert d
   induction k generalizing e l h with
   |nil=>intro d;exact hq _ _ _ d| cons f k g=>
     intro d;have g:=fun e l h d=>g e l h (by have:=uB (E:=E) (R:=R) (cx:=cx) (Q:=n) (k2:=[]) k e l h;grind) d;cases f with
     | code c=>
       cases e with
       |normal=>obtain⟨o,j,m,a,b⟩:=d;exact⟨o,j,m,a,g _ _ _ b⟩
       |exit i=>exact g _ _ _ d|ret=>exact g _ _ _ d|pan v=>exact g _ _ _ d
     | blk id=>
       cases e with
       |normal=>exact g _ _ _ d| exit i=>
         simp only [Run]at d⊢;by_cases r:i=id
         . rw [if_pos r]at d⊢;exact g _ _ _ d
         . rw [if_neg r]at d⊢;exact g _ _ _ d
       |ret=>exact g _ _ _ d|pan v=>exact g _ _ _ d
     | ops a s=>
       cases e with
       |normal=>obtain⟨o,j,m,a,b⟩:=d;exact⟨o,j,m,a,g _ _ _ b⟩
       |exit i=>exact g _ _ _ d|ret=>exact g _ _ _ d|pan v=>exact g _ _ _ d
     | kill t=>
       cases e with
       |normal=>obtain⟨b,u,c,x,y,z⟩:=d;exact⟨b,u,c,x,y,g _ _ _ z⟩
       |exit i=>exact g _ _ _ d|ret=>exact g _ _ _ d|pan v=>exact g _ _ _ d
     | opsD a q w s i A=>
       cases e with
       |normal=>obtain⟨j,m,p,a,b,c⟩:=d;exact⟨j,m,p,a,b,g _ _ _ c⟩
       |exit i=>exact g _ _ _ d|ret=>exact g _ _ _ d|pan v=>exact g _ _ _ d
theorem nL{E:Env}{cx:Cx}{Q:fq}{k:List Fr}{n:Nat}{d:List Deferred}{c:Option (Value×Bool)}{b:Code}{id:Nat}{g:Type}(J:(Nat->Value)->Hp->Prop)(I:g->(Nat->Value)->Hp->Prop)(m:g->Nat)
 (p: ∀a,(∀j f o,m j<m a->I j f o->Run E (lim E) cx (JP n d c J) [.code (.loop b),.blk id] .normal (LL n f d c) o)-> ∀ρ h,I a ρ h->Run E (lim E) cx (JP n d c J) [.code b,.code (.loop b),.blk id] .normal (LL n ρ d c) h)
 (q: ∀ρ h,J ρ h->Run E (lim E) cx Q k .normal (LL n ρ d c) h) (a:g) {ρ:Nat->Value} {h:Hp} (r:I a ρ h):Run E (lim E) cx Q (.code (.loop b):: .blk id::k) .normal (LL n ρ d c) h:=by
 have s:=az I m p a ρ h r;refine uB [.code (.loop b),.blk id] _ _ _ (run_post (fun e l h i=>?_) _ _ _ _ s);obtain⟨rfl,ρ,rfl,i⟩:=i;exact q ρ h i

theorem zw{ops:List Oper}{ord:List Nat}{os:List Oper}(a:((ops.any tJ||ti ops)&&ops.all (iO ops.length))=true)(b:ordL ops=ord)(c:fk ops ord ord=os):bU ops=os:=by unfold bU;grind
theorem St.gblk{M:Nat->Prop}{d h:Hp}{L:List (Nat×Ob)}{G:List GL}(S:St M d h L G){p:GL}(f:p∈G){c:Nat}(a:ar p.1 c):(d.n<=c\/M c)/\c∉L.map Prod.fst:=by
 have g:fu p=some c:=by
  rcases(S.gown p f).1 with⟨e,_⟩|⟨b,n,e,_⟩
  . rw [e]at a;exact a.elim
  . obtain⟨v,k,j⟩:=p;simp only []at e a;subst e;exact congrArg some a
 refine⟨(S.gown p f).2 c g,fun l=>?_⟩;have i:=S.apart;unfold keys at i;grind
end Go.Ab

namespace Go.Ab
structure Arc where
 s:Nat
 t:Nat
 w:Nat
deriving Inhabited
def cE(a:Arc):List Value:=[.int .i64 a.s,.int .i64 a.t,.int .i64 a.w]
theorem ez(a:Arc):(cE a).length=3:=rfl
structure Gra where
 nodes:Nat
 X:List Int
 Y:List Int
 arcs:List Arc
structure Good(g:Gra):Prop where
 n1:1<=g.nodes
 n2:g.nodes<=12
 lX:g.X.length=g.nodes
 lY:g.Y.length=g.nodes
 cX: ∀x∈g.X,-2147483648<=x/\x<=2147483647
 cY: ∀x∈g.Y,-2147483648<=x/\x<=2147483647
 many:g.arcs.length<=100
 arcs: ∀a∈g.arcs,a.s<g.nodes/\a.t<g.nodes/\a.w<=2147483647
structure fI(g:Gra):Prop where
 n1:1<=g.nodes
 n2:g.nodes<=300
 lX:g.X.length=g.nodes
 lY:g.Y.length=g.nodes
 cX: ∀x∈g.X,-2147483648<=x/\x<=2147483647
 cY: ∀x∈g.Y,-2147483648<=x/\x<=2147483647
 many:g.arcs.length<=400
 arcs: ∀a∈g.arcs,a.s<g.nodes/\a.t<g.nodes/\a.w<=2147483647
theorem Good.b{g:Gra}(h:Good g):fI g:=⟨h.n1,Xc h.n2 (by decide),h.lX,h.lY,h.cX,h.cY,Xc h.many (by decide),h.arcs⟩
structure dh(h:Hp)(vx vy va:Value)(g:Gra):Prop where
 X:ay h 1 (encI .i64) vx g.X
 Y:ay h 1 (encI .i64) vy g.Y
 A:ay h 3 cE va g.arcs
theorem dh.gr{h b:Hp}{c d e:Value}{g:Gra}(a:dh h c d e g)(r:Gr h b):dh b c d e g:=⟨a.X.gr r,a.Y.gr r,a.A.gr r⟩
def i7(g:Gra)(a b c:Value):Value:=.agg ⟨[.int .i64 g.nodes,a,b,c]⟩
structure Pl where
 i:Int
 f:Int
 c:Int
 n:Int
 lo:Int
 hi:Int
def j7(p:Pl):List Value:=[.int .i64 p.i,.int .i64 p.f,.int .i64 p.c,.int .i64 p.n,.int .i64 p.lo,.int .i64 p.hi]
theorem encP_len(p:Pl):(j7 p).length=6:=rfl
end Go.Ab

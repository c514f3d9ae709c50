/- A deterministic evaluator of the model's code, and that the model follows it (part 6). -/
import Derived.Test.YtddjlflghenhkaaGreatDoorKabE
open And renaming intro->zM
open Nat renaming ble_eq_true_of_le->zO,le_trans->Xc,ble->Xd,le_of_ble_eq_true->Xe,beq_refl->Xf,lt_of_lt_of_le->Xh,le_mul_of_pos_right->Xj,beq->Xl,mul_le_mul_right->Xm,add_mul->Xn
open List renaming mem_of_getElem?->Xa,ext_getElem?->Xb,length_append->Xg,take_length->Xi,drop_zero->Xk
set_option maxHeartbeats 400000
set_option linter.defProp false
set_option linter.unusedVariables false
set_option linter.unusedSimpArgs false
namespace Go.Ab
variable{E:Env}
variable{cx:Cx}
variable{c i j k m md n o:Nat}
variable{f g:FuncId}
variable{args l vs:List Value}
variable{h h' h0:Hp}
variable{D M:Nat->Prop}
variable{e t:TypeId}
variable{kd:IntKind}
variable{a v:Value}
variable{ρ:Operand->Value}
variable{x:Operand}
variable{ps:List (Nat×Nat)}
variable{L:List (Nat×Ob)}
variable{G:List GL}
theorem aW{Q:gp}{k:List Fr}{d:List Deferred}{rc:Option (Value×Bool)}{b:Code}{f:Type}(I:f->(Nat->Value)->Hp->Prop)(m:f->Nat)
 (l: ∀a,(∀g c h',m g<m a->I g c h'->Run E (lim E) cx Q (.code (.loop b)::k) .normal (LL n c d rc) h')-> ∀ρ h,I a ρ h->Run E (lim E) cx Q (.code b:: .code (.loop b)::k) .normal (LL n ρ d rc) h):
 ∀a ρ h,I a ρ h->Run E (lim E) cx Q (.code (.loop b)::k) .normal (LL n ρ d rc) h:=by
 have e: ∀j a,m a<j-> ∀ρ h,I a ρ h->Run E (lim E) cx Q (.code (.loop b)::k) .normal (LL n ρ d rc) h:=by
  intro j
  induction j with
  |zero=>omega| succ j o=>grind[cD]
 intro a ρ h i;exact e (m a+1) a (by omega) ρ h i
def rZ(b:Nat):Deferred:={target:=.collected b,args:=#[]}
section
variable(E:Env)(cx:Cx)(Q:gp)(k:List Fr)
def RangeGo(l:Loc)(h:Hp):Option Code->Prop
 |none=>Run E (lim E) cx Q k .normal l h|some (.exit id)=>Run E (lim E) cx Q k (.exit id) l h|some .ret=>Run E (lim E) cx Q k .ret l h|_=>False
def RangeQ(l:Loc)(b:Nat):Out->Option (Value×Bool)->Hp->Prop
 | .pan v,_,a=>Run E (lim E) cx Q k (.pan v) l a| .ret _,_,a=> ∃x,a.get b=some (.loop x)/\x.st≠1/\RangeGo E cx Q k l (a.put b .dead) x.pending
end
section
variable{E:Env}{cx:Cx}{Q:gp}{k:List Fr}{n:Nat}{ρ:Nat->Value}{d:List Deferred}{rc:Option (Value×Bool)}{M:Nat->Prop}{h0 h:Hp}{L:List (Nat×Ob)}{G:List GL}
theorem DG {f:Operand} {params:Array Tmp} {assign body:Code}  {a b:Array Value} {j:Hp}  {dfs:List Deferred} (hf:(LL n ρ d rc).ev f=.func (.func g) a b) (D:cx.nr=n)
 (F :(match cx.round with
   |none=>some (h.new .dfr,h.n,({target:=.collected h.n,args:=#[]}:Deferred)::d)| some r=>match h.get r with
     |some (.loop x)=>some (h,x.defers,d)|_=>none)=some (j,m,dfs))
 (H:ey E g (a.toList++[.func (.yield j.n) #[] #[]]++b.toList) none (j.new (.loop {fn:=cx.fn,regs:=tab n ρ,nr:=n,params,assign,body,st:=0,pending:=none,defers:=m})) (RangeQ E cx Q k (LL n ρ dfs rc) j.n)):
 Run E (lim E) cx Q (.code (.rangeFunc f params assign body)::k) .normal (LL n ρ d rc) h:=by
 obtain⟨o,I,l,J,y⟩:=H;simp only [Run];have e:aP E (lim E) cx (.rangeFunc f params assign body) (LL n ρ d rc) h=js (lim E) cx ((LL n ρ d rc).ev f) params assign body (LL n ρ d rc) h:=rfl;rw [e,hf];have K:js (lim E) cx (.func (.func g) a b) params assign body (LL n ρ d rc) h=(match(some (j,m,dfs):Option (Hp×Nat×List Deferred))with
  |none=>none| some (j,m,dfs)=>
    match(lim E).call g (a.toList++[.func (.yield j.n) #[] #[]]++b.toList) none
     (j.new (.loop {fn:=cx.fn,regs:=tab n ρ,nr:=cx.nr,params,assign,body,st:=0,pending:=none,defers:=m}))with
    |none=>none|some (.pan v,_,l)=>some (.pan v,LL n ρ dfs rc,l)| some (.ret _,_,l)=>match l.get j.n with
      | some (.loop x)=>match x.st with
        |1=>none| _=>match x.pending with
          |none=>some (.normal,LL n ρ dfs rc,l.put j.n .dead)|some (.exit id)=>some (.exit id,LL n ρ dfs rc,l.put j.n .dead)|some .ret=>some (.ret,LL n ρ dfs rc,l.put j.n .dead)|_=>none
      |_=>none):=by rw [<-F];rfl
 rw [K];simp only [D,J];cases o with
 |pan v=>exact⟨_,_,_,rfl,y⟩| ret v=>
   obtain⟨x,N,O,s⟩:=y;simp only [N];obtain⟨P,u,R,p,q,w,S,i,t⟩:=x;simp only []at O s;have z: ∃A B C,(match i with
    |none=>some (Ex.normal,LL n ρ dfs rc,l.put j.n .dead)|some (.exit id)=>some (.exit id,LL n ρ dfs rc,l.put j.n .dead)|some .ret=>some (.ret,LL n ρ dfs rc,l.put j.n .dead)|_=>none)=some (A,B,C)/\Run E (lim E) cx Q k A B C:=by
    cases i with
    |none=>exact⟨_,_,_,rfl,s⟩|some c=>cases c<;>first|exact s.elim|exact⟨_,_,_,rfl,s⟩
   omega
theorem iz(S:St M h0 h L G){f:Operand}{params:Array Tmp}{assign body:Code}{a b:Array Value}(hf:(LL n ρ d rc).ev f=.func (.func g) a b)(j:cx.nr=n)(l:cx.round=none)
 (m: ∀h' c e,St M h0 h' ((e,.loop {fn:=cx.fn,regs:=tab n ρ,nr:=n,params,assign,body,st:=0,pending:=none,defers:=c})::(c,.dfr)::L) G->h.n<=c->h.n<=e->Gr h h'->
   ey E g (a.toList++[.func (.yield e) #[] #[]]++b.toList) none h' (RangeQ E cx Q k (LL n ρ (rZ c::d) rc) e)):
 Run E (lim E) cx Q (.code (.rangeFunc f params assign body)::k) .normal (LL n ρ d rc) h:=by
 have i:St M h0 (h.new .dfr) ((h.n,.dfr)::L) G:=S.new (by show(h.new _).get h.n=_;rw [h.get_new _ S.ok,if_pos rfl]);have p:=i.new (x:=.loop {fn:=cx.fn,regs:=tab n ρ,nr:=n,params,assign,body,st:=0,pending:=none,defers:=h.n}) (o:=.loop {fn:=cx.fn,regs:=tab n ρ,nr:=n,params,assign,body,st:=0,pending:=none,defers:=h.n})
  (by show(Hp.new _ _).get _=_;rw [Hp.get_new _ _ i.ok,if_pos rfl])
 exact DG hf j (by rw [l];rfl) (m _ _ _ p (Nat.le_refl _) (Nat.le_succ _) ((Gr.new S.ok _).trans (Gr.new i.ok _)))
end
section
variable(E:Env)(cx:Cx)(lb:Nat)(Q:Out->Hp->Prop)
def tq:gp
 | .normal,_,a=> ∃x,a.get lb=some (.loop x)/\Q (.ret (.bool true)) (a.put lb (.loop {x with st:=0,pending:=none}))
 | .exit id,_,a=> ∃x,a.get lb=some (.loop x)/\Q (.ret (.bool false)) (a.put lb (.loop {x with st:=2,pending:=some (.exit id)}))
 | .ret,_,a=> ∃x,a.get lb=some (.loop x)/\Q (.ret (.bool false)) (a.put lb (.loop {x with st:=2,pending:=some .ret}))
 | .pan v,b,a=>b.dfs=[]/\Q (.pan v) a
def Au(body:Code):gp
 | .normal,l,a=> ∃x,a.get lb=some (.loop x)/\x.st=0/\x.fn=cx.fn/\x.nr=cx.nr/\x.body=body/\Run E (lim E) cx (tq lb Q) [.code body] .normal l (a.put lb (.loop {x with st:=1}))
 |_,_,_=>False
end
def setPs(ρ:Nat->Value):List Tmp->List Value->Option (Nat->Value)
 | [],[]=>some ρ|t::a,v::b=>setPs (aB ρ t v) a b|_,_=>none
theorem uc{n:Nat}: ∀(ts:List Tmp) (vs:List Value) (ρ a:Nat->Value),setPs ρ ts vs=some a->p8 (tab n ρ) ts vs=some (tab n a)
 | [],[],ρ,a,h=>by cases h;rfl
 | t::ts,v::vs,ρ,a,h=>by simp only [p8,tab_set];exact uc ts vs _ _ h| [],_::_,_,_,h=>by cases h
 |_::_,[],_,_,h=>by cases h
theorem wK{Q:gp}{c:Code}{l:Loc}(a:Run E (lim E) cx Q [.code c] .normal l h): ∃e l' h',(lim E).code cx c l h=some (e,l',h')/\Q e l' h':=by obtain⟨e,l',h',b,d⟩:=a;exact⟨e,l',h',by rw [zu];exact b,d⟩
theorem iw{Q:Out->Hp->Prop}{fn:FuncId}{ρ a:Nat->Value}{params:Array Tmp}{assign body:Code}
 (d:h.get c=some (.loop {fn,regs:=tab n ρ,nr:=n,params,assign,body,st:=0,pending:=none,defers:=o})) (g:(E.fn fn).isSome=true) (p:setPs ρ params.toList args=some a)
 (q:Run E (lim E) ⟨fn,n,some c⟩ (Au E ⟨fn,n,some c⟩ c Q body) [.code assign] .normal (LL n a [] none) h):mX E c args h Q:=by
 obtain⟨e,l,z,r,f⟩:=wK q;unfold mX kj;rw [d];simp only [g,cond_true,uc _ _ _ _ p];rw [show Loc.mk (tab n a) [] none=LL n a [] none from rfl,r];cases e with
 |exit i=>exact f.elim|ret=>exact f.elim|pan v=>exact f.elim| normal=>
   obtain⟨x,s,t,A,B,C,u⟩:=f;obtain⟨w,D,F,j,b⟩:=wK u;simp only [s,t,j];cases w with
   |normal=>obtain⟨y,k,m⟩:=b;grind
   |exit i=>obtain⟨y,k,m⟩:=b;grind
   |ret=>obtain⟨y,k,m⟩:=b;grind
   |pan v=>obtain⟨k,m⟩:=b;grind
section
variable{E:Env}{cx:Cx}{lb:Nat}{Q:Out->Hp->Prop}{M:Nat->Prop}{h0 h:Hp}{L:List (Nat×Ob)}{G:List GL}{body:Code}{l:Loc}
theorem St.loopPut(S:St M h0 h L G){X Y:fS}(a:L[i]? =some (lb,.loop X)):h.get lb=some (.loop X)/\St M h0 (h.put lb (.loop Y)) (L.set i (lb,.loop Y)) G:=by have b:h.get lb=some (.loop X):=(S.own _ (Xa a)).2;refine⟨b,S.put a ?_⟩;show(h.put lb _).get lb=_;rw [Hp.get_put,if_pos ⟨rfl,by rw [b];rfl⟩]
theorem gC(S:St M h0 h L G){X:fS}(a:L[i]? =some (lb,.loop X))(b:X.st=0)(c:X.fn=cx.fn)(d:X.nr=cx.nr)(e:X.body=body)
 (f: ∀h',St M h0 h' (L.set i (lb,.loop {X with st:=1})) G->Run E (lim E) cx (tq lb Q) [.code body] .normal l h'):Au E cx lb Q body .normal l h:=by
 obtain⟨g,j⟩:=S.loopPut (Y:={X with st:=1}) a;exact⟨X,g,b,c,d,e,f _ j⟩
theorem dV(S:St M h0 h L G){X:fS}(a:L[i]? =some (lb,.loop X))(b: ∀h',St M h0 h' (L.set i (lb,.loop {X with st:=0,pending:=none})) G->Q (.ret (.bool true)) h'):tq lb Q .normal l h:=by obtain⟨c,d⟩:=S.loopPut (Y:={X with st:=0,pending:=none}) a;exact⟨X,c,b _ d⟩
theorem round_ret(S:St M h0 h L G){X:fS}(a:L[i]? =some (lb,.loop X))(b: ∀h',St M h0 h' (L.set i (lb,.loop {X with st:=2,pending:=some .ret})) G->Q (.ret (.bool false)) h'):tq lb Q .ret l h:=by obtain⟨c,d⟩:=S.loopPut (Y:={X with st:=2,pending:=some .ret}) a;exact⟨X,c,b _ d⟩
end
def Iter(E:Env)(g:FuncId)(d post:List Value)(h0:Hp)(D:Nat->Prop)(xs:List (List Value)):Prop:=
 ∀ (e:Nat) (J:Nat->Hp->List Nat->Prop) (Z:Out->Hp->Prop) (h:Hp) (F:List Nat),
   OZ h->h0.n<=h.n->(∀b,b<h0.n->D b->h.get b=h0.get b)->
   (∀i h F,J i h F->OZ h/\ ∀b∈F,b<h.n)->(∀i h F a,J i h F->Gr h a->J i a F)->(∀h a,Z (.ret (.bool false)) h->Gr h a->Z (.ret (.bool false)) a)->(∀b∈F,¬(b<h0.n/\D b))->
   (∀i x h F,xs[i]? =some x->J i h F->mX E e x h fun o a=>(o=.ret (.bool true)/\ ∃c,J (i+1) a c/\Mo (· ∈F) h a/\ ∀b∈c,b∈F\/h.n<=b)\/(o=.ret (.bool false)/\Z o a/\OZ a)\/((∃v,o=.pan v)/\Z o a))->
   J 0 h F->ey E g (d++[.func (.yield e) #[] #[]]++post) none h fun o f a=>f=none/\((∃u c,o=.ret u/\J xs.length a c)\/(∃u,o=.ret u/\Z (.ret (.bool false)) a)\/(∃v,o=.pan v/\Z o a))
theorem load_len{b:Nat}(e:h.load b o n=some l):l.length=n:=by grind[Hp.load,Xd,Tr.slice_spec]
theorem qU{b:Nat}(e:h.load b o n=some l)(g:i+m<=n):h.load b (o+i) m=some ((l.drop i).take m):=by
 unfold Hp.load at e⊢
 split at e
 next t a j p q=>
  cases c:Xd (o+n) a with
  |false=>grind| true=>
    rw [c]at e;have hle:=Xe c;rw [zO (by omega:o+i+m<=a)];simp only [cond_true]at e⊢;obtain⟨r,f⟩:=Tr.slice_spec e;obtain⟨s,d⟩:=Tr.slice_mk (t:=t) (i:=o+i) (n:=m) (fun k u=>by
     have:=f (i+k) (by omega);grind)
    rw [d];obtain⟨v,w⟩:=Tr.slice_spec d;congr 1;refine Xb fun k=>?_;grind
 next=>cases e
theorem load_join{b:Nat}{f:Nat->Value}(h0: ∃l,h.load b o 0=some l)(e: ∀i,i<n->h.load b (o+i) 1=some [f i]):h.load b o n=some ((List.range n).map f):=by
 unfold Hp.load at h0 e⊢;cases d:h.get b with
 |none=>grind|some c=>
 cases c with
 |dead=>grind|map=>grind|loop=>grind|dfr=>grind| cells t a q r=>
   rw [d]at h0;simp only [d]at e;simp only []at h0;have hle:o+n<=a:=by
    cases n with
    | zero=>
      obtain⟨l,h0⟩:=h0;cases g:Xd (o+0) a with
      |false=>grind|true=>simp_all
    | succ n=>
      have:=e n (by omega);cases g:Xd (o+n+1) a with
      |false=>grind|true=>have:=Xe g;omega
   have j: ∀i,i<n->t.get (o+i)=some (f i):=(by intro i p;have:=e i p;rw [zO (by omega:o+i+1<=a)]at this;have:=(Tr.slice_spec this).2 0 (by omega);simpa using this);simp only [];rw [zO hle];simp only [cond_true];obtain⟨l,m⟩:=Tr.slice_mk (t:=t) (i:=o) (n:=n) (fun k s=>by grind);rw [m];obtain⟨u,v⟩:=Tr.slice_spec m;congr 1;refine Xb fun k=>?_;grind
section
variable{α:Type}
theorem cB{enc:α->List Value}(a: ∀x,(enc x).length=k)(xs:List α):(xs.flatMap enc).length=xs.length*k:=by
 induction xs with
 |nil=>simp|cons x xs b=>grind
theorem D7{enc:α->List Value}(b: ∀x,(enc x).length=k)(xs:List α)(a:i<xs.length):((xs.flatMap enc).drop (i*k)).take k=enc xs[i]:=by
 induction xs generalizing i with
 |nil=>simp at a| cons x xs c=>
   cases i with
   |zero=>grind| succ i=>grind[Nat.succ_mul,Nat.add_comm,List.drop_drop,List.drop,List.flatMap,List.drop_left]
def az(h:Hp)(k:Nat)(enc:α->List Value)(v:Value)(xs:List α):Prop:=
 (v=.slice none 0 0/\xs=[])\/ ∃b o s c,v=.slice (some ⟨b,o,s⟩) xs.length c/\xs.length<=c/\h.load b o (xs.length*k)=some (xs.flatMap enc)
variable{h:Hp}{k:Nat}{enc:α->List Value}{v:Value}{xs:List α}
theorem az.gr(g:Gr h h')(s:az h k enc v xs):az h' k enc v xs:=by
 rcases s with s|⟨b,o,s,c,a,d,e⟩
 . exact .inl s
 . exact .inr ⟨b,o,s,c,a,d,g.load e⟩
def aq:Value->Nat->Prop
 | .slice (some a) _ _,b=>a.block=b| .pointer (some a),b=>a.block=b|_,_=>False
theorem az.mo(g:Mo M h h')(s:az h k enc v xs)(d: ∀b,aq v b-> ¬M b):az h' k enc v xs:=by
 rcases s with s|⟨b,o,s,c,a,e,f⟩
 . exact .inl s
 . refine .inr ⟨b,o,s,c,a,e,?_⟩;have:=g.get b (bA g.ok0 f) (d b (by rw [a];rfl));grind[Hp.load]
theorem az.lt(d:OZ h)(s:az h k enc v xs){b:Nat}(a:aq v b):b<h.n:=by
 rcases s with⟨rfl,_⟩|⟨e,o,s,c,rfl,g,f⟩
 . exact a.elim
 . have:e=b:=a;subst this;exact bA d f
theorem az.idx(s:az h k enc v xs)(d: ∀x,(enc x).length=k)(a:i<xs.length): ∃b o s' c,v=.slice (some ⟨b,o,s'⟩) xs.length c/\h.load b (o+i*k) k=some (enc xs[i]):=by
 rcases s with⟨rfl,rfl⟩|⟨b,o,s,c,rfl,f,e⟩
 . simp at a
 . refine⟨b,o,s,c,rfl,?_⟩;have:i*k+k<=xs.length*k:=(by rw [<-Nat.succ_mul];exact Xm _ a);rw [qU e this,D7 d xs a]
theorem az.at(s:az h k enc v xs)(d: ∀x,(enc x).length=k)(f:E.und t=some (.slice e))(g:E.sz e=some k)(a:i<xs.length):
 ∃b o,fZ E t v (.int kd i)=some (.pointer (some ⟨b,o,none⟩))/\h.load b o k=some (enc xs[i]):=by
 obtain⟨b,o,l,c,rfl,j⟩:=s.idx d a;refine⟨b,o+i*k,?_,j⟩;rw [ia_slice f g,iD a];rfl
theorem az.src(s:az h k enc v xs):aK h k v=some (xs.length,xs.flatMap enc):=by
 rcases s with⟨rfl,rfl⟩|⟨b,o,s,c,rfl,a,d⟩
 . rfl
 grind[List.length_eq_zero_iff,aK,List.length_nil]
theorem ia.sl(g:ia h (v,k,vs))(d:vs=xs.flatMap enc)(e: ∀x,(enc x).length=k)(i:0<k):az h k enc v xs:=by
 rcases g with⟨c,a⟩|⟨b,n,c,a,f⟩
 . simp only []at c a;refine .inl ⟨c,?_⟩;rw [a]at d;have:=cB e xs;rw [<-d]at this;cases xs with
   |nil=>rfl| cons x xs=>grind
 . simp only []at c a f;have j:n=xs.length:=(by rw [d,cB e]at a;exact Nat.eq_of_mul_eq_mul_right i a);subst j;refine .inr ⟨b,0,some k,xs.length,c,Nat.le_refl _,?_⟩;rw [f.load (by omega),a,Xk,Xi,d]
end
def encI(kd:IntKind)(x:Int):List Value:=[.int kd x]
def encB(x:Bool):List Value:=[.bool x]
theorem bO(kd:IntKind)(x:Int):(encI kd x).length=1:=rfl
theorem Ba(x:Bool):(encB x).length=1:=rfl
def agg1:Option (List Value)->Option Value
 |some l=>some (.agg ⟨l⟩)|none=>none
theorem agg1_some:agg1 (some l)=some (.agg ⟨l⟩):=rfl
theorem loadV_agg{b:Nat}{s:Option Nat}(a:E.agg t=some true)(c:E.sz t=some n):fV E h t (.pointer (some ⟨b,o,s⟩))=agg1 (h.load b o n):=by simp only [fV,a,c];cases h.load b o n<;>rfl
def isIface(E:Env)(t:TypeId):Bool:=match E.und t with
 |some (.interface _)=>true|_=>false
def qw(E:Env)(t:TypeId):Bool:=match E.und t with
 |some (.pointer _)=>true|_=>false
def mN(E:Env)(t:TypeId):Bool:=match E.und t with
 |some (.struct _)=>true|some (.int _)=>true|some (.pointer _)=>true|_=>false
section
variable{E:Env}{t:TypeId}{x y:Operand}
theorem rI(b:isIface E t=true): ∃a,E.und t=some (.interface a):=by grind[isIface]
theorem uY(b:qw E t=true): ∃a,E.und t=some (.pointer a):=by grind[qw]
theorem n_iface(a:isIface E t=true){u:TypeId}:bV E .neq t x y (.iface u v) .nilIface=some (.bool true):=by grind[rI,bV,iq,fj]
theorem n_nil(b:isIface E t=true):bV E .neq t x (.const v) .nilIface .nilIface=some (.bool false):=by obtain⟨a,c⟩:=rI b;cases x<;>simp [bV,iq,fj,c]
theorem e_iface(a:isIface E t=true){u:TypeId}:bV E .eql t x y (.iface u v) .nilIface=some (.bool false):=by grind[rI,bV,iq,fj]
theorem e_nil(b:isIface E t=true):bV E .eql t x (.const v) .nilIface .nilIface=some (.bool true):=by obtain⟨a,c⟩:=rI b;cases x<;>simp [bV,iq,fj,c]
theorem n_ptr(b:qw E t=true){a:Addr}:bV E .neq t x y (.pointer (some a)) (.pointer none)=some (.bool true):=by grind[uY,bV,iq,fj]
theorem e_ptr(b:qw E t=true){a:Addr}:bV E .eql t x y (.pointer (some a)) (.pointer none)=some (.bool false):=by grind[uY,bV,iq,fj]
theorem n_pnil(a:qw E t=true):bV E .neq t x y (.pointer none) (.pointer none)=some (.bool false):=by grind[uY,bV,iq,fj]
theorem e_pnil(a:qw E t=true):bV E .eql t x y (.pointer none) (.pointer none)=some (.bool true):=by grind[uY,bV,iq,fj]
theorem wE(b:mN E t=true): ∃d,E.und t=some d/\ ∀a,d≠ .interface a:=by grind[mN]
theorem assert_is(a:mN E t=true):qO E (.iface t v) t true=some (.tuple #[v,.bool true]):=by obtain⟨d,b,c⟩:=wE a;unfold qO;rw [b];cases d<;>first|exact absurd rfl (c _)|simp [uZ]
theorem mk_iface(a:mN E t=true):(match E.und t with|none=>none|some (.interface _)=>none|some _=>some (Value.iface t v))=some (.iface t v):=by obtain⟨d,b,c⟩:=wE a;grind
end
theorem o_recover{as:Array Operand}{ts:Array TypeId}:aop E ρ h (.call ⟨.builtin .recover,as,ts⟩)=some (.recov,h):=rfl
theorem o_deferR{f:Operand}{as:Array Operand}{ts:Array TypeId}:aop E ρ h (.defer ⟨.value f,as,ts⟩)=match ρ f with
 | .func (.func g) a b=>some (.defer {target:=.fn (.func g) b,args:=⟨a.toList++as.toList.map ρ⟩},h)|_=>none:=rfl
def panR(h:Hp):Value->Option (dM×Hp)
 | .iface t v=>some (.panic (.iface t v),h)|_=>none
theorem o_panicR:aop E ρ h (.panic x)=panR h (ρ x):=by rfl
theorem Ef:panR h (.iface t v)=some (.panic (.iface t v),h):=rfl
section
variable{E:Env}{cx:Cx}{o:Oper}{K:Ex->Loc->Hp->Prop}{h:Hp}{n:Nat}{ρ:Nat->Value}{d:List Deferred}
theorem yC:gH E cx o (LL n ρ d (some (v,false))) K (some (.recov,h))↔cx.round=none/\K .normal ((LL n ρ d (some (v,true))).put o.dst v) h:=Iff.rfl
theorem yM:gH E cx o (LL n ρ d none) K (some (.recov,h))↔cx.round=none/\K .normal ((LL n ρ d none).put o.dst .nilIface) h:=Iff.rfl
theorem step_defer{rc:Option (Value×Bool)}{x:Deferred}:gH E cx o (LL n ρ d rc) K (some (.defer x,h))↔cx.round=none/\K .normal ((LL n ρ (x::d) rc).put o.dst (.tuple #[])) h:=Iff.rfl
theorem jo{l:Loc}{P:Out->Option (Value×Bool)->Hp->Prop}(c:ey E f args none h P)(e: ∀x rc h',P x rc h'->match x with
 | .ret v=>K .normal (l.put o.dst v) h'| .pan v=>K (.pan v) l h'):gH E cx o l K (some (.call f args,h)):=by
 obtain⟨x,rc,h',a,b⟩:=c;exact⟨x,rc,h',a,e x rc h' b⟩
theorem xS{l:Loc}{b:Nat}{P:Out->Hp->Prop}(c:mX E b args h P)(e: ∀x h',P x h'->match x with
 | .ret v=>K .normal (l.put o.dst v) h'| .pan v=>K (.pan v) l h'):gH E cx o l K (some (.yield b args,h)):=by
 obtain⟨x,h',a,b⟩:=c;exact⟨x,h',a,e x h' b⟩
end
theorem Br{b:Nat}:target (.func (.yield b) #[] #[]) args=some (.yield b args):=rfl
def UnQ(E:Env)(c:List Deferred)(m:Option Value)(h:Hp)(Q:Option Value->Hp->Prop):Prop:= ∃a b,cI (lim E) c m h=some (a,b)/\Q a b
section
variable{E:Env}{rs:List ResultVar}{Q:Out->Option (Value×Bool)->Hp->Prop}{n:Nat}{ρ:Nat->Value}{d:List Deferred}{rc:Option (Value×Bool)}{h:Hp}
theorem dq(a:UnQ E d none h fun m h'=>m=none/\ ∃vs,bR E (tab n ρ) h' rs=some vs/\Q (.ret (ab vs)) rc h'):qt E rs Q .ret (LL n ρ d rc) h:=by obtain⟨m,h',b,rfl,c⟩:=a;exact⟨h',b,c⟩
theorem cy(a:UnQ E d none h fun m h'=>m=none/\ ∃vs,bR E (tab n ρ) h' rs=some vs/\Q (.ret (ab vs)) rc h'):qt E rs Q .normal (LL n ρ d rc) h:=dq a
theorem eH(a:UnQ E d (some v) h fun m h'=>match m with
 |some v=>Q (.pan v) rc h'|none=> ∃vs,bR E (tab n ρ) h' rs=some vs/\Q (.ret (ab vs)) rc h'):qt E rs Q (.pan v) (LL n ρ d rc) h:=by
 obtain⟨m,h',b,c⟩:=a;exact⟨m,h',b,c⟩
theorem cd{m:Option Value}{P:Option Value->Hp->Prop}(a:P m h):UnQ E [] m h P:=⟨m,h,rfl,a⟩
theorem un_dfr{b:Nat}{a:List Deferred}{m:Option Value}{P:Option Value->Hp->Prop}(i:h.get b=some .dfr)(c:UnQ E a m (h.put b .dead) P):UnQ E (rZ b::a) m h P:=by obtain⟨e,f,j,g⟩:=c;refine⟨e,f,?_,g⟩;simp_all[cI,rZ]
theorem un_fn{cap args:Array Value}{a:List Deferred}{P:Option Value->Hp->Prop}(b:ey E f (args.toList++cap.toList) none h fun o rc h'=>(∃v,o=.ret v)/\rc=none/\UnQ E a none h' P):UnQ E ({target:=.fn (.func f) cap,args}::a) none h P:=by obtain⟨o,c,k,e,⟨v,rfl⟩,rfl,g,h',i,j⟩:=b;refine⟨g,h',?_,j⟩;simp only [cI,e];exact i
theorem nY{cap args:Array Value}{a:List Deferred}{P:Option Value->Hp->Prop}(c:ey E f (args.toList++cap.toList) (some (v,false)) h fun o rc h'=>(∃u,o=.ret u)/\ ∃v' b,rc=some (v',b)/\UnQ E a (if b=true then none else some v') h' P):
 UnQ E ({target:=.fn (.func f) cap,args}::a) (some v) h P:=by
 obtain⟨o,e,j,k,⟨u,rfl⟩,v',b,rfl,g,h',l,i⟩:=c;refine⟨g,h',?_,i⟩;grind[cI]
theorem ie(a:bR E (tab n ρ) h rs=some vs)(hq:Q (.ret (ab vs)) rc h):qt E rs Q .ret (LL n ρ [] rc) h:=dq (cd ⟨rfl,vs,a,hq⟩)
end
section
variable{M:Nat->Prop}{h0 h:Hp}{L:List (Nat×Ob)}{G:List GL}{E:Env}
theorem ce{d cs:List Value}{a:List (Nat×Value)}(f:E.und t=some (.slice e))(g:fu E e c k d)(j:n*k<=16777216)
 (hf:lO (fun i=>some (i*k,k)) (bH d n) a=some cs):rF h (fun h=>dD (lq E h t n a)) (fun b=>.slice (some ⟨b,0,none⟩) n n) (.row cs 1):=by
 obtain⟨⟨i,l,rfl,rfl⟩,m,o⟩:=g;have p:E.sz e=some i.size:=by unfold Env.sz;rw [l]
 refine⟨.cells (Tr.ofList cs) cs.length e 1,fun x=>?_,fun q=>qN q _ _ _⟩;simp only [lq,f,p,zO j,m,o,Xf,hf,cond_true];rfl
theorem St.clone(S:St M h0 h L G){o:TypeId}{r new:List Value}{b:Nat}{x:Value}(N:E.und t=some (.slice e))(B:fu E e c k r)(O:0<c)
 (s:ez E o=some false) (u:aK h k x=some (m,new)) (C:m*k=new.length) (D:n*k=vs.length) (v:0<k) (p:(vs.length+new.length)*(c+1)<=70368744177664) {ts:List TypeId}
 (F:Row h b vs md):
 ∃ h' v',dK E h (t::o::ts) (.slice (some ⟨b,0,none⟩) n n) x=some (h',v')/\
   ((m=0/\h'=h/\v'=.slice (some ⟨b,0,none⟩) n n)\/ ∃w,v'=.slice (some ⟨w,0,some k⟩) (n+m) (n+m)/\St M h0 h' ((w,.row (vs++new) 1)::L) G):=by
 obtain⟨⟨i,P,rfl,rfl⟩,Q,H⟩:=B;have q:dK E h (t::o::ts) (.slice (some ⟨b,0,none⟩) n n) x=gX E h e i (some ⟨b,0,none⟩) n n m new:=by grind[dK,lH]
 rw [q];by_cases y:m=0
 . subst y;have:new=[]:=(by grind);subst this;refine⟨h,_,?_,.inl ⟨rfl,rfl,rfl⟩⟩;grind[gX,zO]
 . have z:Xd (n+m) n=false:=by
    cases s:Xd (n+m) n with
    |false=>rfl|true=>exact absurd (Xe s) (by omega)
   have d:n+m<=vs.length+new.length:=(by rw [<-D,<-C];have y:=Xj n v;have R:=Xj m v;omega);have g:(Xd ((n+m)*(i.bytes+1)) 70368744177664&&Nat.blt 0 i.bytes)=true:=(by rw [zO (Xc (Xm _ d) p)];simp_all);have I:Xl r.length i.size=true:=(by simp_all);have a:gX E h e i (some ⟨b,0,none⟩) n n m new=pV h e i.size (some ⟨b,0,none⟩) n m new:=(by unfold gX;grind);rw [a];obtain⟨l,T,A,f,J⟩:=F;have K:kZ l vs.length 0 (n*i.size) new=some (l.pushAll vs.length new,vs.length+new.length):=(by grind[kZ,Xf]);refine⟨h.new (.cells (l.pushAll vs.length new) (vs.length+new.length) e 1),.slice (some ⟨h.n,0,some i.size⟩) (n+m) (n+m),?_,.inr ⟨h.n,rfl,?_⟩⟩
   . grind[pV]
   . refine S.new ⟨l.pushAll vs.length new,e,?_,?_,fun j=>?_⟩
     . rw [h.get_new _ S.ok,if_pos rfl,Xg]
     . rw [Xg];exact Tr.sized_pushAll _ f
     grind[Tr.get_pushAll]
theorem St.cloneSl{n:Type}{enc:n->List Value}{xs ys:List n}(S:St M h0 h L G){o:TypeId}{d:Nat}{B:List Value}{b:Nat}{x:Value}(q:E.und t=some (.slice e))(i:fu E e d k B)(r:0<d)
 (s:ez E o=some false) (u:az h k enc x ys) (a: ∀x,(enc x).length=k) (v:0<k) (C:((xs.length+ys.length)*k)*(d+1)<=70368744177664) {ts:List TypeId}
 (j:Row h b (xs.flatMap enc) md):
 ∃h' v',dK E h (t::o::ts) (.slice (some ⟨b,0,none⟩) xs.length xs.length) x=some (h',v')/\St M h0 h' L G/\Gr h h'/\az h' k enc v' (xs++ys)/\(∀c,aq v' c->c=b\/h.n<=c):=by
 obtain⟨h',v',w,D⟩:=S.clone q i r s u.src (cB a ys).symm (cB a xs).symm v (by grind[cB,Xn]) (ts:=ts) j;refine⟨h',v',w,?_⟩;rcases D with⟨y,rfl,rfl⟩|⟨l,rfl,f⟩
 . have F:ys=[]:=List.length_eq_zero_iff.1 y;subst F;refine⟨S,Gr.refl S.ok,.inr ⟨b,0,none,xs.length,by simp,by simp,?_⟩,fun c m=>.inl (Eq.symm m)⟩;rw [List.append_nil,j.load (by rw [cB a];omega),Xk,<-cB a xs,Xi]
 . have H:St M h0 h' L G:=⟨f.fr,fun p I=>f.own p (List.mem_cons_of_mem _ I),f.gown,(List.nodup_cons.1 f.apart).2⟩;have g:Row h' l (xs.flatMap enc++ys.flatMap enc) 1:=f.row m0;have T:=(St.init (M:=NoM) S.ok).clone q i r s u.src (cB a ys).symm (cB a xs).symm v (by grind[cB,Xn]) (ts:=ts) j;obtain⟨J,K,z,N⟩:=T;rw [w]at z;cases z;rcases N with⟨y,_,i⟩|⟨P,O,A⟩
   . grind
   . cases O;refine⟨H,A.gr,.inr ⟨l,0,some k,xs.length+ys.length,by grind,by grind,?_⟩,fun c m=>?_⟩
     . rw [g.load (by grind[Xg,cB,Xn]),Xk,<-List.flatMap_append,<-cB a (xs++ys),Xi]
     . right;have:l=c:=m;subst this;rcases(A.own _ m0).1 with h|h
       . exact h
       . exact h.elim
end
section
variable{E:Env}{t e:TypeId}{h:Hp}{x y:Operand}
noncomputable def lenR(E:Env)(h:Hp)(t:TypeId)(x:Value):Option (dM×Hp):=lenK (match x with
 | .map (some r)=>match h.get r with
   |some (.map a _)=>match E.und t with
    |some (.map _ _)=>some (.val (.int .i64 (.ofNat a.length)),h)|_=>none
   |_=>none
 |_=>none) h (lenP E t x)
theorem o_lenR:aop E ρ h (.call ⟨.builtin .len,#[x],#[t]⟩)=lenR E h t (ρ x):=o_lenK
noncomputable def lenQ(d:Option TypeDesc)(h:Hp)(x:Value):Option (dM×Hp):=match d with
 | some .string=>match x with
   | .string s=>some (.val (.int .i64 (.ofNat s.size)),h)|_=>none
 |some (.array n _)=>some (.val (.int .i64 (.ofNat n)),h)| some (.slice _)=>match x with
   | .slice _ n _=>some (.val (.int .i64 (.ofNat n)),h)|_=>none
 | some (.map _ _)=>match x with
   | .map none=>some (.val (.int .i64 0),h)| .map (some r)=>match h.get r with
     |some (.map a _)=>some (.val (.int .i64 (.ofNat a.length)),h)|_=>none
   |_=>none
 |_=>none
theorem len_q{x:Value}:lenR E h t x=lenQ (E.und t) h x:=by unfold lenR lenP;grind[lenQ,lenK]
theorem Eg{a:Option Addr}:lenQ (some (.slice e)) h (.slice a n c)=some (.val (.int .i64 n),h):=rfl
theorem lenq_str{s:ByteArray}:lenQ (some .string) h (.string s)=some (.val (.int .i64 s.size),h):=rfl
theorem lenq_arr:lenQ (some (.array n e)) h v=some (.val (.int .i64 n),h):=rfl
theorem CW{k:TypeId}:lenQ (some (.map k e)) h (.map none)=some (.val (.int .i64 0),h):=rfl
theorem lenq_map{k:TypeId}{r:Nat}{a:List (Value×Value×Nat)}(b:h.get r=some (.map a c)):lenQ (some (.map k e)) h (.map (some r))=some (.val (.int .i64 a.length),h):=by simp [lenQ,b]
theorem az.lenq{a:Type}{enc:a->List Value}{xs:List a}(s:az h' k enc v xs):lenQ (some (.slice e)) h v=some (.val (.int .i64 xs.length),h):=by rcases s with⟨rfl,rfl⟩|⟨_,_,_,_,rfl,_⟩<;>rfl
def mQ(k:Option Nat)(v i:Value):Option Value:=match k with
 |none=>none| some k=>match v with
   | .slice (some a) n _=>match iN i n with
     |none=>none|some j=>some (.pointer (some (ig a (j*k))))
   |_=>none
def idxA(n:Nat)(k:Option Nat)(v i:Value):Option Value:=match k with
 |none=>none| some k=>match v with
   | .pointer (some a)=>match iN i n with
     |none=>none|some j=>some (.pointer (some (ig a (j*k))))
   |_=>none
def idxQ(E:Env)(d:Option TypeDesc)(v i:Value):Option Value:=match d with
 |some (.slice e)=>mQ (E.sz e) v i|some (.array n e)=>idxA n (E.sz e) v i|_=>none
theorem idx_q{i:Value}:fZ E t v i=idxQ E (E.und t) v i:=by
 unfold fZ idxQ;cases a:E.und t with
 |none=>rfl| some d=>
   cases d<;>first
    |rfl
    |(simp only [mQ];cases b:E.sz _<;>(split<;>first|rfl|(split<;>simp_all)))
    |(simp only [idxA];grind)
theorem DH{i:Value}:idxQ E (some (.slice e)) v i=mQ (E.sz e) v i:=rfl
theorem DA{i:Value}:idxQ E (some (.array n e)) v i=idxA n (E.sz e) v i:=rfl
def putI(a:Addr)(k:Nat):Option Nat->Option Value
 |none=>none|some j=>some (.pointer (some ⟨a.block,a.off+j*k,none⟩))
theorem ou{a:Addr}{i:Value}:mQ (some k) (.slice (some a) n c) i=putI a k (iN i n):=by rfl
theorem idxa_ptr{a:Addr}{i:Value}:idxA n (some k) (.pointer (some a)) i=putI a k (iN i n):=by rfl
theorem uL{a:Addr}:putI a k (some j)=some (.pointer (some ⟨a.block,a.off+j*k,none⟩)):=rfl
theorem az.ix{a:Type}{enc:a->List Value}{xs:List a}(s:az h k enc v xs)(f: ∀x,(enc x).length=k)(d:i<xs.length):
 ∃b o,mQ (some k) v (.int kd i)=some (.pointer (some ⟨b,o,none⟩))/\h.load b o k=some (enc xs[i]):=by
 obtain⟨b,o,j,c,rfl,g⟩:=s.idx f d;refine⟨b,o+i*k,?_,g⟩;rw [ou,iD d];rfl
noncomputable def loadQ(g:Option Bool)(n:Option Nat)(h:Hp)(b o:Nat):Option Value:=match g with
 | some true=>match n with
   |some n=>agg1 (h.load b o n)|none=>none
 |some false=>one1 (h.load b o 1)|none=>none
theorem load_q{b:Nat}{s:Option Nat}:fV E h t (.pointer (some ⟨b,o,s⟩))=loadQ (E.agg t) (E.sz t) h b o:=by grind[fV,loadQ,Du,loadV_agg]
theorem loadq_f{b:Nat}{n:Option Nat}:loadQ (some false) n h b o=one1 (h.load b o 1):=rfl
theorem loadq_t{b:Nat}:loadQ (some true) (some n) h b o=agg1 (h.load b o n):=rfl
def isSl(E:Env)(t:TypeId):Bool:=match E.und t with
 |some (.slice _)=>true|_=>false
theorem sl_und(b:isSl E t=true): ∃a,E.und t=some (.slice a):=by grind[isSl]
theorem e_slice{a:Addr}(b:isSl E t=true):bV E .eql t x y (.slice (some a) n c) (.slice none 0 0)=some (.bool false):=by grind[sl_und,bV,iq,fj]
theorem e_snil(a:isSl E t=true):bV E .eql t x y (.slice none 0 0) (.slice none 0 0)=some (.bool true):=by grind[sl_und,bV,iq,fj]
def Fl(v:Value):Prop:=ae v=[v]/\mM v=true/\ ∀x,v≠ .chan x
theorem aZ{k:IntKind}{n:Int}:Fl (.int k n):=⟨rfl,rfl,nofun⟩
theorem og{b:Bool}:Fl (.bool b):=⟨rfl,rfl,nofun⟩
theorem fl_str{b:ByteArray}:Fl (.string b):=⟨rfl,rfl,nofun⟩
theorem bD{a:Option Addr}:Fl (.pointer a):=⟨rfl,rfl,nofun⟩
theorem aU{a:Option Addr}:Fl (.slice a n c):=⟨rfl,rfl,nofun⟩
theorem fl_map{a:Option Nat}:Fl (.map a):=⟨rfl,rfl,nofun⟩
theorem dY{f:Fn}{a b:Array Value}:Fl (.func f a b):=⟨rfl,rfl,nofun⟩
theorem fl_nilf:Fl .nilFunc:=⟨rfl,rfl,nofun⟩
theorem fl_nili:Fl .nilIface:=⟨rfl,rfl,nofun⟩
theorem fl_iface:Fl (.iface t v):=⟨rfl,rfl,nofun⟩
theorem az.fl{a:Type}{enc:a->List Value}{xs:List a}(s:az h k enc v xs):Fl v:=by rcases s with⟨rfl,_⟩|⟨_,_,_,_,rfl,_⟩<;>exact aU
theorem ia.fl{p:GL}(g:ia h p):Fl p.1:=by rcases g with⟨e,_⟩|⟨_,_,e,_⟩<;>rw [e]<;>exact aU
def placesOf(E:Env)(t:TypeId):Option (List (Nat×Nat)):=match E.und t with
 |some (.struct a)=>oZ E a.toList|_=>none
def aggO:Option (List Value)->Option Value
 |some l=>some (.agg ⟨l⟩)|none=>none
theorem aggO_some:aggO (some l)=some (.agg ⟨l⟩):=rfl
def om(ps:List (Nat×Nat))(l:List Value)(a:List (Nat×Value)):Option (List Value):=lO (fun i=>ps[i]?) l a
theorem build_st{c:List Value}{a:List (Nat×Value)}(d:E.zero t=some c)(b:placesOf E t=some ps):jQ E t a=aggO (om ps c a):=by
 unfold placesOf at b;unfold jQ om;rw [d]
 split at b
 . rename_i g f;simp only [f,b];cases lO (fun i=>ps[i]?) c a<;>rfl
 . cases b
theorem fill_nil:om ps l []=some l:=rfl
def buildQ(z:Option (List Value))(p:Option (List (Nat×Nat)))(a:List (Nat×Value)):Option Value:=match z with
 |none=>none| some z=>match p with
   |none=>none|some p=>aggO (om p z a)
theorem build_q{a:List (Nat×Value)}(b:(placesOf E t).isSome=true):jQ E t a=buildQ (E.zero t) (placesOf E t) a:=by grind[placesOf,jQ,buildQ,build_st]
theorem Dh{b:List Value}{a:List (Nat×Value)}:buildQ (some b) (some ps) a=aggO (om ps b a):=rfl
def fillS(ps:List (Nat×Nat))(l:List Value)(v:Value)(r:List (Nat×Value)):Option (Nat×Nat)->Option (List Value)
 |none=>none|some (o,n)=>match v with
  | .chan _=>none|v=>bif Xl (ae v).length n&&Xd (o+n) l.length then om ps (cg l o (ae v)) r else none
theorem fill_q{r:List (Nat×Value)}:om ps l ((i,v)::r)=fillS ps l v r (ps[i]?):=by rfl
theorem fills_one{r:List (Nat×Value)}(a:Fl v)(b:o<l.length):fillS ps l v r (some (o,1))=om ps (l.set o v) r:=by
 have e:(bif Xl (ae v).length 1&&Xd (o+1) l.length then om ps (cg l o (ae v)) r else none)=om ps (l.set o v) r:=by rw [a.1];simp only [List.length_cons,List.length_nil,Nat.zero_add,Xf,zO (show o+1<=l.length from b),Bool.and_self,cond_true,cg]
 cases v<;>first|exact e|exact absurd rfl (a.2.2 _)
theorem fills_agg{c:List Value}{r:List (Nat×Value)}(a:c.length=n)(b:o+n<=l.length):fillS ps l (.agg ⟨c⟩) r (some (o,n))=om ps (cg l o c) r:=by simp only [fillS,ae,a,Xf,zO b,Bool.and_self,cond_true]
theorem setL_nil:cg l o []=l:=rfl
theorem setL_cons:cg l o (v::vs)=cg (l.set o v) (o+1) vs:=rfl
theorem bJ(a:Fl v):rF h (fun h=>boxR h t v) ptrTo (.row [v] 1):=by have:=aV (h:=h) (t:=t) a.2.2;rw [a.1]at this;exact this
theorem aE(S:St M h0 h L G){b off:Nat}{s:Option Nat}(f:L[i]? =some (b,.row l md))(g:E.sz t=some 1)(c:Fl v)
 (k:off<l.length) (d:md≠0): ∃h',jV E h t (.pointer (some ⟨b,off,s⟩)) v=some h'/\St M h0 h' (L.set i (b,.row (l.set off v) md)) G/\Mo (· =b) h h':=by
 have a:ae v=[v]:=c.1;have:=S.store (v:=v) (t:=t) (s:=s) (off:=off) (n:=1) f g c.2.2 (by rw [a];rfl) (by rw [a];simp [c.2.1]) (by omega) d;rw [a]at this;have e:lay l off [v]=l.set off v:=by refine Xb fun j=>?_;rw [lC (by simp;omega),List.getElem?_set];grind
 grind
end
def ifaceR(E:Env)(t:TypeId)(v:Value):Option Value:=match E.und t with
 |none=>none|some (.interface _)=>none|some _=>some (.iface t v)
theorem o_ifaceR:aop E ρ h (.makeInterface t x)=cV h (ifaceR E t (ρ x)):=rfl
theorem ifaceR_is(a:mN E t=true):ifaceR E t v=some (.iface t v):=mk_iface a
def nilcR:Value->Option Value
 | .pointer (some a)=>some (.pointer (some a))| .func (.func f) a b=>some (.func (.func f) a b)|_=>none
theorem o_nilcR:aop E ρ h (.nilCheck x)=cV h (nilcR (ρ x)):=rfl
theorem nilcR_ptr{a:Addr}:nilcR (.pointer (some a))=some (.pointer (some a)):=rfl
def pickR(c a b:Value):Option Value:=match c with
 | .bool t=>some (bif t then a else b)
 |_=>none
theorem o_pickR{c a b:Operand}:aop E ρ h (.pick c a b)=cV h (pickR (ρ c) (ρ a) (ρ b)):=rfl
theorem pick_t{b:Value}:pickR (.bool true) a b=some a:=rfl
theorem pick_f{b:Value}:pickR (.bool false) a b=some b:=rfl
def extrR(i:Nat):Value->Option Value
 | .tuple a=>a.toList[i]?|_=>none
theorem o_extrR:aop E ρ h (.extract x i)=cV h (extrR i (ρ x)):=by rfl
theorem extr_0:extrR 0 (.tuple ⟨a::l⟩)=some a:=rfl
theorem extr_1{b:Value}:extrR 1 (.tuple ⟨a::b::l⟩)=some b:=rfl
theorem extr_2{b c:Value}:extrR 2 (.tuple ⟨a::b::c::l⟩)=some c:=rfl
noncomputable def delR(E:Env)(h:Hp)(t:TypeId)(m k:Value):Option (dM×Hp):=match oq E h t m k with
 |none=>none|some a=>some (.val (.tuple #[]),a)
theorem o_delR{m k:Operand}{ts:List TypeId}:aop E ρ h (.call ⟨.builtin .delete,#[m,k],⟨t::ts⟩⟩)=delR E h t (ρ m) (ρ k):=rfl
theorem aF{a b:Nat}:((a:Int)<(b:Int))=(a<b):=by simp
def BS:=zM (@run_seq)<|zM (@Ed)<|zM (@r_ops)<|zM (@g_true)<|zM (@g_false)<|zM (@C4)<|zM (@run_ret)<|zM (@run_nil)<|zM (@run_skip)<|zM (@run_block)<|zM (@run_scope)<|zM (@run_blk)<|zM (@run_exit)<|zM (@AR)<|zM (@AJ)<|zM (@AX)<|zM (@EJ)<|zM (@Dy)<|zM (@r_cond)<|zM (@c_true)<|zM (@c_false)<|zM (@r_opsD)<|zM (@dn_loud)<|zM (@dn_quiet)<|zM (@dn_val)<|zM (@dn_skip)<|zM (@d_skip)<|zM (@kw)<|zM (@aN)<|zM (@aR)<|zM (@BW)<|zM (@guard_no)<|zM (@DP)<|zM (@gj_some)<|zM (@gv_true)<|zM (@gv_false)<|zM (@gv_tuple)<|zM (@o_move)<|zM (@o_assign)<|zM (@o_pickR)<|zM (@pick_t)<|zM (@pick_f)<|zM (@o_load)<|zM (@o_store)<|zM (@o_binOp)<|zM (@o_unOp)<|zM (@o_nilcR)<|zM (@nilcR_ptr)<|zM (@o_ifaceR)<|zM (@Ey)<|zM (@o_slice)<|zM (@Do)<|zM (@o_field)<|zM (@Dk)<|zM (@o_index)<|zM (@o_extrR)<|zM (@extr_0)<|zM (@extr_1)<|zM (@extr_2)<|zM (@o_build)<|zM (@Cv)<|zM (@De)<|zM (@D9)<|zM (@B7)<|zM (@o_convert)<|zM (@o_lookup)<|zM (@CM)<|zM (@D0)<|zM (@BT)<|zM (@o_allocR)<|zM (@o_boxR)<|zM (@o_callv)<|zM (@o_max)<|zM (@o_min)<|zM (@o_append)<|zM (@o_copy)<|zM (@o_lenR)<|zM (@o_delR)<|zM (@o_recover)<|zM (@o_deferR)<|zM (@o_panicR)<|zM (@Ef)<|zM (@EB)<|zM (@DW)<|zM (@EC)<|zM (@AF)<|zM (@zm)<|zM (@yg)<|zM (@yC)<|zM (@yM)<|zM (@step_defer)<|zM (@target_fn)<|zM (@Br)<|zM (@b_add)<|zM (@b_sub)<|zM (@b_mul)<|zM (@b_eql)<|zM (@b_neq)<|zM (@b_lss)<|zM (@b_leq)<|zM (@b_gtr)<|zM (@b_geq)<|zM (@b_eqlB)<|zM (@b_neqB)<|zM (@same_bool)<|zM (@u_not)<|zM (@mm_max)<|zM (@mm_min)<|zM (@ah)<|zM (@one1_some)<|zM (@agg1_some)<|zM (@bW)<|zM (@ll_put0)<|zM (@bF)<|zM (@ll_func)<|zM (@c_int)<|zM (@c_bool)<|zM (@c_string)<|zM (@c_nilp)<|zM (@c_nils)<|zM (@c_nilm)<|zM (@c_nilf)<|zM (@c_nili)<|zM (@ll_regs)<|zM (@nU)<|zM (@aD)<|zM (@cG)<|zM (@dr)<|zM (@Ay)<|zM (@BX)<|zM (@dX)<|zM (@bS)<|zM (@hush_s)<|zM (@idxP_in)<|zM (@iD)<|zM (@idx_q)<|zM (@DH)<|zM (@DA)<|zM (@ou)<|zM (@idxa_ptr)<|zM (@uL)<|zM (@len_q)<|zM (@Eg)<|zM (@lenq_str)<|zM (@lenq_arr)<|zM (@CW)<|zM (@load_q)<|zM (@loadq_f)<|zM (@loadq_t)<|zM (@n_iface)<|zM (@n_nil)<|zM (@e_iface)<|zM (@e_nil)<|zM (@n_ptr)<|zM (@e_ptr)<|zM (@n_pnil)<|zM (@e_pnil)<|zM (@e_slice)<|zM (@e_snil)<|zM (@assert_is)<|zM (@ifaceR_is)<|zM (@build_q)<|zM (@Dh)<|zM (@aggO_some)<|zM (@fill_nil)<|zM (@fill_q)<|zM (@fills_one)<|zM (@fills_agg)<|zM (@setL_nil)<|zM (@setL_cons)<|zM (@aZ)<|zM (@og)<|zM (@fl_str)<|zM (@bD)<|zM (@aU)<|zM (@fl_map)<|zM (@dY)<|zM (@fl_nilf)<|zM (@fl_nili)<|(@fl_iface)
structure ItS(h0:Hp)(D:Nat->Prop)(h:Hp)(F:List Nat):Prop where
 ok:OZ h
 n:h0.n<=h.n
 data: ∀b,b<h0.n->D b->h.get b=h0.get b
 apart: ∀b∈F,¬(b<h0.n/\D b)
 lt: ∀b∈F,b<h.n
section
variable{h0 h h':Hp}{D:Nat->Prop}{F F':List Nat}
theorem ItS.gr(s:ItS h0 D h F)(g:Gr h h'):ItS h0 D h' F:=
 ⟨g.ok,Xc s.n g.n,fun b a c=>(g.get b (Xh a s.n)).trans (s.data b a c),s.apart,fun b a=>Xh (s.lt b a) g.n⟩
theorem ItS.mo(s:ItS h0 D h F)(m:Mo (· ∈F) h h')(hf: ∀b∈F',b∈F\/h.n<=b)(d: ∀b∈F',b<h'.n):ItS h0 D h' F':=
 ⟨m.ok,Xc s.n m.n,fun b a c=>(m.get b (Xh a s.n) (fun hf=>s.apart b hf ⟨a,c⟩)).trans (s.data b a c),
  fun b a c=>(hf b a).elim (fun a=>s.apart b a c) (fun a=>by have:=s.n;omega),d⟩
theorem ItS.load(s:ItS h0 D h F){b o n:Nat}{l:List Value}(a:OZ h0)(e:h0.load b o n=some l)(c:D b):h.load b o n=some l:=by have:=s.data b (bA a e) c;grind[Hp.load]
theorem ItS.sl{d:Type}{enc:d->List Value}{xs:List d}(s:ItS h0 D h F)(a:OZ h0)(e:az h0 k enc v xs)(g: ∀b,aq v b->D b):az h k enc v xs:=by
 rcases e with e|⟨b,o,i,c,f,j,l⟩
 . exact .inl e
 . exact .inr ⟨b,o,i,c,f,j,s.load a l (g b (by rw [f];rfl))⟩
end
structure Yld(E:Env)(lb:Nat)(J:Nat->Hp->List Nat->Prop)(Z:Out->Hp->Prop)(xs:List (List Value)):Prop where
 lt: ∀i h F,J i h F->OZ h/\ ∀b∈F,b<h.n
 gr: ∀i h F h',J i h F->Gr h h'->J i h' F
 zgr: ∀h h',Z (.ret (.bool false)) h->Gr h h'->Z (.ret (.bool false)) h'
 round: ∀i x h F,xs[i]? =some x->J i h F->mX E lb x h fun o h'=>(o=.ret (.bool true)/\ ∃F',J (i+1) h' F'/\Mo (· ∈F) h h'/\ ∀b∈F',b∈F\/h.n<=b)\/(o=.ret (.bool false)/\Z o h'/\OZ h')\/((∃v,o=.pan v)/\Z o h')
def YQ(J:Nat->Hp->List Nat->Prop)(Z:Out->Hp->Prop)(n:Nat)(o:Out)(rc:Option (Value×Bool))(h':Hp):Prop:=
 rc=none/\((∃u a,o=.ret u/\J n h' a)\/(∃u,o=.ret u/\Z (.ret (.bool false)) h')\/(∃v,o=.pan v/\Z o h'))
theorem vr{a post:List Value}{xs:List (List Value)}
 (H: ∀b J Z,Yld E b J Z xs-> ∀h F,ItS h0 D h F->J 0 h F->ey E g (a++[.func (.yield b) #[] #[]]++post) none h (YQ J Z xs.length)):Iter E g a post h0 D xs:=by
 intro b J Z h F e f i hlt c j k l d;exact H b J Z ⟨hlt,c,j,l⟩ h F ⟨e,f,i,k,(hlt 0 h F d).2⟩ d
theorem BJ{a post:List Value}{xs:List (List Value)}(H:Iter E g a post h0 D xs){J:Nat->Hp->List Nat->Prop}{Z:Out->Hp->Prop}(Y:Yld E c J Z xs)
  {F:List Nat} (d:Mo (fun b=> ¬D b) h0 h) (f: ∀b∈F,b<h0.n-> ¬D b) (i:J 0 h F):ey E g (a++[.func (.yield c) #[] #[]]++post) none h (YQ J Z xs.length):=
 H c J Z h F d.ok d.n (fun b e j=>d.get b e (fun k=>k j)) Y.lt Y.gr Y.zgr (fun b e h=>f b e h.1 h.2) Y.round i
theorem dg{o:Oper}{l:Loc}{K:Ex->Loc->Hp->Prop}{d:Nat}{J:Nat->Hp->List Nat->Prop}{Z:Out->Hp->Prop}{xs:List (List Value)}{x:List Value}{F:List Nat}
 (Y:Yld E d J Z xs) (s:ItS h0 D h F) (e:J i h F) (f:xs[i]? =some x)
 (g: ∀h' F',J (i+1) h' F'->ItS h0 D h' F'->Mo (· ∈F) h h'->(∀b∈F',b∈F\/h.n<=b)->K .normal (l.put o.dst (.bool true)) h')
 (k2: ∀h',Z (.ret (.bool false)) h'->OZ h'->K .normal (l.put o.dst (.bool false)) h') (j: ∀v h',Z (.pan v) h'->K (.pan v) l h'):gH E cx o l K (some (.yield d x,h)):=by
 refine xS (Y.round i x h F f e) ?_;rintro q h' (⟨rfl,F',a,b,c⟩|⟨rfl,a,b⟩|⟨⟨v,rfl⟩,a⟩)
 . exact g h' F' a (s.mo b c (Y.lt _ _ _ a).2) b c
 . exact k2 h' a b
 grind
section
variable{M:Nat->Prop}{h0 h h':Hp}{L L':List (Nat×Ob)}{G G':List GL}
theorem St.base(S:St M h0 h L G):St (· ∈keys L G) h h L G:=
 ⟨Mo.refl S.ok,fun p a=>⟨.inr (iP a),(S.own p a).2⟩,fun p a=>⟨(S.gown p a).1,fun b c=>.inr (fk a c)⟩,S.apart⟩
theorem St.key_own(S:St M h0 h L G){b:Nat}(a:b∈keys L G):h0.n<=b\/M b:=by
 unfold keys at a;rcases List.mem_append.1 a with a|a
 . obtain⟨p,c,rfl⟩:=List.mem_map.1 a;exact(S.own p c).1
 . obtain⟨p,c,d⟩:=List.mem_filterMap.1 a;exact(S.gown p c).2 b d
theorem St.rebase(S:St M h0 h L G)(T:St (· ∈keys L G) h h' L' G'):St M h0 h' L' G':=by have d: ∀b,h.n<=b\/b∈keys L G->h0.n<=b\/M b:=fun b a=>a.elim (fun a=>.inl (Xc S.fr.n a)) S.key_own;exact⟨S.fr.trans T.fr fun b a=>(S.key_own a).symm,fun p c=>⟨d _ (T.own p c).1,(T.own p c).2⟩,fun p c=>⟨(T.gown p c).1,fun b a=>d b ((T.gown p c).2 b a)⟩,T.apart⟩
theorem St.key_new(T:St (· ∈keys L G) h h' L' G'): ∀b∈keys L' G',b∈keys L G\/h.n<=b:=fun _ a=>(T.key_own a).symm
theorem St.sub(S:St M h0 h L G)(b:L'.Sublist L)(c:G'.Sublist G):St M h0 h L' G':=
 ⟨S.fr,fun p a=>S.own p (b.subset a),fun p a=>S.gown p (c.subset a),S.apart.sublist ((b.map _).append (c.filterMap _))⟩
theorem St.drop1{x:Nat×Ob}(S:St M h0 h (x::L) G):St M h0 h L G:=S.sub (List.sublist_cons_self _ _) (List.Sublist.refl _)
end
theorem cK{rc:Option (Value×Bool)}{P Q:Out->Option (Value×Bool)->Hp->Prop}(d:ey E f args rc h P)(e: ∀o c h',P o c h'->Q o c h'):ey E f args rc h Q:=by obtain⟨o,c,h',a,b⟩:=d;exact⟨o,c,h',a,e _ _ _ b⟩
theorem tP{P Q:Value->Hp->Prop}(a:Ret E f args h P)(b: ∀v h',P v h'->Q v h'):Ret E f args h Q:=Ret.mono b a
theorem jx{Q:gp}{k:List Fr}{l:Loc}{a:Nat}{J:Nat->Hp->List Nat->Prop}{o:Out}{rc:Option (Value×Bool)}(y:YQ J (fun _ _=>False) n o rc h)
 (c: ∀F,J n h F-> ∃x,h.get a=some (.loop x)/\x.st≠1/\RangeGo E cx Q k l (h.put a .dead) x.pending):RangeQ E cx Q k l a o rc h:=by
 obtain⟨_,⟨u,F,rfl,d⟩|⟨u,_,b⟩|⟨v,_,b⟩⟩:=y
 . exact c F d
 . exact b.elim
 . exact b.elim
theorem St.dead{M:Nat->Prop}{h0 h:Hp}{L:List (Nat×Ob)}{G:List GL}{b:Nat}{o:Ob}(S:St M h0 h ((b,o)::L) G):St M h0 (h.put b .dead) L G:=by
 have d:=S.own _ m0;refine⟨S.fr.put d.1 _,fun p a=>⟨(S.own p (.tail _ a)).1,(S.own p (.tail _ a)).2.of_get (dA fun e=>?_)⟩,fun p a=>⟨(S.gown p a).1.of_get fun c f=>dA fun e=>?_,(S.gown p a).2⟩,(List.nodup_cons.1 S.apart).2⟩
 . exact(List.nodup_cons.1 S.apart).1 (by show b∈keys L G;rw [e];exact iP a)
 . exact(List.nodup_cons.1 S.apart).1 (by show b∈keys L G;rw [e];exact fk a f)
theorem St.get{M:Nat->Prop}{h0 h:Hp}{L:List (Nat×Ob)}{G:List GL}{b:Nat}{x:fS}(S:St M h0 h L G)(a:(b,Ob.loop x)∈L):h.get b=some (.loop x):=(S.own _ a).2
theorem St.getD{b:Nat}(S:St M h0 h L G)(a:(b,Ob.dfr)∈L):h.get b=some .dfr:=(S.own _ a).2
theorem rY{Q:gp}{k:List Fr}{rc:Option (Value×Bool)}{b:Code}{f:Type}(I:f->(Nat->Value)->List Deferred->Hp->Prop)(m:f->Nat)
 (o: ∀a,(∀g c i h',m g<m a->I g c i h'->Run E (lim E) cx Q (.code (.loop b)::k) .normal (LL n c i rc) h')-> ∀ρ d h,I a ρ d h->Run E (lim E) cx Q (.code b:: .code (.loop b)::k) .normal (LL n ρ d rc) h):
 ∀a ρ d h,I a ρ d h->Run E (lim E) cx Q (.code (.loop b)::k) .normal (LL n ρ d rc) h:=by
 have e: ∀j a,m a<j-> ∀ρ d h,I a ρ d h->Run E (lim E) cx Q (.code (.loop b)::k) .normal (LL n ρ d rc) h:=by
  intro j
  induction j with
  |zero=>omega| succ j p=>grind[cD]
 intro a ρ d h l;exact e (m a+1) a (by omega) ρ d h l
def dJ(a:List Nat):List (Nat×Ob):=a.map fun b=>(b,Ob.dfr)
theorem ij{E:Env}{M:Nat->Prop}{h0:Hp}{L:List (Nat×Ob)}{G:List GL}{m:Option Value}{P:Option Value->Hp->Prop}: ∀(a:List Nat) (h:Hp),St M h0 h (dJ a++L) G->(∀h',St M h0 h' L G->P m h')->UnQ E (a.map rZ) m h P
 | [],h,S,c=>cd (c h S)|b::a,h,S,c=>un_dfr (S.getD m0) (ij a _ (S.dead) c)
theorem vp{ρ:Nat->Value}{t:Tmp}{ty:TypeId}(a:t<n)(b:fV E h ty (ρ t)=some v):bR E (tab n ρ) h [.cell t ty]=some [v]:=by simp only [bR,nU,if_pos a,b]
theorem kW{b:Nat}{s:Option Nat}(a:E.agg t=some false)(c:h.load b o 1=some [v]):fV E h t (.pointer (some ⟨b,o,s⟩))=some v:=by rw [load_q,a,loadq_f,c];rfl
theorem bj{b:Nat}{s:Option Nat}(a:E.agg t=some true)(c:E.sz t=some n)(d:h.load b o n=some l):fV E h t (.pointer (some ⟨b,o,s⟩))=some (.agg ⟨l⟩):=by rw [load_q,a,c,loadq_t,d];rfl
theorem St.call1(S:St M h0 h L G){b:Nat}{o o':Ob}(k:L[i]? =some (b,o))(f:Mo (· =b) h h')(q:Has h' b o'):St M h0 h' (L.set i (b,o')) G:=by
 have r:=S.own _ (Xa k);have g:(keys L G)[i]? =some b:=nX k;refine⟨S.fr.trans f (fun c l=>by grind),fun p a=>?_,fun p a=>⟨(S.gown p a).1.of_get fun c l=>?_,(S.gown p a).2⟩,?_⟩
 . rcases n8 a with rfl|⟨j,m,a⟩
   . grind
   . have d:=S.own p (Xa a);refine⟨d.1,d.2.of_get (f.get _ (d.2.lt S.ok) fun e=>m ?_)⟩;have n:(keys L G)[j]? =some b:=(by rw [nX a];rw [e]);exact qk S.apart n g
 . refine f.get c ((S.gown p a).1.lt S.ok l) fun e=>?_;subst e;have d:=S.apart;unfold keys at d;rw [List.nodup_append]at d;exact d.2.2 c (List.mem_map.2 ⟨_,Xa k,rfl⟩) c (List.mem_filterMap.2 ⟨p,a,l⟩) rfl
 . have:keys (L.set i (b,o')) G=keys L G:=(by unfold keys;congr 1;rw [List.map_set];refine Xb fun j=>?_;grind);rw [this];exact S.apart
theorem St.init1(a:OZ h){b:Nat}{o:Ob}(c:Has h b o):St (· =b) h h [(b,o)] []:=(St.init a).push (.inr rfl) c (by simp [keys])
theorem wrap8(z:Int):0<=an .u8 z/\an .u8 z<256:=by
 unfold an;cases z with
 | ofNat m=>
   simp only [hf,sgn,pw];cases a:Nat.blt m 256 with
   | true=>rw [Nat.blt_eq]at a;grind| false=>grind
 | negSucc m=>simp only [hf,sgn,pw,cond_false];grind
theorem aJ{a:List (Nat×Tch)}{l:List (Nat×Nat)}:cR a ((i,j)::l)=(jt (cZ i a) (cZ j a)&&cR a l):=rfl
theorem ar{a:Nat}(e:leaves h h' a=true):jt (some (.blk a)) (some (.run h h'))=true:=e
theorem au{a:Nat}(e:leaves h h' a=true):jt (some (.run h h')) (some (.blk a))=true:=e
theorem c8{a b:Nat}(e:a≠b):jt (some (.blk a)) (some (.blk b))=true:=by grind[jt,Xl,absurd,Nat.eq_of_beq_eq_true]
theorem aT{b:Tch}{l:List (Nat×Tch)}:cZ i ((i,b)::l)=some b:=by simp [cZ,Xf]
theorem aI{b:Tch}{l:List (Nat×Tch)}(h:i≠k):cZ i ((k,b)::l)=cZ i l:=by grind[Xl,cS,cZ]
theorem St.leaves{M:Nat->Prop}{h0 h h':Hp}{L:List (Nat×Ob)}{G:List GL}(S:St M h0 h L G){b c:Nat}{o:Ob}(a:(c,o)∈L)(f:Mo (· =b) h h')(d:c≠b):leaves h h' c=true:=
 pR (f.get c ((S.own _ a).2.lt S.ok) d)
theorem aH{x:Option Tch}{a:List (Nat×Tch)}(h:i≠k):cZ i (iR k a x)=cZ i a:=by
 cases x with
 |none=>rfl|some b=>exact aI h
theorem aY{b:Bool}{a:Operand}:cQ ρ b (.load t a) h h'=(match ρ a with| .pointer (some a)=>some (.blk a.block)|_=>none):=by simp only [cQ,dN,jR,fJ,touch,cond_false];grind
theorem bC{f:Operand}{as:Array Operand}{ts:Array TypeId}:cQ ρ false (.call ⟨.value f,as,ts⟩) h h'=some (.run h h'):=rfl
theorem aQ{b:Bool}:cQ ρ b (.alloc t) h h'=some (.blk h.n):=rfl
theorem St.gset     (S:St M h0 h L G)       (r:G[j]? =some (v,1,vs)) (P:i<vs.length) (D:E.sz t=some 1):
 ∃b,mQ (some 1) v (.int kd i)=some (.pointer (some ⟨b,i,none⟩))/\ ∀x,Fl x-> ∃h',jV E h t (.pointer (some ⟨b,i,none⟩)) x=some h'/\St M h0 h' L (G.set j (v,1,vs.set i x)):=by
 obtain⟨F,k⟩:=S.gown _ (Xa r);rcases F with⟨_,s⟩|⟨b,n,A,s,B⟩
 . grind
 . simp only []at A s B;subst A;have Q:n=vs.length:=(by omega);refine⟨b,?_,fun x u=>?_⟩
   . grind[ou,iD,putI]
   . obtain ⟨y,H,l⟩:=B.store S.ok Nat.one_ne_zero (o:=i) (vs:=[x]) (by simp;omega) (by simp [u.2.1]);have e:lay vs i [x]=vs.set i x:=(by refine Xb fun j=>?_;rw [lC (by simp;omega),List.getElem?_set];grind);rw [e]at l;refine⟨h.put b y,?_,?_⟩
     . have:jV E h t (.pointer (some ⟨b,i,none⟩)) x=h.store b i [x]:=(by simp only [jV,D];have I:ae x=[x]:=u.1;have J:(bif Xl (ae x).length 1 then h.store b i (ae x)else none)=h.store b i [x]:=(by rw [I];rfl);revert J;cases x<;>first|exact fun h=>h|exact absurd rfl (u.2.2 _));grind
     . have m:eo (Value.slice (some ⟨b,0,some 1⟩) n n,1,vs)=some b:=rfl;have C:=k b m;have hlt:=(List.getElem?_eq_some_iff.1 r).1;have K: ∀c∈L.map Prod.fst,c≠b:=fun c w e=>(by have H:=S.apart;grind[keys,List.nodup_append,Xa]);have f:keys L (G.set j (Value.slice (some ⟨b,0,some 1⟩) n n,1,vs.set i x))=keys L G:=by
        unfold keys;congr 1;have: ∀(G:List GL) (j:Nat) (p q:GL),G[j]? =some p->eo q=eo p->(G.set j q).filterMap eo=G.filterMap eo:=by
         intro G
         induction G with
         |nil=>grind| cons g G N=>
           intro j p q r R;cases j with
           |zero=>grind|succ j=>grind
        exact this G j _ _ r rfl
       refine⟨S.fr.put C y,fun p d=>⟨(S.own p d).1,(S.own p d).2.of_get (dA fun e=>K _ (List.mem_map_of_mem d) e.symm)⟩,fun p d=>?_,by rw [f];exact S.apart⟩;rcases n8 d with rfl|⟨T,z,d⟩
       . exact⟨.inr ⟨b,n,rfl,by simpa using s,l⟩,fun c w=>by cases w;exact C⟩
       . refine⟨(S.gown p (Xa d)).1.of_get fun c w=>dA fun e=>z ?_,(S.gown p (Xa d)).2⟩;subst e;have l:=S.apart;unfold keys at l;have U:=(List.nodup_append.1 l).2.1;have O: ∀(G:List GL) (a c:Nat) (p q:GL),(G.filterMap eo).Nodup->G[a]? =some p->G[c]? =some q-> ∀x,eo p=some x->eo q=some x->a=c:=by
          intro G
          induction G with
          |nil=>grind| cons g G N=>grind
         grind
def JP(n:Nat)(d:List Deferred)(rc:Option (Value×Bool))(J:(Nat->Value)->Hp->Prop):gp:=fun e l h=>e=.normal/\ ∃a,l=LL n a d rc/\J a h
theorem xm{Q:gp}{k:List Fr}{d:List Deferred}{rc:Option (Value×Bool)}{J:(Nat->Value)->Hp->Prop}{c:Code}{l:Loc}
 (a:Run E (lim E) cx (JP n d rc J) [.code c] .normal l h) (b: ∀ρ h,J ρ h->Run E (lim E) cx Q k .normal (LL n ρ d rc) h):Run E (lim E) cx Q (.code c::k) .normal l h:=by
 obtain⟨j,m,e,f,g⟩:=a;obtain⟨rfl,ρ,rfl,i⟩:=g;exact⟨_,_,_,f,b ρ e i⟩
theorem s8{Q:gp}{k:List Fr}{d:List Deferred}{rc:Option (Value×Bool)}(J:(Nat->Value)->Hp->Prop){a b:Code}{c:Nat->Value}{t:Bool}
 (f:t=true->Run E (lim E) cx (JP n d rc J) [.code a] .normal (LL n c d rc) h) (g:t=false->Run E (lim E) cx (JP n d rc J) [.code b] .normal (LL n c d rc) h)
 (e: ∀ρ h,J ρ h->Run E (lim E) cx Q k .normal (LL n ρ d rc) h):CStep E cx Q a b k (LL n c d rc) h (.bool t):=by
 cases t with
 |true=>exact xm (f rfl) e|false=>exact xm (g rfl) e
theorem dH{d:List Deferred}{rc:Option (Value×Bool)}{J:(Nat->Value)->Hp->Prop}{ρ:Nat->Value}(a:J ρ h):JP n d rc J .normal (LL n ρ d rc) h:=⟨rfl,ρ,rfl,a⟩
theorem vV{E:Env}{R:Rec}{cx:Cx}{Q:gp}{k2:List Fr}: ∀(m:List Fr) (e:Ex) (l:Loc) (h:Hp),Run E R cx (fun e l h=>Run E R cx Q k2 e l h) m e l h->Run E R cx Q (m++k2) e l h
 | [],e,l,h,d=>d| f ::m,e,l,h,d=>by
   have g:=vV (E:=E) (R:=R) (cx:=cx) (Q:=Q) (k2:=k2) m;cases f with
   | code c=>
     cases e with
     |normal=>obtain⟨n,j,k,a,b⟩:=d;exact⟨n,j,k,a,g _ _ _ b⟩
     |exit i=>exact g _ _ _ d|ret=>exact g _ _ _ d|pan v=>exact g _ _ _ d
   | blk id=>
     cases e with
     |normal=>exact g _ _ _ d| exit i=>simp only [Run,List.cons_append]at d⊢;grind|ret=>exact g _ _ _ d|pan v=>exact g _ _ _ d
   | ops a p=>
     cases e with
     |normal=>obtain⟨n,j,k,a,b⟩:=d;exact⟨n,j,k,a,g _ _ _ b⟩
     |exit i=>exact g _ _ _ d|ret=>exact g _ _ _ d|pan v=>exact g _ _ _ d
   | kill t=>
     cases e with
     |normal=>obtain⟨b,r,c,x,y,z⟩:=d;exact⟨b,r,c,x,y,g _ _ _ z⟩
     |exit i=>exact g _ _ _ d|ret=>exact g _ _ _ d|pan v=>exact g _ _ _ d
   | opsD a q s p i u=>
     cases e with
     |normal=>obtain⟨j,k,o,a,b,c⟩:=d;exact⟨j,k,o,a,b,g _ _ _ c⟩
     |exit i=>exact g _ _ _ d|ret=>exact g _ _ _ d|pan v=>exact g _ _ _ d
theorem run_post{R:Rec}{Q n:gp}(hq: ∀e l h,Q e l h->n e l h): ∀(k:List Fr) (e:Ex) (l:Loc) (h:Hp),Run E R cx Q k e l h->Run E R cx n k e l h
 | k, e, l,h,d=>by
   have:=vV (E:=E) (R:=R) (cx:=cx) (Q:=n) (k2:=[]) k e l h;rw [List.append_nil]at this;refine this ?_;revert d
   induction k generalizing e l h with
   |nil=>intro d;exact hq _ _ _ d| cons f k g=>
     intro d;have g:=fun e l h d=>g e l h (by have:=vV (E:=E) (R:=R) (cx:=cx) (Q:=n) (k2:=[]) k e l h;grind) d;cases f with
     | code c=>
       cases e with
       |normal=>obtain⟨o,j,m,a,b⟩:=d;exact⟨o,j,m,a,g _ _ _ b⟩
       |exit i=>exact g _ _ _ d|ret=>exact g _ _ _ d|pan v=>exact g _ _ _ d
     | blk id=>
       cases e with
       |normal=>exact g _ _ _ d| exit i=>
         simp only [Run]at d⊢;by_cases r:i=id
         . rw [if_pos r]at d⊢;exact g _ _ _ d
         . rw [if_neg r]at d⊢;exact g _ _ _ d
       |ret=>exact g _ _ _ d|pan v=>exact g _ _ _ d
     | ops a s=>
       cases e with
       |normal=>obtain⟨o,j,m,a,b⟩:=d;exact⟨o,j,m,a,g _ _ _ b⟩
       |exit i=>exact g _ _ _ d|ret=>exact g _ _ _ d|pan v=>exact g _ _ _ d
     | kill t=>
       cases e with
       |normal=>obtain⟨b,u,c,x,y,z⟩:=d;exact⟨b,u,c,x,y,g _ _ _ z⟩
       |exit i=>exact g _ _ _ d|ret=>exact g _ _ _ d|pan v=>exact g _ _ _ d
     | opsD a q w s i A=>
       cases e with
       |normal=>obtain⟨j,m,p,a,b,c⟩:=d;exact⟨j,m,p,a,b,g _ _ _ c⟩
       |exit i=>exact g _ _ _ d|ret=>exact g _ _ _ d|pan v=>exact g _ _ _ d
theorem rx{Q:gp}{k:List Fr}{d:List Deferred}{rc:Option (Value×Bool)}{b:Code}{id:Nat}{f:Type}(J:(Nat->Value)->Hp->Prop)(I:f->(Nat->Value)->Hp->Prop)(m:f->Nat)
 (j: ∀a,(∀i c h',m i<m a->I i c h'->Run E (lim E) cx (JP n d rc J) [.code (.loop b),.blk id] .normal (LL n c d rc) h')-> ∀ρ h,I a ρ h->Run E (lim E) cx (JP n d rc J) [.code b,.code (.loop b),.blk id] .normal (LL n ρ d rc) h)
 (o: ∀ρ h,J ρ h->Run E (lim E) cx Q k .normal (LL n ρ d rc) h) (a:f) {ρ:Nat->Value}  (p:I a ρ h):Run E (lim E) cx Q (.code (.loop b):: .blk id::k) .normal (LL n ρ d rc) h:=by
 have q:=aW I m j a ρ h p;refine vV [.code (.loop b),.blk id] _ _ _ (run_post (fun e l h g=>?_) _ _ _ _ q);obtain⟨rfl,ρ,rfl,g⟩:=g;exact o ρ h g
theorem lS{ops:List Oper}{ord:List Nat}{os:List Oper}(a:((ops.any uv||uz ops)&&ops.all (jn ops.length))=true)(b:ordL ops=ord)(c:eh ops ord ord=os):cu ops=os:=by unfold cu;grind
theorem St.gblk(S:St M h0 h L G){p:GL}(d:p∈G)(a:aq p.1 c):(h0.n<=c\/M c)/\c∉L.map Prod.fst:=by
 have f:eo p=some c:=by
  rcases(S.gown p d).1 with⟨e,_⟩|⟨b,n,e,_⟩
  . rw [e]at a;exact a.elim
  . obtain⟨v,k,i⟩:=p;simp only []at e a;subst e;exact congrArg some a
 refine⟨(S.gown p d).2 c f,fun j=>?_⟩;have g:=S.apart;unfold keys at g;grind
structure Arc where
 s:Nat
 t:Nat
 w:Nat
deriving Inhabited
def c7(a:Arc):List Value:=[.int .i64 a.s,.int .i64 a.t,.int .i64 a.w]
theorem jC(a:Arc):(c7 a).length=3:=rfl
structure Gra where
 nodes:Nat
 X:List Int
 Y:List Int
 arcs:List Arc
structure Good(g:Gra):Prop where
 n1:1<=g.nodes
 n2:g.nodes<=12
 lX:g.X.length=g.nodes
 lY:g.Y.length=g.nodes
 cX: ∀x∈g.X,-2147483648<=x/\x<=2147483647
 cY: ∀x∈g.Y,-2147483648<=x/\x<=2147483647
 many:g.arcs.length<=100
 arcs: ∀a∈g.arcs,a.s<g.nodes/\a.t<g.nodes/\a.w<=2147483647
structure kQ(g:Gra):Prop where
 n1:1<=g.nodes
 n2:g.nodes<=300
 lX:g.X.length=g.nodes
 lY:g.Y.length=g.nodes
 cX: ∀x∈g.X,-2147483648<=x/\x<=2147483647
 cY: ∀x∈g.Y,-2147483648<=x/\x<=2147483647
 many:g.arcs.length<=400
 arcs: ∀a∈g.arcs,a.s<g.nodes/\a.t<g.nodes/\a.w<=2147483647
theorem Good.b{g:Gra}(h:Good g):kQ g:=⟨h.n1,Xc h.n2 (by decide),h.lX,h.lY,h.cX,h.cY,Xc h.many (by decide),h.arcs⟩
structure dQ(h:Hp)(vx vy va:Value)(g:Gra):Prop where
 X:az h 1 (encI .i64) vx g.X
 Y:az h 1 (encI .i64) vy g.Y
 A:az h 3 c7 va g.arcs
theorem dQ.gr{h h':Hp}{b c d:Value}{g:Gra}(a:dQ h b c d g)(r:Gr h h'):dQ h' b c d g:=⟨a.X.gr r,a.Y.gr r,a.A.gr r⟩
def jh(g:Gra)(a b c:Value):Value:=.agg ⟨[.int .i64 g.nodes,a,b,c]⟩
structure Pl where
 i:Int
 f:Int
 c:Int
 n:Int
 lo:Int
 hi:Int
def lM(p:Pl):List Value:=[.int .i64 p.i,.int .i64 p.f,.int .i64 p.c,.int .i64 p.n,.int .i64 p.lo,.int .i64 p.hi]
theorem encP_len(p:Pl):(lM p).length=6:=rfl
end Go.Ab

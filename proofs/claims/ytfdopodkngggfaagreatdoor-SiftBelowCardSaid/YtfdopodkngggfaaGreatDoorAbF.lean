/- A deterministic evaluator of the model's code, and that the model follows it (part 6). -/
import Derived.Test.YtfdopodkngggfaaGreatDoorAbE
open And renaming intro->zM
open List renaming mem_of_getElem?->zO,length_append->Xb,filterMap_cons_some->Xd,ext_getElem?->Xe,filterMap_cons->Xf,length_nil->Xj,getElem?_set->Xk,nodup_append->Xm,mem_append_right->Xo,length_cons->Xq,getElem?_map->Xu,filterMap_append->Xw,getElem?_eq_none->Xx,mem_cons_of_mem->Xy,mem_append_left->Xz,append_nil->XA,mem_map_of_mem->XC,flatMap_cons->XE,take_length->XF,sublist_cons_self->XG,replicate->XJ,length_replicate->XK,drop_zero->XL,getElem?_append->XM
open Nat renaming ble_eq_true_of_le->Xa,beq_refl->Xc,ble->Xg,le_refl->Xh,le_of_ble_eq_true->Xi,le_mul_of_pos_right->Xl,le_trans->Xn,succ_mul->Xp,eq_of_mul_eq_mul_right->Xr,beq->Xs,lt_of_lt_of_le->Xt,mul_le_mul_right->XB,add_mul->XH,eq_of_beq_eq_true->XI
open Bool renaming and_eq_true->Xv
open Int renaming natCast_nonneg->XD
open Prod renaming fst->XN
set_option maxHeartbeats 400000
set_option linter.defProp false
set_option linter.unusedVariables false
set_option linter.unusedSimpArgs false
namespace Go.Ab
def argEq:Value->Value->Bool
 | .int k a,.int c b=>jC k c&&iH a b
 | .bool a,.bool b=>bif a then b else !b
 | .string s,.string u=>gQ (aE s) (aE u)
 |_,_=>false
def ot:List Value->List Value->Bool
 | [],[]=>true
 |a::l,b::m=>argEq a b&&ot l m
 |_,_=>false
def orcOf:List (Nat×List Value×Value)->Nat->List Value->Option Value
 | [],_,_=>none
 |(f,as,v)::l,g,a=>bif Xs f g&&ot as a then some v else orcOf l g a
theorem xQ{a b:Value}(h:argEq a b=true):a=b:=by
 unfold argEq at h
 split at h
 . rename_i k m c n
   simp only [Xv]at h
   have d:k=c:=by simpa [fN]using h.1
   have e:m=n:=by simpa [gP]using h.2
   rw [d,e]
 . rename_i a b
   cases a<;>cases b<;>first|rfl|cases h
 . rename_i s u
   have this:s.data.toList=u.data.toList:=by
    have:=h
    rw [i9]at this
    simpa [aE]using this
   cases s with|mk a=>cases u with|mk b=>rw [show a=b from Array.ext' this]
 . cases h
theorem vC: ∀{a b:List Value},ot a b=true->a=b
 | [],[],_=>rfl
 | [],_::_,h=>by simp [ot]at h
 |_::_,[],h=>by simp [ot]at h
 | a::x,b::y,h=>by
   simp only [ot,Xv]at h
   rw [vC h.2,xQ h.1]
theorem vu{P:Nat->List Value->Value->Prop}: ∀{l:List (Nat×List Value×Value)},(∀e∈l,P e.1 e.2.1 e.2.2)-> ∀{g:Nat} {args:List Value} {v:Value},orcOf l g args=some v->P g args v
 | [],_,g,args,v,h=>by cases h
 | (f,as,x)::l,b,g,args,v,h=>by
   simp only [orcOf]at h
   cases a:Xs f g&&ot as args with
   | true=>
     rw [a]at h
     cases h
     simp only [Xv]at a
     have c:=XI a.1
     have d:=vC a.2
     subst c
     subst d
     exact b _ (List.mem_cons_self)
   | false=>
     rw [a]at h
     exact vu (fun e i=>b e (Xy _ i)) h
def isVal(v:Value)(r:Option (Out×Option (Value×Bool)×Hp)):Bool:=match r with
 |some (.ret u,none,_)=>argEq u v
 |_=>false
theorem isVal_ret{v:Value}{r:Option (Out×Option (Value×Bool)×Hp)}(h:isVal v r=true): ∃a,r=some (.ret v,none,a):=by
 unfold isVal at h
 split at h
 . rw [xQ h];exact⟨_,rfl⟩
 . cases h
def lI(E:Env)(P:Program)(e:Nat×List Value×Value):Prop:=(∃a,E.fn e.1=some a/\a.body.isSome=true)/\OrcAt P e.1 e.2.1 e.2.2
theorem yv{E:Env}{P:Program}(c:EOk E P){n:Nat}{f:Nat}{args:List Value}{v:Value}(b:(args.all cE&&cE v)=true)(a:isVal v ((runK E n).call f args none hp0)=true):lI E P (f,args,v):=by
 simp only [Xv]at b
 obtain⟨d,a⟩:=isVal_ret a
 rw [runK_call]at a
 exact zD c b.1 b.2 a
theorem lI.with{E:Env}{P:Program}{o:Nat->List Value->Option Value}{e:Nat×List Value×Value}(k:lI E P e):lI (pG E o) P e:=k
theorem lI.without{E:Env}{P:Program}{o:Nat->List Value->Option Value}{e:Nat×List Value×Value}(k:lI (pG E o) P e):lI E P e:=k
theorem eok_table{E:Env}{P:Program}(b:EOk E P){l:List (Nat×List Value×Value)}(c: ∀e∈l,lI E P e):EOk (pG E (orcOf l)) P:=
 eok_with b fun _ _ _ h=>vu (P:=fun g a v=>lI E P (g,a,v)) c h
end Go.Ab

namespace Go.Ab

inductive Ob where
 |row (l:List Value) (md:Nat)
 |map (es:List (Value×Value×Nat)) (c:Nat)
 |loop (x:d9)
 |dfr
def Has(h:Hp)(b:Nat):Ob->Prop
 | .row l a=>Row h b l a
 | .map d c=>h.get b=some (.map d c)
 | .loop x=>h.get b=some (.loop x)
 | .dfr=>h.get b=some .dfr
theorem Row.of_get{h f:Hp}{b:Nat}{l:List Value}{md:Nat}(e:f.get b=h.get b)(k:Row h b l md):Row f b l md:=by
 obtain⟨t,el,a,c,d⟩:=k;exact⟨t,el,by rw [e];exact a,c,d⟩
theorem Has.of_get{h a:Hp}{b:Nat}{o:Ob}(e:a.get b=h.get b)(k:Has h b o):Has a b o:=by
 cases o with
 |row l d=>exact Row.of_get e k
 |map f c=>exact e.trans k
 |loop x=>exact e.trans k
 |dfr=>exact e.trans k
theorem Has.lt{h:Hp}(a:h.t.Sized h.n){b:Nat}{o:Ob}(k:Has h b o):b<h.n:=by
 cases o with
 |row l d=>exact Row.lt a k
 |map e c=>exact gJ a k
 |loop x=>exact gJ a k
 |dfr=>exact gJ a k
theorem Has.some{h:Hp}{b:Nat}{o:Ob}(k:Has h b o):(h.get b).isSome=true:=by
 cases o with
 |row l d=>obtain⟨t,el,a,_⟩:=k;rw [a];rfl
 |map e c=>rw [show h.get b=_ from k];rfl
 |loop x=>rw [show h.get b=_ from k];rfl
 |dfr=>rw [show h.get b=_ from k];rfl

structure Mo(M:Nat->Prop)(h h':Hp):Prop where
 ok0:h.t.Sized h.n
 ok:h'.t.Sized h'.n
 n:h.n<=h'.n
 get: ∀b,b<h.n-> ¬M b->h'.get b=h.get b
 lo: ∀x,x<=h.n->x<=h.lo->(∀b,M b->x<=b)->x<=h'.lo
abbrev NoM:Nat->Prop:=fun _=>False
theorem Gr.fr{M:Nat->Prop}{h a:Hp}(g:Gr h a):Mo M h a:=⟨g.ok0,g.ok,g.n,fun b c _=>g.get b c,fun x d e _=>g.lo x d e⟩
theorem Mo.gr{h a:Hp}(g:Mo NoM h a):Gr h a:=⟨g.ok0,g.ok,g.n,fun b c=>g.get b c (fun x=>x),fun x d e=>g.lo x d e (fun _ h=>h.elim)⟩
theorem Mo.refl{M:Nat->Prop}{h:Hp}(a:h.t.Sized h.n):Mo M h h:=(Gr.refl a).fr
theorem Mo.trans{M M':Nat->Prop}{a b c:Hp}(x:Mo M a b)(y:Mo M' b c)(e: ∀i,M' i->M i\/a.n<=i):Mo M a c:=
 ⟨x.ok0,y.ok,Xn x.n y.n,fun i f g=>(y.get i (Xt f x.n) (fun d=>(e i d).elim g (fun h=>by omega))).trans (x.get i f g),
  fun i k m l=>y.lo i (Xn k x.n) (x.lo i k m l) fun j n=>(e j n).elim (l j) (fun h=>by omega)⟩
theorem Mo.mono{M M':Nat->Prop}{a b:Hp}(x:Mo M a b)(c: ∀i,M i->M' i):Mo M' a b:=
 ⟨x.ok0,x.ok,x.n,fun i d e=>x.get i d (fun h=>e (c i h)),fun i f g k=>x.lo i f g fun j l=>k j (c j l)⟩
theorem Mo.new{M:Nat->Prop}{a h:Hp}(g:Mo M a h)(x:Blk):Mo M a (h.new x):=g.trans (M':=NoM) (Gr.new g.ok x).fr (fun _ h=>h.elim)
theorem Mo.put{M:Nat->Prop}{a h:Hp}(g:Mo M a h){b:Nat}(c:a.n<=b\/M b)(x:Blk):Mo M a (h.put b x):=by
 refine g.trans (M':=fun i=>i=b) ⟨g.ok,put_ok g.ok b x,Xh _,fun i j d=>cd (fun e=>d e.symm),fun i k l f=>?_⟩ (fun i h=>by subst h;exact c.symm)
 show i<=dU b h.lo
 have:=f b rfl
 unfold dU
 cases Xg b h.lo<;>simp<;>omega
theorem Mo.has{M:Nat->Prop}{a h:Hp}(g:Mo M a h){b:Nat}{o:Ob}(k:Has a b o)(c: ¬M b):Has h b o:=Has.of_get (g.get b (k.lt g.ok0) c) k

abbrev GL:=Value×Nat×List Value
def dJ:GL->Option Nat
 |(.slice (some a) _ _,_,_)=>some a.block
 |_=>none
def fG(h:Hp)(p:GL):Prop:=(p.1=.slice none 0 0/\p.2.2=[])\/ ∃b n,p.1=.slice (some ⟨b,0,some p.2.1⟩) n n/\n*p.2.1=p.2.2.length/\Row h b p.2.2 1
def keys(L:List (Nat×Ob))(G:List GL):List Nat:=L.map XN++G.filterMap dJ

structure St(M:Nat->Prop)(h0 h:Hp)(L:List (Nat×Ob))(G:List GL):Prop where
 fr:Mo M h0 h
 own: ∀p∈L,(h0.n<=p.1\/M p.1)/\Has h p.1 p.2
 gown: ∀p∈G,fG h p/\ ∀b,dJ p=some b->h0.n<=b\/M b
 apart:(keys L G).Nodup

section
variable{M:Nat->Prop}{h0 h:Hp}{L:List (Nat×Ob)}{G:List GL}
theorem fG.of_get{c:Hp}{p:GL}(k:fG h p)(e: ∀b,dJ p=some b->c.get b=h.get b):fG c p:=by
 rcases k with k|⟨b,n,a,d,f⟩
 . exact .inl k
 . refine .inr ⟨b,n,a,d,Row.of_get (e b ?_) f⟩
   obtain⟨v,k,g⟩:=p
   simp only []at a
   subst a
   rfl
theorem fG.lt(d:h.t.Sized h.n){p:GL}(k:fG h p){b:Nat}(c:dJ p=some b):b<h.n:=by
 rcases k with k|⟨j,n,a,e,f⟩
 . obtain⟨v,g,i⟩:=p
   obtain⟨a,e⟩:=k
   simp only []at a
   subst a
   cases c
 . obtain⟨v,g,i⟩:=p
   simp only []at a
   subst a
   cases c
   exact Row.lt d f
theorem iV{p:Nat×Ob}(a:p∈L):p.1∈keys L G:=Xz _ (XC a)
theorem gm{p:GL}{b:Nat}(a:p∈G)(c:dJ p=some b):b∈keys L G:=Xo _ (List.mem_filterMap.2 ⟨p,a,c⟩)
theorem St.key_lt(S:St M h0 h L G){b:Nat}(a:b∈keys L G):b<h.n:=by
 unfold keys at a
 rcases List.mem_append.1 a with a|a
 . obtain⟨p,c,rfl⟩:=List.mem_map.1 a
   exact(S.own p c).2.lt S.fr.ok
 . obtain⟨p,c,d⟩:=List.mem_filterMap.1 a
   exact(S.gown p c).1.lt S.fr.ok d
theorem St.init(a:h.t.Sized h.n):St M h h [] []:=⟨Mo.refl a,fun _ h=>(by cases h),fun _ h=>(by cases h),.nil⟩
theorem St.ok(S:St M h0 h L G):h.t.Sized h.n:=S.fr.ok
theorem St.gr(S:St NoM h0 h L G):Gr h0 h:=S.fr.gr
theorem St.push(S:St M h0 h L G){b:Nat}{o:Ob}(c:h0.n<=b\/M b)(d:Has h b o)(e:b∉keys L G):St M h0 h ((b,o)::L) G:=
 ⟨S.fr,fun p a=>by
  rcases List.mem_cons.1 a with rfl|a
  . exact⟨c,d⟩
  . exact S.own p a,S.gown,List.nodup_cons.2 ⟨e,S.apart⟩⟩
theorem St.step(S:St M h0 h L G){M':Nat->Prop}{c:Hp}(f:Mo M' h c)(g: ∀b,M' b->M b\/h0.n<=b)(d: ∀b∈keys L G,¬M' b):St M h0 c L G:=
 ⟨S.fr.trans f g,fun p a=>⟨(S.own p a).1,f.has (S.own p a).2 (d _ (iV a))⟩,
  fun p a=>⟨(S.gown p a).1.of_get fun b e=>f.get b ((S.gown p a).1.lt S.ok e) (d b (gm a e)),(S.gown p a).2⟩,S.apart⟩
theorem St.call(S:St M h0 h L G){a:Hp}(g:Gr h a):St M h0 a L G:=S.step (M':=NoM) g.fr (fun _ h=>h.elim) (fun _ _ h=>h)
theorem St.new(S:St M h0 h L G){x:Blk}{o:Ob}(a:Has (h.new x) h.n o):St M h0 (h.new x) ((h.n,o)::L) G:=
 (S.call (Gr.new S.ok x)).push (.inl S.fr.n) a (fun b=>by have:=S.key_lt b;omega)
theorem St.newG(S:St M h0 h L G){x:Blk}{k n:Nat}{vs:List Value}(d:n*k=vs.length)(f:Row (h.new x) h.n vs 1):St M h0 (h.new x) L ((.slice (some ⟨h.n,0,some k⟩) n n,k,vs)::G):=by
 have a:=S.call (Gr.new S.ok x)
 refine⟨a.fr,a.own,fun p c=>?_,?_⟩
 . rcases List.mem_cons.1 c with rfl|c
   . exact⟨.inr ⟨_,n,rfl,d,f⟩,fun b g=>by cases g;exact .inl S.fr.n⟩
   . exact a.gown p c
 . unfold keys
   have e:List.filterMap dJ ((Value.slice (some ⟨h.n,0,some k⟩) n n,k,vs)::G)=h.n::List.filterMap dJ G:=rfl
   rw [e]
   refine(List.perm_middle.nodup_iff).2 (List.nodup_cons.2 ⟨fun i=>?_,S.apart⟩)
   have:=S.key_lt i
   omega
theorem St.nilG(S:St M h0 h L G){k:Nat}:St M h0 h L ((.slice none 0 0,k,[])::G):=
 ⟨S.fr,S.own,fun p a=>by
  rcases List.mem_cons.1 a with rfl|a
  . exact⟨.inl ⟨rfl,rfl⟩,fun b c=>by cases c⟩
  . exact S.gown p a,S.apart⟩
theorem lg{α:Type}{l:List α}{i:Nat}{x y:α}(h:y∈l.set i x):y=x\/ ∃j,j≠i/\l[j]? =some y:=by
 rw [List.mem_iff_getElem?]at h
 obtain⟨j,a⟩:=h
 rw [Xk]at a
 split at a
 . split at a
   . cases a;exact .inl rfl
   . cases a
 . exact .inr ⟨j,by omega,a⟩
theorem oK{α:Type}{l:List α}(h:l.Nodup){i j:Nat}{x:α}(f:l[i]? =some x)(g:l[j]? =some x):i=j:=by
 have k:=(List.getElem?_eq_some_iff.1 f)
 have m:=(List.getElem?_eq_some_iff.1 g)
 obtain⟨a,d⟩:=k
 obtain⟨b,e⟩:=m
 rcases Nat.lt_trichotomy i j with c|c|c
 . exact absurd (d.trans e.symm) (List.pairwise_iff_getElem.1 h i j a b c)
 . exact c
 . exact absurd (e.trans d.symm) (List.pairwise_iff_getElem.1 h j i b a c)
theorem n9{L:List (Nat×Ob)}{G:List GL}{i:Nat}{p:Nat×Ob}(a:L[i]? =some p):(keys L G)[i]? =some p.1:=by
 unfold keys
 have:=(List.getElem?_eq_some_iff.1 a).1
 rw [List.getElem?_append_left (by simpa using this),Xu,a];rfl
theorem St.put(S:St M h0 h L G){i b:Nat}{o o':Ob}(f:L[i]? =some (b,o)){x:Blk}(l:Has (h.put b x) b o'):St M h0 (h.put b x) (L.set i (b,o')) G:=by
 have k:=S.own _ (zO f)
 have g:(keys L G)[i]? =some b:=n9 f
 refine⟨S.fr.put k.1 x,fun p a=>?_,fun p a=>⟨(S.gown p a).1.of_get fun c m=>?_,(S.gown p a).2⟩,?_⟩
 . rcases lg a with rfl|⟨j,n,a⟩
   . exact⟨k.1,l⟩
   . have d:=S.own p (zO a)
     refine⟨d.1,d.2.of_get (cd fun e=>n ?_)⟩
     have q:(keys L G)[j]? =some b:=by rw [n9 a];rw [e]
     exact oK S.apart q g
 . refine cd fun e=>?_
   subst e
   have d:=S.apart
   unfold keys at d
   rw [Xm]at d
   exact d.2.2 b (List.mem_map.2 ⟨_,zO f,rfl⟩) b (List.mem_filterMap.2 ⟨p,a,m⟩) rfl
 . have:keys (L.set i (b,o')) G=keys L G:=by
    unfold keys
    congr 1
    rw [List.map_set]
    refine Xe fun j=>?_
    rw [Xk]
    split
    . rename_i e;subst e
      have:=(List.getElem?_eq_some_iff.1 f).1
      rw [if_pos (by simpa using this),Xu,f];rfl
    . rfl
   rw [this];exact S.apart
theorem St.row(S:St M h0 h L G){b:Nat}{l:List Value}{md:Nat}(a:(b,Ob.row l md)∈L):Row h b l md:=(S.own _ a).2
theorem St.ld(S:St M h0 h L G){b o:Nat}{l:List Value}{md:Nat}{v:Value}(a:(b,Ob.row l md)∈L)(c:l[o]? =some v):h.load b o 1=some [v]:=(S.row a).load1 c
theorem St.lds(S:St M h0 h L G){b o n:Nat}{l:List Value}{md:Nat}(a:(b,Ob.row l md)∈L)(c:o+n<=l.length):h.load b o n=some ((l.drop o).take n):=(S.row a).load c
theorem m0{α:Type}{a:α}{l:List α}:a∈a::l:=List.mem_cons_self
theorem m1{α:Type}{a b:α}{l:List α}:a∈b::a::l:=.tail _ m0
theorem m2{α:Type}{a b c:α}{l:List α}:a∈b::c::a::l:=.tail _ m1
theorem m3{α:Type}{a b c d:α}{l:List α}:a∈b::c::d::a::l:=.tail _ m2
theorem m4{α:Type}{a b c d e:α}{l:List α}:a∈b::c::d::e::a::l:=.tail _ m3
theorem m5{α:Type}{a b c d e f:α}{l:List α}:a∈b::c::d::e::f::a::l:=.tail _ m4
theorem m6{α:Type}{a b c d e f g:α}{l:List α}:a∈b::c::d::e::f::g::a::l:=.tail _ m5
theorem m7{α:Type}{a b c d e f g i:α}{l:List α}:a∈b::c::d::e::f::g::i::a::l:=.tail _ m6
theorem St.old(S:St M h0 h L G){b o n:Nat}{l:List Value}(e:h0.load b o n=some l)(a: ¬M b):h.load b o n=some l:=by
 have:=S.fr.get b (bD S.fr.ok0 e) a
 unfold Hp.load at e⊢
 rw [this];exact e
end
end Go.Ab

namespace Go.Ab

def oW(h:Hp)(X:Hp->Option (di×Hp))(F:Nat->Value)(o:Ob):Prop:=
 ∃a,(∀x,X {h with lo:=x}=some (.val (F h.n),({h with lo:=x}:Hp).new a))/\(h.t.Sized h.n->Has (h.new a) h.n o)
section
variable{M:Nat->Prop}{h0 h:Hp}{L:List (Nat×Ob)}{G:List GL}
section
variable{E:Env}{cx:Cx}{o:Oper}{l:Loc}{K:Ex->Loc->Hp->Prop}{X:Hp->Option (di×Hp)}{F:Nat->Value}{ob:Ob}
theorem ae(N:oW h X F ob)(S:St M h0 h L G)(c: ∀a b,St M h0 a ((b,ob)::L) G->h0.n<=b->K .normal (l.put o.dst (F b)) a):eZ E cx o l K (X h):=by
 obtain⟨d,f,g⟩:=N
 have e:X h=_:=f h.lo
 rw [e]
 exact c _ _ (S.new (g S.ok)) S.fr.n
theorem eo{cx:Cx}{Q:eG}{a:List Oper}{q:Nat}{ps:List (Nat×Nat)}{os:List Oper}{i:Nat}{k:List Fr}{c:List (Nat×Tch)}(N:oW h X F ob)(S:St M h0 h L G)
 (e: ∀d b,St M h0 d ((b,ob)::L) G->h0.n<=b->b=h.n->Run E (lim E) cx Q (.opsD a q ps os (i+1) c::k) .normal (l.put o.dst (F b)) d):DQ E cx Q a q ps o os i k l h c (X {h with lo:=h.n}):=by
 obtain⟨f,g,j⟩:=N
 rw [g]
 exact⟨Xa (Xh _),e _ _ (S.new (j S.ok)) S.fr.n rfl⟩
end
theorem bg{v:Value}{t:TypeId}(a: ∀x,v≠ .chan x):oW h (fun h=>boxR h t v) ptrTo (.row (ah v) 1):=by
 refine⟨.cells (Tr.ofList (ah v)) (ah v).length t 1,fun x=>?_,fun b=>oe b _ _ _⟩
 cases v<;>first|rfl|exact absurd rfl (a _)
theorem ax{z:List Value}{t:TypeId}:oW h (fun h=>allocR h t (some z)) ptrTo (.row z 1):=
 ⟨.cells (Tr.ofList z) z.length t 1,fun _=>rfl,fun a=>oe a _ _ _⟩
noncomputable def mapR(h:Hp):Option (di×Hp):=some (.val (.map (some h.n)),h.new (.map [] 0))
theorem AG{E:Env}{ρ:Operand->Value}{h:Hp}{t:TypeId}:aop E ρ h (.makeMap t none)=mapR h:=rfl
theorem pM:oW h mapR (fun b=>.map (some b)) (.map [] 0):=⟨.map [] 0,fun _=>rfl,fun a=>by show(h.new _).get h.n=_;rw [h.get_new _ a,if_pos rfl]⟩
theorem sj(a:List Value): ∀n,(aT a n).length=n*a.length
 |0=>by simp [aT]
 |n+1=>by simp only [aT,Xb,sj a n];rw [Xp];omega
theorem row_blank{h:Hp}(a:h.t.Sized h.n)(z:Value)(n:Nat)(e:TypeId):Row (h.new (.cells (Tr.blank z n n) n e 1)) h.n (XJ n z) 1:=by
 refine⟨Tr.blank z n n,e,?_,?_,fun i=>?_⟩
 . rw [h.get_new _ a,if_pos rfl,XK]
 . rw [XK];exact Tr.sized_blank _ _ _ (Xh _)
 . rw [Tr.get_blank _ _ _ (Xh _),List.getElem?_replicate]
def dX(E:Env)(e:TypeId)(a k:Nat)(b:List Value):Prop:=(∃i,E.ty e=some i/\i.bytes=a/\i.size=k)/\E.zero e=some b/\b.length=k
theorem jR{E:Env}{t e:TypeId}{f k:Nat}{d:List Value}{kd kd':IntKind}{n:Int}(q:E.und t=some (.slice e))(y:dX E e f k d)(h0:0<=n)(A:n.toNat*(f+1)<=70368744177664):
 oW h (fun h=>cP (jd E h t (.int kd n) (.int kd' n))) (fun b=>.slice (some ⟨b,0,none⟩) n.toNat n.toNat) (.row (aT d n.toNat) 1):=by
 obtain⟨⟨i,r,rfl,rfl⟩,s,p⟩:=y
 obtain⟨m,rfl⟩:=Int.eq_ofNat_of_zero_le h0
 have hle:Xg (m*(i.bytes+1)) 70368744177664=true:=Xa A
 have u:Xs d.length i.size=true:=by rw [p];exact Xc _
 have g:natV (.int kd (m:Int))=some m:=rfl
 have j:natV (.int kd' (m:Int))=some m:=rfl
 have v:(Xg m m&&Xg (m*(i.bytes+1)) 70368744177664)=true:=by rw [hle,Xa (Xh _)];rfl
 by_cases w: ∃z,d=[z]
 . obtain⟨z,rfl⟩:=w
   refine⟨.cells (Tr.blank z m m) m e 1,fun x=>?_,fun o=>?_⟩
   . simp only [jd,q,r,s,g,j,v,u,cond_true,cP]
     rfl
   . have:aT [z] (m:Int).toNat=XJ m z:=by
      have: ∀n,aT [z] n=XJ n z:=by intro n;induction n with
       |zero=>rfl
       |succ n B=>simp [aT,B,List.replicate_succ]
      exact this m
     rw [this]
     exact row_blank o z m e
 . refine⟨.cells (Tr.ofList (aT d m)) (m*i.size) e 1,fun x=>?_,fun o=>?_⟩
   . simp only [jd,q,r,s,g,j,v,u,cond_true]
     cases d with
     |nil=>rfl
     | cons a l=>
       cases l with
       |nil=>exact absurd ⟨a,rfl⟩ w
       |cons b l=>rfl
   . have:=oe o (aT d m) e 1
     rw [sj,p]at this
     show Row _ _ (aT d m) 1
     obtain⟨t,el,a,b,c⟩:=this
     exact⟨Tr.ofList (aT d m),e,by rw [h.get_new _ o,if_pos rfl,sj,p],Tr.sized_ofList _,Tr.get_ofList _⟩

theorem St.store(S:St M h0 h L G){E:Env}{t:TypeId}{i b off n md:Nat}{s:Option Nat}{l:List Value}{v:Value}(d:L[i]? =some (b,.row l md))(e:E.sz t=some n)(m: ∀x,v≠ .chan x)(f:(ah v).length=n)
 (hf:(ah v).all jE=true) (g:off+n<=l.length) (a:md≠0): ∃c,iz E h t (.pointer (some ⟨b,off,s⟩)) v=some c/\St M h0 c (L.set i (b,.row (lay l off (ah v)) md)) G/\Mo (· =b) h c:=by
 subst f
 obtain⟨x,j,k⟩:=(S.row (zO d)).store S.ok a (vs:=ah v) g hf
 refine⟨h.put b x,?_,S.put d k,(Mo.refl (M:=(· =b)) S.ok).put (.inr rfl) x⟩
 have:iz E h t (.pointer (some ⟨b,off,s⟩)) v=bif Xs (ah v).length (ah v).length then h.store b off (ah v)else none:=by
  simp only [iz,e]
 rw [this,Xc]
 exact j
section
variable{E:Env}{cx:Cx}{o:Oper}{l:Loc}{K:Ex->Loc->Hp->Prop}
theorem az{x:Option Hp}{P:Hp->Prop}(b: ∃a,x=some a/\P a)(c: ∀a,P a->K .normal (l.put o.dst (.tuple #[])) a):eZ E cx o l K (fg x):=by
 obtain⟨a,rfl,d⟩:=b
 exact c a d
theorem dz{x:Option (Hp×Value)}{P:Hp->Value->Prop}(b: ∃a v,x=some (a,v)/\P a v)(c: ∀a v,P a v->K .normal (l.put o.dst v) a):eZ E cx o l K (cP x):=by
 obtain⟨a,v,rfl,d⟩:=b
 exact c a v d
theorem dB{cx:Cx}{Q:eG}{a:List Oper}{q:Nat}{ps:List (Nat×Nat)}{os:List Oper}{i:Nat}{k:List Fr}{c:Hp->List (Nat×Tch)}{x:Option Hp}{P:Hp->Prop}(d: ∃b,x=some b/\P b)
 (e: ∀b,P b->Run E (lim E) cx Q (.opsD a q ps os (i+1) (c b)::k) .normal (l.put o.dst (.tuple #[])) b):DN E cx Q a q ps o os i k l c (fg x):=by
 obtain⟨b,rfl,f⟩:=d
 exact e b f
theorem dn_v{cx:Cx}{Q:eG}{a:List Oper}{q:Nat}{ps:List (Nat×Nat)}{os:List Oper}{i:Nat}{k:List Fr}{c:Hp->List (Nat×Tch)}{x:Option (Hp×Value)}{P:Hp->Value->Prop}(d: ∃b v,x=some (b,v)/\P b v)
 (e: ∀b v,P b v->Run E (lim E) cx Q (.opsD a q ps os (i+1) (c b)::k) .normal (l.put o.dst v) b):DN E cx Q a q ps o os i k l c (cP x):=by
 obtain⟨b,v,rfl,f⟩:=d
 exact e b v f
end

theorem pa{L:List (Nat×Ob)}{G:List GL}{j:Nat}{p d:GL}(e:(keys L G).Nodup)(g:G[j]? =some p){b:Nat}(i:dJ d=some b)(c:b∉keys L G):(keys L (G.set j d)).Nodup:=by
 obtain⟨hlt,k⟩:=List.getElem?_eq_some_iff.1 g
 have f:G=G.take j++p::G.drop (j+1):=by rw [<-k,List.getElem_cons_drop hlt,List.take_append_drop]
 have l:G.set j d=G.take j++d::G.drop (j+1):=List.set_eq_take_append_cons_drop.trans (if_pos hlt)
 unfold keys at*
 rw [l,Xw,Xd i,<-List.append_assoc]
 refine List.perm_middle.nodup_iff.2 (List.nodup_cons.2 ⟨fun a=>c ?_,?_⟩)
 . rw [f,Xw]
   rcases List.mem_append.1 a with a|a
   . rcases List.mem_append.1 a with a|a
     . exact Xz _ a
     . exact Xo _ (Xz _ a)
   . refine Xo _ (Xo _ ?_)
     rw [Xf]
     split
     . exact a
     . exact Xy _ a
 . rw [f,Xw,<-List.append_assoc]at e
   refine e.sublist (List.Sublist.append (List.Sublist.refl _) ?_)
   rw [Xf]
   split
   . exact List.Sublist.refl _
   . exact XG _ _
theorem St.grow (S :St M h0 h L G) {E:Env} {t tx e:TypeId} {J k j m:Nat} {zs vs new:List Value} {v x:Value} (B:G[j]? =some (v,k,vs)) (hu:E.und t=some (.slice e)) (he:dX E e J k zs) (P:0<J)
 (hx:dE E tx=some false) (C:aG h k x=some (m,new)) (Z:m*k=new.length) (O:0<k) (hf:new.all jE=true) (ad:(vs.length+new.length)*(J+1)<=70368744177664) {ts:List TypeId}:
 ∃Q v',c6 E h (t::tx::ts) v x=some (Q,v')/\St M h0 Q L (G.set j (v',k,vs++new)):=by
 obtain⟨⟨i,hi,rfl,rfl⟩,hz,hl⟩:=he
 have hlt:=(List.getElem?_eq_some_iff.1 B).1
 obtain⟨hg,R⟩:=S.gown _ (zO B)
 have D : ∀ a d,v=.slice a d d->d*i.size=vs.length->(a=none/\d=0\/ ∃b,a=some ⟨b,0,some i.size⟩/\Row h b vs 1)->
  ∃Q v',eJ E h e i a d d m new=some (Q,v')/\St M h0 Q L (G.set j (v',i.size,vs++new)):=by
  intro a d hv o y
  by_cases r:m=0
  . subst r
    have:new=[]:=by
     cases new with
     |nil=>rfl
     |cons a l=>simp at Z
    subst this
    refine⟨h,v,?_,?_⟩
    . unfold eJ
      rw [Xa (by omega:d+0<=d)]
      simp only [cond_true]
      rw [hv]
      cases a<;>rfl
    . rw [XA]
      have:G.set j (v,i.size,vs)=G:=by
       refine Xe fun n=>?_
       rw [Xk]
       split
       . rename_i e;subst e;first|rw [if_pos hlt,B]|exact B.symm
       . rfl
      rw [this];exact S
  . have T : Xg (d+m) d=false:=by
     cases hx:Xg (d+m) d with
     |false=>rfl
     |true=>exact absurd (Xi hx) (by omega)
    have U:d+m<=vs.length+new.length:=by
     rw [<-o,<-Z]
     have r:=Xl d O
     have h2:=Xl m O
     omega
    have z:(Xg ((d+m)*(i.bytes+1)) 70368744177664&&Nat.blt 0 i.bytes)=true:=by
     rw [Xa (Xn (XB _ U) ad)]
     simp only [Bool.true_and]
     rw [Nat.blt_eq];exact P
    have af:Xs zs.length i.size=true:=by rw [hl];exact Xc _
    have A:eJ E h e i a d d m new=mU h e i.size a d m new:=by
     unfold eJ
     rw [T]
     simp only [cond_false]
     rw [z,hz]
     simp only [cond_true,af]
    rw [A]
    rcases y with⟨rfl,rfl⟩|⟨b,rfl,V⟩
    . have ai:vs=[]:=by
       cases vs with
       |nil=>rfl
       |cons a l=>simp at o
      subst ai
      refine⟨h.new (.cells (Tr.ofList new) new.length e 1),.slice (some ⟨h.n,0,some i.size⟩) m m,rfl,?_⟩
      have S':=S.call (Gr.new S.ok (.cells (Tr.ofList new) new.length e 1))
      have K:h.n∉keys L G:=fun O=>by have:=S.key_lt O;omega
      refine⟨S'.fr,S'.own,fun p f=>?_,pa S.apart B (b:=h.n) rfl K⟩
      rcases lg f with rfl|⟨j',_,f⟩
      . exact⟨.inr ⟨h.n,m,rfl,Z,oe S.ok new e 1⟩,fun b P=>by cases P;exact .inl S.fr.n⟩
      . exact S'.gown p (zO f)
    . obtain ⟨W,el,F,H,ak⟩:=V
      have al:jn W vs.length 0 (d*i.size) new=some (W.pushAll vs.length new,vs.length+new.length):=by
       unfold jn
       rw [o,Xc vs.length]
       rfl
      refine⟨(h.put b .dead).new (.cells (W.pushAll vs.length new) (vs.length+new.length) e 1),.slice (some ⟨h.n,0,some i.size⟩) (d+m) (d+m),?_,?_⟩
      . unfold mU
        simp only [F,al,hf,Xc]
        rfl
      . have u:dJ (v,i.size,vs)=some b:=by rw [hv];rfl
        have a5:=gJ S.ok F
        have N:=(S.fr.put (R b u) .dead)
        have aL: ∀c∈L.map XN,c≠b:=fun c s e=>by
         have r:=S.apart
         unfold keys at r
         rw [Xm]at r
         exact r.2.2 c s b (List.mem_filterMap.2 ⟨_,zO B,u⟩) e
        have w: ∀c,c<h.n->c≠b->((h.put b .dead).new (.cells (W.pushAll vs.length new) (vs.length+new.length) e 1)).get c=h.get c:=fun c s a0=>by
         rw [Hp.get_new _ _ N.ok,if_neg (by show c≠h.n;omega)]
         exact cd (Ne.symm a0)
        have K:h.n∉keys L G:=fun O=>by have:=S.key_lt O;omega
        refine⟨N.new _,fun p f=>?_,fun p f=>?_,pa S.apart B (b:=h.n) rfl K⟩
        . have r:=S.own p f
          exact⟨r.1,r.2.of_get (w _ (r.2.lt S.ok) (aL _ (XC f)))⟩
        . rcases lg f with rfl|⟨j',a1,f⟩
          . refine⟨.inr ⟨h.n,d+m,rfl,?_,?_⟩,fun b P=>by cases P;exact .inl S.fr.n⟩
            . show(d+m)*i.size=(vs++new).length
              rw [XH,o,Z,Xb]
            . refine⟨W.pushAll vs.length new,e,?_,?_,fun n=>?_⟩
              . rw [Hp.get_new _ _ N.ok]
                rw [if_pos (show h.n=(h.put b .dead).n from rfl),Xb]
              . rw [Xb];exact Tr.sized_pushAll _ H
              . rw [Tr.get_pushAll _ _ _ H,XM]
                split
                . exact ak n
                . rfl
          . have r:=S.gown p (zO f)
            refine⟨r.1.of_get fun c s=>w c (r.1.lt S.ok s) fun e=>a1 ?_,r.2⟩
            subst e
            -- two lists with a6 a2
            have h2:=S.apart
            unfold keys at h2
            have h3:=(List.nodup_append.1 h2).2.1
            have a3: ∀(G:List GL) (a c:Nat) (p q:GL),(G.filterMap dJ).Nodup->G[a]? =some p->G[c]? =some q-> ∀x,dJ p=some x->dJ q=some x->a=c:=by
             intro G
             induction G with
             |nil=>intro a c p q _ y;simp at y
             | cons g G ih=>
               intro a c p q I y s x f hq
               have a4:(G.filterMap dJ).Nodup:=by
                rw [Xf]at I
                split at I
                . exact I
                . exact(List.nodup_cons.1 I).2
               cases a with
               | zero=>
                 cases c with
                 |zero=>rfl
                 | succ c=>
                   simp at y s
                   subst y
                   rw [Xd f]at I
                   exact absurd (List.mem_filterMap.2 ⟨q,zO s,hq⟩) (List.nodup_cons.1 I).1
               | succ a=>
                 cases c with
                 | zero=>
                   simp at y s
                   subst s
                   rw [Xd hq]at I
                   exact absurd (List.mem_filterMap.2 ⟨p,zO y,f⟩) (List.nodup_cons.1 I).1
                 | succ c=>
                   simp at y s
                   rw [ih a c p q a4 y s x f hq]
            exact a3 G j' j p _ h3 f B c s u
 unfold c6
 simp only [hx]
 unfold jv
 simp only [hu,hi]
 rcases hg with⟨X,Y⟩|⟨b,n,X,Y,k3⟩
 . simp only []at X Y
   subst X Y
   simp only [C]
   exact D none 0 rfl (by simp) (.inl ⟨rfl,rfl⟩)
 . simp only []at X Y k3
   subst X
   simp only [C]
   exact D _ n rfl Y (.inr ⟨b,rfl,k3⟩)
end
end Go.Ab

namespace Go.Ab

theorem aN{E:Env}{cx:Cx}{Q:eG}{k:List Fr}{n:Nat}{d:List Deferred}{e:Option (Value×Bool)}{b:Code}{α:Type}(I:α->(Nat->Value)->Hp->Prop)(m:α->Nat)
 (p: ∀a,(∀f c g,m f<m a->I f c g->Run E (lim E) cx Q (.code (.loop b)::k) .normal (LL n c d e) g)-> ∀ρ h,I a ρ h->Run E (lim E) cx Q (.code b:: .code (.loop b)::k) .normal (LL n ρ d e) h):
 ∀a ρ h,I a ρ h->Run E (lim E) cx Q (.code (.loop b)::k) .normal (LL n ρ d e) h:=by
 have i: ∀j a,m a<j-> ∀ρ h,I a ρ h->Run E (lim E) cx Q (.code (.loop b)::k) .normal (LL n ρ d e) h:=by
  intro j
  induction j with
  |zero=>intro a q;omega
  | succ j r=>
    intro a q ρ h l
    rw [bW]
    exact p a (fun f c g hlt o=>r f (by omega) c g o) ρ h l
 intro a ρ h l
 exact i (m a+1) a (by omega) ρ h l

def oZ(b:Nat):Deferred:={target:=.collected b,args:=#[]}
section
variable(E:Env)(cx:Cx)(Q:eG)(k:List Fr)
def RangeGo(l:Loc)(h:Hp):Option Code->Prop
 |none=>Run E (lim E) cx Q k .normal l h
 |some (.exit id)=>Run E (lim E) cx Q k (.exit id) l h
 |some .ret=>Run E (lim E) cx Q k .ret l h
 |_=>False
def RangeQ(l:Loc)(b:Nat):Out->Option (Value×Bool)->Hp->Prop
 | .pan v,_,a=>Run E (lim E) cx Q k (.pan v) l a
 | .ret _,_,a=> ∃x,a.get b=some (.loop x)/\x.st≠1/\RangeGo E cx Q k l (a.put b .dead) x.pending
end
section
variable{E:Env}{cx:Cx}{Q:eG}{k:List Fr}{n:Nat}{ρ:Nat->Value}{d:List Deferred}{rc:Option (Value×Bool)}{M:Nat->Prop}{h0 h:Hp}{L:List (Nat×Ob)}{G:List GL}
theorem As {f:Operand} {params:Array Tmp} {assign body:Code} {g:FuncId} {a b:Array Value} {j:Hp} {p:Nat} {dfs:List Deferred} (hf:(LL n ρ d rc).ev f=.func (.func g) a b) (F:cx.nr=n)
 (H :(match cx.round with
   |none=>some (h.new .dfr,h.n,({target:=.collected h.n,args:=#[]}:Deferred)::d)
   | some r=>match h.get r with
     |some (.loop x)=>some (h,x.defers,d)
     |_=>none)=some (j,p,dfs))
 (I:fS E g (a.toList++[.func (.yield j.n) #[] #[]]++b.toList) none (j.new (.loop {fn:=cx.fn,regs:=tab n ρ,nr:=n,params,assign,body,st:=0,pending:=none,defers:=p})) (RangeQ E cx Q k (LL n ρ dfs rc) j.n)):
 Run E (lim E) cx Q (.code (.rangeFunc f params assign body)::k) .normal (LL n ρ d rc) h:=by
 obtain⟨o,J,l,K,A⟩:=I
 simp only [Run]
 have e:aD E (lim E) cx (.rangeFunc f params assign body) (LL n ρ d rc) h=iv (lim E) cx ((LL n ρ d rc).ev f) params assign body (LL n ρ d rc) h:=rfl
 rw [e,hf]
 have N:iv (lim E) cx (.func (.func g) a b) params assign body (LL n ρ d rc) h=(match(some (j,p,dfs):Option (Hp×Nat×List Deferred))with
  |none=>none
  | some (j,p,dfs)=>
    match(lim E).call g (a.toList++[.func (.yield j.n) #[] #[]]++b.toList) none
     (j.new (.loop {fn:=cx.fn,regs:=tab n ρ,nr:=cx.nr,params,assign,body,st:=0,pending:=none,defers:=p}))with
    |none=>none
    |some (.pan v,_,l)=>some (.pan v,LL n ρ dfs rc,l)
    | some (.ret _,_,l)=>match l.get j.n with
      | some (.loop x)=>match x.st with
        |1=>none
        | _=>match x.pending with
          |none=>some (.normal,LL n ρ dfs rc,l.put j.n .dead)
          |some (.exit id)=>some (.exit id,LL n ρ dfs rc,l.put j.n .dead)
          |some .ret=>some (.ret,LL n ρ dfs rc,l.put j.n .dead)
          |_=>none
      |_=>none):=by rw [<-H];rfl
 rw [N]
 simp only [F,K]
 cases o with
 |pan v=>exact⟨_,_,_,rfl,A⟩
 | ret v=>
   obtain⟨x,O,t,u⟩:=A
   simp only [O]
   obtain⟨P,y,R,q,s,z,S,i,w⟩:=x
   simp only []at t u
   have m: ∃B C D,(match i with
    |none=>some (Ex.normal,LL n ρ dfs rc,l.put j.n .dead)
    |some (.exit id)=>some (.exit id,LL n ρ dfs rc,l.put j.n .dead)
    |some .ret=>some (.ret,LL n ρ dfs rc,l.put j.n .dead)
    |_=>none)=some (B,C,D)/\Run E (lim E) cx Q k B C D:=by
    cases i with
    |none=>exact⟨_,_,_,rfl,u⟩
    |some c=>cases c<;>first|exact u.elim|exact⟨_,_,_,rfl,u⟩
   match S,t with
   |0,_=>exact m
   |1,t=>exact absurd rfl t
   |_+2,_=>exact m
theorem fu(S:St M h0 h L G){f:Operand}{params:Array Tmp}{assign body:Code}{g:FuncId}{a b:Array Value}(hf:(LL n ρ d rc).ev f=.func (.func g) a b)(l:cx.nr=n)(m:cx.round=none)
 (p: ∀i c e,St M h0 i ((e,.loop {fn:=cx.fn,regs:=tab n ρ,nr:=n,params,assign,body,st:=0,pending:=none,defers:=c})::(c,.dfr)::L) G->h.n<=c->h.n<=e->Gr h i->
   fS E g (a.toList++[.func (.yield e) #[] #[]]++b.toList) none i (RangeQ E cx Q k (LL n ρ (oZ c::d) rc) e)):
 Run E (lim E) cx Q (.code (.rangeFunc f params assign body)::k) .normal (LL n ρ d rc) h:=by
 have j:St M h0 (h.new .dfr) ((h.n,.dfr)::L) G:=S.new (by show(h.new _).get h.n=_;rw [h.get_new _ S.ok,if_pos rfl])
 have q:=j.new (x:=.loop {fn:=cx.fn,regs:=tab n ρ,nr:=n,params,assign,body,st:=0,pending:=none,defers:=h.n}) (o:=.loop {fn:=cx.fn,regs:=tab n ρ,nr:=n,params,assign,body,st:=0,pending:=none,defers:=h.n})
  (by show(Hp.new _ _).get _=_;rw [Hp.get_new _ _ j.ok,if_pos rfl])
 exact As hf l (by rw [m];rfl) (p _ _ _ q (Xh _) (Nat.le_succ _) ((Gr.new S.ok _).trans (Gr.new j.ok _)))
end

section
variable(E:Env)(cx:Cx)(lb:Nat)(Q:Out->Hp->Prop)
def pR:eG
 | .normal,_,a=> ∃x,a.get lb=some (.loop x)/\Q (.ret (.bool true)) (a.put lb (.loop {x with st:=0,pending:=none}))
 | .exit id,_,a=> ∃x,a.get lb=some (.loop x)/\Q (.ret (.bool false)) (a.put lb (.loop {x with st:=2,pending:=some (.exit id)}))
 | .ret,_,a=> ∃x,a.get lb=some (.loop x)/\Q (.ret (.bool false)) (a.put lb (.loop {x with st:=2,pending:=some .ret}))
 | .pan v,b,a=>b.dfs=[]/\Q (.pan v) a
def vr(body:Code):eG
 | .normal,l,a=> ∃x,a.get lb=some (.loop x)/\x.st=0/\x.fn=cx.fn/\x.nr=cx.nr/\x.body=body/\Run E (lim E) cx (pR lb Q) [.code body] .normal l (a.put lb (.loop {x with st:=1}))
 |_,_,_=>False
end
def setPs(ρ:Nat->Value):List Tmp->List Value->Option (Nat->Value)
 | [],[]=>some ρ
 |t::a,v::b=>setPs (aa ρ t v) a b
 |_,_=>none
theorem qz{n:Nat}: ∀(ts:List Tmp) (vs:List Value) (ρ a:Nat->Value),setPs ρ ts vs=some a->mX (tab n ρ) ts vs=some (tab n a)
 | [],[],ρ,a,h=>by cases h;rfl
 | t::ts,v::vs,ρ,a,h=>by
   simp only [mX,tab_set]
   exact qz ts vs _ _ h
 | [],_::_,_,_,h=>by cases h
 |_::_,[],_,_,h=>by cases h
theorem rV{E:Env}{cx:Cx}{Q:eG}{c:Code}{l:Loc}{h:Hp}(b:Run E (lim E) cx Q [.code c] .normal l h): ∃e l' a,(lim E).code cx c l h=some (e,l',a)/\Q e l' a:=by
 obtain⟨e,l',a,d,f⟩:=b
 exact⟨e,l',a,by rw [uA];exact d,f⟩
theorem fH{E:Env}{f n:Nat}{args:List Value}{h:Hp}{Q:Out->Hp->Prop}{fn:FuncId}{ρ a:Nat->Value}{params:Array Tmp}{assign body:Code}{o:Nat}
 (g:h.get f=some (.loop {fn,regs:=tab n ρ,nr:=n,params,assign,body,st:=0,pending:=none,defers:=o})) (k:(E.fn fn).isSome=true) (p:setPs ρ params.toList args=some a)
 (q:Run E (lim E) ⟨fn,n,some f⟩ (vr E ⟨fn,n,some f⟩ f Q body) [.code assign] .normal (LL n a [] none) h):kw E f args h Q:=by
 obtain⟨e,l,z,r,j⟩:=rV q
 unfold kw iT
 rw [g]
 simp only [k,cond_true,qz _ _ _ _ p]
 rw [show Loc.mk (tab n a) [] none=LL n a [] none from rfl,r]
 cases e with
 |exit i=>exact j.elim
 |ret=>exact j.elim
 |pan v=>exact j.elim
 | normal=>
   obtain⟨x,s,t,A,B,C,u⟩:=j
   obtain⟨w,D,F,m,b⟩:=rV u
   simp only [s,t,m]
   cases w with
   |normal=>obtain⟨y,c,d⟩:=b;simp only [c];exact⟨_,_,rfl,d⟩
   |exit i=>obtain⟨y,c,d⟩:=b;simp only [c];exact⟨_,_,rfl,d⟩
   |ret=>obtain⟨y,c,d⟩:=b;simp only [c];exact⟨_,_,rfl,d⟩
   |pan v=>obtain⟨c,d⟩:=b;simp only [c];exact⟨_,_,rfl,d⟩
section
variable{E:Env}{cx:Cx}{lb:Nat}{Q:Out->Hp->Prop}{M:Nat->Prop}{h0 h:Hp}{L:List (Nat×Ob)}{G:List GL}{body:Code}{l:Loc}
theorem St.loopPut(S:St M h0 h L G){i:Nat}{X Y:d9}(a:L[i]? =some (lb,.loop X)):h.get lb=some (.loop X)/\St M h0 (h.put lb (.loop Y)) (L.set i (lb,.loop Y)) G:=by
 have b:h.get lb=some (.loop X):=(S.own _ (zO a)).2
 refine⟨b,S.put a ?_⟩
 show(h.put lb _).get lb=_
 rw [Hp.get_put,if_pos ⟨rfl,by rw [b];rfl⟩]
theorem eI(S:St M h0 h L G){i:Nat}{X:d9}(b:L[i]? =some (lb,.loop X))(c:X.st=0)(d:X.fn=cx.fn)(e:X.nr=cx.nr)(f:X.body=body)
 (g: ∀a,St M h0 a (L.set i (lb,.loop {X with st:=1})) G->Run E (lim E) cx (pR lb Q) [.code body] .normal l a):vr E cx lb Q body .normal l h:=by
 obtain⟨j,k⟩:=S.loopPut (Y:={X with st:=1}) b
 exact⟨X,j,c,d,e,f,g _ k⟩
theorem dl(S:St M h0 h L G){i:Nat}{X:d9}(b:L[i]? =some (lb,.loop X))(c: ∀a,St M h0 a (L.set i (lb,.loop {X with st:=0,pending:=none})) G->Q (.ret (.bool true)) a):pR lb Q .normal l h:=by
 obtain⟨d,e⟩:=S.loopPut (Y:={X with st:=0,pending:=none}) b
 exact⟨X,d,c _ e⟩
theorem round_ret(S:St M h0 h L G){i:Nat}{X:d9}(b:L[i]? =some (lb,.loop X))(c: ∀a,St M h0 a (L.set i (lb,.loop {X with st:=2,pending:=some .ret})) G->Q (.ret (.bool false)) a):pR lb Q .ret l h:=by
 obtain⟨d,e⟩:=S.loopPut (Y:={X with st:=2,pending:=some .ret}) b
 exact⟨X,d,c _ e⟩
end

def Iter(E:Env)(g:FuncId)(d post:List Value)(h0:Hp)(D:Nat->Prop)(xs:List (List Value)):Prop:=
 ∀ (e:Nat) (J:Nat->Hp->List Nat->Prop) (Z:Out->Hp->Prop) (h:Hp) (F:List Nat),
   h.t.Sized h.n->h0.n<=h.n->(∀b,b<h0.n->D b->h.get b=h0.get b)->
   (∀i h F,J i h F->h.t.Sized h.n/\ ∀b∈F,b<h.n)->(∀i h F a,J i h F->Gr h a->J i a F)->(∀h a,Z (.ret (.bool false)) h->Gr h a->Z (.ret (.bool false)) a)->(∀b∈F,¬(b<h0.n/\D b))->
   (∀i x h F,xs[i]? =some x->J i h F->kw E e x h fun o a=>(o=.ret (.bool true)/\ ∃c,J (i+1) a c/\Mo (· ∈F) h a/\ ∀b∈c,b∈F\/h.n<=b)\/(o=.ret (.bool false)/\Z o a/\a.t.Sized a.n)\/((∃v,o=.pan v)/\Z o a))->
   J 0 h F->fS E g (d++[.func (.yield e) #[] #[]]++post) none h fun o f a=>f=none/\((∃u c,o=.ret u/\J xs.length a c)\/(∃u,o=.ret u/\Z (.ret (.bool false)) a)\/(∃v,o=.pan v/\Z o a))
end Go.Ab

namespace Go.Ab

theorem load_len{h:Hp}{b o n:Nat}{l:List Value}(e:h.load b o n=some l):l.length=n:=by
 unfold Hp.load at e
 split at e
 next t c el d f=>
  cases a:Xg (o+n) c with
  |false=>rw [a]at e;cases e
  |true=>rw [a]at e;exact(Tr.slice_spec e).1
 next=>cases e
theorem kW{h:Hp}{b o n:Nat}{l:List Value}(e:h.load b o n=some l){i m:Nat}(p:i+m<=n):h.load b (o+i) m=some ((l.drop i).take m):=by
 unfold Hp.load at e⊢
 split at e
 next t c el q r=>
  cases a:Xg (o+n) c with
  |false=>rw [a]at e;cases e
  | true=>
    rw [a]at e
    have hle:=Xi a
    rw [Xa (by omega:o+i+m<=c)]
    simp only [cond_true]at e⊢
    obtain⟨s,d⟩:=Tr.slice_spec e
    obtain⟨u,f⟩:=Tr.slice_mk (t:=t) (i:=o+i) (n:=m) (fun k g=>by
     have:=d (i+k) (by omega)
     rw [show o+i+k=o+(i+k) by omega,this]
     rw [List.getElem?_eq_getElem (by omega)];rfl)
    rw [f]
    obtain⟨v,j⟩:=Tr.slice_spec f
    congr 1
    refine Xe fun k=>?_
    rw [List.getElem?_take]
    split
    . rename_i g
      rw [<-j k g,List.getElem?_drop,<-d (i+k) (by omega)]
      congr 1
      omega
    . exact Xx (by omega)
 next=>cases e
theorem load_join{h:Hp}{b o n:Nat}{f:Nat->Value}(h0: ∃l,h.load b o 0=some l)(e: ∀i,i<n->h.load b (o+i) 1=some [f i]):h.load b o n=some ((List.range n).map f):=by
 unfold Hp.load at h0 e⊢
 cases c:h.get b with
 |none=>rw [c]at h0;obtain⟨l,h0⟩:=h0;cases h0
 |some m=>
 cases m with
 |dead=>rw [c]at h0;obtain⟨l,h0⟩:=h0;cases h0
 |map=>rw [c]at h0;obtain⟨l,h0⟩:=h0;cases h0
 |loop=>rw [c]at h0;obtain⟨l,h0⟩:=h0;cases h0
 |dfr=>rw [c]at h0;obtain⟨l,h0⟩:=h0;cases h0
 | cells t j el s=>
   rw [c]at h0
   simp only [c]at e
   simp only []at h0
   have hle:o+n<=j:=by
    cases n with
    | zero=>
      obtain⟨l,h0⟩:=h0
      cases g:Xg (o+0) j with
      |false=>rw [g]at h0;cases h0
      |true=>exact Xi g
    | succ n=>
      have:=e n (by omega)
      cases g:Xg (o+n+1) j with
      |false=>rw [g]at this;cases this
      |true=>have:=Xi g;omega
   have a: ∀i,i<n->t.get (o+i)=some (f i):=by
    intro i q
    have:=e i q
    rw [Xa (by omega:o+i+1<=j)]at this
    have:=(Tr.slice_spec this).2 0 (by omega)
    simpa using this
   simp only []
   rw [Xa hle]
   simp only [cond_true]
   obtain⟨l,p⟩:=Tr.slice_mk (t:=t) (i:=o) (n:=n) (fun k d=>by rw [a k d];rfl)
   rw [p]
   obtain⟨u,r⟩:=Tr.slice_spec p
   congr 1
   refine Xe fun k=>?_
   rw [Xu]
   rcases Nat.lt_or_ge k n with d|d
   . rw [<-r k d,a k d,List.getElem?_range d];rfl
   . rw [Xx (by omega),Xx (by simpa using d)];rfl

section
variable{α:Type}
theorem bA{k:Nat}{enc:α->List Value}(a: ∀x,(enc x).length=k)(xs:List α):(xs.flatMap enc).length=xs.length*k:=by
 induction xs with
 |nil=>simp
 |cons x xs b=>rw [XE,Xb,a,b,Xq,Xp];omega
theorem zZ{k:Nat}{enc:α->List Value}(a: ∀x,(enc x).length=k)(xs:List α){i:Nat}(b:i<xs.length):((xs.flatMap enc).drop (i*k)).take k=enc xs[i]:=by
 induction xs generalizing i with
 |nil=>simp at b
 | cons x xs c=>
   cases i with
   |zero=>simp [XE,<-a x]
   | succ i=>
     rw [XE,Xp,Nat.add_comm,<-List.drop_drop]
     rw [show List.drop k (enc x++List.flatMap enc xs)=List.flatMap enc xs by rw [<-a x];exact List.drop_left]
     simpa using c (i:=i) (by simpa using b)
def au(h:Hp)(k:Nat)(enc:α->List Value)(v:Value)(xs:List α):Prop:=
 (v=.slice none 0 0/\xs=[])\/ ∃b o s c,v=.slice (some ⟨b,o,s⟩) xs.length c/\xs.length<=c/\h.load b o (xs.length*k)=some (xs.flatMap enc)
variable{h:Hp}{k:Nat}{enc:α->List Value}{v:Value}{xs:List α}
theorem au.gr{a:Hp}(g:Gr h a)(s:au h k enc v xs):au a k enc v xs:=by
 rcases s with s|⟨b,o,s,c,d,e,f⟩
 . exact .inl s
 . exact .inr ⟨b,o,s,c,d,e,g.load f⟩
def ar:Value->Nat->Prop
 | .slice (some a) _ _,b=>a.block=b
 | .pointer (some a),b=>a.block=b
 |_,_=>False
theorem au.mo{M:Nat->Prop}{d:Hp}(g:Mo M h d)(s:au h k enc v xs)(f: ∀b,ar v b-> ¬M b):au d k enc v xs:=by
 rcases s with s|⟨b,o,s,c,e,i,a⟩
 . exact .inl s
 . refine .inr ⟨b,o,s,c,e,i,?_⟩
   have:=g.get b (bD g.ok0 a) (f b (by rw [e];rfl))
   unfold Hp.load at a⊢
   rw [this];exact a
theorem au.lt(d:h.t.Sized h.n)(s:au h k enc v xs){b:Nat}(a:ar v b):b<h.n:=by
 rcases s with⟨rfl,_⟩|⟨e,o,s,c,rfl,g,f⟩
 . exact a.elim
 . have:e=b:=a
   subst this
   exact bD d f
theorem au.len{E:Env}{t e:TypeId}(s:au h k enc v xs)(a:E.und t=some (.slice e)):ny E t v=some (.int .i64 xs.length):=by
 rcases s with⟨rfl,rfl⟩|⟨b,o,s,c,rfl,d,f⟩<;>simp [ny,a]
theorem au.idx(s:au h k enc v xs)(d: ∀x,(enc x).length=k){i:Nat}(a:i<xs.length): ∃b o s' c,v=.slice (some ⟨b,o,s'⟩) xs.length c/\h.load b (o+i*k) k=some (enc xs[i]):=by
 rcases s with⟨rfl,rfl⟩|⟨b,o,s,c,rfl,f,e⟩
 . simp at a
 . refine⟨b,o,s,c,rfl,?_⟩
   have:i*k+k<=xs.length*k:=by rw [<-Xp];exact XB _ a
   rw [kW e this,zZ d xs a]
theorem au.at{E:Env}{t e:TypeId}{kd:IntKind}(s:au h k enc v xs)(d: ∀x,(enc x).length=k)(f:E.und t=some (.slice e))(g:E.sz e=some k){i:Nat}(a:i<xs.length):
 ∃b o,eg E t v (.int kd i)=some (.pointer (some ⟨b,o,none⟩))/\h.load b o k=some (enc xs[i]):=by
 obtain⟨b,o,l,c,rfl,j⟩:=s.idx d a
 refine⟨b,o+i*k,?_,j⟩
 rw [ia_slice f g,jQ a]
 rfl
theorem au.src(s:au h k enc v xs):aG h k v=some (xs.length,xs.flatMap enc):=by
 rcases s with⟨rfl,rfl⟩|⟨b,o,s,c,rfl,e,a⟩
 . rfl
 . cases c with
   | zero=>
     have:xs.length=0:=by omega
     have d:xs=[]:=List.length_eq_zero_iff.1 this
     subst d
     simp only [aG,Xj]at a⊢
     rw [a]
   | succ c=>
     simp only [aG]
     rw [a]
theorem fG.sl{vs:List Value}(g:fG h (v,k,vs))(d:vs=xs.flatMap enc)(e: ∀x,(enc x).length=k)(i:0<k):au h k enc v xs:=by
 rcases g with⟨c,a⟩|⟨b,n,c,a,f⟩
 . simp only []at c a
   refine .inl ⟨c,?_⟩
   rw [a]at d
   have:=bA e xs
   rw [<-d]at this
   cases xs with
   |nil=>rfl
   | cons x xs=>
     simp only [Xj,Xq,Xp]at this
     omega
 . simp only []at c a f
   have j:n=xs.length:=by
    rw [d,bA e]at a
    exact Xr i a
   subst j
   refine .inr ⟨b,0,some k,xs.length,c,Xh _,?_⟩
   rw [f.load (by omega),a,XL,XF,d]
theorem fG.len{E:Env}{t e:TypeId}{vs:List Value}(g:fG h (v,k,vs))(i:0<k)(d:E.und t=some (.slice e)){n:Nat}(f:n*k=vs.length):ny E t v=some (.int .i64 n):=by
 rcases g with⟨a,c⟩|⟨b,m,a,c,j⟩
 . simp only []at a c
   subst a c
   have:n=0:=by
    cases n with
    |zero=>rfl
    |succ n=>simp only [Xj,Xp]at f;omega
   subst this
   simp [ny,d]
 . simp only []at a c
   subst a
   have:m=n:=Xr i (c.trans f.symm)
   subst this
   simp [ny,d]
end
def encI(kd:IntKind)(x:Int):List Value:=[.int kd x]
def encB(x:Bool):List Value:=[.bool x]
theorem bG(kd:IntKind)(x:Int):(encI kd x).length=1:=rfl
theorem xo(x:Bool):(encB x).length=1:=rfl

def agg1:Option (List Value)->Option Value
 |some l=>some (.agg ⟨l⟩)
 |none=>none
theorem agg1_some{l:List Value}:agg1 (some l)=some (.agg ⟨l⟩):=rfl
theorem loadV_agg{E:Env}{h:Hp}{t:TypeId}{b o n:Nat}{s:Option Nat}(a:E.agg t=some true)(c:E.sz t=some n):eu E h t (.pointer (some ⟨b,o,s⟩))=agg1 (h.load b o n):=by
 simp only [eu,a,c]
 cases h.load b o n<;>rfl

def isIface(E:Env)(t:TypeId):Bool:=match E.und t with
 |some (.interface _)=>true
 |_=>false
def nK(E:Env)(t:TypeId):Bool:=match E.und t with
 |some (.pointer _)=>true
 |_=>false
def jZ(E:Env)(t:TypeId):Bool:=match E.und t with
 |some (.struct _)=>true
 |some (.int _)=>true
 |some (.pointer _)=>true
 |_=>false
section
variable{E:Env}{t:TypeId}{x y:Operand}
theorem oH(b:isIface E t=true): ∃a,E.und t=some (.interface a):=by
 unfold isIface at b;split at b<;>first|exact⟨_, ‹_›⟩|cases b
theorem rE(b:nK E t=true): ∃a,E.und t=some (.pointer a):=by
 unfold nK at b;split at b<;>first|exact⟨_, ‹_›⟩|cases b
theorem n_iface(b:isIface E t=true){u:TypeId}{v:Value}:bw E .neq t x y (.iface u v) .nilIface=some (.bool true):=by
 obtain⟨a,c⟩:=oH b
 simp [bw,fo,dP,c]
theorem n_nil(b:isIface E t=true){v:Value}:bw E .neq t x (.const v) .nilIface .nilIface=some (.bool false):=by
 obtain⟨a,c⟩:=oH b
 cases x<;>simp [bw,fo,dP,c]
theorem e_iface(b:isIface E t=true){u:TypeId}{v:Value}:bw E .eql t x y (.iface u v) .nilIface=some (.bool false):=by
 obtain⟨a,c⟩:=oH b
 simp [bw,fo,dP,c]
theorem e_nil(b:isIface E t=true){v:Value}:bw E .eql t x (.const v) .nilIface .nilIface=some (.bool true):=by
 obtain⟨a,c⟩:=oH b
 cases x<;>simp [bw,fo,dP,c]
theorem n_ptr(b:nK E t=true){a:Addr}:bw E .neq t x y (.pointer (some a)) (.pointer none)=some (.bool true):=by
 obtain⟨e,c⟩:=rE b
 simp [bw,fo,dP,c]
theorem e_ptr(b:nK E t=true){a:Addr}:bw E .eql t x y (.pointer (some a)) (.pointer none)=some (.bool false):=by
 obtain⟨e,c⟩:=rE b
 simp [bw,fo,dP,c]
theorem n_pnil(a:nK E t=true):bw E .neq t x y (.pointer none) (.pointer none)=some (.bool false):=by
 obtain⟨e,b⟩:=rE a
 simp [bw,fo,dP,b]
theorem e_pnil(a:nK E t=true):bw E .eql t x y (.pointer none) (.pointer none)=some (.bool true):=by
 obtain⟨e,b⟩:=rE a
 simp [bw,fo,dP,b]
theorem rW(b:jZ E t=true): ∃d,E.und t=some d/\ ∀a,d≠ .interface a:=by
 unfold jZ at b
 split at b<;>first|exact⟨_, ‹_›,by intro a e;cases e⟩|cases b
theorem assert_is(a:jZ E t=true){v:Value}:n8 E (.iface t v) t true=some (.tuple #[v,.bool true]):=by
 obtain⟨d,b,c⟩:=rW a
 unfold n8
 rw [b]
 cases d<;>first|exact absurd rfl (c _)|simp [rA]
theorem mk_iface(a:jZ E t=true){v:Value}:(match E.und t with|none=>none|some (.interface _)=>none|some _=>some (Value.iface t v))=some (.iface t v):=by
 obtain⟨d,b,c⟩:=rW a
 rw [b]
 cases d<;>first|exact absurd rfl (c _)|rfl
end

theorem o_recover{E:Env}{ρ:Operand->Value}{h:Hp}{as:Array Operand}{ts:Array TypeId}:aop E ρ h (.call ⟨.builtin .recover,as,ts⟩)=some (.recov,h):=rfl
theorem o_deferR{E:Env}{ρ:Operand->Value}{h:Hp}{f:Operand}{as:Array Operand}{ts:Array TypeId}:aop E ρ h (.defer ⟨.value f,as,ts⟩)=match ρ f with
 | .func (.func g) a b=>some (.defer {target:=.fn (.func g) b,args:=⟨a.toList++as.toList.map ρ⟩},h)
 |_=>none:=rfl
def panR(h:Hp):Value->Option (di×Hp)
 | .iface t v=>some (.panic (.iface t v),h)
 |_=>none
theorem o_panicR{E:Env}{ρ:Operand->Value}{h:Hp}{x:Operand}:aop E ρ h (.panic x)=panR h (ρ x):=by
 simp only [aop,panR];cases ρ x<;>rfl
theorem zP{h:Hp}{t:TypeId}{v:Value}:panR h (.iface t v)=some (.panic (.iface t v),h):=rfl
section
variable{E:Env}{cx:Cx}{o:Oper}{K:Ex->Loc->Hp->Prop}{h:Hp}{n:Nat}{ρ:Nat->Value}{d:List Deferred}
theorem tG{v:Value}:eZ E cx o (LL n ρ d (some (v,false))) K (some (.recov,h))↔cx.round=none/\K .normal ((LL n ρ d (some (v,true))).put o.dst v) h:=Iff.rfl
theorem sX:eZ E cx o (LL n ρ d none) K (some (.recov,h))↔cx.round=none/\K .normal ((LL n ρ d none).put o.dst .nilIface) h:=Iff.rfl
theorem step_defer{a:Option (Value×Bool)}{x:Deferred}:eZ E cx o (LL n ρ d a) K (some (.defer x,h))↔cx.round=none/\K .normal ((LL n ρ (x::d) a).put o.dst (.tuple #[])) h:=Iff.rfl
theorem us{l:Loc}{b:Nat}{args:List Value}{P:Out->Hp->Prop}(e:kw E b args h P)(f: ∀x c,P x c->match x with
 | .ret v=>K .normal (l.put o.dst v) c
 | .pan v=>K (.pan v) l c):eZ E cx o l K (some (.yield b args,h)):=by
 obtain⟨x,c,a,b⟩:=e
 exact⟨x,c,a,f x c b⟩
end
theorem wF{b:Nat}{args:List Value}:target (.func (.yield b) #[] #[]) args=some (.yield b args):=rfl
def UnQ(E:Env)(c:List Deferred)(m:Option Value)(h:Hp)(Q:Option Value->Hp->Prop):Prop:= ∃a b,bR (lim E) c m h=some (a,b)/\Q a b
section
variable{E:Env}{rs:List ResultVar}{Q:Out->Option (Value×Bool)->Hp->Prop}{n:Nat}{ρ:Nat->Value}{d:List Deferred}{rc:Option (Value×Bool)}{h:Hp}
theorem df(b:UnQ E d none h fun m a=>m=none/\ ∃vs,aV E (tab n ρ) a rs=some vs/\Q (.ret (ac vs)) rc a):nU E rs Q .ret (LL n ρ d rc) h:=by
 obtain⟨m,a,c,rfl,e⟩:=b
 exact⟨a,c,e⟩
theorem bO(b:UnQ E d none h fun m a=>m=none/\ ∃vs,aV E (tab n ρ) a rs=some vs/\Q (.ret (ac vs)) rc a):nU E rs Q .normal (LL n ρ d rc) h:=df b
theorem jJ{v:Value}(b:UnQ E d (some v) h fun m a=>match m with
 |some v=>Q (.pan v) rc a
 |none=> ∃vs,aV E (tab n ρ) a rs=some vs/\Q (.ret (ac vs)) rc a):nU E rs Q (.pan v) (LL n ρ d rc) h:=by
 obtain⟨m,a,c,e⟩:=b
 exact⟨m,a,c,e⟩
theorem cB{m:Option Value}{P:Option Value->Hp->Prop}(a:P m h):UnQ E [] m h P:=⟨m,h,rfl,a⟩
theorem un_dfr{b:Nat}{a:List Deferred}{m:Option Value}{P:Option Value->Hp->Prop}(c:h.get b=some .dfr)(e:UnQ E a m (h.put b .dead) P):UnQ E (oZ b::a) m h P:=by
 obtain⟨f,g,i,j⟩:=e
 refine⟨f,g,?_,j⟩
 simp only [bR,oZ,c]
 exact i
theorem un_fn{f:FuncId}{cap args:Array Value}{b:List Deferred}{P:Option Value->Hp->Prop}(c:fS E f (args.toList++cap.toList) none h fun o rc a=>(∃v,o=.ret v)/\rc=none/\UnQ E b none a P):UnQ E ({target:=.fn (.func f) cap,args}::b) none h P:=by
 obtain⟨o,e,l,g,⟨v,rfl⟩,rfl,i,a,j,k⟩:=c
 refine⟨i,a,?_,k⟩
 simp only [bR,g]
 exact j
theorem fk{vs:List Value}(a:aV E (tab n ρ) h rs=some vs)(hq:Q (.ret (ac vs)) rc h):nU E rs Q .ret (LL n ρ [] rc) h:=df (cB ⟨rfl,vs,a,hq⟩)
end
end Go.Ab

namespace Go.Ab
section
variable{M:Nat->Prop}{h0 h:Hp}{L:List (Nat×Ob)}{G:List GL}{E:Env}
theorem bH{t e:TypeId}{c k n:Nat}{d cs:List Value}{a:List (Nat×Value)}(f:E.und t=some (.slice e))(g:dX E e c k d)(j:n*k<=16777216)
 (hf:iI (fun i=>some (i*k,k)) (aT d n) a=some cs):oW h (fun h=>cP (ju E h t n a)) (fun b=>.slice (some ⟨b,0,none⟩) n n) (.row cs 1):=by
 obtain⟨⟨i,l,rfl,rfl⟩,m,o⟩:=g
 have p:E.sz e=some i.size:=by unfold Env.sz;rw [l]
 refine⟨.cells (Tr.ofList cs) cs.length e 1,fun x=>?_,fun q=>oe q _ _ _⟩
 simp only [ju,f,p,Xa j,m,o,Xc,hf,cond_true]
 rfl
theorem St.clone(S:St M h0 h L G){t u e:TypeId}{g k m n md:Nat}{F new vs:List Value}{b:Nat}{x:Value}(O:E.und t=some (.slice e))(P:dX E e g k F)(Q:0<g)
 (v:dE E u=some false) (o:aG h k x=some (m,new)) (H:m*k=new.length) (I:n*k=vs.length) (J:0<k) (w:(vs.length+new.length)*(g+1)<=70368744177664) {ts:List TypeId}
 (R:Row h b vs md):
 ∃ y v',c6 E h (t::u::ts) (.slice (some ⟨b,0,none⟩) n n) x=some (y,v')/\
   ((m=0/\y=h/\v'=.slice (some ⟨b,0,none⟩) n n)\/ ∃K,v'=.slice (some ⟨K,0,some k⟩) (n+m) (n+m)/\St M h0 y ((K,.row (vs++new) 1)::L) G):=by
 obtain⟨⟨i,T,rfl,rfl⟩,U,z⟩:=P
 have A:c6 E h (t::u::ts) (.slice (some ⟨b,0,none⟩) n n) x=eJ E h e i (some ⟨b,0,none⟩) n n m new:=by
  simp only [c6,v,jv,O,T,o]
 rw [A]
 by_cases N:m=0
 . subst N
   have:new=[]:=by
    cases new with
    |nil=>rfl
    |cons a l=>simp at H
   subst this
   refine⟨h,_,?_,.inl ⟨rfl,rfl,rfl⟩⟩
   unfold eJ
   rw [Xa (by omega:n+0<=n)]
   rfl
 . have p:Xg (n+m) n=false:=by
    cases v:Xg (n+m) n with
    |false=>rfl
    |true=>exact absurd (Xi v) (by omega)
   have q:n+m<=vs.length+new.length:=by
    rw [<-I,<-H]
    have N:=Xl n J
    have V:=Xl m J
    omega
   have c:(Xg ((n+m)*(i.bytes+1)) 70368744177664&&Nat.blt 0 i.bytes)=true:=by
    rw [Xa (Xn (XB _ q) w)]
    simp only [Bool.true_and]
    rw [Nat.blt_eq];exact Q
   have B:Xs F.length i.size=true:=by rw [z];exact Xc _
   have d:eJ E h e i (some ⟨b,0,none⟩) n n m new=mU h e i.size (some ⟨b,0,none⟩) n m new:=by
    unfold eJ
    rw [p]
    simp only [cond_false]
    rw [c,U]
    simp only [cond_true,B]
   rw [d]
   obtain⟨s,el,r,f,C⟩:=R
   have D:jn s vs.length 0 (n*i.size) new=some (s.pushAll vs.length new,vs.length+new.length):=by
    unfold jn
    rw [I,Xc vs.length]
    rfl
   refine⟨h.new (.cells (s.pushAll vs.length new) (vs.length+new.length) e 1),.slice (some ⟨h.n,0,some i.size⟩) (n+m) (n+m),?_,.inr ⟨h.n,rfl,?_⟩⟩
   . unfold mU
     simp only [r,D]
   . refine S.new ⟨s.pushAll vs.length new,e,?_,?_,fun j=>?_⟩
     . rw [h.get_new _ S.ok,if_pos rfl,Xb]
     . rw [Xb];exact Tr.sized_pushAll _ f
     . rw [Tr.get_pushAll _ _ _ f,XM]
       split
       . exact C j
       . rfl
theorem St.cloneSl{α:Type}{enc:α->List Value}{xs ys:List α}(S:St M h0 h L G){t q e:TypeId}{f k md:Nat}{C:List Value}{b:Nat}{x:Value}(r:E.und t=some (.slice e))(l:dX E e f k C)(s:0<f)
 (u:dE E q=some false) (v:au h k enc x ys) (a: ∀x,(enc x).length=k) (w:0<k) (g:((xs.length+ys.length)*k)*(f+1)<=70368744177664) {ts:List TypeId}
 (m:Row h b (xs.flatMap enc) md):
 ∃d v',c6 E h (t::q::ts) (.slice (some ⟨b,0,none⟩) xs.length xs.length) x=some (d,v')/\St M h0 d L G/\Gr h d/\au d k enc v' (xs++ys)/\(∀c,ar v' c->c=b\/h.n<=c):=by
 obtain⟨d,v',y,D⟩:=S.clone r l s u v.src (bA a ys).symm (bA a xs).symm w (by rw [bA a,bA a,<-XH];exact g) (ts:=ts) m
 refine⟨d,v',y,?_⟩
 rcases D with⟨z,rfl,rfl⟩|⟨n,rfl,i⟩
 . have F:ys=[]:=List.length_eq_zero_iff.1 z
   subst F
   refine⟨S,Gr.refl S.ok,.inr ⟨b,0,none,xs.length,by simp,by simp,?_⟩,fun c o=>.inl (Eq.symm o)⟩
   rw [XA,m.load (by rw [bA a];omega),XL,<-bA a xs,XF]
 . have H:St M h0 d L G:=⟨i.fr,fun p I=>i.own p (Xy _ I),i.gown,(List.nodup_cons.1 i.apart).2⟩
   have j:Row d n (xs.flatMap enc++ys.flatMap enc) 1:=i.row m0
   have T:=(St.init (M:=NoM) S.ok).clone r l s u v.src (bA a ys).symm (bA a xs).symm w (by rw [bA a,bA a,<-XH];exact g) (ts:=ts) m
   obtain⟨J,K,A,N⟩:=T
   rw [y]at A
   cases A
   rcases N with⟨z,_,l⟩|⟨P,O,B⟩
   . exact absurd l (by intro e;cases e)
   . cases O
     refine⟨H,B.gr,.inr ⟨n,0,some k,xs.length+ys.length,by rw [Xb],by rw [Xb];exact Xh _,?_⟩,fun c o=>?_⟩
     . rw [j.load (by rw [Xb,Xb,bA a,bA a,XH];omega),XL,<-List.flatMap_append,<-bA a (xs++ys),XF]
     . right
       have:n=c:=o
       subst this
       rcases(B.own _ m0).1 with h|h
       . exact h
       . exact h.elim
end
end Go.Ab

namespace Go.Ab
section
variable{E:Env}{t e:TypeId}{h:Hp}{x y:Operand}
noncomputable def lenR(E:Env)(h:Hp)(t:TypeId)(x:Value):Option (di×Hp):=lenK (match x with
 | .map (some r)=>match h.get r with
   |some (.map a _)=>match E.und t with
    |some (.map _ _)=>some (.val (.int .i64 (.ofNat a.length)),h)
    |_=>none
   |_=>none
 |_=>none) h (ny E t x)
theorem o_lenR{ρ:Operand->Value}{x:Operand}:aop E ρ h (.call ⟨.builtin .len,#[x],#[t]⟩)=lenR E h t (ρ x):=o_lenK
noncomputable def mi(d:Option TypeDesc)(h:Hp)(x:Value):Option (di×Hp):=match d with
 | some .string=>match x with
   | .string s=>some (.val (.int .i64 (.ofNat s.size)),h)
   |_=>none
 |some (.array n _)=>some (.val (.int .i64 (.ofNat n)),h)
 | some (.slice _)=>match x with
   | .slice _ n _=>some (.val (.int .i64 (.ofNat n)),h)
   |_=>none
 | some (.map _ _)=>match x with
   | .map none=>some (.val (.int .i64 0),h)
   | .map (some r)=>match h.get r with
     |some (.map a _)=>some (.val (.int .i64 (.ofNat a.length)),h)
     |_=>none
   |_=>none
 |_=>none
theorem len_q{x:Value}:lenR E h t x=mi (E.und t) h x:=by
 unfold lenR ny
 cases a:E.und t with
 |none=>cases x<;>first|rfl|(rename_i r;cases r<;>first|rfl|(rename_i r;simp only [mi,lenK];cases h.get r with|none=>rfl|some b=>cases b<;>rfl))
 | some d=>
   cases d<;>cases x<;>first
    |rfl
    | (rename_i r;cases r<;>first
      |rfl
      |(rename_i r;simp only [mi,lenK];cases h.get r with|none=>rfl|some b=>cases b<;>rfl))
theorem An{a:Option Addr}{n c:Nat}:mi (some (.slice e)) h (.slice a n c)=some (.val (.int .i64 n),h):=rfl
theorem lenq_str{s:ByteArray}:mi (some .string) h (.string s)=some (.val (.int .i64 s.size),h):=rfl
theorem lenq_arr{n:Nat}{v:Value}:mi (some (.array n e)) h v=some (.val (.int .i64 n),h):=rfl
theorem zo{k:TypeId}:mi (some (.map k e)) h (.map none)=some (.val (.int .i64 0),h):=rfl
theorem lenq_map{k:TypeId}{r:Nat}{a:List (Value×Value×Nat)}{c:Nat}(b:h.get r=some (.map a c)):mi (some (.map k e)) h (.map (some r))=some (.val (.int .i64 a.length),h):=by
 simp [mi,b]
theorem au.lenq{α:Type}{k:Nat}{enc:α->List Value}{v:Value}{xs:List α}{h a:Hp}(s:au a k enc v xs):mi (some (.slice e)) h v=some (.val (.int .i64 xs.length),h):=by
 rcases s with⟨rfl,rfl⟩|⟨_,_,_,_,rfl,_⟩<;>rfl
theorem fG.lenq{v:Value}{k n:Nat}{vs:List Value}{h f:Hp}(g:fG f (v,k,vs))(i:0<k)(d:n*k=vs.length):mi (some (.slice e)) h v=some (.val (.int .i64 n),h):=by
 rcases g with⟨a,c⟩|⟨b,m,a,c,j⟩
 . simp only []at a c
   subst a c
   have:n=0:=by
    cases n with
    |zero=>rfl
    |succ n=>simp only [Xj,Xp]at d;omega
   subst this
   rfl
 . simp only []at a c
   subst a
   have:m=n:=Xr i (c.trans d.symm)
   subst this
   rfl
def lM(k:Option Nat)(v i:Value):Option Value:=match k with
 |none=>none
 | some k=>match v with
   | .slice (some a) n _=>match gY i n with
     |none=>none
     |some j=>some (.pointer (some (eW a (j*k))))
   |_=>none
def idxA(n:Nat)(k:Option Nat)(v i:Value):Option Value:=match k with
 |none=>none
 | some k=>match v with
   | .pointer (some a)=>match gY i n with
     |none=>none
     |some j=>some (.pointer (some (eW a (j*k))))
   |_=>none
def idxQ(E:Env)(d:Option TypeDesc)(v i:Value):Option Value:=match d with
 |some (.slice e)=>lM (E.sz e) v i
 |some (.array n e)=>idxA n (E.sz e) v i
 |_=>none
theorem idx_q{v i:Value}:eg E t v i=idxQ E (E.und t) v i:=by
 unfold eg idxQ
 cases b:E.und t with
 |none=>rfl
 | some d=>
   cases d<;>first
    |rfl
    |(simp only [lM];cases a:E.sz _<;>(split<;>first|rfl|(split<;>simp_all)))
    |(simp only [idxA];cases a:E.sz _<;>(split<;>first|rfl|(split<;>simp_all)))
theorem AC{v i:Value}:idxQ E (some (.slice e)) v i=lM (E.sz e) v i:=rfl
theorem zR{n:Nat}{v i:Value}:idxQ E (some (.array n e)) v i=idxA n (E.sz e) v i:=rfl
def putI(a:Addr)(k:Nat):Option Nat->Option Value
 |none=>none
 |some j=>some (.pointer (some ⟨a.block,a.off+j*k,none⟩))
theorem qv{k n c:Nat}{a:Addr}{i:Value}:lM (some k) (.slice (some a) n c) i=putI a k (gY i n):=by
 simp only [lM,putI,eW]
theorem idxa_ptr{k n:Nat}{a:Addr}{i:Value}:idxA n (some k) (.pointer (some a)) i=putI a k (gY i n):=by
 simp only [idxA,putI,eW]
theorem putI_some{a:Addr}{k j:Nat}:putI a k (some j)=some (.pointer (some ⟨a.block,a.off+j*k,none⟩)):=rfl
theorem au.ix{α:Type}{k:Nat}{enc:α->List Value}{v:Value}{xs:List α}{kd:IntKind}(s:au h k enc v xs)(d: ∀x,(enc x).length=k){i:Nat}(a:i<xs.length):
 ∃b o,lM (some k) v (.int kd i)=some (.pointer (some ⟨b,o,none⟩))/\h.load b o k=some (enc xs[i]):=by
 obtain⟨b,o,g,c,rfl,f⟩:=s.idx d a
 refine⟨b,o+i*k,?_,f⟩
 rw [qv,jQ a]
 rfl
noncomputable def loadQ(g:Option Bool)(n:Option Nat)(h:Hp)(b o:Nat):Option Value:=match g with
 | some true=>match n with
   |some n=>agg1 (h.load b o n)
   |none=>none
 |some false=>one1 (h.load b o 1)
 |none=>none
theorem load_q{b o:Nat}{s:Option Nat}:eu E h t (.pointer (some ⟨b,o,s⟩))=loadQ (E.agg t) (E.sz t) h b o:=by
 cases a:E.agg t with
 |none=>simp [eu,loadQ,a]
 | some g=>
   cases g with
   |false=>exact zU a
   | true=>
     cases c:E.sz t with
     |none=>simp [eu,loadQ,a,c]
     |some n=>exact loadV_agg a c
theorem loadq_f{b o:Nat}{n:Option Nat}:loadQ (some false) n h b o=one1 (h.load b o 1):=rfl
theorem loadq_t{b o n:Nat}:loadQ (some true) (some n) h b o=agg1 (h.load b o n):=rfl
def isSl(E:Env)(t:TypeId):Bool:=match E.und t with
 |some (.slice _)=>true
 |_=>false
theorem sl_und(b:isSl E t=true): ∃a,E.und t=some (.slice a):=by
 unfold isSl at b;split at b<;>first|exact⟨_, ‹_›⟩|cases b
theorem e_slice{a:Addr}{n c:Nat}(b:isSl E t=true):bw E .eql t x y (.slice (some a) n c) (.slice none 0 0)=some (.bool false):=by
 obtain⟨e,b⟩:=sl_und b
 simp [bw,fo,dP,b]
theorem e_snil(a:isSl E t=true):bw E .eql t x y (.slice none 0 0) (.slice none 0 0)=some (.bool true):=by
 obtain⟨e,a⟩:=sl_und a
 simp [bw,fo,dP,a]

def Fl(v:Value):Prop:=ah v=[v]/\jE v=true/\ ∀x,v≠ .chan x
theorem aU{k:IntKind}{n:Int}:Fl (.int k n):=⟨rfl,rfl,nofun⟩
theorem mq{b:Bool}:Fl (.bool b):=⟨rfl,rfl,nofun⟩
theorem fl_str{b:ByteArray}:Fl (.string b):=⟨rfl,rfl,nofun⟩
theorem cI{a:Option Addr}:Fl (.pointer a):=⟨rfl,rfl,nofun⟩
theorem a9{a:Option Addr}{n c:Nat}:Fl (.slice a n c):=⟨rfl,rfl,nofun⟩
theorem fl_map{a:Option Nat}:Fl (.map a):=⟨rfl,rfl,nofun⟩
theorem ip{f:Fn}{a b:Array Value}:Fl (.func f a b):=⟨rfl,rfl,nofun⟩
theorem fl_nilf:Fl .nilFunc:=⟨rfl,rfl,nofun⟩
theorem fl_nili:Fl .nilIface:=⟨rfl,rfl,nofun⟩
theorem fl_iface{t:TypeId}{v:Value}:Fl (.iface t v):=⟨rfl,rfl,nofun⟩
theorem au.fl{α:Type}{k:Nat}{enc:α->List Value}{v:Value}{xs:List α}(s:au h k enc v xs):Fl v:=by
 rcases s with⟨rfl,_⟩|⟨_,_,_,_,rfl,_⟩<;>exact a9
theorem fG.fl{p:GL}(g:fG h p):Fl p.1:=by
 rcases g with⟨e,_⟩|⟨_,_,e,_⟩<;>rw [e]<;>exact a9
def placesOf(E:Env)(t:TypeId):Option (List (Nat×Nat)):=match E.und t with
 |some (.struct a)=>lV E a.toList
 |_=>none
def aggO:Option (List Value)->Option Value
 |some l=>some (.agg ⟨l⟩)
 |none=>none
theorem aggO_some{l:List Value}:aggO (some l)=some (.agg ⟨l⟩):=rfl
def kC(ps:List (Nat×Nat))(l:List Value)(a:List (Nat×Value)):Option (List Value):=iI (fun i=>ps[i]?) l a
theorem build_st{c:List Value}{ps:List (Nat×Nat)}{a:List (Nat×Value)}(d:E.zero t=some c)(b:placesOf E t=some ps):m9 E t a=aggO (kC ps c a):=by
 unfold placesOf at b
 unfold m9 kC
 rw [d]
 split at b
 . rename_i g f
   simp only [f,b]
   cases iI (fun i=>ps[i]?) c a<;>rfl
 . cases b
theorem fill_nil{ps:List (Nat×Nat)}{l:List Value}:kC ps l []=some l:=rfl
def buildQ(z:Option (List Value))(p:Option (List (Nat×Nat)))(a:List (Nat×Value)):Option Value:=match z with
 |none=>none
 | some z=>match p with
   |none=>none
   |some p=>aggO (kC p z a)
theorem build_q{a:List (Nat×Value)}(b:(placesOf E t).isSome=true):m9 E t a=buildQ (E.zero t) (placesOf E t) a:=by
 cases c:placesOf E t with
 |none=>rw [c]at b;cases b
 | some f=>
   cases d:E.zero t with
   |none=>simp [m9,buildQ,d]
   |some z=>exact build_st d c
theorem zn{b:List Value}{ps:List (Nat×Nat)}{a:List (Nat×Value)}:buildQ (some b) (some ps) a=aggO (kC ps b a):=rfl
def rj(ps:List (Nat×Nat))(l:List Value)(v:Value)(r:List (Nat×Value)):Option (Nat×Nat)->Option (List Value)
 |none=>none
 |some (o,n)=>match v with
  | .chan _=>none
  |v=>bif Xs (ah v).length n&&Xg (o+n) l.length then kC ps (bz l o (ah v)) r else none
theorem fill_q{ps:List (Nat×Nat)}{l:List Value}{i:Nat}{v:Value}{r:List (Nat×Value)}:kC ps l ((i,v)::r)=rj ps l v r (ps[i]?):=by
 unfold kC
 cases a:ps[i]? with
 |none=>simp [iI,rj,a]
 |some q=>obtain⟨o,n⟩:=q;simp only [iI,rj,a];rfl
theorem fills_one{ps:List (Nat×Nat)}{l:List Value}{o:Nat}{v:Value}{r:List (Nat×Value)}(a:Fl v)(b:o<l.length):rj ps l v r (some (o,1))=kC ps (l.set o v) r:=by
 have e:(bif Xs (ah v).length 1&&Xg (o+1) l.length then kC ps (bz l o (ah v)) r else none)=kC ps (l.set o v) r:=by
  rw [a.1]
  simp only [Xq,Xj,Nat.zero_add,Xc,Xa (show o+1<=l.length from b),Bool.and_self,cond_true,bz]
 cases v<;>first|exact e|exact absurd rfl (a.2.2 _)
theorem fills_agg{ps:List (Nat×Nat)}{l c:List Value}{o n:Nat}{r:List (Nat×Value)}(a:c.length=n)(b:o+n<=l.length):rj ps l (.agg ⟨c⟩) r (some (o,n))=kC ps (bz l o c) r:=by
 simp only [rj,ah,a,Xc,Xa b,Bool.and_self,cond_true]
theorem setL_nil{l:List Value}{o:Nat}:bz l o []=l:=rfl
theorem setL_cons{l vs:List Value}{o:Nat}{v:Value}:bz l o (v::vs)=bz (l.set o v) (o+1) vs:=rfl
theorem bF{v:Value}(a:Fl v):oW h (fun h=>boxR h t v) ptrTo (.row [v] 1):=by
 have:=bg (h:=h) (t:=t) a.2.2
 rw [a.1]at this
 exact this
theorem ay{M:Nat->Prop}{h0:Hp}{L:List (Nat×Ob)}{G:List GL}(S:St M h0 h L G){i b off md:Nat}{s:Option Nat}{l:List Value}{v:Value}(k:L[i]? =some (b,.row l md))(m:E.sz t=some 1)(c:Fl v)
 (o:off<l.length) (d:md≠0): ∃f,iz E h t (.pointer (some ⟨b,off,s⟩)) v=some f/\St M h0 f (L.set i (b,.row (l.set off v) md)) G/\Mo (· =b) h f:=by
 have a:ah v=[v]:=c.1
 have:=S.store (v:=v) (t:=t) (s:=s) (off:=off) (n:=1) k m c.2.2 (by rw [a];rfl) (by rw [a];simp [c.2.1]) (by omega) d
 rw [a]at this
 have e:lay l off [v]=l.set off v:=by
  refine Xe fun j=>?_
  rw [js (by simp;omega),Xk]
  simp only [Xq,Xj]
  by_cases g:off=j
  . subst g;rw [if_pos ⟨Xh _,by omega⟩,if_pos rfl,if_pos o];simp
  . rw [if_neg (by omega),if_neg g]
 rw [e]at this
 exact this
end
def ifaceR(E:Env)(t:TypeId)(v:Value):Option Value:=match E.und t with
 |none=>none
 |some (.interface _)=>none
 |some _=>some (.iface t v)
theorem o_ifaceR{E:Env}{ρ:Operand->Value}{h:Hp}{t:TypeId}{x:Operand}:aop E ρ h (.makeInterface t x)=ce h (ifaceR E t (ρ x)):=rfl
theorem ifaceR_is{E:Env}{t:TypeId}{v:Value}(a:jZ E t=true):ifaceR E t v=some (.iface t v):=mk_iface a
def nilcR:Value->Option Value
 | .pointer (some a)=>some (.pointer (some a))
 | .func (.func f) a b=>some (.func (.func f) a b)
 |_=>none
theorem o_nilcR{E:Env}{ρ:Operand->Value}{h:Hp}{x:Operand}:aop E ρ h (.nilCheck x)=ce h (nilcR (ρ x)):=rfl
theorem nilcR_ptr{a:Addr}:nilcR (.pointer (some a))=some (.pointer (some a)):=rfl
def pickR(c a b:Value):Option Value:=match c with
 | .bool t=>some (bif t then a else b)
 |_=>none
theorem o_pickR{E:Env}{ρ:Operand->Value}{h:Hp}{c a b:Operand}:aop E ρ h (.pick c a b)=ce h (pickR (ρ c) (ρ a) (ρ b)):=rfl
theorem pick_t{a b:Value}:pickR (.bool true) a b=some a:=rfl
theorem pick_f{a b:Value}:pickR (.bool false) a b=some b:=rfl
def extrR(i:Nat):Value->Option Value
 | .tuple a=>a.toList[i]?
 |_=>none
theorem o_extrR{E:Env}{ρ:Operand->Value}{h:Hp}{x:Operand}{i:Nat}:aop E ρ h (.extract x i)=ce h (extrR i (ρ x)):=by
 rw [o_extract];rfl
theorem extr_0{a:Value}{l:List Value}:extrR 0 (.tuple ⟨a::l⟩)=some a:=rfl
theorem extr_1{a b:Value}{l:List Value}:extrR 1 (.tuple ⟨a::b::l⟩)=some b:=rfl
theorem extr_2{a b c:Value}{l:List Value}:extrR 2 (.tuple ⟨a::b::c::l⟩)=some c:=rfl
noncomputable def delR(E:Env)(h:Hp)(t:TypeId)(m k:Value):Option (di×Hp):=match lh E h t m k with
 |none=>none
 |some a=>some (.val (.tuple #[]),a)
theorem o_delR{E:Env}{ρ:Operand->Value}{h:Hp}{m k:Operand}{t:TypeId}{ts:List TypeId}:aop E ρ h (.call ⟨.builtin .delete,#[m,k],⟨t::ts⟩⟩)=delR E h t (ρ m) (ρ k):=rfl
theorem aB{a b:Nat}:((a:Int)<(b:Int))=(a<b):=by simp
def BS:=zM (@run_seq)<|zM (@zL)<|zM (@r_ops)<|zM (@g_true)<|zM (@g_false)<|zM (@yI)<|zM (@run_ret)<|zM (@run_nil)<|zM (@run_skip)<|zM (@run_block)<|zM (@run_scope)<|zM (@run_blk)<|zM (@run_exit)<|zM (@yE)<|zM (@wE)<|zM (@yb)<|zM (@Aw)<|zM (@AB)<|zM (@r_cond)<|zM (@c_true)<|zM (@c_false)<|zM (@r_opsD)<|zM (@dn_loud)<|zM (@dn_quiet)<|zM (@dn_val)<|zM (@dn_skip)<|zM (@d_skip)<|zM (@qs)<|zM (@aZ)<|zM (@bC)<|zM (@w7)<|zM (@guard_no)<|zM (@AI)<|zM (@gj_some)<|zM (@gv_true)<|zM (@gv_false)<|zM (@gv_tuple)<|zM (@o_move)<|zM (@o_assign)<|zM (@o_pickR)<|zM (@pick_t)<|zM (@pick_f)<|zM (@o_load)<|zM (@o_store)<|zM (@o_binOp)<|zM (@o_unOp)<|zM (@o_nilcR)<|zM (@nilcR_ptr)<|zM (@o_ifaceR)<|zM (@z7)<|zM (@o_slice)<|zM (@zg)<|zM (@o_field)<|zM (@yR)<|zM (@o_index)<|zM (@o_extrR)<|zM (@extr_0)<|zM (@extr_1)<|zM (@extr_2)<|zM (@o_build)<|zM (@xj)<|zM (@zk)<|zM (@AG)<|zM (@xN)<|zM (@o_convert)<|zM (@o_lookup)<|zM (@zm)<|zM (@Ay)<|zM (@wR)<|zM (@o_allocR)<|zM (@o_boxR)<|zM (@o_callv)<|zM (@o_max)<|zM (@o_min)<|zM (@o_append)<|zM (@o_copy)<|zM (@o_lenR)<|zM (@o_delR)<|zM (@o_recover)<|zM (@o_deferR)<|zM (@o_panicR)<|zM (@zP)<|zM (@AF)<|zM (@Au)<|zM (@Aa)<|zM (@wD)<|zM (@uL)<|zM (@uk)<|zM (@tG)<|zM (@sX)<|zM (@step_defer)<|zM (@target_fn)<|zM (@wF)<|zM (@b_add)<|zM (@b_sub)<|zM (@b_mul)<|zM (@b_eql)<|zM (@b_neq)<|zM (@b_lss)<|zM (@b_leq)<|zM (@b_gtr)<|zM (@b_geq)<|zM (@b_eqlB)<|zM (@b_neqB)<|zM (@same_bool)<|zM (@u_not)<|zM (@mm_max)<|zM (@mm_min)<|zM (@ag)<|zM (@one1_some)<|zM (@agg1_some)<|zM (@c9)<|zM (@ll_put0)<|zM (@bS)<|zM (@ll_func)<|zM (@c_int)<|zM (@c_bool)<|zM (@c_string)<|zM (@c_nilp)<|zM (@c_nils)<|zM (@c_nilm)<|zM (@c_nilf)<|zM (@c_nili)<|zM (@ll_regs)<|zM (@lc)<|zM (@aJ)<|zM (@aP)<|zM (@bM)<|zM (@uZ)<|zM (@xC)<|zM (@jt)<|zM (@dD)<|zM (@hush_s)<|zM (@idxP_in)<|zM (@jQ)<|zM (@idx_q)<|zM (@AC)<|zM (@zR)<|zM (@qv)<|zM (@idxa_ptr)<|zM (@putI_some)<|zM (@len_q)<|zM (@An)<|zM (@lenq_str)<|zM (@lenq_arr)<|zM (@zo)<|zM (@load_q)<|zM (@loadq_f)<|zM (@loadq_t)<|zM (@n_iface)<|zM (@n_nil)<|zM (@e_iface)<|zM (@e_nil)<|zM (@n_ptr)<|zM (@e_ptr)<|zM (@n_pnil)<|zM (@e_pnil)<|zM (@e_slice)<|zM (@e_snil)<|zM (@assert_is)<|zM (@ifaceR_is)<|zM (@build_q)<|zM (@zn)<|zM (@aggO_some)<|zM (@fill_nil)<|zM (@fill_q)<|zM (@fills_one)<|zM (@fills_agg)<|zM (@setL_nil)<|zM (@setL_cons)<|zM (@aU)<|zM (@mq)<|zM (@fl_str)<|zM (@cI)<|zM (@a9)<|zM (@fl_map)<|zM (@ip)<|zM (@fl_nilf)<|zM (@fl_nili)<|(@fl_iface)
end Go.Ab

namespace Go.Ab
structure ItS(h0:Hp)(D:Nat->Prop)(h:Hp)(F:List Nat):Prop where
 ok:h.t.Sized h.n
 n:h0.n<=h.n
 data: ∀b,b<h0.n->D b->h.get b=h0.get b
 apart: ∀b∈F,¬(b<h0.n/\D b)
 lt: ∀b∈F,b<h.n
section
variable{h0 h h':Hp}{D:Nat->Prop}{F F':List Nat}
theorem ItS.gr(s:ItS h0 D h F)(g:Gr h h'):ItS h0 D h' F:=
 ⟨g.ok,Xn s.n g.n,fun b a c=>(g.get b (Xt a s.n)).trans (s.data b a c),s.apart,fun b a=>Xt (s.lt b a) g.n⟩
theorem ItS.mo(s:ItS h0 D h F)(m:Mo (· ∈F) h h')(hf: ∀b∈F',b∈F\/h.n<=b)(d: ∀b∈F',b<h'.n):ItS h0 D h' F':=
 ⟨m.ok,Xn s.n m.n,fun b a c=>(m.get b (Xt a s.n) (fun hf=>s.apart b hf ⟨a,c⟩)).trans (s.data b a c),
  fun b a c=>(hf b a).elim (fun a=>s.apart b a c) (fun a=>by have:=s.n;omega),d⟩
theorem ItS.load(s:ItS h0 D h F){b o n:Nat}{l:List Value}(a:h0.t.Sized h0.n)(e:h0.load b o n=some l)(c:D b):h.load b o n=some l:=by
 have:=s.data b (bD a e) c
 unfold Hp.load at e⊢
 rw [this];exact e
theorem ItS.sl{α:Type}{k:Nat}{enc:α->List Value}{v:Value}{xs:List α}(s:ItS h0 D h F)(a:h0.t.Sized h0.n)(e:au h0 k enc v xs)(f: ∀b,ar v b->D b):au h k enc v xs:=by
 rcases e with e|⟨b,o,g,c,d,i,j⟩
 . exact .inl e
 . exact .inr ⟨b,o,g,c,d,i,s.load a j (f b (by rw [d];rfl))⟩
end
structure Yld(E:Env)(lb:Nat)(J:Nat->Hp->List Nat->Prop)(Z:Out->Hp->Prop)(xs:List (List Value)):Prop where
 lt: ∀i h F,J i h F->h.t.Sized h.n/\ ∀b∈F,b<h.n
 gr: ∀i h F h',J i h F->Gr h h'->J i h' F
 zgr: ∀h h',Z (.ret (.bool false)) h->Gr h h'->Z (.ret (.bool false)) h'
 round: ∀i x h F,xs[i]? =some x->J i h F->kw E lb x h fun o h'=>(o=.ret (.bool true)/\ ∃F',J (i+1) h' F'/\Mo (· ∈F) h h'/\ ∀b∈F',b∈F\/h.n<=b)\/(o=.ret (.bool false)/\Z o h'/\h'.t.Sized h'.n)\/((∃v,o=.pan v)/\Z o h')
def YQ(J:Nat->Hp->List Nat->Prop)(Z:Out->Hp->Prop)(n:Nat)(o:Out)(b:Option (Value×Bool))(a:Hp):Prop:=
 b=none/\((∃u c,o=.ret u/\J n a c)\/(∃u,o=.ret u/\Z (.ret (.bool false)) a)\/(∃v,o=.pan v/\Z o a))
theorem rQ{E:Env}{g:FuncId}{a post:List Value}{h0:Hp}{D:Nat->Prop}{xs:List (List Value)}
 (H: ∀b J Z,Yld E b J Z xs-> ∀h F,ItS h0 D h F->J 0 h F->fS E g (a++[.func (.yield b) #[] #[]]++post) none h (YQ J Z xs.length)):Iter E g a post h0 D xs:=by
 intro b J Z h F e f i hlt c j k l d
 exact H b J Z ⟨hlt,c,j,l⟩ h F ⟨e,f,i,k,(hlt 0 h F d).2⟩ d
theorem yd{E:Env}{g:FuncId}{a post:List Value}{h0:Hp}{D:Nat->Prop}{xs:List (List Value)}(H:Iter E g a post h0 D xs){c:Nat}{J:Nat->Hp->List Nat->Prop}{Z:Out->Hp->Prop}(Y:Yld E c J Z xs)
 {h:Hp} {F:List Nat} (d:Mo (fun b=> ¬D b) h0 h) (f: ∀b∈F,b<h0.n-> ¬D b) (i:J 0 h F):fS E g (a++[.func (.yield c) #[] #[]]++post) none h (YQ J Z xs.length):=
 H c J Z h F d.ok d.n (fun b e j=>d.get b e (fun k=>k j)) Y.lt Y.gr Y.zgr (fun b e h=>f b e h.1 h.2) Y.round i
theorem cy{E:Env}{cx:Cx}{o:Oper}{l:Loc}{K:Ex->Loc->Hp->Prop}{h0 h:Hp}{D:Nat->Prop}{e i:Nat}{J:Nat->Hp->List Nat->Prop}{Z:Out->Hp->Prop}{xs:List (List Value)}{x:List Value}{F:List Nat}
 (Y:Yld E e J Z xs) (s:ItS h0 D h F) (f:J i h F) (g:xs[i]? =some x)
 (j: ∀d F',J (i+1) d F'->ItS h0 D d F'->Mo (· ∈F) h d->(∀b∈F',b∈F\/h.n<=b)->K .normal (l.put o.dst (.bool true)) d)
 (k2: ∀d,Z (.ret (.bool false)) d->d.t.Sized d.n->K .normal (l.put o.dst (.bool false)) d) (k: ∀v d,Z (.pan v) d->K (.pan v) l d):eZ E cx o l K (some (.yield e x,h)):=by
 refine us (Y.round i x h F g f) ?_
 rintro q d (⟨rfl,F',a,b,c⟩|⟨rfl,a,b⟩|⟨⟨v,rfl⟩,a⟩)
 . exact j d F' a (s.mo b c (Y.lt _ _ _ a).2) b c
 . exact k2 d a b
 . exact k v d a

section
variable{M:Nat->Prop}{h0 h h':Hp}{L L':List (Nat×Ob)}{G G':List GL}
theorem St.base(S:St M h0 h L G):St (· ∈keys L G) h h L G:=
 ⟨Mo.refl S.ok,fun p a=>⟨.inr (iV a),(S.own p a).2⟩,fun p a=>⟨(S.gown p a).1,fun b c=>.inr (gm a c)⟩,S.apart⟩
theorem St.key_own(S:St M h0 h L G){b:Nat}(a:b∈keys L G):h0.n<=b\/M b:=by
 unfold keys at a
 rcases List.mem_append.1 a with a|a
 . obtain⟨p,c,rfl⟩:=List.mem_map.1 a
   exact(S.own p c).1
 . obtain⟨p,c,d⟩:=List.mem_filterMap.1 a
   exact(S.gown p c).2 b d
theorem St.rebase(S:St M h0 h L G)(T:St (· ∈keys L G) h h' L' G'):St M h0 h' L' G':=by
 have d: ∀b,h.n<=b\/b∈keys L G->h0.n<=b\/M b:=fun b a=>a.elim (fun a=>.inl (Xn S.fr.n a)) S.key_own
 exact⟨S.fr.trans T.fr fun b a=>(S.key_own a).symm,fun p c=>⟨d _ (T.own p c).1,(T.own p c).2⟩,fun p c=>⟨(T.gown p c).1,fun b a=>d b ((T.gown p c).2 b a)⟩,T.apart⟩
theorem St.key_new(T:St (· ∈keys L G) h h' L' G'): ∀b∈keys L' G',b∈keys L G\/h.n<=b:=fun _ a=>(T.key_own a).symm
theorem St.sub(S:St M h0 h L G)(b:L'.Sublist L)(c:G'.Sublist G):St M h0 h L' G':=
 ⟨S.fr,fun p a=>S.own p (b.subset a),fun p a=>S.gown p (c.subset a),S.apart.sublist ((b.map _).append (c.filterMap _))⟩
theorem St.drop1{x:Nat×Ob}(S:St M h0 h (x::L) G):St M h0 h L G:=S.sub (XG _ _) (List.Sublist.refl _)
end
theorem ef{E:Env}{f:FuncId}{args:List Value}{e:Option (Value×Bool)}{h:Hp}{P Q:Out->Option (Value×Bool)->Hp->Prop}(g:fS E f args e h P)(i: ∀o c d,P o c d->Q o c d):fS E f args e h Q:=by
 obtain⟨o,c,d,a,b⟩:=g;exact⟨o,c,d,a,i _ _ _ b⟩
theorem pS{E:Env}{f:FuncId}{args:List Value}{h:Hp}{P Q:Value->Hp->Prop}(b:Ret E f args h P)(c: ∀v a,P v a->Q v a):Ret E f args h Q:=Ret.mono c b
theorem iA{E:Env}{cx:Cx}{Q:eG}{k:List Fr}{l:Loc}{a:Nat}{J:Nat->Hp->List Nat->Prop}{n:Nat}{o:Out}{c:Option (Value×Bool)}{h:Hp}(y:YQ J (fun _ _=>False) n o c h)
 (d: ∀F,J n h F-> ∃x,h.get a=some (.loop x)/\x.st≠1/\RangeGo E cx Q k l (h.put a .dead) x.pending):RangeQ E cx Q k l a o c h:=by
 obtain⟨_,⟨u,F,rfl,e⟩|⟨u,_,b⟩|⟨v,_,b⟩⟩:=y
 . exact d F e
 . exact b.elim
 . exact b.elim
theorem St.dead{M:Nat->Prop}{h0 h:Hp}{L:List (Nat×Ob)}{G:List GL}{b:Nat}{o:Ob}(S:St M h0 h ((b,o)::L) G):St M h0 (h.put b .dead) L G:=by
 have d:=S.own _ m0
 refine⟨S.fr.put d.1 _,fun p a=>⟨(S.own p (.tail _ a)).1,(S.own p (.tail _ a)).2.of_get (cd fun e=>?_)⟩,fun p a=>⟨(S.gown p a).1.of_get fun c f=>cd fun e=>?_,(S.gown p a).2⟩,(List.nodup_cons.1 S.apart).2⟩
 . exact(List.nodup_cons.1 S.apart).1 (by show b∈keys L G;rw [e];exact iV a)
 . exact(List.nodup_cons.1 S.apart).1 (by show b∈keys L G;rw [e];exact gm a f)
theorem St.get{M:Nat->Prop}{h0 h:Hp}{L:List (Nat×Ob)}{G:List GL}{b:Nat}{x:d9}(S:St M h0 h L G)(a:(b,Ob.loop x)∈L):h.get b=some (.loop x):=(S.own _ a).2
theorem St.getD{M:Nat->Prop}{h0 h:Hp}{L:List (Nat×Ob)}{G:List GL}{b:Nat}(S:St M h0 h L G)(a:(b,Ob.dfr)∈L):h.get b=some .dfr:=(S.own _ a).2

theorem pd{E:Env}{cx:Cx}{Q:eG}{k:List Fr}{n:Nat}{e:Option (Value×Bool)}{b:Code}{α:Type}(I:α->(Nat->Value)->List Deferred->Hp->Prop)(m:α->Nat)
 (q: ∀a,(∀f c g i,m f<m a->I f c g i->Run E (lim E) cx Q (.code (.loop b)::k) .normal (LL n c g e) i)-> ∀ρ d h,I a ρ d h->Run E (lim E) cx Q (.code b:: .code (.loop b)::k) .normal (LL n ρ d e) h):
 ∀a ρ d h,I a ρ d h->Run E (lim E) cx Q (.code (.loop b)::k) .normal (LL n ρ d e) h:=by
 have l: ∀j a,m a<j-> ∀ρ d h,I a ρ d h->Run E (lim E) cx Q (.code (.loop b)::k) .normal (LL n ρ d e) h:=by
  intro j
  induction j with
  |zero=>intro a r;omega
  | succ j s=>
    intro a r ρ d h o
    rw [bW]
    exact q a (fun f c g i hlt p=>s f (by omega) c g i p) ρ d h o
 intro a ρ d h o
 exact l (m a+1) a (by omega) ρ d h o
def c5(a:List Nat):List (Nat×Ob):=a.map fun b=>(b,Ob.dfr)
theorem eQ{E:Env}{M:Nat->Prop}{h0:Hp}{L:List (Nat×Ob)}{G:List GL}{m:Option Value}{P:Option Value->Hp->Prop}: ∀(a:List Nat) (h:Hp),St M h0 h (c5 a++L) G->(∀d,St M h0 d L G->P m d)->UnQ E (a.map oZ) m h P
 | [],h,S,c=>cB (c h S)
 |b::a,h,S,c=>un_dfr (S.getD m0) (eQ a _ (S.dead) c)

theorem rz{E:Env}{n:Nat}{ρ:Nat->Value}{h:Hp}{t:Tmp}{ty:TypeId}{v:Value}(a:t<n)(b:eu E h ty (ρ t)=some v):aV E (tab n ρ) h [.cell t ty]=some [v]:=by
 simp only [aV,lc,if_pos a,b]
theorem gu{E:Env}{h:Hp}{t:TypeId}{b o:Nat}{s:Option Nat}{v:Value}(a:E.agg t=some false)(c:h.load b o 1=some [v]):eu E h t (.pointer (some ⟨b,o,s⟩))=some v:=by
 rw [load_q,a,loadq_f,c];rfl
theorem cR{E:Env}{h:Hp}{t:TypeId}{b o n:Nat}{s:Option Nat}{l:List Value}(a:E.agg t=some true)(c:E.sz t=some n)(d:h.load b o n=some l):eu E h t (.pointer (some ⟨b,o,s⟩))=some (.agg ⟨l⟩):=by
 rw [load_q,a,c,loadq_t,d];rfl

theorem St.call1{M:Nat->Prop}{h0 h m:Hp}{L:List (Nat×Ob)}{G:List GL}(S:St M h0 h L G){i b:Nat}{o o':Ob}(g:L[i]? =some (b,o))(f:Mo (· =b) h m)(q:Has m b o'):St M h0 m (L.set i (b,o')) G:=by
 have n:=S.own _ (zO g)
 have k:(keys L G)[i]? =some b:=n9 g
 refine⟨S.fr.trans f (fun c l=>by subst l;exact n.1.symm),fun p a=>?_,fun p a=>⟨(S.gown p a).1.of_get fun c l=>?_,(S.gown p a).2⟩,?_⟩
 . rcases lg a with rfl|⟨j,r,a⟩
   . exact⟨n.1,q⟩
   . have d:=S.own p (zO a)
     refine⟨d.1,d.2.of_get (f.get _ (d.2.lt S.ok) fun e=>r ?_)⟩
     have s:(keys L G)[j]? =some b:=by rw [n9 a];rw [e]
     exact oK S.apart s k
 . refine f.get c ((S.gown p a).1.lt S.ok l) fun e=>?_
   subst e
   have d:=S.apart
   unfold keys at d
   rw [Xm]at d
   exact d.2.2 c (List.mem_map.2 ⟨_,zO g,rfl⟩) c (List.mem_filterMap.2 ⟨p,a,l⟩) rfl
 . have:keys (L.set i (b,o')) G=keys L G:=by
    unfold keys
    congr 1
    rw [List.map_set]
    refine Xe fun j=>?_
    rw [Xk]
    split
    . rename_i e;subst e
      have:=(List.getElem?_eq_some_iff.1 g).1
      rw [if_pos (by simpa using this),Xu,g];rfl
    . rfl
   rw [this];exact S.apart
theorem St.init1{h:Hp}(a:h.t.Sized h.n){b:Nat}{o:Ob}(c:Has h b o):St (· =b) h h [(b,o)] []:=(St.init a).push (.inr rfl) c (by simp [keys])
theorem wrap8(z:Int):0<=ao .u8 z/\ao .u8 z<256:=by
 unfold ao
 cases z with
 | ofNat m=>
   simp only [hf,sgn,pw]
   cases a:Nat.blt m 256 with
   | true=>
     rw [Nat.blt_eq]at a
     simp only [cond_true]
     exact⟨XD m,Int.ofNat_lt.2 a⟩
   | false=>
     simp only [cond_false]
     exact⟨XD _,Int.ofNat_lt.2 (Nat.mod_lt _ (by omega))⟩
 | negSucc m=>
   simp only [hf,sgn,pw,cond_false]
   exact⟨XD _,Int.ofNat_lt.2 (show 256-1-m%256<256 by omega)⟩
theorem a8{a:List (Nat×Tch)}{i j:Nat}{l:List (Nat×Nat)}:eh a ((i,j)::l)=(jm (cq i a) (cq j a)&&eh a l):=rfl
theorem aM{a:Nat}{h b:Hp}(e:leaves h b a=true):jm (some (.blk a)) (some (.run h b))=true:=e
theorem aQ{a:Nat}{h b:Hp}(e:leaves h b a=true):jm (some (.run h b)) (some (.blk a))=true:=e
theorem dV{a b:Nat}(e:a≠b):jm (some (.blk a)) (some (.blk b))=true:=by
 simp only [jm]
 cases c:Xs a b with
 |false=>rfl
 |true=>exact absurd (XI c) e
theorem bI{i:Nat}{b:Tch}{l:List (Nat×Tch)}:cq i ((i,b)::l)=some b:=by simp [cq,Xc]
theorem aY{i k:Nat}{b:Tch}{l:List (Nat×Tch)}(h:i≠k):cq i ((k,b)::l)=cq i l:=by
 have h:Xs i k=false:=by rw [cF];simpa using h
 simp [cq,h]
theorem St.leaves{M:Nat->Prop}{h0 h a:Hp}{L:List (Nat×Ob)}{G:List GL}(S:St M h0 h L G){b c:Nat}{o:Ob}(d:(c,o)∈L)(f:Mo (· =b) h a)(e:c≠b):leaves h a c=true:=
 pj (f.get c ((S.own _ d).2.lt S.ok) e)

theorem aW{i k:Nat}{x:Option Tch}{a:List (Nat×Tch)}(h:i≠k):cq i (ii k a x)=cq i a:=by
 cases x with
 |none=>rfl
 |some b=>exact aY h
theorem bK{ρ:Operand->Value}{b:Bool}{t:TypeId}{a:Operand}{h c:Hp}:cH ρ b (.load t a) h c=(match ρ a with| .pointer (some a)=>some (.blk a.block)|_=>none):=by
 simp only [cH,dK,jO,eS,touch,cond_false]
 cases ρ a<;>first|rfl|(rename_i x;cases x<;>rfl)
theorem bZ{ρ:Operand->Value}{f:Operand}{as:Array Operand}{ts:Array TypeId}{h a:Hp}:cH ρ false (.call ⟨.value f,as,ts⟩) h a=some (.run h a):=rfl
theorem bj{ρ:Operand->Value}{b:Bool}{t:TypeId}{h a:Hp}:cH ρ b (.alloc t) h a=some (.blk h.n):=rfl

theorem St.gset {M:Nat->Prop} {h0 h:Hp} {L:List (Nat×Ob)} {G:List GL} (S:St M h0 h L G) {E:Env} {t:TypeId} {j i:Nat} {v:Value} {vs:List Value} {kd:IntKind} (f:G[j]? =some (v,1,vs)) (K:i<vs.length) (R:E.sz t=some 1):
 ∃b,lM (some 1) v (.int kd i)=some (.pointer (some ⟨b,i,none⟩))/\ ∀x,Fl x-> ∃N,iz E h t (.pointer (some ⟨b,i,none⟩)) x=some N/\St M h0 N L (G.set j (v,1,vs.set i x)):=by
 obtain⟨T,w⟩:=S.gown _ (zO f)
 rcases T with⟨_,z⟩|⟨b,n,O,z,P⟩
 . simp only []at z;subst z;simp at K
 . simp only [] at O z P
   subst O
   have m:n=vs.length:=by omega
   refine⟨b,?_,fun x D=>?_⟩
   . rw [qv,jQ (by omega)]
     simp [putI]
   . obtain ⟨y, A,B⟩:=P.store S.ok Nat.one_ne_zero (o:=i) (vs:=[x]) (by simp;omega) (by simp [D.2.1])
     have e:lay vs i [x]=vs.set i x:=by
      refine Xe fun j=>?_
      rw [js (by simp;omega),Xk]
      simp only [Xq,Xj]
      by_cases C:i=j
      . subst C;rw [if_pos ⟨Xh _,by omega⟩,if_pos rfl,if_pos K];simp
      . rw [if_neg (by omega),if_neg C]
     rw [e]at B
     refine⟨h.put b y,?_,?_⟩
     . have:iz E h t (.pointer (some ⟨b,i,none⟩)) x=h.store b i [x]:=by
        simp only [iz,R]
        have U:ah x=[x]:=D.1
        have V:(bif Xs (ah x).length 1 then h.store b i (ah x)else none)=h.store b i [x]:=by rw [U];rfl
        revert V
        cases x<;>first|exact fun h=>h|exact absurd rfl (D.2.2 _)
       rw [this];exact A
     . have l:dJ (Value.slice (some ⟨b,0,some 1⟩) n n,1,vs)=some b:=rfl
       have Q:=w b l
       have hlt:=(List.getElem?_eq_some_iff.1 f).1
       have W: ∀c∈L.map XN,c≠b:=fun c k e=>by
        have A:=S.apart
        unfold keys at A
        rw [Xm]at A
        exact A.2.2 c k b (List.mem_filterMap.2 ⟨_,zO f,l⟩) e
       have s:keys L (G.set j (Value.slice (some ⟨b,0,some 1⟩) n n,1,vs.set i x))=keys L G:=by
        unfold keys
        congr 1
        have: ∀(G:List GL) (j:Nat) (p q:GL),G[j]? =some p->dJ q=dJ p->(G.set j q).filterMap dJ=G.filterMap dJ:=by
         intro G
         induction G with
         |nil=>intro j p q f;simp at f
         | cons g G F=>
           intro j p q f u
           cases j with
           |zero=>simp at f;subst f;simp [Xf,u]
           |succ j=>simp at f;simp only [List.set_cons_succ,Xf,F j p q f u]
        exact this G j _ _ f rfl
       refine⟨S.fr.put Q y,fun p d=>⟨(S.own p d).1,(S.own p d).2.of_get (cd fun e=>W _ (XC d) e.symm)⟩,fun p d=>?_,by rw [s];exact S.apart⟩
       rcases lg d with rfl|⟨X,H,d⟩
       . exact⟨.inr ⟨b,n,rfl,by simpa using z,B⟩,fun c k=>by cases k;exact Q⟩
       . refine ⟨(S.gown p (zO d)).1.of_get fun c k=>cd fun e=>H ?_,(S.gown p (zO d)).2⟩
         subst e
         have B:=S.apart
         unfold keys at B
         have Y:=(List.nodup_append.1 B).2.1
         have I: ∀(G:List GL) (a c:Nat) (p q:GL),(G.filterMap dJ).Nodup->G[a]? =some p->G[c]? =some q-> ∀x,dJ p=some x->dJ q=some x->a=c:=by
          intro G
          induction G with
          |nil=>intro a c p q _ r;simp at r
          | cons g G F=>
            intro a c p q m r k x d u
            have J:(G.filterMap dJ).Nodup:=by
             rw [Xf]at m
             split at m
             . exact m
             . exact(List.nodup_cons.1 m).2
            cases a with
            | zero=>
              cases c with
              |zero=>rfl
              | succ c=>
                simp at r k
                subst r
                rw [Xd d]at m
                exact absurd (List.mem_filterMap.2 ⟨q,zO k,u⟩) (List.nodup_cons.1 m).1
            | succ a=>
              cases c with
              | zero=>
                simp at r k
                subst k
                rw [Xd u]at m
                exact absurd (List.mem_filterMap.2 ⟨p,zO r,d⟩) (List.nodup_cons.1 m).1
              | succ c=>
                simp at r k
                rw [F a c p q J r k x d u]
         exact I G X j p _ Y d f b k l

def JP(n:Nat)(d:List Deferred)(b:Option (Value×Bool))(J:(Nat->Value)->Hp->Prop):eG:=fun e l h=>e=.normal/\ ∃a,l=LL n a d b/\J a h
theorem wL{E:Env}{cx:Cx}{Q:eG}{k:List Fr}{n:Nat}{d:List Deferred}{a:Option (Value×Bool)}{J:(Nat->Value)->Hp->Prop}{c:Code}{l:Loc}{h:Hp}
 (b:Run E (lim E) cx (JP n d a J) [.code c] .normal l h) (e: ∀ρ h,J ρ h->Run E (lim E) cx Q k .normal (LL n ρ d a) h):Run E (lim E) cx Q (.code c::k) .normal l h:=by
 obtain⟨m,o,f,g,i⟩:=b
 obtain⟨rfl,ρ,rfl,j⟩:=i
 exact⟨_,_,_,g,e ρ f j⟩
theorem tt{E:Env}{cx:Cx}{Q:eG}{k:List Fr}{n:Nat}{d:List Deferred}{e:Option (Value×Bool)}(J:(Nat->Value)->Hp->Prop){a b:Code}{c:Nat->Value}{h:Hp}{t:Bool}
 (g:t=true->Run E (lim E) cx (JP n d e J) [.code a] .normal (LL n c d e) h) (i:t=false->Run E (lim E) cx (JP n d e J) [.code b] .normal (LL n c d e) h)
 (f: ∀ρ h,J ρ h->Run E (lim E) cx Q k .normal (LL n ρ d e) h):CStep E cx Q a b k (LL n c d e) h (.bool t):=by
 cases t with
 |true=>exact wL (g rfl) f
 |false=>exact wL (i rfl) f
theorem iS{n:Nat}{d:List Deferred}{a:Option (Value×Bool)}{J:(Nat->Value)->Hp->Prop}{ρ:Nat->Value}{h:Hp}(b:J ρ h):JP n d a J .normal (LL n ρ d a) h:=⟨rfl,ρ,rfl,b⟩

theorem rR{E:Env}{R:Rec}{cx:Cx}{Q:eG}{k2:List Fr}: ∀(m:List Fr) (e:Ex) (l:Loc) (h:Hp),Run E R cx (fun e l h=>Run E R cx Q k2 e l h) m e l h->Run E R cx Q (m++k2) e l h
 | [],e,l,h,d=>d
 | f ::m,e,l,h,d=>by
   have g:=rR (E:=E) (R:=R) (cx:=cx) (Q:=Q) (k2:=k2) m
   cases f with
   | code c=>
     cases e with
     |normal=>obtain⟨n,j,k,a,b⟩:=d;exact⟨n,j,k,a,g _ _ _ b⟩
     |exit i=>exact g _ _ _ d
     |ret=>exact g _ _ _ d
     |pan v=>exact g _ _ _ d
   | blk id=>
     cases e with
     |normal=>exact g _ _ _ d
     | exit i=>
       simp only [Run,List.cons_append]at d⊢
       by_cases p:i=id
       . rw [if_pos p]at d⊢;exact g _ _ _ d
       . rw [if_neg p]at d⊢;exact g _ _ _ d
     |ret=>exact g _ _ _ d
     |pan v=>exact g _ _ _ d
   | ops a r=>
     cases e with
     |normal=>obtain⟨n,j,k,a,b⟩:=d;exact⟨n,j,k,a,g _ _ _ b⟩
     |exit i=>exact g _ _ _ d
     |ret=>exact g _ _ _ d
     |pan v=>exact g _ _ _ d
   | opsD a q s r i t=>
     cases e with
     |normal=>obtain⟨j,k,o,a,b,c⟩:=d;exact⟨j,k,o,a,b,g _ _ _ c⟩
     |exit i=>exact g _ _ _ d
     |ret=>exact g _ _ _ d
     |pan v=>exact g _ _ _ d
theorem run_post{E:Env}{R:Rec}{cx:Cx}{Q n:eG}(hq: ∀e l h,Q e l h->n e l h): ∀(k:List Fr) (e:Ex) (l:Loc) (h:Hp),Run E R cx Q k e l h->Run E R cx n k e l h
 | k, e, l,h,d=>by
   have:=rR (E:=E) (R:=R) (cx:=cx) (Q:=n) (k2:=[]) k e l h
   rw [XA]at this
   refine this ?_
   revert d
   induction k generalizing e l h with
   |nil=>intro d;exact hq _ _ _ d
   | cons f k g=>
     intro d
     have g:=fun e l h d=>g e l h (by have:=rR (E:=E) (R:=R) (cx:=cx) (Q:=n) (k2:=[]) k e l h;rwa [XA]at this) d
     cases f with
     | code c=>
       cases e with
       |normal=>obtain⟨o,j,m,a,b⟩:=d;exact⟨o,j,m,a,g _ _ _ b⟩
       |exit i=>exact g _ _ _ d
       |ret=>exact g _ _ _ d
       |pan v=>exact g _ _ _ d
     | blk id=>
       cases e with
       |normal=>exact g _ _ _ d
       | exit i=>
         simp only [Run]at d⊢
         by_cases r:i=id
         . rw [if_pos r]at d⊢;exact g _ _ _ d
         . rw [if_neg r]at d⊢;exact g _ _ _ d
       |ret=>exact g _ _ _ d
       |pan v=>exact g _ _ _ d
     | ops a s=>
       cases e with
       |normal=>obtain⟨o,j,m,a,b⟩:=d;exact⟨o,j,m,a,g _ _ _ b⟩
       |exit i=>exact g _ _ _ d
       |ret=>exact g _ _ _ d
       |pan v=>exact g _ _ _ d
     | opsD a q t s i u=>
       cases e with
       |normal=>obtain⟨j,m,p,a,b,c⟩:=d;exact⟨j,m,p,a,b,g _ _ _ c⟩
       |exit i=>exact g _ _ _ d
       |ret=>exact g _ _ _ d
       |pan v=>exact g _ _ _ d
theorem sC{E:Env}{cx:Cx}{Q:eG}{k:List Fr}{n:Nat}{d:List Deferred}{c:Option (Value×Bool)}{b:Code}{id:Nat}{α:Type}(J:(Nat->Value)->Hp->Prop)(I:α->(Nat->Value)->Hp->Prop)(m:α->Nat)
 (o: ∀a,(∀i f j,m i<m a->I i f j->Run E (lim E) cx (JP n d c J) [.code (.loop b),.blk id] .normal (LL n f d c) j)-> ∀ρ h,I a ρ h->Run E (lim E) cx (JP n d c J) [.code b,.code (.loop b),.blk id] .normal (LL n ρ d c) h)
 (p: ∀ρ h,J ρ h->Run E (lim E) cx Q k .normal (LL n ρ d c) h) (a:α) {ρ:Nat->Value} {h:Hp} (q:I a ρ h):Run E (lim E) cx Q (.code (.loop b):: .blk id::k) .normal (LL n ρ d c) h:=by
 have r:=aN I m o a ρ h q
 refine rR [.code (.loop b),.blk id] _ _ _ (run_post (fun e l h g=>?_) _ _ _ _ r)
 obtain⟨rfl,ρ,rfl,g⟩:=g
 exact p ρ h g

theorem oI{ops:List Oper}{ord:List Nat}{os:List Oper}(a:(ops.any ra&&ops.all (pD ops.length))=true)(b:ordL ops=ord)(c:gk ops ord ord=os):eA ops=os:=by unfold eA;rw [a,b,c];rfl
theorem St.gblk{M:Nat->Prop}{h0 h:Hp}{L:List (Nat×Ob)}{G:List GL}(S:St M h0 h L G){p:GL}(d:p∈G){c:Nat}(a:ar p.1 c):(h0.n<=c\/M c)/\c∉L.map XN:=by
 have g:dJ p=some c:=by
  rcases(S.gown p d).1 with⟨e,_⟩|⟨b,n,e,_⟩
  . rw [e]at a;exact a.elim
  . obtain⟨v,k,j⟩:=p
    simp only []at e a
    subst e
    exact congrArg some a
 refine⟨(S.gown p d).2 c g,fun i=>?_⟩
 have f:=S.apart
 unfold keys at f
 rw [Xm]at f
 exact f.2.2 c i c (List.mem_filterMap.2 ⟨p,d,g⟩) rfl
end Go.Ab

namespace Go.Ab
structure Arc where
 s:Nat
 t:Nat
 w:Nat
deriving Inhabited
def cu(a:Arc):List Value:=[.int .i64 a.s,.int .i64 a.t,.int .i64 a.w]
theorem hZ(a:Arc):(cu a).length=3:=rfl
structure Gra where
 nodes:Nat
 X:List Int
 Y:List Int
 arcs:List Arc
structure Good(g:Gra):Prop where
 n1:1<=g.nodes
 n2:g.nodes<=12
 lX:g.X.length=g.nodes
 lY:g.Y.length=g.nodes
 cX: ∀x∈g.X,-2147483648<=x/\x<=2147483647
 cY: ∀x∈g.Y,-2147483648<=x/\x<=2147483647
 many:g.arcs.length<=100
 arcs: ∀a∈g.arcs,a.s<g.nodes/\a.t<g.nodes/\a.w<=2147483647
structure c8(h:Hp)(vx vy va:Value)(g:Gra):Prop where
 X:au h 1 (encI .i64) vx g.X
 Y:au h 1 (encI .i64) vy g.Y
 A:au h 3 cu va g.arcs
theorem c8.gr{h b:Hp}{c d e:Value}{g:Gra}(a:c8 h c d e g)(r:Gr h b):c8 b c d e g:=⟨a.X.gr r,a.Y.gr r,a.A.gr r⟩
def jh(g:Gra)(a b c:Value):Value:=.agg ⟨[.int .i64 g.nodes,a,b,c]⟩
structure Pl where
 i:Int
 f:Int
 c:Int
 n:Int
 lo:Int
 hi:Int
def jB(p:Pl):List Value:=[.int .i64 p.i,.int .i64 p.f,.int .i64 p.c,.int .i64 p.n,.int .i64 p.lo,.int .i64 p.hi]
theorem encP_len(p:Pl):(jB p).length=6:=rfl
end Go.Ab

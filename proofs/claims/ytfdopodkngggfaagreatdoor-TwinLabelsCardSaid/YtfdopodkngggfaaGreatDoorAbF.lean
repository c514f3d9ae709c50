/- A deterministic evaluator of the model's code, and that the model follows it (part 6). -/
import Derived.Test.YtfdopodkngggfaaGreatDoorAbE
open And renaming intro->zM
open List renaming mem_of_getElem?->zN,length_append->zP,filterMap_cons_some->zR,ext_getElem?->zS,filterMap_cons->zT,length_nil->zX,getElem?_set->zY,nodup_append->Xa,mem_append_right->Xc,length_cons->Xe,getElem?_map->Xi,filterMap_append->Xk,getElem?_eq_none->Xl,mem_cons_of_mem->Xm,mem_append_left->Xn,append_nil->Xo,mem_map_of_mem->Xq,flatMap_cons->Xs,take_length->Xt,sublist_cons_self->Xu,replicate->Xx,length_replicate->Xy,drop_zero->Xz,getElem?_append->XA
open Nat renaming ble_eq_true_of_le->zO,beq_refl->zQ,ble->zU,le_refl->zV,le_of_ble_eq_true->zW,le_mul_of_pos_right->zZ,le_trans->Xb,succ_mul->Xd,eq_of_mul_eq_mul_right->Xf,beq->Xg,lt_of_lt_of_le->Xh,mul_le_mul_right->Xp,add_mul->Xv,eq_of_beq_eq_true->Xw
open Bool renaming and_eq_true->Xj
open Int renaming natCast_nonneg->Xr
open Prod renaming fst->XB
set_option maxHeartbeats 400000
set_option linter.defProp false
set_option linter.unusedVariables false
set_option linter.unusedSimpArgs false
namespace Go.Ab
def argEq:Value->Value->Bool
 | .int k a,.int k' b=>jX k k'&&iC a b
 | .bool a,.bool b=>bif a then b else !b
 | .string s,.string u=>gw (aH s) (aH u)
 |_,_=>false
def nf:List Value->List Value->Bool
 | [],[]=>true
 |a::l,b::m=>argEq a b&&nf l m
 |_,_=>false
def orcOf:List (Nat×List Value×Value)->Nat->List Value->Option Value
 | [],_,_=>none
 |(f,as,v)::l,g,args=>bif Xg f g&&nf as args then some v else orcOf l g args
theorem wW{a b:Value}(h:argEq a b=true):a=b:=by
 unfold argEq at h
 split at h
 . rename_i k m k' n
   simp only [Xj]at h
   have h1:k=k':=by simpa [fI]using h.1
   have h2:m=n:=by simpa [gG]using h.2
   rw [h1,h2]
 . rename_i a b
   cases a<;>cases b<;>first|rfl|cases h
 . rename_i s u
   have this:s.data.toList=u.data.toList:=by
    have:=h
    rw [iG]at this
    simpa [aH]using this
   cases s with|mk a=>cases u with|mk b=>rw [show a=b from Array.ext' this]
 . cases h
theorem uI: ∀{a b:List Value},nf a b=true->a=b
 | [],[],_=>rfl
 | [],_::_,h=>by simp [nf]at h
 |_::_,[],h=>by simp [nf]at h
 | a::x,b::y,h=>by
   simp only [nf,Xj]at h
   rw [uI h.2,wW h.1]
theorem uQ{P:Nat->List Value->Value->Prop}: ∀{l:List (Nat×List Value×Value)},(∀e∈l,P e.1 e.2.1 e.2.2)-> ∀{g:Nat} {args:List Value} {v:Value},orcOf l g args=some v->P g args v
 | [],_,g,args,v,h=>by cases h
 | (f,as,x)::l,hl,g,args,v,h=>by
   simp only [orcOf]at h
   cases hb:Xg f g&&nf as args with
   | true=>
     rw [hb]at h
     cases h
     simp only [Xj]at hb
     have h1:=Xw hb.1
     have h2:=uI hb.2
     subst h1
     subst h2
     exact hl _ (List.mem_cons_self)
   | false=>
     rw [hb]at h
     exact uQ (fun e he=>hl e (Xm _ he)) h
def isVal(v:Value)(r:Option (Out×Option (Value×Bool)×Hp)):Bool:=match r with
 |some (.ret u,none,_)=>argEq u v
 |_=>false
theorem isVal_ret{v:Value}{r:Option (Out×Option (Value×Bool)×Hp)}(h:isVal v r=true): ∃h',r=some (.ret v,none,h'):=by
 unfold isVal at h
 split at h
 . rw [wW h];exact⟨_,rfl⟩
 . cases h
def kN(E:Env)(P:Program)(e:Nat×List Value×Value):Prop:=(∃fn,E.fn e.1=some fn/\fn.body.isSome=true)/\OrcAt P e.1 e.2.1 e.2.2
theorem wP{E:Env}{P:Program}(ok:EOk E P){n:Nat}{f:Nat}{args:List Value}{v:Value}(ha:(args.all cg&&cg v)=true)(hr:isVal v ((runK E n).call f args none hp0)=true):kN E P (f,args,v):=by
 simp only [Xj]at ha
 obtain⟨h',hr⟩:=isVal_ret hr
 rw [runK_call]at hr
 exact yX ok ha.1 ha.2 hr
theorem kN.with{E:Env}{P:Program}{o:Nat->List Value->Option Value}{e:Nat×List Value×Value}(k:kN E P e):kN (oU E o) P e:=k
theorem kN.without{E:Env}{P:Program}{o:Nat->List Value->Option Value}{e:Nat×List Value×Value}(k:kN (oU E o) P e):kN E P e:=k
theorem eok_table{E:Env}{P:Program}(ok:EOk E P){l:List (Nat×List Value×Value)}(hl: ∀e∈l,kN E P e):EOk (oU E (orcOf l)) P:=
 eok_with ok fun _ _ _ h=>uQ (P:=fun g args v=>kN E P (g,args,v)) hl h
end Go.Ab

namespace Go.Ab

inductive Ob where
 |row (l:List Value) (md:Nat)
 |map (es:List (Value×Value×Nat)) (c:Nat)
 |loop (x:fF)
 |dfr
def Has(h:Hp)(b:Nat):Ob->Prop
 | .row l md=>Row h b l md
 | .map es c=>h.get b=some (.map es c)
 | .loop x=>h.get b=some (.loop x)
 | .dfr=>h.get b=some .dfr
theorem Row.of_get{h h':Hp}{b:Nat}{l:List Value}{md:Nat}(e:h'.get b=h.get b)(k:Row h b l md):Row h' b l md:=by
 obtain⟨t,el,a,c,d⟩:=k;exact⟨t,el,by rw [e];exact a,c,d⟩
theorem Has.of_get{h h':Hp}{b:Nat}{o:Ob}(e:h'.get b=h.get b)(k:Has h b o):Has h' b o:=by
 cases o with
 |row l md=>exact Row.of_get e k
 |map es c=>exact e.trans k
 |loop x=>exact e.trans k
 |dfr=>exact e.trans k
theorem Has.lt{h:Hp}(ok:h.t.Sized h.n){b:Nat}{o:Ob}(k:Has h b o):b<h.n:=by
 cases o with
 |row l md=>exact Row.lt ok k
 |map es c=>exact fm ok k
 |loop x=>exact fm ok k
 |dfr=>exact fm ok k
theorem Has.some{h:Hp}{b:Nat}{o:Ob}(k:Has h b o):(h.get b).isSome=true:=by
 cases o with
 |row l md=>obtain⟨t,el,a,_⟩:=k;rw [a];rfl
 |map es c=>rw [show h.get b=_ from k];rfl
 |loop x=>rw [show h.get b=_ from k];rfl
 |dfr=>rw [show h.get b=_ from k];rfl

structure Mo(M:Nat->Prop)(h h':Hp):Prop where
 ok0:h.t.Sized h.n
 ok:h'.t.Sized h'.n
 n:h.n<=h'.n
 get: ∀b,b<h.n-> ¬M b->h'.get b=h.get b
 lo: ∀x,x<=h.n->x<=h.lo->(∀b,M b->x<=b)->x<=h'.lo
abbrev NoM:Nat->Prop:=fun _=>False
theorem Gr.fr{M:Nat->Prop}{h h':Hp}(g:Gr h h'):Mo M h h':=⟨g.ok0,g.ok,g.n,fun b hb _=>g.get b hb,fun x h1 h2 _=>g.lo x h1 h2⟩
theorem Mo.gr{h h':Hp}(g:Mo NoM h h'):Gr h h':=⟨g.ok0,g.ok,g.n,fun b hb=>g.get b hb (fun x=>x),fun x h1 h2=>g.lo x h1 h2 (fun _ h=>h.elim)⟩
theorem Mo.refl{M:Nat->Prop}{h:Hp}(ok:h.t.Sized h.n):Mo M h h:=(Gr.refl ok).fr
theorem Mo.trans{M M':Nat->Prop}{a b c:Hp}(x:Mo M a b)(y:Mo M' b c)(hm: ∀i,M' i->M i\/a.n<=i):Mo M a c:=
 ⟨x.ok0,y.ok,Xb x.n y.n,fun i hi hn=>(y.get i (Xh hi x.n) (fun hm'=>(hm i hm').elim hn (fun h=>by omega))).trans (x.get i hi hn),
  fun i h1 h2 h3=>y.lo i (Xb h1 x.n) (x.lo i h1 h2 h3) fun j hj=>(hm j hj).elim (h3 j) (fun h=>by omega)⟩
theorem Mo.mono{M M':Nat->Prop}{a b:Hp}(x:Mo M a b)(hm: ∀i,M i->M' i):Mo M' a b:=
 ⟨x.ok0,x.ok,x.n,fun i hi hn=>x.get i hi (fun h=>hn (hm i h)),fun i h1 h2 h3=>x.lo i h1 h2 fun j hj=>h3 j (hm j hj)⟩
theorem Mo.new{M:Nat->Prop}{a h:Hp}(g:Mo M a h)(x:Blk):Mo M a (h.new x):=g.trans (M':=NoM) (Gr.new g.ok x).fr (fun _ h=>h.elim)
theorem Mo.put{M:Nat->Prop}{a h:Hp}(g:Mo M a h){b:Nat}(hb:a.n<=b\/M b)(x:Blk):Mo M a (h.put b x):=by
 refine g.trans (M':=fun i=>i=b) ⟨g.ok,put_ok g.ok b x,zV _,fun i hi hn=>bT (fun e=>hn e.symm),fun i h1 h2 h3=>?_⟩ (fun i h=>by subst h;exact hb.symm)
 show i<=dL b h.lo
 have:=h3 b rfl
 unfold dL
 cases zU b h.lo<;>simp<;>omega
theorem Mo.has{M:Nat->Prop}{a h:Hp}(g:Mo M a h){b:Nat}{o:Ob}(k:Has a b o)(hm: ¬M b):Has h b o:=Has.of_get (g.get b (k.lt g.ok0) hm) k

abbrev GL:=Value×Nat×List Value
def dN:GL->Option Nat
 |(.slice (some a) _ _,_,_)=>some a.block
 |_=>none
def fj(h:Hp)(p:GL):Prop:=(p.1=.slice none 0 0/\p.2.2=[])\/ ∃b n,p.1=.slice (some ⟨b,0,some p.2.1⟩) n n/\n*p.2.1=p.2.2.length/\Row h b p.2.2 1
def keys(L:List (Nat×Ob))(G:List GL):List Nat:=L.map XB++G.filterMap dN

structure St(M:Nat->Prop)(h0 h:Hp)(L:List (Nat×Ob))(G:List GL):Prop where
 fr:Mo M h0 h
 own: ∀p∈L,(h0.n<=p.1\/M p.1)/\Has h p.1 p.2
 gown: ∀p∈G,fj h p/\ ∀b,dN p=some b->h0.n<=b\/M b
 apart:(keys L G).Nodup

section
variable{M:Nat->Prop}{h0 h:Hp}{L:List (Nat×Ob)}{G:List GL}
theorem fj.of_get{h':Hp}{p:GL}(k:fj h p)(e: ∀b,dN p=some b->h'.get b=h.get b):fj h' p:=by
 rcases k with k|⟨b,n,k1,k2,k3⟩
 . exact .inl k
 . refine .inr ⟨b,n,k1,k2,Row.of_get (e b ?_) k3⟩
   obtain⟨v,k,vs⟩:=p
   simp only []at k1
   subst k1
   rfl
theorem fj.lt(ok:h.t.Sized h.n){p:GL}(k:fj h p){b:Nat}(hb:dN p=some b):b<h.n:=by
 rcases k with k|⟨b',n,k1,k2,k3⟩
 . obtain⟨v,k',vs⟩:=p
   obtain⟨k1,k2⟩:=k
   simp only []at k1
   subst k1
   cases hb
 . obtain⟨v,k',vs⟩:=p
   simp only []at k1
   subst k1
   cases hb
   exact Row.lt ok k3
theorem gb{p:Nat×Ob}(hp:p∈L):p.1∈keys L G:=Xn _ (Xq hp)
theorem eC{p:GL}{b:Nat}(hp:p∈G)(hb:dN p=some b):b∈keys L G:=Xc _ (List.mem_filterMap.2 ⟨p,hp,hb⟩)
theorem St.key_lt(S:St M h0 h L G){b:Nat}(hb:b∈keys L G):b<h.n:=by
 unfold keys at hb
 rcases List.mem_append.1 hb with hb|hb
 . obtain⟨p,hp,rfl⟩:=List.mem_map.1 hb
   exact(S.own p hp).2.lt S.fr.ok
 . obtain⟨p,hp,hk⟩:=List.mem_filterMap.1 hb
   exact(S.gown p hp).1.lt S.fr.ok hk
theorem St.init(ok:h.t.Sized h.n):St M h h [] []:=⟨Mo.refl ok,fun _ h=>(by cases h),fun _ h=>(by cases h),.nil⟩
theorem St.ok(S:St M h0 h L G):h.t.Sized h.n:=S.fr.ok
theorem St.gr(S:St NoM h0 h L G):Gr h0 h:=S.fr.gr
theorem St.push(S:St M h0 h L G){b:Nat}{o:Ob}(hb:h0.n<=b\/M b)(ho:Has h b o)(hn:b∉keys L G):St M h0 h ((b,o)::L) G:=
 ⟨S.fr,fun p hp=>by
  rcases List.mem_cons.1 hp with rfl|hp
  . exact⟨hb,ho⟩
  . exact S.own p hp,S.gown,List.nodup_cons.2 ⟨hn,S.apart⟩⟩
theorem St.step(S:St M h0 h L G){M':Nat->Prop}{h':Hp}(f:Mo M' h h')(hm: ∀b,M' b->M b\/h0.n<=b)(hk: ∀b∈keys L G,¬M' b):St M h0 h' L G:=
 ⟨S.fr.trans f hm,fun p hp=>⟨(S.own p hp).1,f.has (S.own p hp).2 (hk _ (gb hp))⟩,
  fun p hp=>⟨(S.gown p hp).1.of_get fun b hb=>f.get b ((S.gown p hp).1.lt S.ok hb) (hk b (eC hp hb)),(S.gown p hp).2⟩,S.apart⟩
theorem St.call(S:St M h0 h L G){h':Hp}(g:Gr h h'):St M h0 h' L G:=S.step (M':=NoM) g.fr (fun _ h=>h.elim) (fun _ _ h=>h)
theorem St.new(S:St M h0 h L G){x:Blk}{o:Ob}(ho:Has (h.new x) h.n o):St M h0 (h.new x) ((h.n,o)::L) G:=
 (S.call (Gr.new S.ok x)).push (.inl S.fr.n) ho (fun hk=>by have:=S.key_lt hk;omega)
theorem St.newG(S:St M h0 h L G){x:Blk}{k n:Nat}{vs:List Value}(hn:n*k=vs.length)(ho:Row (h.new x) h.n vs 1):St M h0 (h.new x) L ((.slice (some ⟨h.n,0,some k⟩) n n,k,vs)::G):=by
 have S':=S.call (Gr.new S.ok x)
 refine⟨S'.fr,S'.own,fun p hp=>?_,?_⟩
 . rcases List.mem_cons.1 hp with rfl|hp
   . exact⟨.inr ⟨_,n,rfl,hn,ho⟩,fun b hb=>by cases hb;exact .inl S.fr.n⟩
   . exact S'.gown p hp
 . unfold keys
   have e:List.filterMap dN ((Value.slice (some ⟨h.n,0,some k⟩) n n,k,vs)::G)=h.n::List.filterMap dN G:=rfl
   rw [e]
   refine(List.perm_middle.nodup_iff).2 (List.nodup_cons.2 ⟨fun hk=>?_,S.apart⟩)
   have:=S.key_lt hk
   omega
theorem St.nilG(S:St M h0 h L G){k:Nat}:St M h0 h L ((.slice none 0 0,k,[])::G):=
 ⟨S.fr,S.own,fun p hp=>by
  rcases List.mem_cons.1 hp with rfl|hp
  . exact⟨.inl ⟨rfl,rfl⟩,fun b hb=>by cases hb⟩
  . exact S.gown p hp,S.apart⟩
theorem kC{α:Type}{l:List α}{i:Nat}{x y:α}(h:y∈l.set i x):y=x\/ ∃j,j≠i/\l[j]? =some y:=by
 rw [List.mem_iff_getElem?]at h
 obtain⟨j,hj⟩:=h
 rw [zY]at hj
 split at hj
 . split at hj
   . cases hj;exact .inl rfl
   . cases hj
 . exact .inr ⟨j,by omega,hj⟩
theorem nN{α:Type}{l:List α}(h:l.Nodup){i j:Nat}{x:α}(hi:l[i]? =some x)(hj:l[j]? =some x):i=j:=by
 have h1:=(List.getElem?_eq_some_iff.1 hi)
 have h2:=(List.getElem?_eq_some_iff.1 hj)
 obtain⟨a,a'⟩:=h1
 obtain⟨b,b'⟩:=h2
 rcases Nat.lt_trichotomy i j with hij|hij|hij
 . exact absurd (a'.trans b'.symm) (List.pairwise_iff_getElem.1 h i j a b hij)
 . exact hij
 . exact absurd (b'.trans a'.symm) (List.pairwise_iff_getElem.1 h j i b a hij)
theorem mW{L:List (Nat×Ob)}{G:List GL}{i:Nat}{p:Nat×Ob}(hi:L[i]? =some p):(keys L G)[i]? =some p.1:=by
 unfold keys
 have:=(List.getElem?_eq_some_iff.1 hi).1
 rw [List.getElem?_append_left (by simpa using this),Xi,hi];rfl
theorem St.put(S:St M h0 h L G){i b:Nat}{o o':Ob}(hi:L[i]? =some (b,o)){x:Blk}(ho:Has (h.put b x) b o'):St M h0 (h.put b x) (L.set i (b,o')) G:=by
 have hb:=S.own _ (zN hi)
 have hkey:(keys L G)[i]? =some b:=mW hi
 refine⟨S.fr.put hb.1 x,fun p hp=>?_,fun p hp=>⟨(S.gown p hp).1.of_get fun c hc=>?_,(S.gown p hp).2⟩,?_⟩
 . rcases kC hp with rfl|⟨j,hj,hp⟩
   . exact⟨hb.1,ho⟩
   . have h1:=S.own p (zN hp)
     refine⟨h1.1,h1.2.of_get (bT fun e=>hj ?_)⟩
     have h2:(keys L G)[j]? =some b:=by rw [mW hp];rw [e]
     exact nN S.apart h2 hkey
 . refine bT fun e=>?_
   subst e
   have h1:=S.apart
   unfold keys at h1
   rw [Xa]at h1
   exact h1.2.2 b (List.mem_map.2 ⟨_,zN hi,rfl⟩) b (List.mem_filterMap.2 ⟨p,hp,hc⟩) rfl
 . have:keys (L.set i (b,o')) G=keys L G:=by
    unfold keys
    congr 1
    rw [List.map_set]
    refine zS fun j=>?_
    rw [zY]
    split
    . rename_i e;subst e
      have:=(List.getElem?_eq_some_iff.1 hi).1
      rw [if_pos (by simpa using this),Xi,hi];rfl
    . rfl
   rw [this];exact S.apart
theorem St.row(S:St M h0 h L G){b:Nat}{l:List Value}{md:Nat}(hi:(b,Ob.row l md)∈L):Row h b l md:=(S.own _ hi).2
theorem St.ld(S:St M h0 h L G){b o:Nat}{l:List Value}{md:Nat}{v:Value}(hi:(b,Ob.row l md)∈L)(hv:l[o]? =some v):h.load b o 1=some [v]:=(S.row hi).load1 hv
theorem St.lds(S:St M h0 h L G){b o n:Nat}{l:List Value}{md:Nat}(hi:(b,Ob.row l md)∈L)(hn:o+n<=l.length):h.load b o n=some ((l.drop o).take n):=(S.row hi).load hn
theorem m0{α:Type}{a:α}{l:List α}:a∈a::l:=List.mem_cons_self
theorem m1{α:Type}{a b:α}{l:List α}:a∈b::a::l:=.tail _ m0
theorem m2{α:Type}{a b c:α}{l:List α}:a∈b::c::a::l:=.tail _ m1
theorem m3{α:Type}{a b c d:α}{l:List α}:a∈b::c::d::a::l:=.tail _ m2
theorem m4{α:Type}{a b c d e:α}{l:List α}:a∈b::c::d::e::a::l:=.tail _ m3
theorem m5{α:Type}{a b c d e f:α}{l:List α}:a∈b::c::d::e::f::a::l:=.tail _ m4
theorem m6{α:Type}{a b c d e f g:α}{l:List α}:a∈b::c::d::e::f::g::a::l:=.tail _ m5
theorem m7{α:Type}{a b c d e f g i:α}{l:List α}:a∈b::c::d::e::f::g::i::a::l:=.tail _ m6
theorem St.old(S:St M h0 h L G){b o n:Nat}{l:List Value}(e:h0.load b o n=some l)(hm: ¬M b):h.load b o n=some l:=by
 have:=S.fr.get b (bI S.fr.ok0 e) hm
 unfold Hp.load at e⊢
 rw [this];exact e
end
end Go.Ab

namespace Go.Ab

def ol(h:Hp)(X:Hp->Option (c9×Hp))(F:Nat->Value)(o:Ob):Prop:=
 ∃blk,(∀x,X {h with lo:=x}=some (.val (F h.n),({h with lo:=x}:Hp).new blk))/\(h.t.Sized h.n->Has (h.new blk) h.n o)
section
variable{M:Nat->Prop}{h0 h:Hp}{L:List (Nat×Ob)}{G:List GL}
section
variable{E:Env}{cx:Cx}{o:Oper}{l:Loc}{K:Ex->Loc->Hp->Prop}{X:Hp->Option (c9×Hp)}{F:Nat->Value}{ob:Ob}
theorem ag(N:ol h X F ob)(S:St M h0 h L G)(hk: ∀h' b,St M h0 h' ((b,ob)::L) G->h0.n<=b->K .normal (l.put o.dst (F b)) h'):eA E cx o l K (X h):=by
 obtain⟨blk,h1,h2⟩:=N
 have e:X h=_:=h1 h.lo
 rw [e]
 exact hk _ _ (S.new (h2 S.ok)) S.fr.n
theorem dC{cx:Cx}{Q:ey}{a:List Oper}{q:Nat}{ps:List (Nat×Nat)}{os:List Oper}{i:Nat}{k:List Fr}{tr:List (Nat×Tch)}(N:ol h X F ob)(S:St M h0 h L G)
 (hk: ∀h' b,St M h0 h' ((b,ob)::L) G->h0.n<=b->b=h.n->Run E (lim E) cx Q (.opsD a q ps os (i+1) tr::k) .normal (l.put o.dst (F b)) h'):DQ E cx Q a q ps o os i k l h tr (X {h with lo:=h.n}):=by
 obtain⟨blk,h1,h2⟩:=N
 rw [h1]
 exact⟨zO (zV _),hk _ _ (S.new (h2 S.ok)) S.fr.n rfl⟩
end
theorem aZ{v:Value}{t:TypeId}(hv: ∀x,v≠ .chan x):ol h (fun h=>boxR h t v) ptrTo (.row (an v) 1):=by
 refine⟨.cells (Tr.ofList (an v)) (an v).length t 1,fun x=>?_,fun ok=>mU ok _ _ _⟩
 cases v<;>first|rfl|exact absurd rfl (hv _)
theorem aF{z:List Value}{t:TypeId}:ol h (fun h=>allocR h t (some z)) ptrTo (.row z 1):=
 ⟨.cells (Tr.ofList z) z.length t 1,fun _=>rfl,fun ok=>mU ok _ _ _⟩
noncomputable def mapR(h:Hp):Option (c9×Hp):=some (.val (.map (some h.n)),h.new (.map [] 0))
theorem za{E:Env}{ρ:Operand->Value}{h:Hp}{t:TypeId}:aop E ρ h (.makeMap t none)=mapR h:=rfl
theorem mS:ol h mapR (fun b=>.map (some b)) (.map [] 0):=⟨.map [] 0,fun _=>rfl,fun ok=>by show(h.new _).get h.n=_;rw [h.get_new _ ok,if_pos rfl]⟩
theorem rC(zs:List Value): ∀n,(aY zs n).length=n*zs.length
 |0=>by simp [aY]
 |n+1=>by simp only [aY,zP,rC zs n];rw [Xd];omega
theorem row_blank{h:Hp}(ok:h.t.Sized h.n)(z:Value)(n:Nat)(e:TypeId):Row (h.new (.cells (Tr.blank z n n) n e 1)) h.n (Xx n z) 1:=by
 refine⟨Tr.blank z n n,e,?_,?_,fun i=>?_⟩
 . rw [h.get_new _ ok,if_pos rfl,Xy]
 . rw [Xy];exact Tr.sized_blank _ _ _ (zV _)
 . rw [Tr.get_blank _ _ _ (zV _),List.getElem?_replicate]
def eB(E:Env)(e:TypeId)(by_ k:Nat)(zs:List Value):Prop:=(∃i,E.ty e=some i/\i.bytes=by_/\i.size=k)/\E.zero e=some zs/\zs.length=k
theorem oV{E:Env}{t e:TypeId}{by_ k:Nat}{zs:List Value}{kd kd':IntKind}{n:Int}(hu:E.und t=some (.slice e))(he:eB E e by_ k zs)(h0:0<=n)(hn:n.toNat*(by_+1)<=70368744177664):
 ol h (fun h=>cH (iI E h t (.int kd n) (.int kd' n))) (fun b=>.slice (some ⟨b,0,none⟩) n.toNat n.toNat) (.row (aY zs n.toNat) 1):=by
 obtain⟨⟨i,hi,rfl,rfl⟩,hz,hl⟩:=he
 obtain⟨m,rfl⟩:=Int.eq_ofNat_of_zero_le h0
 have hle:zU (m*(i.bytes+1)) 70368744177664=true:=zO hn
 have hb:Xg zs.length i.size=true:=by rw [hl];exact zQ _
 have hn1:natV (.int kd (m:Int))=some m:=rfl
 have hn2:natV (.int kd' (m:Int))=some m:=rfl
 have hc:(zU m m&&zU (m*(i.bytes+1)) 70368744177664)=true:=by rw [hle,zO (zV _)];rfl
 by_cases h1: ∃z,zs=[z]
 . obtain⟨z,rfl⟩:=h1
   refine⟨.cells (Tr.blank z m m) m e 1,fun x=>?_,fun ok=>?_⟩
   . simp only [iI,hu,hi,hz,hn1,hn2,hc,hb,cond_true,cH]
     rfl
   . have:aY [z] (m:Int).toNat=Xx m z:=by
      have: ∀n,aY [z] n=Xx n z:=by intro n;induction n with
       |zero=>rfl
       |succ n ih=>simp [aY,ih,List.replicate_succ]
      exact this m
     rw [this]
     exact row_blank ok z m e
 . refine⟨.cells (Tr.ofList (aY zs m)) (m*i.size) e 1,fun x=>?_,fun ok=>?_⟩
   . simp only [iI,hu,hi,hz,hn1,hn2,hc,hb,cond_true]
     cases zs with
     |nil=>rfl
     | cons a l=>
       cases l with
       |nil=>exact absurd ⟨a,rfl⟩ h1
       |cons b l=>rfl
   . have:=mU ok (aY zs m) e 1
     rw [rC,hl]at this
     show Row _ _ (aY zs m) 1
     obtain⟨t,el,a,b,c⟩:=this
     exact⟨Tr.ofList (aY zs m),e,by rw [h.get_new _ ok,if_pos rfl,rC,hl],Tr.sized_ofList _,Tr.get_ofList _⟩

theorem St.store(S:St M h0 h L G){E:Env}{t:TypeId}{i b off n md:Nat}{s:Option Nat}{l:List Value}{v:Value}(hi:L[i]? =some (b,.row l md))(hs:E.sz t=some n)(hv: ∀x,v≠ .chan x)(hl:(an v).length=n)
 (hf:(an v).all iM=true) (ho:off+n<=l.length) (hmd:md≠0): ∃h',ie E h t (.pointer (some ⟨b,off,s⟩)) v=some h'/\St M h0 h' (L.set i (b,.row (lay l off (an v)) md)) G/\Mo (· =b) h h':=by
 subst hl
 obtain⟨x,h1,h2⟩:=(S.row (zN hi)).store S.ok hmd (vs:=an v) ho hf
 refine⟨h.put b x,?_,S.put hi h2,(Mo.refl (M:=(· =b)) S.ok).put (.inr rfl) x⟩
 have:ie E h t (.pointer (some ⟨b,off,s⟩)) v=bif Xg (an v).length (an v).length then h.store b off (an v)else none:=by
  simp only [ie,hs]
 rw [this,zQ]
 exact h1
section
variable{E:Env}{cx:Cx}{o:Oper}{l:Loc}{K:Ex->Loc->Hp->Prop}
theorem aC{x:Option Hp}{P:Hp->Prop}(hx: ∃h',x=some h'/\P h')(hk: ∀h',P h'->K .normal (l.put o.dst (.tuple #[])) h'):eA E cx o l K (fb x):=by
 obtain⟨h',rfl,hp⟩:=hx
 exact hk h' hp
theorem fL{x:Option (Hp×Value)}{P:Hp->Value->Prop}(hx: ∃h' v,x=some (h',v)/\P h' v)(hk: ∀h' v,P h' v->K .normal (l.put o.dst v) h'):eA E cx o l K (cH x):=by
 obtain⟨h',v,rfl,hp⟩:=hx
 exact hk h' v hp
theorem dK{cx:Cx}{Q:ey}{a:List Oper}{q:Nat}{ps:List (Nat×Nat)}{os:List Oper}{i:Nat}{k:List Fr}{tf:Hp->List (Nat×Tch)}{x:Option Hp}{P:Hp->Prop}(hx: ∃h',x=some h'/\P h')
 (hk: ∀h',P h'->Run E (lim E) cx Q (.opsD a q ps os (i+1) (tf h')::k) .normal (l.put o.dst (.tuple #[])) h'):DN E cx Q a q ps o os i k l tf (fb x):=by
 obtain⟨h',rfl,hp⟩:=hx
 exact hk h' hp
theorem jK{cx:Cx}{Q:ey}{a:List Oper}{q:Nat}{ps:List (Nat×Nat)}{os:List Oper}{i:Nat}{k:List Fr}{tf:Hp->List (Nat×Tch)}{x:Option (Hp×Value)}{P:Hp->Value->Prop}(hx: ∃h' v,x=some (h',v)/\P h' v)
 (hk: ∀h' v,P h' v->Run E (lim E) cx Q (.opsD a q ps os (i+1) (tf h')::k) .normal (l.put o.dst v) h'):DN E cx Q a q ps o os i k l tf (cH x):=by
 obtain⟨h',v,rfl,hp⟩:=hx
 exact hk h' v hp
end

theorem nX{L:List (Nat×Ob)}{G:List GL}{j:Nat}{p p':GL}(hn:(keys L G).Nodup)(hj:G[j]? =some p){b:Nat}(hb:dN p'=some b)(hnew:b∉keys L G):(keys L (G.set j p')).Nodup:=by
 obtain⟨hlt,hp⟩:=List.getElem?_eq_some_iff.1 hj
 have hG:G=G.take j++p::G.drop (j+1):=by rw [<-hp,List.getElem_cons_drop hlt,List.take_append_drop]
 have hS:G.set j p'=G.take j++p'::G.drop (j+1):=List.set_eq_take_append_cons_drop.trans (if_pos hlt)
 unfold keys at*
 rw [hS,Xk,zR hb,<-List.append_assoc]
 refine List.perm_middle.nodup_iff.2 (List.nodup_cons.2 ⟨fun hk=>hnew ?_,?_⟩)
 . rw [hG,Xk]
   rcases List.mem_append.1 hk with hk|hk
   . rcases List.mem_append.1 hk with hk|hk
     . exact Xn _ hk
     . exact Xc _ (Xn _ hk)
   . refine Xc _ (Xc _ ?_)
     rw [zT]
     split
     . exact hk
     . exact Xm _ hk
 . rw [hG,Xk,<-List.append_assoc]at hn
   refine hn.sublist (List.Sublist.append (List.Sublist.refl _) ?_)
   rw [zT]
   split
   . exact List.Sublist.refl _
   . exact Xu _ _
theorem St.grow (S :St M h0 h L G) {E:Env} {t tx e:TypeId} {by_ k j m:Nat} {zs vs new:List Value} {v x:Value} (hj:G[j]? =some (v,k,vs)) (hu:E.und t=some (.slice e)) (he:eB E e by_ k zs) (hb:0<by_)
 (hx:az E tx=some false) (hsrc:aO h k x=some (m,new)) (hm:m*k=new.length) (hk:0<k) (hf:new.all iM=true) (hsz:(vs.length+new.length)*(by_+1)<=70368744177664) {ts:List TypeId}:
 ∃h' v',cL E h (t::tx::ts) v x=some (h',v')/\St M h0 h' L (G.set j (v',k,vs++new)):=by
 obtain⟨⟨i,hi,rfl,rfl⟩,hz,hl⟩:=he
 have hlt:=(List.getElem?_eq_some_iff.1 hj).1
 obtain⟨hg,hown⟩:=S.gown _ (zN hj)
 have main : ∀ a len,v=.slice a len len->len*i.size=vs.length->(a=none/\len=0\/ ∃b,a=some ⟨b,0,some i.size⟩/\Row h b vs 1)->
  ∃h' v',eJ E h e i a len len m new=some (h',v')/\St M h0 h' L (G.set j (v',i.size,vs++new)):=by
  intro a len hv hlen ha
  by_cases h1:m=0
  . subst h1
    have:new=[]:=by
     cases new with
     |nil=>rfl
     |cons a l=>simp at hm
    subst this
    refine⟨h,v,?_,?_⟩
    . unfold eJ
      rw [zO (by omega:len+0<=len)]
      simp only [cond_true]
      rw [hv]
      cases a<;>rfl
    . rw [Xo]
      have:G.set j (v,i.size,vs)=G:=by
       refine zS fun n=>?_
       rw [zY]
       split
       . rename_i e;subst e;first|rw [if_pos hlt,hj]|exact hj.symm
       . rfl
      rw [this];exact S
  . have hcap : zU (len+m) len=false:=by
     cases hx:zU (len+m) len with
     |false=>rfl
     |true=>exact absurd (zW hx) (by omega)
    have hmul:len+m<=vs.length+new.length:=by
     rw [<-hlen,<-hm]
     have h1:=zZ len hk
     have h2:=zZ m hk
     omega
    have hguard:(zU ((len+m)*(i.bytes+1)) 70368744177664&&Nat.blt 0 i.bytes)=true:=by
     rw [zO (Xb (Xp _ hmul) hsz)]
     simp only [Bool.true_and]
     rw [Nat.blt_eq];exact hb
    have hzl:Xg zs.length i.size=true:=by rw [hl];exact zQ _
    have hstart:eJ E h e i a len len m new=lZ h e i.size a len m new:=by
     unfold eJ
     rw [hcap]
     simp only [cond_false]
     rw [hguard,hz]
     simp only [cond_true,hzl]
    rw [hstart]
    rcases ha with⟨rfl,rfl⟩|⟨b,rfl,hrow⟩
    . have hvs:vs=[]:=by
       cases vs with
       |nil=>rfl
       |cons a l=>simp at hlen
      subst hvs
      refine⟨h.new (.cells (Tr.ofList new) new.length e 1),.slice (some ⟨h.n,0,some i.size⟩) m m,rfl,?_⟩
      have S':=S.call (Gr.new S.ok (.cells (Tr.ofList new) new.length e 1))
      have hnk:h.n∉keys L G:=fun hk=>by have:=S.key_lt hk;omega
      refine⟨S'.fr,S'.own,fun p hp=>?_,nX S.apart hj (b:=h.n) rfl hnk⟩
      rcases kC hp with rfl|⟨j',_,hp⟩
      . exact⟨.inr ⟨h.n,m,rfl,hm,mU S.ok new e 1⟩,fun b hb=>by cases hb;exact .inl S.fr.n⟩
      . exact S'.gown p (zN hp)
    . obtain ⟨tr,el,hget,hsz',htr⟩:=hrow
      have hgt:iQ tr vs.length 0 (len*i.size) new=some (tr.pushAll vs.length new,vs.length+new.length):=by
       unfold iQ
       rw [hlen,zQ vs.length]
       rfl
      refine⟨(h.put b .dead).new (.cells (tr.pushAll vs.length new) (vs.length+new.length) e 1),.slice (some ⟨h.n,0,some i.size⟩) (len+m) (len+m),?_,?_⟩
      . unfold lZ
        simp only [hget,hgt,hf,zQ]
        rfl
      . have hkey:dN (v,i.size,vs)=some b:=by rw [hv];rfl
        have hbn:=fm S.ok hget
        have fr1:=(S.fr.put (hown b hkey) .dead)
        have hne: ∀c∈L.map XB,c≠b:=fun c hc e=>by
         have h1:=S.apart
         unfold keys at h1
         rw [Xa]at h1
         exact h1.2.2 c hc b (List.mem_filterMap.2 ⟨_,zN hj,hkey⟩) e
        have hget2: ∀c,c<h.n->c≠b->((h.put b .dead).new (.cells (tr.pushAll vs.length new) (vs.length+new.length) e 1)).get c=h.get c:=fun c hc hcb=>by
         rw [Hp.get_new _ _ fr1.ok,if_neg (by show c≠h.n;omega)]
         exact bT (Ne.symm hcb)
        have hnk:h.n∉keys L G:=fun hk=>by have:=S.key_lt hk;omega
        refine⟨fr1.new _,fun p hp=>?_,fun p hp=>?_,nX S.apart hj (b:=h.n) rfl hnk⟩
        . have h1:=S.own p hp
          exact⟨h1.1,h1.2.of_get (hget2 _ (h1.2.lt S.ok) (hne _ (Xq hp)))⟩
        . rcases kC hp with rfl|⟨j',hj',hp⟩
          . refine⟨.inr ⟨h.n,len+m,rfl,?_,?_⟩,fun b hb=>by cases hb;exact .inl S.fr.n⟩
            . show(len+m)*i.size=(vs++new).length
              rw [Xv,hlen,hm,zP]
            . refine⟨tr.pushAll vs.length new,e,?_,?_,fun n=>?_⟩
              . rw [Hp.get_new _ _ fr1.ok]
                rw [if_pos (show h.n=(h.put b .dead).n from rfl),zP]
              . rw [zP];exact Tr.sized_pushAll _ hsz'
              . rw [Tr.get_pushAll _ _ _ hsz',XA]
                split
                . exact htr n
                . rfl
          . have h1:=S.gown p (zN hp)
            refine⟨h1.1.of_get fun c hc=>hget2 c (h1.1.lt S.ok hc) fun e=>hj' ?_,h1.2⟩
            subst e
            -- two lists with one block
            have h2:=S.apart
            unfold keys at h2
            have h3:=(List.nodup_append.1 h2).2.1
            have key: ∀(G:List GL) (a c:Nat) (p q:GL),(G.filterMap dN).Nodup->G[a]? =some p->G[c]? =some q-> ∀x,dN p=some x->dN q=some x->a=c:=by
             intro G
             induction G with
             |nil=>intro a c p q _ ha;simp at ha
             | cons g G ih=>
               intro a c p q hn ha hc x hp hq
               have hn':(G.filterMap dN).Nodup:=by
                rw [zT]at hn
                split at hn
                . exact hn
                . exact(List.nodup_cons.1 hn).2
               cases a with
               | zero=>
                 cases c with
                 |zero=>rfl
                 | succ c=>
                   simp at ha hc
                   subst ha
                   rw [zR hp]at hn
                   exact absurd (List.mem_filterMap.2 ⟨q,zN hc,hq⟩) (List.nodup_cons.1 hn).1
               | succ a=>
                 cases c with
                 | zero=>
                   simp at ha hc
                   subst hc
                   rw [zR hq]at hn
                   exact absurd (List.mem_filterMap.2 ⟨p,zN ha,hp⟩) (List.nodup_cons.1 hn).1
                 | succ c=>
                   simp at ha hc
                   rw [ih a c p q hn' ha hc x hp hq]
            exact key G j' j p _ h3 hp hj c hc hkey
 unfold cL
 simp only [hx]
 unfold iX
 simp only [hu,hi]
 rcases hg with⟨k1,k2⟩|⟨b,n,k1,k2,k3⟩
 . simp only []at k1 k2
   subst k1 k2
   simp only [hsrc]
   exact main none 0 rfl (by simp) (.inl ⟨rfl,rfl⟩)
 . simp only []at k1 k2 k3
   subst k1
   simp only [hsrc]
   exact main _ n rfl k2 (.inr ⟨b,rfl,k3⟩)
end
end Go.Ab

namespace Go.Ab

theorem bA{E:Env}{cx:Cx}{Q:ey}{k:List Fr}{n:Nat}{d:List Deferred}{rc:Option (Value×Bool)}{b:Code}{α:Type}(I:α->(Nat->Value)->Hp->Prop)(m:α->Nat)
 (hs: ∀a,(∀a' ρ' h',m a'<m a->I a' ρ' h'->Run E (lim E) cx Q (.code (.loop b)::k) .normal (LL n ρ' d rc) h')-> ∀ρ h,I a ρ h->Run E (lim E) cx Q (.code b:: .code (.loop b)::k) .normal (LL n ρ d rc) h):
 ∀a ρ h,I a ρ h->Run E (lim E) cx Q (.code (.loop b)::k) .normal (LL n ρ d rc) h:=by
 have key: ∀j a,m a<j-> ∀ρ h,I a ρ h->Run E (lim E) cx Q (.code (.loop b)::k) .normal (LL n ρ d rc) h:=by
  intro j
  induction j with
  |zero=>intro a ha;omega
  | succ j ih=>
    intro a ha ρ h hi
    rw [bC]
    exact hs a (fun a' ρ' h' hlt hi'=>ih a' (by omega) ρ' h' hi') ρ h hi
 intro a ρ h hi
 exact key (m a+1) a (by omega) ρ h hi

def pE(b:Nat):Deferred:={target:=.collected b,args:=#[]}
section
variable(E:Env)(cx:Cx)(Q:ey)(k:List Fr)
def RangeGo(l:Loc)(h:Hp):Option Code->Prop
 |none=>Run E (lim E) cx Q k .normal l h
 |some (.exit id)=>Run E (lim E) cx Q k (.exit id) l h
 |some .ret=>Run E (lim E) cx Q k .ret l h
 |_=>False
def RangeQ(l:Loc)(lb:Nat):Out->Option (Value×Bool)->Hp->Prop
 | .pan v,_,h2=>Run E (lim E) cx Q k (.pan v) l h2
 | .ret _,_,h2=> ∃x,h2.get lb=some (.loop x)/\x.st≠1/\RangeGo E cx Q k l (h2.put lb .dead) x.pending
end
section
variable{E:Env}{cx:Cx}{Q:ey}{k:List Fr}{n:Nat}{ρ:Nat->Value}{d:List Deferred}{rc:Option (Value×Bool)}{M:Nat->Prop}{h0 h:Hp}{L:List (Nat×Ob)}{G:List GL}
theorem zI {f:Operand} {params:Array Tmp} {assign body:Code} {g:FuncId} {a b:Array Value} {h1:Hp} {db:Nat} {dfs:List Deferred} (hf:(LL n ρ d rc).ev f=.func (.func g) a b) (hn:cx.nr=n)
 (hd :(match cx.round with
   |none=>some (h.new .dfr,h.n,({target:=.collected h.n,args:=#[]}:Deferred)::d)
   | some r=>match h.get r with
     |some (.loop x)=>some (h,x.defers,d)
     |_=>none)=some (h1,db,dfs))
 (hk:dS E g (a.toList++[.func (.yield h1.n) #[] #[]]++b.toList) none (h1.new (.loop {fn:=cx.fn,regs:=tab n ρ,nr:=n,params,assign,body,st:=0,pending:=none,defers:=db})) (RangeQ E cx Q k (LL n ρ dfs rc) h1.n)):
 Run E (lim E) cx Q (.code (.rangeFunc f params assign body)::k) .normal (LL n ρ d rc) h:=by
 obtain⟨o,rc',h2,hc,hq⟩:=hk
 simp only [Run]
 have e:aE E (lim E) cx (.rangeFunc f params assign body) (LL n ρ d rc) h=ib (lim E) cx ((LL n ρ d rc).ev f) params assign body (LL n ρ d rc) h:=rfl
 rw [e,hf]
 have e2:ib (lim E) cx (.func (.func g) a b) params assign body (LL n ρ d rc) h=(match(some (h1,db,dfs):Option (Hp×Nat×List Deferred))with
  |none=>none
  | some (h1,db,dfs)=>
    match(lim E).call g (a.toList++[.func (.yield h1.n) #[] #[]]++b.toList) none
     (h1.new (.loop {fn:=cx.fn,regs:=tab n ρ,nr:=cx.nr,params,assign,body,st:=0,pending:=none,defers:=db}))with
    |none=>none
    |some (.pan v,_,h2)=>some (.pan v,LL n ρ dfs rc,h2)
    | some (.ret _,_,h2)=>match h2.get h1.n with
      | some (.loop x)=>match x.st with
        |1=>none
        | _=>match x.pending with
          |none=>some (.normal,LL n ρ dfs rc,h2.put h1.n .dead)
          |some (.exit id)=>some (.exit id,LL n ρ dfs rc,h2.put h1.n .dead)
          |some .ret=>some (.ret,LL n ρ dfs rc,h2.put h1.n .dead)
          |_=>none
      |_=>none):=by rw [<-hd];rfl
 rw [e2]
 simp only [hn,hc]
 cases o with
 |pan v=>exact⟨_,_,_,rfl,hq⟩
 | ret v=>
   obtain⟨x,g1,g2,g3⟩:=hq
   simp only [g1]
   obtain⟨fn',regs',nr',params',assign',body',st,pending,defers⟩:=x
   simp only []at g2 g3
   have hfin: ∃e' l' h',(match pending with
    |none=>some (Ex.normal,LL n ρ dfs rc,h2.put h1.n .dead)
    |some (.exit id)=>some (.exit id,LL n ρ dfs rc,h2.put h1.n .dead)
    |some .ret=>some (.ret,LL n ρ dfs rc,h2.put h1.n .dead)
    |_=>none)=some (e',l',h')/\Run E (lim E) cx Q k e' l' h':=by
    cases pending with
    |none=>exact⟨_,_,_,rfl,g3⟩
    |some c=>cases c<;>first|exact g3.elim|exact⟨_,_,_,rfl,g3⟩
   match st,g2 with
   |0,_=>exact hfin
   |1,g2=>exact absurd rfl g2
   |_+2,_=>exact hfin
theorem kA(S:St M h0 h L G){f:Operand}{params:Array Tmp}{assign body:Code}{g:FuncId}{a b:Array Value}(hf:(LL n ρ d rc).ev f=.func (.func g) a b)(hn:cx.nr=n)(hr:cx.round=none)
 (hk: ∀h' db lb,St M h0 h' ((lb,.loop {fn:=cx.fn,regs:=tab n ρ,nr:=n,params,assign,body,st:=0,pending:=none,defers:=db})::(db,.dfr)::L) G->h.n<=db->h.n<=lb->Gr h h'->
   dS E g (a.toList++[.func (.yield lb) #[] #[]]++b.toList) none h' (RangeQ E cx Q k (LL n ρ (pE db::d) rc) lb)):
 Run E (lim E) cx Q (.code (.rangeFunc f params assign body)::k) .normal (LL n ρ d rc) h:=by
 have S1:St M h0 (h.new .dfr) ((h.n,.dfr)::L) G:=S.new (by show(h.new _).get h.n=_;rw [h.get_new _ S.ok,if_pos rfl])
 have S2:=S1.new (x:=.loop {fn:=cx.fn,regs:=tab n ρ,nr:=n,params,assign,body,st:=0,pending:=none,defers:=h.n}) (o:=.loop {fn:=cx.fn,regs:=tab n ρ,nr:=n,params,assign,body,st:=0,pending:=none,defers:=h.n})
  (by show(Hp.new _ _).get _=_;rw [Hp.get_new _ _ S1.ok,if_pos rfl])
 exact zI hf hn (by rw [hr];rfl) (hk _ _ _ S2 (zV _) (Nat.le_succ _) ((Gr.new S.ok _).trans (Gr.new S1.ok _)))
end

section
variable(E:Env)(cx:Cx)(lb:Nat)(Q:Out->Hp->Prop)
def pj:ey
 | .normal,_,h2=> ∃x,h2.get lb=some (.loop x)/\Q (.ret (.bool true)) (h2.put lb (.loop {x with st:=0,pending:=none}))
 | .exit id,_,h2=> ∃x,h2.get lb=some (.loop x)/\Q (.ret (.bool false)) (h2.put lb (.loop {x with st:=2,pending:=some (.exit id)}))
 | .ret,_,h2=> ∃x,h2.get lb=some (.loop x)/\Q (.ret (.bool false)) (h2.put lb (.loop {x with st:=2,pending:=some .ret}))
 | .pan v,l2,h2=>l2.dfs=[]/\Q (.pan v) h2
def uu(body:Code):ey
 | .normal,l,h1=> ∃x,h1.get lb=some (.loop x)/\x.st=0/\x.fn=cx.fn/\x.nr=cx.nr/\x.body=body/\Run E (lim E) cx (pj lb Q) [.code body] .normal l (h1.put lb (.loop {x with st:=1}))
 |_,_,_=>False
end
def setPs(ρ:Nat->Value):List Tmp->List Value->Option (Nat->Value)
 | [],[]=>some ρ
 |t::ts,v::vs=>setPs (aa ρ t v) ts vs
 |_,_=>none
theorem pT{n:Nat}: ∀(ts:List Tmp) (vs:List Value) (ρ ρ':Nat->Value),setPs ρ ts vs=some ρ'->me (tab n ρ) ts vs=some (tab n ρ')
 | [],[],ρ,ρ',h=>by cases h;rfl
 | t::ts,v::vs,ρ,ρ',h=>by
   simp only [me,tab_set]
   exact pT ts vs _ _ h
 | [],_::_,_,_,h=>by cases h
 |_::_,[],_,_,h=>by cases h
theorem rq{E:Env}{cx:Cx}{Q:ey}{c:Code}{l:Loc}{h:Hp}(hr:Run E (lim E) cx Q [.code c] .normal l h): ∃e l' h',(lim E).code cx c l h=some (e,l',h')/\Q e l' h':=by
 obtain⟨e,l',h',h1,h2⟩:=hr
 exact⟨e,l',h',by rw [tK];exact h1,h2⟩
theorem kB{E:Env}{lb n:Nat}{args:List Value}{h:Hp}{Q:Out->Hp->Prop}{fn:FuncId}{ρ ρ':Nat->Value}{params:Array Tmp}{assign body:Code}{db:Nat}
 (hget:h.get lb=some (.loop {fn,regs:=tab n ρ,nr:=n,params,assign,body,st:=0,pending:=none,defers:=db})) (hfn:(E.fn fn).isSome=true) (hp:setPs ρ params.toList args=some ρ')
 (hr:Run E (lim E) ⟨fn,n,some lb⟩ (uu E ⟨fn,n,some lb⟩ lb Q body) [.code assign] .normal (LL n ρ' [] none) h):jS E lb args h Q:=by
 obtain⟨e,l,h1,hc,hq⟩:=rq hr
 unfold jS iE
 rw [hget]
 simp only [hfn,cond_true,pT _ _ _ _ hp]
 rw [show Loc.mk (tab n ρ') [] none=LL n ρ' [] none from rfl,hc]
 cases e with
 |exit i=>exact hq.elim
 |ret=>exact hq.elim
 |pan v=>exact hq.elim
 | normal=>
   obtain⟨x,g1,g2,g3,g4,g5,g6⟩:=hq
   obtain⟨e2,l2,h2,hc2,hq2⟩:=rq g6
   simp only [g1,g2,hc2]
   cases e2 with
   |normal=>obtain⟨y,k1,k2⟩:=hq2;simp only [k1];exact⟨_,_,rfl,k2⟩
   |exit i=>obtain⟨y,k1,k2⟩:=hq2;simp only [k1];exact⟨_,_,rfl,k2⟩
   |ret=>obtain⟨y,k1,k2⟩:=hq2;simp only [k1];exact⟨_,_,rfl,k2⟩
   |pan v=>obtain⟨k1,k2⟩:=hq2;simp only [k1];exact⟨_,_,rfl,k2⟩
section
variable{E:Env}{cx:Cx}{lb:Nat}{Q:Out->Hp->Prop}{M:Nat->Prop}{h0 h:Hp}{L:List (Nat×Ob)}{G:List GL}{body:Code}{l:Loc}
theorem St.loopPut(S:St M h0 h L G){i:Nat}{X Y:fF}(hi:L[i]? =some (lb,.loop X)):h.get lb=some (.loop X)/\St M h0 (h.put lb (.loop Y)) (L.set i (lb,.loop Y)) G:=by
 have hx:h.get lb=some (.loop X):=(S.own _ (zN hi)).2
 refine⟨hx,S.put hi ?_⟩
 show(h.put lb _).get lb=_
 rw [Hp.get_put,if_pos ⟨rfl,by rw [hx];rfl⟩]
theorem jG(S:St M h0 h L G){i:Nat}{X:fF}(hi:L[i]? =some (lb,.loop X))(h1:X.st=0)(h2:X.fn=cx.fn)(h3:X.nr=cx.nr)(h4:X.body=body)
 (hk: ∀h',St M h0 h' (L.set i (lb,.loop {X with st:=1})) G->Run E (lim E) cx (pj lb Q) [.code body] .normal l h'):uu E cx lb Q body .normal l h:=by
 obtain⟨hx,S'⟩:=S.loopPut (Y:={X with st:=1}) hi
 exact⟨X,hx,h1,h2,h3,h4,hk _ S'⟩
theorem gK(S:St M h0 h L G){i:Nat}{X:fF}(hi:L[i]? =some (lb,.loop X))(hk: ∀h',St M h0 h' (L.set i (lb,.loop {X with st:=0,pending:=none})) G->Q (.ret (.bool true)) h'):pj lb Q .normal l h:=by
 obtain⟨hx,S'⟩:=S.loopPut (Y:={X with st:=0,pending:=none}) hi
 exact⟨X,hx,hk _ S'⟩
theorem round_ret(S:St M h0 h L G){i:Nat}{X:fF}(hi:L[i]? =some (lb,.loop X))(hk: ∀h',St M h0 h' (L.set i (lb,.loop {X with st:=2,pending:=some .ret})) G->Q (.ret (.bool false)) h'):pj lb Q .ret l h:=by
 obtain⟨hx,S'⟩:=S.loopPut (Y:={X with st:=2,pending:=some .ret}) hi
 exact⟨X,hx,hk _ S'⟩
end

def Iter(E:Env)(g:FuncId)(pre post:List Value)(h0:Hp)(D:Nat->Prop)(xs:List (List Value)):Prop:=
 ∀ (lb:Nat) (J:Nat->Hp->List Nat->Prop) (Z:Out->Hp->Prop) (h:Hp) (F:List Nat),
   h.t.Sized h.n->h0.n<=h.n->(∀b,b<h0.n->D b->h.get b=h0.get b)->
   (∀i h F,J i h F->h.t.Sized h.n/\ ∀b∈F,b<h.n)->(∀i h F h',J i h F->Gr h h'->J i h' F)->(∀h h',Z (.ret (.bool false)) h->Gr h h'->Z (.ret (.bool false)) h')->(∀b∈F,¬(b<h0.n/\D b))->
   (∀i x h F,xs[i]? =some x->J i h F->jS E lb x h fun o h'=>(o=.ret (.bool true)/\ ∃F',J (i+1) h' F'/\Mo (· ∈F) h h'/\ ∀b∈F',b∈F\/h.n<=b)\/(o=.ret (.bool false)/\Z o h'/\h'.t.Sized h'.n)\/((∃v,o=.pan v)/\Z o h'))->
   J 0 h F->dS E g (pre++[.func (.yield lb) #[] #[]]++post) none h fun o rc h'=>rc=none/\((∃u F',o=.ret u/\J xs.length h' F')\/(∃u,o=.ret u/\Z (.ret (.bool false)) h')\/(∃v,o=.pan v/\Z o h'))
end Go.Ab

namespace Go.Ab

theorem load_len{h:Hp}{b o n:Nat}{l:List Value}(e:h.load b o n=some l):l.length=n:=by
 unfold Hp.load at e
 split at e
 next t sz el md hg=>
  cases hb:zU (o+n) sz with
  |false=>rw [hb]at e;cases e
  |true=>rw [hb]at e;exact(Tr.slice_spec e).1
 next=>cases e
theorem jv{h:Hp}{b o n:Nat}{l:List Value}(e:h.load b o n=some l){i m:Nat}(hi:i+m<=n):h.load b (o+i) m=some ((l.drop i).take m):=by
 unfold Hp.load at e⊢
 split at e
 next t sz el md hg=>
  cases hb:zU (o+n) sz with
  |false=>rw [hb]at e;cases e
  | true=>
    rw [hb]at e
    have hle:=zW hb
    rw [zO (by omega:o+i+m<=sz)]
    simp only [cond_true]at e⊢
    obtain⟨h1,h2⟩:=Tr.slice_spec e
    obtain⟨l',h3⟩:=Tr.slice_mk (t:=t) (i:=o+i) (n:=m) (fun k hk=>by
     have:=h2 (i+k) (by omega)
     rw [show o+i+k=o+(i+k) by omega,this]
     rw [List.getElem?_eq_getElem (by omega)];rfl)
    rw [h3]
    obtain⟨h4,h5⟩:=Tr.slice_spec h3
    congr 1
    refine zS fun k=>?_
    rw [List.getElem?_take]
    split
    . rename_i hk
      rw [<-h5 k hk,List.getElem?_drop,<-h2 (i+k) (by omega)]
      congr 1
      omega
    . exact Xl (by omega)
 next=>cases e
theorem load_join{h:Hp}{b o n:Nat}{f:Nat->Value}(h0: ∃l,h.load b o 0=some l)(e: ∀i,i<n->h.load b (o+i) 1=some [f i]):h.load b o n=some ((List.range n).map f):=by
 unfold Hp.load at h0 e⊢
 cases hg:h.get b with
 |none=>rw [hg]at h0;obtain⟨l,h0⟩:=h0;cases h0
 |some blk=>
 cases blk with
 |dead=>rw [hg]at h0;obtain⟨l,h0⟩:=h0;cases h0
 |map=>rw [hg]at h0;obtain⟨l,h0⟩:=h0;cases h0
 |loop=>rw [hg]at h0;obtain⟨l,h0⟩:=h0;cases h0
 |dfr=>rw [hg]at h0;obtain⟨l,h0⟩:=h0;cases h0
 | cells t sz el md=>
   rw [hg]at h0
   simp only [hg]at e
   simp only []at h0
   have hle:o+n<=sz:=by
    cases n with
    | zero=>
      obtain⟨l,h0⟩:=h0
      cases hb:zU (o+0) sz with
      |false=>rw [hb]at h0;cases h0
      |true=>exact zW hb
    | succ n=>
      have:=e n (by omega)
      cases hb:zU (o+n+1) sz with
      |false=>rw [hb]at this;cases this
      |true=>have:=zW hb;omega
   have hget: ∀i,i<n->t.get (o+i)=some (f i):=by
    intro i hi
    have:=e i hi
    rw [zO (by omega:o+i+1<=sz)]at this
    have:=(Tr.slice_spec this).2 0 (by omega)
    simpa using this
   simp only []
   rw [zO hle]
   simp only [cond_true]
   obtain⟨l,hl⟩:=Tr.slice_mk (t:=t) (i:=o) (n:=n) (fun k hk=>by rw [hget k hk];rfl)
   rw [hl]
   obtain⟨h4,h5⟩:=Tr.slice_spec hl
   congr 1
   refine zS fun k=>?_
   rw [Xi]
   rcases Nat.lt_or_ge k n with hk|hk
   . rw [<-h5 k hk,hget k hk,List.getElem?_range hk];rfl
   . rw [Xl (by omega),Xl (by simpa using hk)];rfl

section
variable{α:Type}
theorem aX{k:Nat}{enc:α->List Value}(he: ∀x,(enc x).length=k)(xs:List α):(xs.flatMap enc).length=xs.length*k:=by
 induction xs with
 |nil=>simp
 |cons x xs ih=>rw [Xs,zP,he,ih,Xe,Xd];omega
theorem yL{k:Nat}{enc:α->List Value}(he: ∀x,(enc x).length=k)(xs:List α){i:Nat}(hi:i<xs.length):((xs.flatMap enc).drop (i*k)).take k=enc xs[i]:=by
 induction xs generalizing i with
 |nil=>simp at hi
 | cons x xs ih=>
   cases i with
   |zero=>simp [Xs,<-he x]
   | succ i=>
     rw [Xs,Xd,Nat.add_comm,<-List.drop_drop]
     rw [show List.drop k (enc x++List.flatMap enc xs)=List.flatMap enc xs by rw [<-he x];exact List.drop_left]
     simpa using ih (i:=i) (by simpa using hi)
def aA(h:Hp)(k:Nat)(enc:α->List Value)(v:Value)(xs:List α):Prop:=
 (v=.slice none 0 0/\xs=[])\/ ∃b o s c,v=.slice (some ⟨b,o,s⟩) xs.length c/\xs.length<=c/\h.load b o (xs.length*k)=some (xs.flatMap enc)
variable{h:Hp}{k:Nat}{enc:α->List Value}{v:Value}{xs:List α}
theorem aA.gr{h':Hp}(g:Gr h h')(s:aA h k enc v xs):aA h' k enc v xs:=by
 rcases s with s|⟨b,o,s,c,h1,h2,h3⟩
 . exact .inl s
 . exact .inr ⟨b,o,s,c,h1,h2,g.load h3⟩
def av:Value->Nat->Prop
 | .slice (some a) _ _,b=>a.block=b
 | .pointer (some a),b=>a.block=b
 |_,_=>False
theorem aA.mo{M:Nat->Prop}{h':Hp}(g:Mo M h h')(s:aA h k enc v xs)(hm: ∀b,av v b-> ¬M b):aA h' k enc v xs:=by
 rcases s with s|⟨b,o,s,c,h1,h2,h3⟩
 . exact .inl s
 . refine .inr ⟨b,o,s,c,h1,h2,?_⟩
   have:=g.get b (bI g.ok0 h3) (hm b (by rw [h1];rfl))
   unfold Hp.load at h3⊢
   rw [this];exact h3
theorem aA.lt(ok:h.t.Sized h.n)(s:aA h k enc v xs){b:Nat}(hb:av v b):b<h.n:=by
 rcases s with⟨rfl,_⟩|⟨b',o,s,c,rfl,h2,h3⟩
 . exact hb.elim
 . have:b'=b:=hb
   subst this
   exact bI ok h3
theorem aA.len{E:Env}{t e:TypeId}(s:aA h k enc v xs)(hu:E.und t=some (.slice e)):mC E t v=some (.int .i64 xs.length):=by
 rcases s with⟨rfl,rfl⟩|⟨b,o,s,c,rfl,h2,h3⟩<;>simp [mC,hu]
theorem aA.idx(s:aA h k enc v xs)(he: ∀x,(enc x).length=k){i:Nat}(hi:i<xs.length): ∃b o s' c,v=.slice (some ⟨b,o,s'⟩) xs.length c/\h.load b (o+i*k) k=some (enc xs[i]):=by
 rcases s with⟨rfl,rfl⟩|⟨b,o,s,c,rfl,h2,h3⟩
 . simp at hi
 . refine⟨b,o,s,c,rfl,?_⟩
   have:i*k+k<=xs.length*k:=by rw [<-Xd];exact Xp _ hi
   rw [jv h3 this,yL he xs hi]
theorem aA.at{E:Env}{t e:TypeId}{kd:IntKind}(s:aA h k enc v xs)(he: ∀x,(enc x).length=k)(hu:E.und t=some (.slice e))(hs:E.sz e=some k){i:Nat}(hi:i<xs.length):
 ∃b o,dR E t v (.int kd i)=some (.pointer (some ⟨b,o,none⟩))/\h.load b o k=some (enc xs[i]):=by
 obtain⟨b,o,s',c,rfl,hl⟩:=s.idx he hi
 refine⟨b,o+i*k,?_,hl⟩
 rw [ia_slice hu hs,eX hi]
 rfl
theorem aA.src(s:aA h k enc v xs):aO h k v=some (xs.length,xs.flatMap enc):=by
 rcases s with⟨rfl,rfl⟩|⟨b,o,s,c,rfl,h2,h3⟩
 . rfl
 . cases c with
   | zero=>
     have:xs.length=0:=by omega
     have hx:xs=[]:=List.length_eq_zero_iff.1 this
     subst hx
     simp only [aO,zX]at h3⊢
     rw [h3]
   | succ c=>
     simp only [aO]
     rw [h3]
theorem fj.sl{vs:List Value}(g:fj h (v,k,vs))(hv:vs=xs.flatMap enc)(he: ∀x,(enc x).length=k)(hk:0<k):aA h k enc v xs:=by
 rcases g with⟨h1,h2⟩|⟨b,n,h1,h2,h3⟩
 . simp only []at h1 h2
   refine .inl ⟨h1,?_⟩
   rw [h2]at hv
   have:=aX he xs
   rw [<-hv]at this
   cases xs with
   |nil=>rfl
   | cons x xs=>
     simp only [zX,Xe,Xd]at this
     omega
 . simp only []at h1 h2 h3
   have hn:n=xs.length:=by
    rw [hv,aX he]at h2
    exact Xf hk h2
   subst hn
   refine .inr ⟨b,0,some k,xs.length,h1,zV _,?_⟩
   rw [h3.load (by omega),h2,Xz,Xt,hv]
theorem fj.len{E:Env}{t e:TypeId}{vs:List Value}(g:fj h (v,k,vs))(hk:0<k)(hu:E.und t=some (.slice e)){n:Nat}(hn:n*k=vs.length):mC E t v=some (.int .i64 n):=by
 rcases g with⟨h1,h2⟩|⟨b,m,h1,h2,h3⟩
 . simp only []at h1 h2
   subst h1 h2
   have:n=0:=by
    cases n with
    |zero=>rfl
    |succ n=>simp only [zX,Xd]at hn;omega
   subst this
   simp [mC,hu]
 . simp only []at h1 h2
   subst h1
   have:m=n:=Xf hk (h2.trans hn.symm)
   subst this
   simp [mC,hu]
end
def encI(kd:IntKind)(x:Int):List Value:=[.int kd x]
theorem dV(kd:IntKind)(x:Int):(encI kd x).length=1:=rfl
def agg1:Option (List Value)->Option Value
 |some l=>some (.agg ⟨l⟩)
 |none=>none
theorem agg1_some{l:List Value}:agg1 (some l)=some (.agg ⟨l⟩):=rfl
theorem loadV_agg{E:Env}{h:Hp}{t:TypeId}{b o n:Nat}{s:Option Nat}(ht:E.agg t=some true)(hs:E.sz t=some n):eo E h t (.pointer (some ⟨b,o,s⟩))=agg1 (h.load b o n):=by
 simp only [eo,ht,hs]
 cases h.load b o n<;>rfl

def isIface(E:Env)(t:TypeId):Bool:=match E.und t with
 |some (.interface _)=>true
 |_=>false
def fS(E:Env)(t:TypeId):Bool:=match E.und t with
 |some (.pointer _)=>true
 |_=>false
def aQ(E:Env)(t:TypeId):Bool:=match E.und t with
 |some (.struct _)=>true
 |some (.int _)=>true
 |some (.pointer _)=>true
 |_=>false
section
variable{E:Env}{t:TypeId}{x y:Operand}
theorem nZ(hu:isIface E t=true): ∃a,E.und t=some (.interface a):=by
 unfold isIface at hu;split at hu<;>first|exact⟨_, ‹_›⟩|cases hu
theorem qD(hu:fS E t=true): ∃a,E.und t=some (.pointer a):=by
 unfold fS at hu;split at hu<;>first|exact⟨_, ‹_›⟩|cases hu
theorem n_iface(hu:isIface E t=true){u:TypeId}{v:Value}:bq E .neq t x y (.iface u v) .nilIface=some (.bool true):=by
 obtain⟨a,ha⟩:=nZ hu
 simp [bq,eZ,dE,ha]
theorem n_nil(hu:isIface E t=true){v:Value}:bq E .neq t x (.const v) .nilIface .nilIface=some (.bool false):=by
 obtain⟨a,ha⟩:=nZ hu
 cases x<;>simp [bq,eZ,dE,ha]
theorem e_iface(hu:isIface E t=true){u:TypeId}{v:Value}:bq E .eql t x y (.iface u v) .nilIface=some (.bool false):=by
 obtain⟨a,ha⟩:=nZ hu
 simp [bq,eZ,dE,ha]
theorem e_nil(hu:isIface E t=true){v:Value}:bq E .eql t x (.const v) .nilIface .nilIface=some (.bool true):=by
 obtain⟨a,ha⟩:=nZ hu
 cases x<;>simp [bq,eZ,dE,ha]
theorem n_ptr(hu:fS E t=true){a:Addr}:bq E .neq t x y (.pointer (some a)) (.pointer none)=some (.bool true):=by
 obtain⟨e,ha⟩:=qD hu
 simp [bq,eZ,dE,ha]
theorem e_ptr(hu:fS E t=true){a:Addr}:bq E .eql t x y (.pointer (some a)) (.pointer none)=some (.bool false):=by
 obtain⟨e,ha⟩:=qD hu
 simp [bq,eZ,dE,ha]
theorem n_pnil(hu:fS E t=true):bq E .neq t x y (.pointer none) (.pointer none)=some (.bool false):=by
 obtain⟨e,ha⟩:=qD hu
 simp [bq,eZ,dE,ha]
theorem e_pnil(hu:fS E t=true):bq E .eql t x y (.pointer none) (.pointer none)=some (.bool true):=by
 obtain⟨e,ha⟩:=qD hu
 simp [bq,eZ,dE,ha]
theorem rb(hu:aQ E t=true): ∃d,E.und t=some d/\ ∀a,d≠ .interface a:=by
 unfold aQ at hu
 split at hu<;>first|exact⟨_, ‹_›,by intro a e;cases e⟩|cases hu
theorem assert_is(hu:aQ E t=true){v:Value}:mV E (.iface t v) t true=some (.tuple #[v,.bool true]):=by
 obtain⟨d,h1,h2⟩:=rb hu
 unfold mV
 rw [h1]
 cases d<;>first|exact absurd rfl (h2 _)|simp [qX]
theorem mk_iface(hu:aQ E t=true){v:Value}:(match E.und t with|none=>none|some (.interface _)=>none|some _=>some (Value.iface t v))=some (.iface t v):=by
 obtain⟨d,h1,h2⟩:=rb hu
 rw [h1]
 cases d<;>first|exact absurd rfl (h2 _)|rfl
end

theorem o_recover{E:Env}{ρ:Operand->Value}{h:Hp}{as:Array Operand}{ts:Array TypeId}:aop E ρ h (.call ⟨.builtin .recover,as,ts⟩)=some (.recov,h):=rfl
theorem o_deferR{E:Env}{ρ:Operand->Value}{h:Hp}{f:Operand}{as:Array Operand}{ts:Array TypeId}:aop E ρ h (.defer ⟨.value f,as,ts⟩)=match ρ f with
 | .func (.func g) a b=>some (.defer {target:=.fn (.func g) b,args:=⟨a.toList++as.toList.map ρ⟩},h)
 |_=>none:=rfl
def panR(h:Hp):Value->Option (c9×Hp)
 | .iface t v=>some (.panic (.iface t v),h)
 |_=>none
theorem o_panicR{E:Env}{ρ:Operand->Value}{h:Hp}{x:Operand}:aop E ρ h (.panic x)=panR h (ρ x):=by
 simp only [aop,panR];cases ρ x<;>rfl
theorem zD{h:Hp}{t:TypeId}{v:Value}:panR h (.iface t v)=some (.panic (.iface t v),h):=rfl
section
variable{E:Env}{cx:Cx}{o:Oper}{K:Ex->Loc->Hp->Prop}{h:Hp}{n:Nat}{ρ:Nat->Value}{d:List Deferred}
theorem sY{v:Value}:eA E cx o (LL n ρ d (some (v,false))) K (some (.recov,h))↔cx.round=none/\K .normal ((LL n ρ d (some (v,true))).put o.dst v) h:=Iff.rfl
theorem rY:eA E cx o (LL n ρ d none) K (some (.recov,h))↔cx.round=none/\K .normal ((LL n ρ d none).put o.dst .nilIface) h:=Iff.rfl
theorem step_defer{rc:Option (Value×Bool)}{x:Deferred}:eA E cx o (LL n ρ d rc) K (some (.defer x,h))↔cx.round=none/\K .normal ((LL n ρ (x::d) rc).put o.dst (.tuple #[])) h:=Iff.rfl
theorem vb{l:Loc}{f:FuncId}{args:List Value}{P:Out->Option (Value×Bool)->Hp->Prop}(hr:dS E f args none h P)(hk: ∀x rc h',P x rc h'->match x with
 | .ret v=>K .normal (l.put o.dst v) h'
 | .pan v=>K (.pan v) l h'):eA E cx o l K (some (.call f args,h)):=by
 obtain⟨x,rc,h',a,b⟩:=hr
 exact⟨x,rc,h',a,hk x rc h' b⟩
theorem rX{l:Loc}{b:Nat}{args:List Value}{P:Out->Hp->Prop}(hr:jS E b args h P)(hk: ∀x h',P x h'->match x with
 | .ret v=>K .normal (l.put o.dst v) h'
 | .pan v=>K (.pan v) l h'):eA E cx o l K (some (.yield b args,h)):=by
 obtain⟨x,h',a,b⟩:=hr
 exact⟨x,h',a,hk x h' b⟩
end
theorem wq{b:Nat}{args:List Value}:target (.func (.yield b) #[] #[]) args=some (.yield b args):=rfl
def UnQ(E:Env)(ds:List Deferred)(m:Option Value)(h:Hp)(Q:Option Value->Hp->Prop):Prop:= ∃m' h',bw (lim E) ds m h=some (m',h')/\Q m' h'
section
variable{E:Env}{rs:List ResultVar}{Q:Out->Option (Value×Bool)->Hp->Prop}{n:Nat}{ρ:Nat->Value}{d:List Deferred}{rc:Option (Value×Bool)}{h:Hp}
theorem ff(hu:UnQ E d none h fun m h'=>m=none/\ ∃vs,aT E (tab n ρ) h' rs=some vs/\Q (.ret (ac vs)) rc h'):mQ E rs Q .ret (LL n ρ d rc) h:=by
 obtain⟨m,h',h1,rfl,h2⟩:=hu
 exact⟨h',h1,h2⟩
theorem dD(hu:UnQ E d none h fun m h'=>m=none/\ ∃vs,aT E (tab n ρ) h' rs=some vs/\Q (.ret (ac vs)) rc h'):mQ E rs Q .normal (LL n ρ d rc) h:=ff hu
theorem hZ{v:Value}(hu:UnQ E d (some v) h fun m h'=>match m with
 |some v=>Q (.pan v) rc h'
 |none=> ∃vs,aT E (tab n ρ) h' rs=some vs/\Q (.ret (ac vs)) rc h'):mQ E rs Q (.pan v) (LL n ρ d rc) h:=by
 obtain⟨m,h',h1,h2⟩:=hu
 exact⟨m,h',h1,h2⟩
theorem cS{m:Option Value}{P:Option Value->Hp->Prop}(hp:P m h):UnQ E [] m h P:=⟨m,h,rfl,hp⟩
theorem un_dfr{b:Nat}{ds:List Deferred}{m:Option Value}{P:Option Value->Hp->Prop}(hb:h.get b=some .dfr)(hu:UnQ E ds m (h.put b .dead) P):UnQ E (pE b::ds) m h P:=by
 obtain⟨m',h',h1,h2⟩:=hu
 refine⟨m',h',?_,h2⟩
 simp only [bw,pE,hb]
 exact h1
theorem un_fn{f:FuncId}{cap args:Array Value}{ds:List Deferred}{P:Option Value->Hp->Prop}(hc:dS E f (args.toList++cap.toList) none h fun o rc h'=>(∃v,o=.ret v)/\rc=none/\UnQ E ds none h' P):UnQ E ({target:=.fn (.func f) cap,args}::ds) none h P:=by
 obtain⟨o,rc',h1,h2,⟨v,rfl⟩,rfl,m',h',h3,h4⟩:=hc
 refine⟨m',h',?_,h4⟩
 simp only [bw,h2]
 exact h3
theorem un_fn_pan{f:FuncId}{cap args:Array Value}{ds:List Deferred}{v:Value}{P:Option Value->Hp->Prop}(hc:dS E f (args.toList++cap.toList) (some (v,false)) h fun o rc h'=>(∃u,o=.ret u)/\ ∃v' b,rc=some (v',b)/\UnQ E ds (if b=true then none else some v') h' P):
 UnQ E ({target:=.fn (.func f) cap,args}::ds) (some v) h P:=by
 obtain⟨o,rc',h1,h2,⟨u,rfl⟩,v',b,rfl,m',h',h3,h4⟩:=hc
 refine⟨m',h',?_,h4⟩
 simp only [bw,h2]
 cases b with
 |true=>exact h3
 |false=>exact h3
theorem iV{vs:List Value}(hv:aT E (tab n ρ) h rs=some vs)(hq:Q (.ret (ac vs)) rc h):mQ E rs Q .ret (LL n ρ [] rc) h:=ff (cS ⟨rfl,vs,hv,hq⟩)
end
end Go.Ab

namespace Go.Ab
section
variable{M:Nat->Prop}{h0 h:Hp}{L:List (Nat×Ob)}{G:List GL}{E:Env}
theorem cm{t e:TypeId}{by_ k n:Nat}{zs cs:List Value}{parts:List (Nat×Value)}(hu:E.und t=some (.slice e))(he:eB E e by_ k zs)(hn:n*k<=16777216)
 (hf:im (fun i=>some (i*k,k)) (aY zs n) parts=some cs):ol h (fun h=>cH (jd E h t n parts)) (fun b=>.slice (some ⟨b,0,none⟩) n n) (.row cs 1):=by
 obtain⟨⟨i,hi,rfl,rfl⟩,hz,hl⟩:=he
 have hs:E.sz e=some i.size:=by unfold Env.sz;rw [hi]
 refine⟨.cells (Tr.ofList cs) cs.length e 1,fun x=>?_,fun ok=>mU ok _ _ _⟩
 simp only [jd,hu,hs,zO hn,hz,hl,zQ,hf,cond_true]
 rfl
theorem St.clone(S:St M h0 h L G){t tx e:TypeId}{by_ k m n md:Nat}{zs new vs:List Value}{b:Nat}{x:Value}(hu:E.und t=some (.slice e))(he:eB E e by_ k zs)(hb:0<by_)
 (hx:az E tx=some false) (hsrc:aO h k x=some (m,new)) (hm:m*k=new.length) (hn:n*k=vs.length) (hk:0<k) (hsz:(vs.length+new.length)*(by_+1)<=70368744177664) {ts:List TypeId}
 (hl:Row h b vs md):
 ∃ h' v',cL E h (t::tx::ts) (.slice (some ⟨b,0,none⟩) n n) x=some (h',v')/\
   ((m=0/\h'=h/\v'=.slice (some ⟨b,0,none⟩) n n)\/ ∃b',v'=.slice (some ⟨b',0,some k⟩) (n+m) (n+m)/\St M h0 h' ((b',.row (vs++new) 1)::L) G):=by
 obtain⟨⟨i,hi,rfl,rfl⟩,hz,hl2⟩:=he
 have hst:cL E h (t::tx::ts) (.slice (some ⟨b,0,none⟩) n n) x=eJ E h e i (some ⟨b,0,none⟩) n n m new:=by
  simp only [cL,hx,iX,hu,hi,hsrc]
 rw [hst]
 by_cases h1:m=0
 . subst h1
   have:new=[]:=by
    cases new with
    |nil=>rfl
    |cons a l=>simp at hm
   subst this
   refine⟨h,_,?_,.inl ⟨rfl,rfl,rfl⟩⟩
   unfold eJ
   rw [zO (by omega:n+0<=n)]
   rfl
 . have hcap:zU (n+m) n=false:=by
    cases hx:zU (n+m) n with
    |false=>rfl
    |true=>exact absurd (zW hx) (by omega)
   have hmul:n+m<=vs.length+new.length:=by
    rw [<-hn,<-hm]
    have h1:=zZ n hk
    have h2:=zZ m hk
    omega
   have hguard:(zU ((n+m)*(i.bytes+1)) 70368744177664&&Nat.blt 0 i.bytes)=true:=by
    rw [zO (Xb (Xp _ hmul) hsz)]
    simp only [Bool.true_and]
    rw [Nat.blt_eq];exact hb
   have hzl:Xg zs.length i.size=true:=by rw [hl2];exact zQ _
   have hstart:eJ E h e i (some ⟨b,0,none⟩) n n m new=lZ h e i.size (some ⟨b,0,none⟩) n m new:=by
    unfold eJ
    rw [hcap]
    simp only [cond_false]
    rw [hguard,hz]
    simp only [cond_true,hzl]
   rw [hstart]
   obtain⟨tr,el,hget,hsz',htr⟩:=hl
   have hgt:iQ tr vs.length 0 (n*i.size) new=some (tr.pushAll vs.length new,vs.length+new.length):=by
    unfold iQ
    rw [hn,zQ vs.length]
    rfl
   refine⟨h.new (.cells (tr.pushAll vs.length new) (vs.length+new.length) e 1),.slice (some ⟨h.n,0,some i.size⟩) (n+m) (n+m),?_,.inr ⟨h.n,rfl,?_⟩⟩
   . unfold lZ
     simp only [hget,hgt]
   . refine S.new ⟨tr.pushAll vs.length new,e,?_,?_,fun j=>?_⟩
     . rw [h.get_new _ S.ok,if_pos rfl,zP]
     . rw [zP];exact Tr.sized_pushAll _ hsz'
     . rw [Tr.get_pushAll _ _ _ hsz',XA]
       split
       . exact htr j
       . rfl
theorem St.cloneSl{α:Type}{enc:α->List Value}{xs ys:List α}(S:St M h0 h L G){t tx e:TypeId}{by_ k md:Nat}{zs:List Value}{b:Nat}{x:Value}(hu:E.und t=some (.slice e))(he:eB E e by_ k zs)(hb:0<by_)
 (hx:az E tx=some false) (hs:aA h k enc x ys) (hen: ∀x,(enc x).length=k) (hk:0<k) (hsz:((xs.length+ys.length)*k)*(by_+1)<=70368744177664) {ts:List TypeId}
 (hl:Row h b (xs.flatMap enc) md):
 ∃h' v',cL E h (t::tx::ts) (.slice (some ⟨b,0,none⟩) xs.length xs.length) x=some (h',v')/\St M h0 h' L G/\Gr h h'/\aA h' k enc v' (xs++ys)/\(∀c,av v' c->c=b\/h.n<=c):=by
 obtain⟨h',v',h1,h2⟩:=S.clone hu he hb hx hs.src (aX hen ys).symm (aX hen xs).symm hk (by rw [aX hen,aX hen,<-Xv];exact hsz) (ts:=ts) hl
 refine⟨h',v',h1,?_⟩
 rcases h2 with⟨hm,rfl,rfl⟩|⟨b',rfl,hS⟩
 . have hy:ys=[]:=List.length_eq_zero_iff.1 hm
   subst hy
   refine⟨S,Gr.refl S.ok,.inr ⟨b,0,none,xs.length,by simp,by simp,?_⟩,fun c hc=>.inl (Eq.symm hc)⟩
   rw [Xo,hl.load (by rw [aX hen];omega),Xz,<-aX hen xs,Xt]
 . have S':St M h0 h' L G:=⟨hS.fr,fun p hp=>hS.own p (Xm _ hp),hS.gown,(List.nodup_cons.1 hS.apart).2⟩
   have hrow:Row h' b' (xs.flatMap enc++ys.flatMap enc) 1:=hS.row m0
   have T:=(St.init (M:=NoM) S.ok).clone hu he hb hx hs.src (aX hen ys).symm (aX hen xs).symm hk (by rw [aX hen,aX hen,<-Xv];exact hsz) (ts:=ts) hl
   obtain⟨h2',v2',k1,k2⟩:=T
   rw [h1]at k1
   cases k1
   rcases k2 with⟨hm,_,he⟩|⟨b2,e2,hT⟩
   . exact absurd he (by intro e;cases e)
   . cases e2
     refine⟨S',hT.gr,.inr ⟨b',0,some k,xs.length+ys.length,by rw [zP],by rw [zP];exact zV _,?_⟩,fun c hc=>?_⟩
     . rw [hrow.load (by rw [zP,zP,aX hen,aX hen,Xv];omega),Xz,<-List.flatMap_append,<-aX hen (xs++ys),Xt]
     . right
       have:b'=c:=hc
       subst this
       rcases(hT.own _ m0).1 with h|h
       . exact h
       . exact h.elim
end
end Go.Ab

namespace Go.Ab
section
variable{E:Env}{t e:TypeId}{h:Hp}{x y:Operand}
noncomputable def lenR(E:Env)(h:Hp)(t:TypeId)(x:Value):Option (c9×Hp):=lenK (match x with
 | .map (some r)=>match h.get r with
   |some (.map es _)=>match E.und t with
    |some (.map _ _)=>some (.val (.int .i64 (.ofNat es.length)),h)
    |_=>none
   |_=>none
 |_=>none) h (mC E t x)
theorem o_lenR{ρ:Operand->Value}{x:Operand}:aop E ρ h (.call ⟨.builtin .len,#[x],#[t]⟩)=lenR E h t (ρ x):=o_lenK
noncomputable def lenQ(d:Option TypeDesc)(h:Hp)(x:Value):Option (c9×Hp):=match d with
 | some .string=>match x with
   | .string s=>some (.val (.int .i64 (.ofNat s.size)),h)
   |_=>none
 |some (.array n _)=>some (.val (.int .i64 (.ofNat n)),h)
 | some (.slice _)=>match x with
   | .slice _ n _=>some (.val (.int .i64 (.ofNat n)),h)
   |_=>none
 | some (.map _ _)=>match x with
   | .map none=>some (.val (.int .i64 0),h)
   | .map (some r)=>match h.get r with
     |some (.map es _)=>some (.val (.int .i64 (.ofNat es.length)),h)
     |_=>none
   |_=>none
 |_=>none
theorem len_q{x:Value}:lenR E h t x=lenQ (E.und t) h x:=by
 unfold lenR mC
 cases hu:E.und t with
 |none=>cases x<;>first|rfl|(rename_i r;cases r<;>first|rfl|(rename_i r;simp only [lenQ,lenK];cases h.get r with|none=>rfl|some b=>cases b<;>rfl))
 | some d=>
   cases d<;>cases x<;>first
    |rfl
    | (rename_i r;cases r<;>first
      |rfl
      |(rename_i r;simp only [lenQ,lenK];cases h.get r with|none=>rfl|some b=>cases b<;>rfl))
theorem zz{a:Option Addr}{n c:Nat}:lenQ (some (.slice e)) h (.slice a n c)=some (.val (.int .i64 n),h):=rfl
theorem lenq_str{s:ByteArray}:lenQ (some .string) h (.string s)=some (.val (.int .i64 s.size),h):=rfl
theorem lenq_arr{n:Nat}{v:Value}:lenQ (some (.array n e)) h v=some (.val (.int .i64 n),h):=rfl
theorem yi{k:TypeId}:lenQ (some (.map k e)) h (.map none)=some (.val (.int .i64 0),h):=rfl
theorem aA.lenq{α:Type}{k:Nat}{enc:α->List Value}{v:Value}{xs:List α}{h h':Hp}(s:aA h' k enc v xs):lenQ (some (.slice e)) h v=some (.val (.int .i64 xs.length),h):=by
 rcases s with⟨rfl,rfl⟩|⟨_,_,_,_,rfl,_⟩<;>rfl
theorem fj.lenq{v:Value}{k n:Nat}{vs:List Value}{h h':Hp}(g:fj h' (v,k,vs))(hk:0<k)(hn:n*k=vs.length):lenQ (some (.slice e)) h v=some (.val (.int .i64 n),h):=by
 rcases g with⟨h1,h2⟩|⟨b,m,h1,h2,h3⟩
 . simp only []at h1 h2
   subst h1 h2
   have:n=0:=by
    cases n with
    |zero=>rfl
    |succ n=>simp only [zX,Xd]at hn;omega
   subst this
   rfl
 . simp only []at h1 h2
   subst h1
   have:m=n:=Xf hk (h2.trans hn.symm)
   subst this
   rfl
def idxS(k:Option Nat)(v i:Value):Option Value:=match k with
 |none=>none
 | some k=>match v with
   | .slice (some a) n _=>match eR i n with
     |none=>none
     |some j=>some (.pointer (some (eH a (j*k))))
   |_=>none
def idxA(n:Nat)(k:Option Nat)(v i:Value):Option Value:=match k with
 |none=>none
 | some k=>match v with
   | .pointer (some a)=>match eR i n with
     |none=>none
     |some j=>some (.pointer (some (eH a (j*k))))
   |_=>none
def idxQ(E:Env)(d:Option TypeDesc)(v i:Value):Option Value:=match d with
 |some (.slice e)=>idxS (E.sz e) v i
 |some (.array n e)=>idxA n (E.sz e) v i
 |_=>none
theorem idx_q{v i:Value}:dR E t v i=idxQ E (E.und t) v i:=by
 unfold dR idxQ
 cases hu:E.und t with
 |none=>rfl
 | some d=>
   cases d<;>first
    |rfl
    |(simp only [idxS];cases hs:E.sz _<;>(split<;>first|rfl|(split<;>simp_all)))
    |(simp only [idxA];cases hs:E.sz _<;>(split<;>first|rfl|(split<;>simp_all)))
theorem zK{v i:Value}:idxQ E (some (.slice e)) v i=idxS (E.sz e) v i:=rfl
theorem yY{n:Nat}{v i:Value}:idxQ E (some (.array n e)) v i=idxA n (E.sz e) v i:=rfl
def putI(a:Addr)(k:Nat):Option Nat->Option Value
 |none=>none
 |some j=>some (.pointer (some ⟨a.block,a.off+j*k,none⟩))
theorem pH{k n c:Nat}{a:Addr}{i:Value}:idxS (some k) (.slice (some a) n c) i=putI a k (eR i n):=by
 simp only [idxS,putI,eH]
theorem idxa_ptr{k n:Nat}{a:Addr}{i:Value}:idxA n (some k) (.pointer (some a)) i=putI a k (eR i n):=by
 simp only [idxA,putI,eH]
theorem putI_some{a:Addr}{k j:Nat}:putI a k (some j)=some (.pointer (some ⟨a.block,a.off+j*k,none⟩)):=rfl
theorem aA.ix{α:Type}{k:Nat}{enc:α->List Value}{v:Value}{xs:List α}{kd:IntKind}(s:aA h k enc v xs)(he: ∀x,(enc x).length=k){i:Nat}(hi:i<xs.length):
 ∃b o,idxS (some k) v (.int kd i)=some (.pointer (some ⟨b,o,none⟩))/\h.load b o k=some (enc xs[i]):=by
 obtain⟨b,o,s',c,rfl,hl⟩:=s.idx he hi
 refine⟨b,o+i*k,?_,hl⟩
 rw [pH,eX hi]
 rfl
noncomputable def loadQ(g:Option Bool)(n:Option Nat)(h:Hp)(b o:Nat):Option Value:=match g with
 | some true=>match n with
   |some n=>agg1 (h.load b o n)
   |none=>none
 |some false=>one1 (h.load b o 1)
 |none=>none
theorem load_q{b o:Nat}{s:Option Nat}:eo E h t (.pointer (some ⟨b,o,s⟩))=loadQ (E.agg t) (E.sz t) h b o:=by
 cases ha:E.agg t with
 |none=>simp [eo,loadQ,ha]
 | some g=>
   cases g with
   |false=>exact yO ha
   | true=>
     cases hs:E.sz t with
     |none=>simp [eo,loadQ,ha,hs]
     |some n=>exact loadV_agg ha hs
theorem loadq_f{b o:Nat}{n:Option Nat}:loadQ (some false) n h b o=one1 (h.load b o 1):=rfl
theorem loadq_t{b o n:Nat}:loadQ (some true) (some n) h b o=agg1 (h.load b o n):=rfl
def kh(E:Env)(t:TypeId):Bool:=match E.und t with
 |some (.slice _)=>true
 |_=>false
theorem sl_und(hu:kh E t=true): ∃a,E.und t=some (.slice a):=by
 unfold kh at hu;split at hu<;>first|exact⟨_, ‹_›⟩|cases hu
theorem e_slice{a:Addr}{n c:Nat}(hu:kh E t=true):bq E .eql t x y (.slice (some a) n c) (.slice none 0 0)=some (.bool false):=by
 obtain⟨e,hu⟩:=sl_und hu
 simp [bq,eZ,dE,hu]
theorem e_snil(hu:kh E t=true):bq E .eql t x y (.slice none 0 0) (.slice none 0 0)=some (.bool true):=by
 obtain⟨e,hu⟩:=sl_und hu
 simp [bq,eZ,dE,hu]

def Fl(v:Value):Prop:=an v=[v]/\iM v=true/\ ∀x,v≠ .chan x
theorem bG{k:IntKind}{n:Int}:Fl (.int k n):=⟨rfl,rfl,nofun⟩
theorem tN{b:Bool}:Fl (.bool b):=⟨rfl,rfl,nofun⟩
theorem fl_str{b:ByteArray}:Fl (.string b):=⟨rfl,rfl,nofun⟩
theorem dX{a:Option Addr}:Fl (.pointer a):=⟨rfl,rfl,nofun⟩
theorem bL{a:Option Addr}{n c:Nat}:Fl (.slice a n c):=⟨rfl,rfl,nofun⟩
theorem fl_map{a:Option Nat}:Fl (.map a):=⟨rfl,rfl,nofun⟩
theorem iq{f:Fn}{a b:Array Value}:Fl (.func f a b):=⟨rfl,rfl,nofun⟩
theorem fl_nilf:Fl .nilFunc:=⟨rfl,rfl,nofun⟩
theorem fl_nili:Fl .nilIface:=⟨rfl,rfl,nofun⟩
theorem fl_iface{t:TypeId}{v:Value}:Fl (.iface t v):=⟨rfl,rfl,nofun⟩
theorem aA.fl{α:Type}{k:Nat}{enc:α->List Value}{v:Value}{xs:List α}(s:aA h k enc v xs):Fl v:=by
 rcases s with⟨rfl,_⟩|⟨_,_,_,_,rfl,_⟩<;>exact bL
theorem fj.fl{p:GL}(g:fj h p):Fl p.1:=by
 rcases g with⟨e,_⟩|⟨_,_,e,_⟩<;>rw [e]<;>exact bL
def placesOf(E:Env)(t:TypeId):Option (List (Nat×Nat)):=match E.und t with
 |some (.struct fs)=>lI E fs.toList
 |_=>none
def aggO:Option (List Value)->Option Value
 |some l=>some (.agg ⟨l⟩)
 |none=>none
theorem aggO_some{l:List Value}:aggO (some l)=some (.agg ⟨l⟩):=rfl
def jT(ps:List (Nat×Nat))(l:List Value)(parts:List (Nat×Value)):Option (List Value):=im (fun i=>ps[i]?) l parts
theorem build_st{zs:List Value}{ps:List (Nat×Nat)}{parts:List (Nat×Value)}(hz:E.zero t=some zs)(hp:placesOf E t=some ps):jP E t parts=aggO (jT ps zs parts):=by
 unfold placesOf at hp
 unfold jP jT
 rw [hz]
 split at hp
 . rename_i fs hu
   simp only [hu,hp]
   cases im (fun i=>ps[i]?) zs parts<;>rfl
 . cases hp
theorem fill_nil{ps:List (Nat×Nat)}{l:List Value}:jT ps l []=some l:=rfl
def buildQ(z:Option (List Value))(p:Option (List (Nat×Nat)))(parts:List (Nat×Value)):Option Value:=match z with
 |none=>none
 | some z=>match p with
   |none=>none
   |some p=>aggO (jT p z parts)
theorem build_q{parts:List (Nat×Value)}(hz:(placesOf E t).isSome=true):jP E t parts=buildQ (E.zero t) (placesOf E t) parts:=by
 cases hp:placesOf E t with
 |none=>rw [hp]at hz;cases hz
 | some ps=>
   cases h0:E.zero t with
   |none=>simp [jP,buildQ,h0]
   |some z=>exact build_st h0 hp
theorem yq{zs:List Value}{ps:List (Nat×Nat)}{parts:List (Nat×Value)}:buildQ (some zs) (some ps) parts=aggO (jT ps zs parts):=rfl
def qL(ps:List (Nat×Nat))(l:List Value)(v:Value)(r:List (Nat×Value)):Option (Nat×Nat)->Option (List Value)
 |none=>none
 |some (o,n)=>match v with
  | .chan _=>none
  |v=>bif Xg (an v).length n&&zU (o+n) l.length then jT ps (bM l o (an v)) r else none
theorem fill_q{ps:List (Nat×Nat)}{l:List Value}{i:Nat}{v:Value}{r:List (Nat×Value)}:jT ps l ((i,v)::r)=qL ps l v r (ps[i]?):=by
 unfold jT
 cases hp:ps[i]? with
 |none=>simp [im,qL,hp]
 |some q=>obtain⟨o,n⟩:=q;simp only [im,qL,hp];rfl
theorem fills_one{ps:List (Nat×Nat)}{l:List Value}{o:Nat}{v:Value}{r:List (Nat×Value)}(hv:Fl v)(ho:o<l.length):qL ps l v r (some (o,1))=jT ps (l.set o v) r:=by
 have e:(bif Xg (an v).length 1&&zU (o+1) l.length then jT ps (bM l o (an v)) r else none)=jT ps (l.set o v) r:=by
  rw [hv.1]
  simp only [Xe,zX,Nat.zero_add,zQ,zO (show o+1<=l.length from ho),Bool.and_self,cond_true,bM]
 cases v<;>first|exact e|exact absurd rfl (hv.2.2 _)
theorem fills_agg{ps:List (Nat×Nat)}{l c:List Value}{o n:Nat}{r:List (Nat×Value)}(hn:c.length=n)(ho:o+n<=l.length):qL ps l (.agg ⟨c⟩) r (some (o,n))=jT ps (bM l o c) r:=by
 simp only [qL,an,hn,zQ,zO ho,Bool.and_self,cond_true]
theorem setL_nil{l:List Value}{o:Nat}:bM l o []=l:=rfl
theorem setL_cons{l vs:List Value}{o:Nat}{v:Value}:bM l o (v::vs)=bM (l.set o v) (o+1) vs:=rfl
theorem cI{v:Value}(hv:Fl v):ol h (fun h=>boxR h t v) ptrTo (.row [v] 1):=by
 have:=aZ (h:=h) (t:=t) hv.2.2
 rw [hv.1]at this
 exact this
theorem aI{M:Nat->Prop}{h0:Hp}{L:List (Nat×Ob)}{G:List GL}(S:St M h0 h L G){i b off md:Nat}{s:Option Nat}{l:List Value}{v:Value}(hi:L[i]? =some (b,.row l md))(hs:E.sz t=some 1)(hv:Fl v)
 (ho:off<l.length) (hmd:md≠0): ∃h',ie E h t (.pointer (some ⟨b,off,s⟩)) v=some h'/\St M h0 h' (L.set i (b,.row (l.set off v) md)) G/\Mo (· =b) h h':=by
 have hvc:an v=[v]:=hv.1
 have:=S.store (v:=v) (t:=t) (s:=s) (off:=off) (n:=1) hi hs hv.2.2 (by rw [hvc];rfl) (by rw [hvc];simp [hv.2.1]) (by omega) hmd
 rw [hvc]at this
 have e:lay l off [v]=l.set off v:=by
  refine zS fun j=>?_
  rw [iW (by simp;omega),zY]
  simp only [Xe,zX]
  by_cases hj:off=j
  . subst hj;rw [if_pos ⟨zV _,by omega⟩,if_pos rfl,if_pos ho];simp
  . rw [if_neg (by omega),if_neg hj]
 rw [e]at this
 exact this
end
def ifaceR(E:Env)(t:TypeId)(v:Value):Option Value:=match E.und t with
 |none=>none
 |some (.interface _)=>none
 |some _=>some (.iface t v)
theorem o_ifaceR{E:Env}{ρ:Operand->Value}{h:Hp}{t:TypeId}{x:Operand}:aop E ρ h (.makeInterface t x)=bS h (ifaceR E t (ρ x)):=rfl
theorem ifaceR_is{E:Env}{t:TypeId}{v:Value}(hu:aQ E t=true):ifaceR E t v=some (.iface t v):=mk_iface hu
def nilcR:Value->Option Value
 | .pointer (some a)=>some (.pointer (some a))
 | .func (.func f) a b=>some (.func (.func f) a b)
 |_=>none
theorem o_nilcR{E:Env}{ρ:Operand->Value}{h:Hp}{x:Operand}:aop E ρ h (.nilCheck x)=bS h (nilcR (ρ x)):=rfl
theorem nilcR_ptr{a:Addr}:nilcR (.pointer (some a))=some (.pointer (some a)):=rfl
def pickR(c a b:Value):Option Value:=match c with
 | .bool t=>some (bif t then a else b)
 |_=>none
theorem o_pickR{E:Env}{ρ:Operand->Value}{h:Hp}{c a b:Operand}:aop E ρ h (.pick c a b)=bS h (pickR (ρ c) (ρ a) (ρ b)):=rfl
theorem pick_t{a b:Value}:pickR (.bool true) a b=some a:=rfl
theorem pick_f{a b:Value}:pickR (.bool false) a b=some b:=rfl
def extrR(i:Nat):Value->Option Value
 | .tuple vs=>vs.toList[i]?
 |_=>none
theorem o_extrR{E:Env}{ρ:Operand->Value}{h:Hp}{x:Operand}{i:Nat}:aop E ρ h (.extract x i)=bS h (extrR i (ρ x)):=by
 rw [o_extract];rfl
theorem extr_0{a:Value}{l:List Value}:extrR 0 (.tuple ⟨a::l⟩)=some a:=rfl
theorem extr_1{a b:Value}{l:List Value}:extrR 1 (.tuple ⟨a::b::l⟩)=some b:=rfl
theorem extr_2{a b c:Value}{l:List Value}:extrR 2 (.tuple ⟨a::b::c::l⟩)=some c:=rfl
noncomputable def delR(E:Env)(h:Hp)(t:TypeId)(m k:Value):Option (c9×Hp):=match kH E h t m k with
 |none=>none
 |some h'=>some (.val (.tuple #[]),h')
theorem o_delR{E:Env}{ρ:Operand->Value}{h:Hp}{m k:Operand}{t:TypeId}{ts:List TypeId}:aop E ρ h (.call ⟨.builtin .delete,#[m,k],⟨t::ts⟩⟩)=delR E h t (ρ m) (ρ k):=rfl
theorem aP{a b:Nat}:((a:Int)<(b:Int))=(a<b):=by simp
def BS:=zM (@run_seq)<|zM (@zt)<|zM (@r_ops)<|zM (@g_true)<|zM (@g_false)<|zM (@ye)<|zM (@run_ret)<|zM (@run_nil)<|zM (@run_skip)<|zM (@run_block)<|zM (@run_scope)<|zM (@run_blk)<|zM (@run_exit)<|zM (@we)<|zM (@uS)<|zM (@vp)<|zM (@zL)<|zM (@yI)<|zM (@r_cond)<|zM (@c_true)<|zM (@c_false)<|zM (@r_opsD)<|zM (@dn_loud)<|zM (@dn_quiet)<|zM (@dn_val)<|zM (@dn_skip)<|zM (@d_skip)<|zM (@mK)<|zM (@bF)<|zM (@bO)<|zM (@wg)<|zM (@guard_no)<|zM (@yK)<|zM (@gj_some)<|zM (@gv_true)<|zM (@gv_false)<|zM (@gv_tuple)<|zM (@o_move)<|zM (@o_assign)<|zM (@o_pickR)<|zM (@pick_t)<|zM (@pick_f)<|zM (@o_load)<|zM (@o_store)<|zM (@o_binOp)<|zM (@o_unOp)<|zM (@o_nilcR)<|zM (@nilcR_ptr)<|zM (@o_ifaceR)<|zM (@yN)<|zM (@o_slice)<|zM (@xN)<|zM (@o_field)<|zM (@yd)<|zM (@o_index)<|zM (@o_extrR)<|zM (@extr_0)<|zM (@extr_1)<|zM (@extr_2)<|zM (@o_build)<|zM (@vU)<|zM (@ym)<|zM (@za)<|zM (@v7)<|zM (@o_convert)<|zM (@o_lookup)<|zM (@xV)<|zM (@yZ)<|zM (@xG)<|zM (@o_allocR)<|zM (@o_boxR)<|zM (@o_callv)<|zM (@o_max)<|zM (@o_min)<|zM (@o_append)<|zM (@o_copy)<|zM (@o_lenR)<|zM (@o_delR)<|zM (@o_recover)<|zM (@o_deferR)<|zM (@o_panicR)<|zM (@zD)<|zM (@yP)<|zM (@yR)<|zM (@zl)<|zM (@uZ)<|zM (@tR)<|zM (@tt)<|zM (@sY)<|zM (@rY)<|zM (@step_defer)<|zM (@target_fn)<|zM (@wq)<|zM (@b_add)<|zM (@b_sub)<|zM (@b_mul)<|zM (@b_eql)<|zM (@b_neq)<|zM (@b_lss)<|zM (@b_leq)<|zM (@b_gtr)<|zM (@b_geq)<|zM (@b_eqlB)<|zM (@b_neqB)<|zM (@same_bool)<|zM (@u_not)<|zM (@mm_max)<|zM (@mm_min)<|zM (@ae)<|zM (@one1_some)<|zM (@agg1_some)<|zM (@dt)<|zM (@ll_put0)<|zM (@cB)<|zM (@ll_func)<|zM (@c_int)<|zM (@c_bool)<|zM (@c_string)<|zM (@c_nilp)<|zM (@c_nils)<|zM (@c_nilm)<|zM (@c_nilf)<|zM (@c_nili)<|zM (@ll_regs)<|zM (@ku)<|zM (@aS)<|zM (@bn)<|zM (@ce)<|zM (@uj)<|zM (@xC)<|zM (@fu)<|zM (@dZ)<|zM (@hush_s)<|zM (@idxP_in)<|zM (@eX)<|zM (@idx_q)<|zM (@zK)<|zM (@yY)<|zM (@pH)<|zM (@idxa_ptr)<|zM (@putI_some)<|zM (@len_q)<|zM (@zz)<|zM (@lenq_str)<|zM (@lenq_arr)<|zM (@yi)<|zM (@load_q)<|zM (@loadq_f)<|zM (@loadq_t)<|zM (@n_iface)<|zM (@n_nil)<|zM (@e_iface)<|zM (@e_nil)<|zM (@n_ptr)<|zM (@e_ptr)<|zM (@n_pnil)<|zM (@e_pnil)<|zM (@e_slice)<|zM (@e_snil)<|zM (@assert_is)<|zM (@ifaceR_is)<|zM (@build_q)<|zM (@yq)<|zM (@aggO_some)<|zM (@fill_nil)<|zM (@fill_q)<|zM (@fills_one)<|zM (@fills_agg)<|zM (@setL_nil)<|zM (@setL_cons)<|zM (@bG)<|zM (@tN)<|zM (@fl_str)<|zM (@dX)<|zM (@bL)<|zM (@fl_map)<|zM (@iq)<|zM (@fl_nilf)<|zM (@fl_nili)<|(@fl_iface)
end Go.Ab

namespace Go.Ab
structure ItS(h0:Hp)(D:Nat->Prop)(h:Hp)(F:List Nat):Prop where
 ok:h.t.Sized h.n
 n:h0.n<=h.n
 data: ∀b,b<h0.n->D b->h.get b=h0.get b
 apart: ∀b∈F,¬(b<h0.n/\D b)
 lt: ∀b∈F,b<h.n
section
variable{h0 h h':Hp}{D:Nat->Prop}{F F':List Nat}
theorem ItS.gr(s:ItS h0 D h F)(g:Gr h h'):ItS h0 D h' F:=
 ⟨g.ok,Xb s.n g.n,fun b hb hd=>(g.get b (Xh hb s.n)).trans (s.data b hb hd),s.apart,fun b hb=>Xh (s.lt b hb) g.n⟩
theorem ItS.mo(s:ItS h0 D h F)(m:Mo (· ∈F) h h')(hf: ∀b∈F',b∈F\/h.n<=b)(hl: ∀b∈F',b<h'.n):ItS h0 D h' F':=
 ⟨m.ok,Xb s.n m.n,fun b hb hd=>(m.get b (Xh hb s.n) (fun hf=>s.apart b hf ⟨hb,hd⟩)).trans (s.data b hb hd),
  fun b hb hd=>(hf b hb).elim (fun hb=>s.apart b hb hd) (fun hb=>by have:=s.n;omega),hl⟩
theorem ItS.load(s:ItS h0 D h F){b o n:Nat}{l:List Value}(ok0:h0.t.Sized h0.n)(e:h0.load b o n=some l)(hd:D b):h.load b o n=some l:=by
 have:=s.data b (bI ok0 e) hd
 unfold Hp.load at e⊢
 rw [this];exact e
theorem ItS.sl{α:Type}{k:Nat}{enc:α->List Value}{v:Value}{xs:List α}(s:ItS h0 D h F)(ok0:h0.t.Sized h0.n)(e:aA h0 k enc v xs)(hd: ∀b,av v b->D b):aA h k enc v xs:=by
 rcases e with e|⟨b,o,s',c,h1,h2,h3⟩
 . exact .inl e
 . exact .inr ⟨b,o,s',c,h1,h2,s.load ok0 h3 (hd b (by rw [h1];rfl))⟩
end
structure Yld(E:Env)(lb:Nat)(J:Nat->Hp->List Nat->Prop)(Z:Out->Hp->Prop)(xs:List (List Value)):Prop where
 lt: ∀i h F,J i h F->h.t.Sized h.n/\ ∀b∈F,b<h.n
 gr: ∀i h F h',J i h F->Gr h h'->J i h' F
 zgr: ∀h h',Z (.ret (.bool false)) h->Gr h h'->Z (.ret (.bool false)) h'
 round: ∀i x h F,xs[i]? =some x->J i h F->jS E lb x h fun o h'=>(o=.ret (.bool true)/\ ∃F',J (i+1) h' F'/\Mo (· ∈F) h h'/\ ∀b∈F',b∈F\/h.n<=b)\/(o=.ret (.bool false)/\Z o h'/\h'.t.Sized h'.n)\/((∃v,o=.pan v)/\Z o h')
def YQ(J:Nat->Hp->List Nat->Prop)(Z:Out->Hp->Prop)(n:Nat)(o:Out)(rc:Option (Value×Bool))(h':Hp):Prop:=
 rc=none/\((∃u F',o=.ret u/\J n h' F')\/(∃u,o=.ret u/\Z (.ret (.bool false)) h')\/(∃v,o=.pan v/\Z o h'))
theorem qU{E:Env}{g:FuncId}{pre post:List Value}{h0:Hp}{D:Nat->Prop}{xs:List (List Value)}
 (H: ∀lb J Z,Yld E lb J Z xs-> ∀h F,ItS h0 D h F->J 0 h F->dS E g (pre++[.func (.yield lb) #[] #[]]++post) none h (YQ J Z xs.length)):Iter E g pre post h0 D xs:=by
 intro lb J Z h F ok hn hd hlt hgr hz ha hr hj
 exact H lb J Z ⟨hlt,hgr,hz,hr⟩ h F ⟨ok,hn,hd,ha,(hlt 0 h F hj).2⟩ hj
theorem vz{E:Env}{g:FuncId}{pre post:List Value}{h0:Hp}{D:Nat->Prop}{xs:List (List Value)}(H:Iter E g pre post h0 D xs){lb:Nat}{J:Nat->Hp->List Nat->Prop}{Z:Out->Hp->Prop}(Y:Yld E lb J Z xs)
 {h:Hp} {F:List Nat} (g0:Mo (fun b=> ¬D b) h0 h) (ha: ∀b∈F,b<h0.n-> ¬D b) (hj:J 0 h F):dS E g (pre++[.func (.yield lb) #[] #[]]++post) none h (YQ J Z xs.length):=
 H lb J Z h F g0.ok g0.n (fun b hb hd=>g0.get b hb (fun hn=>hn hd)) Y.lt Y.gr Y.zgr (fun b hb h=>ha b hb h.1 h.2) Y.round hj
theorem gf{E:Env}{cx:Cx}{o:Oper}{l:Loc}{K:Ex->Loc->Hp->Prop}{h0 h:Hp}{D:Nat->Prop}{lb i:Nat}{J:Nat->Hp->List Nat->Prop}{Z:Out->Hp->Prop}{xs:List (List Value)}{x:List Value}{F:List Nat}
 (Y:Yld E lb J Z xs) (s:ItS h0 D h F) (hj:J i h F) (hx:xs[i]? =some x)
 (k1: ∀h' F',J (i+1) h' F'->ItS h0 D h' F'->Mo (· ∈F) h h'->(∀b∈F',b∈F\/h.n<=b)->K .normal (l.put o.dst (.bool true)) h')
 (k2: ∀h',Z (.ret (.bool false)) h'->h'.t.Sized h'.n->K .normal (l.put o.dst (.bool false)) h') (k3: ∀v h',Z (.pan v) h'->K (.pan v) l h'):eA E cx o l K (some (.yield lb x,h)):=by
 refine rX (Y.round i x h F hx hj) ?_
 rintro q h' (⟨rfl,F',a,b,c⟩|⟨rfl,a,b⟩|⟨⟨v,rfl⟩,a⟩)
 . exact k1 h' F' a (s.mo b c (Y.lt _ _ _ a).2) b c
 . exact k2 h' a b
 . exact k3 v h' a

section
variable{M:Nat->Prop}{h0 h h':Hp}{L L':List (Nat×Ob)}{G G':List GL}
theorem St.base(S:St M h0 h L G):St (· ∈keys L G) h h L G:=
 ⟨Mo.refl S.ok,fun p hp=>⟨.inr (gb hp),(S.own p hp).2⟩,fun p hp=>⟨(S.gown p hp).1,fun b hb=>.inr (eC hp hb)⟩,S.apart⟩
theorem St.key_own(S:St M h0 h L G){b:Nat}(hb:b∈keys L G):h0.n<=b\/M b:=by
 unfold keys at hb
 rcases List.mem_append.1 hb with hb|hb
 . obtain⟨p,hp,rfl⟩:=List.mem_map.1 hb
   exact(S.own p hp).1
 . obtain⟨p,hp,hk⟩:=List.mem_filterMap.1 hb
   exact(S.gown p hp).2 b hk
theorem St.rebase(S:St M h0 h L G)(T:St (· ∈keys L G) h h' L' G'):St M h0 h' L' G':=by
 have hk: ∀b,h.n<=b\/b∈keys L G->h0.n<=b\/M b:=fun b hb=>hb.elim (fun hb=>.inl (Xb S.fr.n hb)) S.key_own
 exact⟨S.fr.trans T.fr fun b hb=>(S.key_own hb).symm,fun p hp=>⟨hk _ (T.own p hp).1,(T.own p hp).2⟩,fun p hp=>⟨(T.gown p hp).1,fun b hb=>hk b ((T.gown p hp).2 b hb)⟩,T.apart⟩
theorem St.key_new(T:St (· ∈keys L G) h h' L' G'): ∀b∈keys L' G',b∈keys L G\/h.n<=b:=fun _ hb=>(T.key_own hb).symm
theorem St.sub(S:St M h0 h L G)(hl:L'.Sublist L)(hg:G'.Sublist G):St M h0 h L' G':=
 ⟨S.fr,fun p hp=>S.own p (hl.subset hp),fun p hp=>S.gown p (hg.subset hp),S.apart.sublist ((hl.map _).append (hg.filterMap _))⟩
theorem St.drop1{x:Nat×Ob}(S:St M h0 h (x::L) G):St M h0 h L G:=S.sub (Xu _ _) (List.Sublist.refl _)
end
theorem eY{E:Env}{f:FuncId}{args:List Value}{rc:Option (Value×Bool)}{h:Hp}{P Q:Out->Option (Value×Bool)->Hp->Prop}(hc:dS E f args rc h P)(hk: ∀o rc' h',P o rc' h'->Q o rc' h'):dS E f args rc h Q:=by
 obtain⟨o,rc',h',a,b⟩:=hc;exact⟨o,rc',h',a,hk _ _ _ b⟩
theorem py{E:Env}{f:FuncId}{args:List Value}{h:Hp}{P Q:Value->Hp->Prop}(hc:Ret E f args h P)(hk: ∀v h',P v h'->Q v h'):Ret E f args h Q:=Ret.mono hk hc
theorem oq{E:Env}{cx:Cx}{Q:ey}{k:List Fr}{l:Loc}{lb:Nat}{J:Nat->Hp->List Nat->Prop}{n:Nat}{o:Out}{rc:Option (Value×Bool)}{h:Hp}(y:YQ J (fun _ _=>False) n o rc h)
 (hk: ∀F,J n h F-> ∃x,h.get lb=some (.loop x)/\x.st≠1/\RangeGo E cx Q k l (h.put lb .dead) x.pending):RangeQ E cx Q k l lb o rc h:=by
 obtain⟨_,⟨u,F,rfl,hj⟩|⟨u,_,hz⟩|⟨v,_,hz⟩⟩:=y
 . exact hk F hj
 . exact hz.elim
 . exact hz.elim
theorem St.dead{M:Nat->Prop}{h0 h:Hp}{L:List (Nat×Ob)}{G:List GL}{b:Nat}{o:Ob}(S:St M h0 h ((b,o)::L) G):St M h0 (h.put b .dead) L G:=by
 have hb:=S.own _ m0
 refine⟨S.fr.put hb.1 _,fun p hp=>⟨(S.own p (.tail _ hp)).1,(S.own p (.tail _ hp)).2.of_get (bT fun e=>?_)⟩,fun p hp=>⟨(S.gown p hp).1.of_get fun c hc=>bT fun e=>?_,(S.gown p hp).2⟩,(List.nodup_cons.1 S.apart).2⟩
 . exact(List.nodup_cons.1 S.apart).1 (by show b∈keys L G;rw [e];exact gb hp)
 . exact(List.nodup_cons.1 S.apart).1 (by show b∈keys L G;rw [e];exact eC hp hc)
theorem St.get{M:Nat->Prop}{h0 h:Hp}{L:List (Nat×Ob)}{G:List GL}{b:Nat}{x:fF}(S:St M h0 h L G)(hi:(b,Ob.loop x)∈L):h.get b=some (.loop x):=(S.own _ hi).2
theorem St.getD{M:Nat->Prop}{h0 h:Hp}{L:List (Nat×Ob)}{G:List GL}{b:Nat}(S:St M h0 h L G)(hi:(b,Ob.dfr)∈L):h.get b=some .dfr:=(S.own _ hi).2

theorem pY{E:Env}{cx:Cx}{Q:ey}{k:List Fr}{n:Nat}{rc:Option (Value×Bool)}{b:Code}{α:Type}(I:α->(Nat->Value)->List Deferred->Hp->Prop)(m:α->Nat)
 (hs: ∀a,(∀a' ρ' d' h',m a'<m a->I a' ρ' d' h'->Run E (lim E) cx Q (.code (.loop b)::k) .normal (LL n ρ' d' rc) h')-> ∀ρ d h,I a ρ d h->Run E (lim E) cx Q (.code b:: .code (.loop b)::k) .normal (LL n ρ d rc) h):
 ∀a ρ d h,I a ρ d h->Run E (lim E) cx Q (.code (.loop b)::k) .normal (LL n ρ d rc) h:=by
 have key: ∀j a,m a<j-> ∀ρ d h,I a ρ d h->Run E (lim E) cx Q (.code (.loop b)::k) .normal (LL n ρ d rc) h:=by
  intro j
  induction j with
  |zero=>intro a ha;omega
  | succ j ih=>
    intro a ha ρ d h hi
    rw [bC]
    exact hs a (fun a' ρ' d' h' hlt hi'=>ih a' (by omega) ρ' d' h' hi') ρ d h hi
 intro a ρ d h hi
 exact key (m a+1) a (by omega) ρ d h hi
def dT(dbs:List Nat):List (Nat×Ob):=dbs.map fun b=>(b,Ob.dfr)
theorem kw{E:Env}{M:Nat->Prop}{h0:Hp}{L:List (Nat×Ob)}{G:List GL}{m:Option Value}{P:Option Value->Hp->Prop}: ∀(dbs:List Nat) (h:Hp),St M h0 h (dT dbs++L) G->(∀h',St M h0 h' L G->P m h')->UnQ E (dbs.map pE) m h P
 | [],h,S,hp=>cS (hp h S)
 |b::dbs,h,S,hp=>un_dfr (S.getD m0) (kw dbs _ (S.dead) hp)

theorem qP{E:Env}{n:Nat}{ρ:Nat->Value}{h:Hp}{t:Tmp}{ty:TypeId}{v:Value}(ht:t<n)(hv:eo E h ty (ρ t)=some v):aT E (tab n ρ) h [.cell t ty]=some [v]:=by
 simp only [aT,ku,if_pos ht,hv]
theorem kI{E:Env}{h:Hp}{t:TypeId}{b o:Nat}{s:Option Nat}{v:Value}(ha:E.agg t=some false)(hl:h.load b o 1=some [v]):eo E h t (.pointer (some ⟨b,o,s⟩))=some v:=by
 rw [load_q,ha,loadq_f,hl];rfl
theorem cw{E:Env}{h:Hp}{t:TypeId}{b o n:Nat}{s:Option Nat}{l:List Value}(ha:E.agg t=some true)(hs:E.sz t=some n)(hl:h.load b o n=some l):eo E h t (.pointer (some ⟨b,o,s⟩))=some (.agg ⟨l⟩):=by
 rw [load_q,ha,hs,loadq_t,hl];rfl

theorem St.call1{M:Nat->Prop}{h0 h h':Hp}{L:List (Nat×Ob)}{G:List GL}(S:St M h0 h L G){i b:Nat}{o o':Ob}(hi:L[i]? =some (b,o))(f:Mo (· =b) h h')(ho:Has h' b o'):St M h0 h' (L.set i (b,o')) G:=by
 have hb:=S.own _ (zN hi)
 have hkey:(keys L G)[i]? =some b:=mW hi
 refine⟨S.fr.trans f (fun c hc=>by subst hc;exact hb.1.symm),fun p hp=>?_,fun p hp=>⟨(S.gown p hp).1.of_get fun c hc=>?_,(S.gown p hp).2⟩,?_⟩
 . rcases kC hp with rfl|⟨j,hj,hp⟩
   . exact⟨hb.1,ho⟩
   . have h1:=S.own p (zN hp)
     refine⟨h1.1,h1.2.of_get (f.get _ (h1.2.lt S.ok) fun e=>hj ?_)⟩
     have h2:(keys L G)[j]? =some b:=by rw [mW hp];rw [e]
     exact nN S.apart h2 hkey
 . refine f.get c ((S.gown p hp).1.lt S.ok hc) fun e=>?_
   subst e
   have h1:=S.apart
   unfold keys at h1
   rw [Xa]at h1
   exact h1.2.2 c (List.mem_map.2 ⟨_,zN hi,rfl⟩) c (List.mem_filterMap.2 ⟨p,hp,hc⟩) rfl
 . have:keys (L.set i (b,o')) G=keys L G:=by
    unfold keys
    congr 1
    rw [List.map_set]
    refine zS fun j=>?_
    rw [zY]
    split
    . rename_i e;subst e
      have:=(List.getElem?_eq_some_iff.1 hi).1
      rw [if_pos (by simpa using this),Xi,hi];rfl
    . rfl
   rw [this];exact S.apart
theorem St.init1{h:Hp}(ok:h.t.Sized h.n){b:Nat}{o:Ob}(ho:Has h b o):St (· =b) h h [(b,o)] []:=(St.init ok).push (.inr rfl) ho (by simp [keys])
theorem wrap8(z:Int):0<=aq .u8 z/\aq .u8 z<256:=by
 unfold aq
 cases z with
 | ofNat m=>
   simp only [hf,sgn,pw]
   cases hb:Nat.blt m 256 with
   | true=>
     rw [Nat.blt_eq]at hb
     simp only [cond_true]
     exact⟨Xr m,Int.ofNat_lt.2 hb⟩
   | false=>
     simp only [cond_false]
     exact⟨Xr _,Int.ofNat_lt.2 (Nat.mod_lt _ (by omega))⟩
 | negSucc m=>
   simp only [hf,sgn,pw,cond_false]
   exact⟨Xr _,Int.ofNat_lt.2 (show 256-1-m%256<256 by omega)⟩
theorem bH{tr:List (Nat×Tch)}{i j:Nat}{l:List (Nat×Nat)}:d9 tr ((i,j)::l)=(iT (bQ i tr) (bQ j tr)&&d9 tr l):=rfl
theorem aB{a:Nat}{h h':Hp}(e:leaves h h' a=true):iT (some (.blk a)) (some (.run h h'))=true:=e
theorem aG{a:Nat}{h h':Hp}(e:leaves h h' a=true):iT (some (.run h h')) (some (.blk a))=true:=e
theorem m8{a b:Nat}(e:a≠b):iT (some (.blk a)) (some (.blk b))=true:=by
 simp only [iT]
 cases hb:Xg a b with
 |false=>rfl
 |true=>exact absurd (Xw hb) e
theorem bV{i:Nat}{b:Tch}{l:List (Nat×Tch)}:bQ i ((i,b)::l)=some b:=by simp [bQ,zQ]
theorem bD{i k:Nat}{b:Tch}{l:List (Nat×Tch)}(h:i≠k):bQ i ((k,b)::l)=bQ i l:=by
 have h:Xg i k=false:=by rw [cv];simpa using h
 simp [bQ,h]
theorem St.leaves{M:Nat->Prop}{h0 h h':Hp}{L:List (Nat×Ob)}{G:List GL}(S:St M h0 h L G){b c:Nat}{o:Ob}(hm:(c,o)∈L)(f:Mo (· =b) h h')(hn:c≠b):leaves h h' c=true:=
 re (f.get c ((S.own _ hm).2.lt S.ok) hn)

theorem bg{i k:Nat}{x:Option Tch}{tr:List (Nat×Tch)}(h:i≠k):bQ i (gU k tr x)=bQ i tr:=by
 cases x with
 |none=>rfl
 |some b=>exact bD h
theorem bU{ρ:Operand->Value}{b:Bool}{t:TypeId}{a:Operand}{h h':Hp}:cb ρ b (.load t a) h h'=(match ρ a with| .pointer (some a)=>some (.blk a.block)|_=>none):=by
 simp only [cb,dr,iP,d6,touch,cond_false]
 cases ρ a<;>first|rfl|(rename_i x;cases x<;>rfl)
theorem cu{ρ:Operand->Value}{f:Operand}{as:Array Operand}{ts:Array TypeId}{h h':Hp}:cb ρ false (.call ⟨.value f,as,ts⟩) h h'=some (.run h h'):=rfl
theorem bJ{ρ:Operand->Value}{b:Bool}{t:TypeId}{h h':Hp}:cb ρ b (.alloc t) h h'=some (.blk h.n):=rfl

theorem St.gset {M:Nat->Prop} {h0 h:Hp} {L:List (Nat×Ob)} {G:List GL} (S:St M h0 h L G) {E:Env} {t:TypeId} {j i:Nat} {v:Value} {vs:List Value} {kd:IntKind} (hj:G[j]? =some (v,1,vs)) (hi:i<vs.length) (hs:E.sz t=some 1):
 ∃b,idxS (some 1) v (.int kd i)=some (.pointer (some ⟨b,i,none⟩))/\ ∀x,Fl x-> ∃h',ie E h t (.pointer (some ⟨b,i,none⟩)) x=some h'/\St M h0 h' L (G.set j (v,1,vs.set i x)):=by
 obtain⟨hg,hown⟩:=S.gown _ (zN hj)
 rcases hg with⟨_,k2⟩|⟨b,n,k1,k2,k3⟩
 . simp only []at k2;subst k2;simp at hi
 . simp only [] at k1 k2 k3
   subst k1
   have hn:n=vs.length:=by omega
   refine⟨b,?_,fun x hx=>?_⟩
   . rw [pH,eX (by omega)]
     simp [putI]
   . obtain ⟨y, h1,h2⟩:=k3.store S.ok Nat.one_ne_zero (o:=i) (vs:=[x]) (by simp;omega) (by simp [hx.2.1])
     have e:lay vs i [x]=vs.set i x:=by
      refine zS fun j=>?_
      rw [iW (by simp;omega),zY]
      simp only [Xe,zX]
      by_cases hij:i=j
      . subst hij;rw [if_pos ⟨zV _,by omega⟩,if_pos rfl,if_pos hi];simp
      . rw [if_neg (by omega),if_neg hij]
     rw [e]at h2
     refine⟨h.put b y,?_,?_⟩
     . have:ie E h t (.pointer (some ⟨b,i,none⟩)) x=h.store b i [x]:=by
        simp only [ie,hs]
        have hv:an x=[x]:=hx.1
        have h5:(bif Xg (an x).length 1 then h.store b i (an x)else none)=h.store b i [x]:=by rw [hv];rfl
        revert h5
        cases x<;>first|exact fun h=>h|exact absurd rfl (hx.2.2 _)
       rw [this];exact h1
     . have hkey:dN (Value.slice (some ⟨b,0,some 1⟩) n n,1,vs)=some b:=rfl
       have hb:=hown b hkey
       have hlt:=(List.getElem?_eq_some_iff.1 hj).1
       have hL: ∀c∈L.map XB,c≠b:=fun c hc e=>by
        have h1:=S.apart
        unfold keys at h1
        rw [Xa]at h1
        exact h1.2.2 c hc b (List.mem_filterMap.2 ⟨_,zN hj,hkey⟩) e
       have hkeys:keys L (G.set j (Value.slice (some ⟨b,0,some 1⟩) n n,1,vs.set i x))=keys L G:=by
        unfold keys
        congr 1
        have: ∀(G:List GL) (j:Nat) (p q:GL),G[j]? =some p->dN q=dN p->(G.set j q).filterMap dN=G.filterMap dN:=by
         intro G
         induction G with
         |nil=>intro j p q hj;simp at hj
         | cons g G ih=>
           intro j p q hj hq
           cases j with
           |zero=>simp at hj;subst hj;simp [zT,hq]
           |succ j=>simp at hj;simp only [List.set_cons_succ,zT,ih j p q hj hq]
        exact this G j _ _ hj rfl
       refine⟨S.fr.put hb y,fun p hp=>⟨(S.own p hp).1,(S.own p hp).2.of_get (bT fun e=>hL _ (Xq hp) e.symm)⟩,fun p hp=>?_,by rw [hkeys];exact S.apart⟩
       rcases kC hp with rfl|⟨j',hj',hp⟩
       . exact⟨.inr ⟨b,n,rfl,by simpa using k2,h2⟩,fun c hc=>by cases hc;exact hb⟩
       . refine ⟨(S.gown p (zN hp)).1.of_get fun c hc=>bT fun e=>hj' ?_,(S.gown p (zN hp)).2⟩
         subst e
         have h2:=S.apart
         unfold keys at h2
         have h3:=(List.nodup_append.1 h2).2.1
         have key: ∀(G:List GL) (a c:Nat) (p q:GL),(G.filterMap dN).Nodup->G[a]? =some p->G[c]? =some q-> ∀x,dN p=some x->dN q=some x->a=c:=by
          intro G
          induction G with
          |nil=>intro a c p q _ ha;simp at ha
          | cons g G ih=>
            intro a c p q hn ha hc x hp hq
            have hn':(G.filterMap dN).Nodup:=by
             rw [zT]at hn
             split at hn
             . exact hn
             . exact(List.nodup_cons.1 hn).2
            cases a with
            | zero=>
              cases c with
              |zero=>rfl
              | succ c=>
                simp at ha hc
                subst ha
                rw [zR hp]at hn
                exact absurd (List.mem_filterMap.2 ⟨q,zN hc,hq⟩) (List.nodup_cons.1 hn).1
            | succ a=>
              cases c with
              | zero=>
                simp at ha hc
                subst hc
                rw [zR hq]at hn
                exact absurd (List.mem_filterMap.2 ⟨p,zN ha,hp⟩) (List.nodup_cons.1 hn).1
              | succ c=>
                simp at ha hc
                rw [ih a c p q hn' ha hc x hp hq]
         exact key G j' j p _ h3 hp hj b hc hkey

def JP(n:Nat)(d:List Deferred)(rc:Option (Value×Bool))(J:(Nat->Value)->Hp->Prop):ey:=fun e l h=>e=.normal/\ ∃ρ,l=LL n ρ d rc/\J ρ h
theorem vc{E:Env}{cx:Cx}{Q:ey}{k:List Fr}{n:Nat}{d:List Deferred}{rc:Option (Value×Bool)}{J:(Nat->Value)->Hp->Prop}{c:Code}{l:Loc}{h:Hp}
 (hc:Run E (lim E) cx (JP n d rc J) [.code c] .normal l h) (hJ: ∀ρ h,J ρ h->Run E (lim E) cx Q k .normal (LL n ρ d rc) h):Run E (lim E) cx Q (.code c::k) .normal l h:=by
 obtain⟨e',l',h',h1,h2⟩:=hc
 obtain⟨rfl,ρ,rfl,h3⟩:=h2
 exact⟨_,_,_,h1,hJ ρ h' h3⟩
theorem sI{E:Env}{cx:Cx}{Q:ey}{k:List Fr}{n:Nat}{d:List Deferred}{rc:Option (Value×Bool)}(J:(Nat->Value)->Hp->Prop){a b:Code}{ρ0:Nat->Value}{h:Hp}{t:Bool}
 (h1:t=true->Run E (lim E) cx (JP n d rc J) [.code a] .normal (LL n ρ0 d rc) h) (h2:t=false->Run E (lim E) cx (JP n d rc J) [.code b] .normal (LL n ρ0 d rc) h)
 (hJ: ∀ρ h,J ρ h->Run E (lim E) cx Q k .normal (LL n ρ d rc) h):CStep E cx Q a b k (LL n ρ0 d rc) h (.bool t):=by
 cases t with
 |true=>exact vc (h1 rfl) hJ
 |false=>exact vc (h2 rfl) hJ
theorem iF{n:Nat}{d:List Deferred}{rc:Option (Value×Bool)}{J:(Nat->Value)->Hp->Prop}{ρ:Nat->Value}{h:Hp}(hj:J ρ h):JP n d rc J .normal (LL n ρ d rc) h:=⟨rfl,ρ,rfl,hj⟩

theorem qE{E:Env}{R:Rec}{cx:Cx}{Q:ey}{k2:List Fr}: ∀(k1:List Fr) (e:Ex) (l:Loc) (h:Hp),Run E R cx (fun e l h=>Run E R cx Q k2 e l h) k1 e l h->Run E R cx Q (k1++k2) e l h
 | [],e,l,h,hr=>hr
 | f ::k1,e,l,h,hr=>by
   have ih:=qE (E:=E) (R:=R) (cx:=cx) (Q:=Q) (k2:=k2) k1
   cases f with
   | code c=>
     cases e with
     |normal=>obtain⟨e',l',h',a,b⟩:=hr;exact⟨e',l',h',a,ih _ _ _ b⟩
     |exit i=>exact ih _ _ _ hr
     |ret=>exact ih _ _ _ hr
     |pan v=>exact ih _ _ _ hr
   | blk id=>
     cases e with
     |normal=>exact ih _ _ _ hr
     | exit i=>
       simp only [Run,List.cons_append]at hr⊢
       by_cases hi:i=id
       . rw [if_pos hi]at hr⊢;exact ih _ _ _ hr
       . rw [if_neg hi]at hr⊢;exact ih _ _ _ hr
     |ret=>exact ih _ _ _ hr
     |pan v=>exact ih _ _ _ hr
   | ops a os=>
     cases e with
     |normal=>obtain⟨e',l',h',a,b⟩:=hr;exact⟨e',l',h',a,ih _ _ _ b⟩
     |exit i=>exact ih _ _ _ hr
     |ret=>exact ih _ _ _ hr
     |pan v=>exact ih _ _ _ hr
   | opsD a q ps os i tr=>
     cases e with
     |normal=>obtain⟨l',h',tr',a,b,c⟩:=hr;exact⟨l',h',tr',a,b,ih _ _ _ c⟩
     |exit i=>exact ih _ _ _ hr
     |ret=>exact ih _ _ _ hr
     |pan v=>exact ih _ _ _ hr
theorem run_post{E:Env}{R:Rec}{cx:Cx}{Q Q':ey}(hq: ∀e l h,Q e l h->Q' e l h): ∀(k:List Fr) (e:Ex) (l:Loc) (h:Hp),Run E R cx Q k e l h->Run E R cx Q' k e l h
 | k, e, l,h,hr=>by
   have:=qE (E:=E) (R:=R) (cx:=cx) (Q:=Q') (k2:=[]) k e l h
   rw [Xo]at this
   refine this ?_
   revert hr
   induction k generalizing e l h with
   |nil=>intro hr;exact hq _ _ _ hr
   | cons f k ih=>
     intro hr
     have ih:=fun e l h hr=>ih e l h (by have:=qE (E:=E) (R:=R) (cx:=cx) (Q:=Q') (k2:=[]) k e l h;rwa [Xo]at this) hr
     cases f with
     | code c=>
       cases e with
       |normal=>obtain⟨e',l',h',a,b⟩:=hr;exact⟨e',l',h',a,ih _ _ _ b⟩
       |exit i=>exact ih _ _ _ hr
       |ret=>exact ih _ _ _ hr
       |pan v=>exact ih _ _ _ hr
     | blk id=>
       cases e with
       |normal=>exact ih _ _ _ hr
       | exit i=>
         simp only [Run]at hr⊢
         by_cases hi:i=id
         . rw [if_pos hi]at hr⊢;exact ih _ _ _ hr
         . rw [if_neg hi]at hr⊢;exact ih _ _ _ hr
       |ret=>exact ih _ _ _ hr
       |pan v=>exact ih _ _ _ hr
     | ops a os=>
       cases e with
       |normal=>obtain⟨e',l',h',a,b⟩:=hr;exact⟨e',l',h',a,ih _ _ _ b⟩
       |exit i=>exact ih _ _ _ hr
       |ret=>exact ih _ _ _ hr
       |pan v=>exact ih _ _ _ hr
     | opsD a q ps os i tr=>
       cases e with
       |normal=>obtain⟨l',h',tr',a,b,c⟩:=hr;exact⟨l',h',tr',a,b,ih _ _ _ c⟩
       |exit i=>exact ih _ _ _ hr
       |ret=>exact ih _ _ _ hr
       |pan v=>exact ih _ _ _ hr
theorem rG{E:Env}{cx:Cx}{Q:ey}{k:List Fr}{n:Nat}{d:List Deferred}{rc:Option (Value×Bool)}{b:Code}{id:Nat}{α:Type}(J:(Nat->Value)->Hp->Prop)(I:α->(Nat->Value)->Hp->Prop)(m:α->Nat)
 (hs: ∀a,(∀a' ρ' h',m a'<m a->I a' ρ' h'->Run E (lim E) cx (JP n d rc J) [.code (.loop b),.blk id] .normal (LL n ρ' d rc) h')-> ∀ρ h,I a ρ h->Run E (lim E) cx (JP n d rc J) [.code b,.code (.loop b),.blk id] .normal (LL n ρ d rc) h)
 (hJ: ∀ρ h,J ρ h->Run E (lim E) cx Q k .normal (LL n ρ d rc) h) (a:α) {ρ:Nat->Value} {h:Hp} (hi:I a ρ h):Run E (lim E) cx Q (.code (.loop b):: .blk id::k) .normal (LL n ρ d rc) h:=by
 have h1:=bA I m hs a ρ h hi
 refine qE [.code (.loop b),.blk id] _ _ _ (run_post (fun e l h hj=>?_) _ _ _ _ h1)
 obtain⟨rfl,ρ,rfl,hj⟩:=hj
 exact hJ ρ h hj

theorem nU{ops:List Oper}{ord:List Nat}{os:List Oper}(h1:(ops.any qc&&ops.all (oN ops.length))=true)(h2:ordL ops=ord)(h3:gk ops ord ord=os):eh ops=os:=by unfold eh;rw [h1,h2,h3];rfl
theorem St.gblk{M:Nat->Prop}{h0 h:Hp}{L:List (Nat×Ob)}{G:List GL}(S:St M h0 h L G){p:GL}(hp:p∈G){c:Nat}(hb:av p.1 c):(h0.n<=c\/M c)/\c∉L.map XB:=by
 have hk:dN p=some c:=by
  rcases(S.gown p hp).1 with⟨e,_⟩|⟨b,n,e,_⟩
  . rw [e]at hb;exact hb.elim
  . obtain⟨v,k,vs⟩:=p
    simp only []at e hb
    subst e
    exact congrArg some hb
 refine⟨(S.gown p hp).2 c hk,fun hc=>?_⟩
 have h1:=S.apart
 unfold keys at h1
 rw [Xa]at h1
 exact h1.2.2 c hc c (List.mem_filterMap.2 ⟨p,hp,hk⟩) rfl
end Go.Ab

namespace Go.Ab
structure Arc where
 s:Nat
 t:Nat
 w:Nat
deriving Inhabited
def cy(a:Arc):List Value:=[.int .i64 a.s,.int .i64 a.t,.int .i64 a.w]
theorem gP(a:Arc):(cy a).length=3:=rfl
structure Gra where
 nodes:Nat
 X:List Int
 Y:List Int
 arcs:List Arc
structure Good(g:Gra):Prop where
 n1:1<=g.nodes
 n2:g.nodes<=12
 lX:g.X.length=g.nodes
 lY:g.Y.length=g.nodes
 cX: ∀x∈g.X,-2147483648<=x/\x<=2147483647
 cY: ∀x∈g.Y,-2147483648<=x/\x<=2147483647
 many:g.arcs.length<=100
 arcs: ∀a∈g.arcs,a.s<g.nodes/\a.t<g.nodes/\a.w<=2147483647
structure cU(h:Hp)(vx vy va:Value)(g:Gra):Prop where
 X:aA h 1 (encI .i64) vx g.X
 Y:aA h 1 (encI .i64) vy g.Y
 A:aA h 3 cy va g.arcs
theorem cU.gr{h h':Hp}{vx vy va:Value}{g:Gra}(a:cU h vx vy va g)(r:Gr h h'):cU h' vx vy va g:=⟨a.X.gr r,a.Y.gr r,a.A.gr r⟩
def fW(g:Gra)(vx vy va:Value):Value:=.agg ⟨[.int .i64 g.nodes,vx,vy,va]⟩
structure Pl where
 i:Int
 f:Int
 c:Int
 n:Int
 lo:Int
 hi:Int
def jg(p:Pl):List Value:=[.int .i64 p.i,.int .i64 p.f,.int .i64 p.c,.int .i64 p.n,.int .i64 p.lo,.int .i64 p.hi]
theorem encP_len(p:Pl):(jg p).length=6:=rfl
end Go.Ab

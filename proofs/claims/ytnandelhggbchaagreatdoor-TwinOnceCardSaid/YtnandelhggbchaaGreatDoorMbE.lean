/- A deterministic evaluator of the model's code, and that the model follows it (part 5). -/
import Derived.Test.YtnandelhggbchaaGreatDoorMbD
import Derived.Orders
import Derived.ChangeSame
import Derived.RowKit3
import Derived.JoinedOf
import Derived.KernelRfl
open Array renaming getElem?_toList->zM,getD_eq_getD_getElem?->zN,getElem?_eq_getElem->Xa,replicate->Xe,getElem?_push->Xv,getElem?_replicate->Xy,getElem?_setIfInBounds->XG
open Nat renaming eq_of_beq_eq_true->Xb,le_refl->Xd,zero_add->Xg,beq_refl->Xk,ble_eq_true_of_le->Xl,beq->Xt,min_eq_left->XN,ble->XO,zero_le->XS
open List renaming getElem?_append_right->Xc,length_take->Xh,mem_cons_of_mem->Xn,drop_eq_getElem_cons->Xo,mem_of_getElem?->Xp,mem_cons_self->Xq,getElem?_map->Xr,getElem?_append_left->Xw,getElem?_eq_getElem->Xx,mem_range->Xz,append_assoc->XA,length_cons->XB,cons_append->XC,getElem?_toArray->XD,getElem?_eq_none->XE,mem_filter->XF,getElem?_take->XH,map_cons->XI,getElem?_cons_succ->XK,append_nil->XL,nil_append->XM,mem_of_mem_drop->XQ,map_map->XR
open Bool renaming and_eq_true->Xf,not_eq_true'->Xm
open Option renaming map_some->Xi,getD_some->Xj,bind_some->Xs,map->XJ
open Iff renaming rfl->Xu
open Prod renaming fst->XP
set_option maxHeartbeats 400000
set_option linter.defProp false
set_option linter.unusedVariables false
set_option linter.unusedSimpArgs false
namespace Go.Ab

def iw(S:Nat->Bool):Nat->Nat
 |0=>0
 |n+1=>iw S n+(if S n=true then 0 else 1)
theorem nZ{S:Nat->Bool}: ∀{n:Nat},iw S n=0-> ∀i,i<n->S i=true
 |0,_,i,b=>by omega
 | n +1,h,i,b=>by
   simp only [iw]at h
   by_cases a:S n=true
   . rw [if_pos a]at h
     by_cases e:i=n
     . subst e;exact a
     . exact nZ (n:=n) (by omega) i (by omega)
   . rw [if_neg a]at h;omega
theorem oR{S:Nat->Bool}: ∀{n:Nat},iw S n≠0-> ∃i,i<n/\S i=false/\ ∀j,j<i->S j=true
 |0,h=>absurd rfl h
 | n +1,h=>by
   by_cases b:iw S n=0
   . have a:=nZ b
     simp only [iw,b]at h
     by_cases c:S n=true
     . rw [if_pos c]at h;omega
     . exact⟨n,by omega,by simpa using c,a⟩
   . obtain⟨i,f,d,e⟩:=oR b
     exact⟨i,by omega,d,e⟩
theorem xG{S:Nat->Bool}{p:Nat}: ∀{n:Nat},n<=p->iw (jn S p) n=iw S n
 |0,_=>rfl
 | n+1,h=>by
   simp only [iw]
   rw [xG (by omega),bj S (by omega)]
theorem qX{S:Nat->Bool}{p:Nat}(a:S p=false): ∀{n:Nat},p<n->iw (jn S p) n+1=iw S n
 |0,h=>by omega
 | n +1,h=>by
   simp only [iw]
   by_cases e:p=n
   . subst e
     rw [xG (Xd _),eB,a];simp
   . have:=qX a (n:=n) (by omega)
     rw [bj S (by omega)];omega
theorem nQ: ∀(n:Nat),iw (fun _=>false) n=n
 |0=>rfl
 |n+1=>by simp [iw,nQ n]

def a9(listed:Array Bool):Nat->Bool:=fun i=>listed.getD i false
theorem sU{listed:Array Bool}{p:Nat}(a:p<listed.size):a9 (listed.setIfInBounds p true)=jn (a9 listed) p:=by
 funext i
 simp only [a9,jn,zN,XG]
 by_cases e:p=i
 . subst e;simp [a]
 . rw [if_neg e,if_neg (Ne.symm e)]

theorem sq(l:Loc)(d:Option Tmp)(v:Value):(l.put d v).dfs=l.dfs/\(l.put d v).rc=l.rc:=by cases d<;>exact⟨rfl,rfl⟩

def mJ(ops:Array Oper):(Nat->Bool)->List Nat->Prop
 |S,[]=> ∀i,i<ops.size->S i=true
 |S,p::a=>p<ops.size/\S p=false/\(∀o,ops[p]? =some o->Ready o S)/\mJ ops (jn S p) a
theorem sV{ops a:Array Oper}{σ τ:Nat->Nat}(c:Ord ops a σ τ){M:List Nat}(k: ∀i,pj ops.toList M i): ∀(b t:Nat) (listed:Array Bool),listed.size=ops.size->iw (fun p=>a9 listed (σ p)) ops.size=b->
 mJ ops (fun p=>a9 listed (σ p)) ((Region.linearise.go .any a b t listed []).map τ)
 |0,t,listed,r,N=>nZ N
 | b + 1,t,listed,r,N=>by
   have s: ∀i,i<ops.size->τ i<ops.size:=fun i l=>(c.lt (τ i)).2 (by rw [c.st];exact l)
   have u: ∀i,i∈Region.ready .any a listed->i<ops.size/\a9 listed i=false/\ ∀o,ops[τ i]? =some o->Ready o (fun p=>a9 listed (σ p)):=by
    intro i l
    unfold Region.ready at l
    simp only [XF,Xz,Xf,Xm]at l
    obtain⟨f,g,j⟩:=l
    rw [<-c.size]at f
    refine⟨f,?_,fun o v e D q=>?_⟩
    . simp only [a9]
      rw [zN,Xa (by omega)]at g⊢
      simpa using g
    . obtain⟨Q,E,_,_,_,R,_⟩:=c.op (τ i) o v
      rw [c.st]at E
      rw [E]at j
      simp only [Xi,Xj]at j
      obtain⟨d,F,G,H,I⟩:=R e D
      have:=(Array.all_eq_true'.1 j) d (by simpa using F)
      rw [lj G]at q
      unfold binds at q
      rw [q]at this
      obtain⟨m,_,w,_⟩:=k (τ i) o (by rw [zM];exact v)
      have y:=w e D (by rw [lj G];unfold binds;exact q)
      have:=s i f
      have hlt:d.on<ops.size:=by
       rcases Nat.lt_or_ge d.on ops.size with x|x
       . exact x
       . have:=I x;omega
      show a9 listed (σ e.on)=true
      rw [H hlt,c.st]
      simp only [a9]
      simpa using(Array.all_eq_true'.1 j) d (by simpa using F)|>fun h=>by rw [q]at h;simpa using h
   have J:Region.ready .any a listed≠ []:=by
    obtain⟨p,f,g,j⟩:=oR (S:=fun p=>a9 listed (σ p)) (n:=ops.size) (by omega)
    intro e
    have v:ops[p]? =some ops[p]:=Xa f
    obtain⟨m,_,q,_⟩:=k p ops[p] (by rw [zM];exact v)
    obtain⟨Q,E,_,_,_,_,T⟩:=c.op p _ v
    have z:=(c.lt p).1 f
    have :σ p∈Region.ready .any a listed:=by
     unfold Region.ready
     simp only [XF,Xz,Xf,Xm]
     refine⟨by rw [<-c.size];exact z,?_,?_⟩
     . simp only [a9]at g
       rw [zN,Xa (by omega)]at g⊢
       simpa using g
     . rw [E]
       simp only [Xi,Xj]
       refine Array.all_eq_true'.2 fun d D=>?_
       cases K:Region.binds .any d with
       |false=>rfl
       | true=>
         obtain⟨O,F,G,H,I⟩:=T d (by simpa using D)
         have y:=q O F (by rw [lj G];unfold binds;exact K)
         have hlt:d.on<ops.size:=by
          rcases Nat.lt_or_ge d.on ops.size with x|x
          . exact x
          . have:=I x;omega
         have:=j O.on y
         rw [H hlt,c.st]at this
         simpa [a9]using this
    rw [e]at this;cases this
   simp only [Region.linearise.go]
   change mJ ops (fun p=>a9 listed (σ p)) (List.map τ (match(Region.ready .any a listed)[t%(Region.ready .any a listed).length]? with
    |some i=>Region.linearise.go .any a b (t/(Region.ready .any a listed).length) (listed.setIfInBounds i true) [i]
    |none=>[].reverse))
   have A:0<(Region.ready .any a listed).length:=List.length_pos_iff.2 J
   have hlt:=Nat.mod_lt t A
   rw [Xx hlt]
   simp only []
   generalize l:(Region.ready .any a listed)[t%(Region.ready .any a listed).length]=i
   have L:i∈Region.ready .any a listed:=by rw [<-l];exact List.getElem_mem hlt
   obtain⟨f,g,j⟩:=u i L
   have B:=s i f
   have C:(fun p=>a9 listed (σ p)) (τ i)=false:=by show a9 listed (σ (τ i))=false;rw [c.st];exact g
   rw [linearise_go_acc,List.reverse_singleton,List.singleton_append,XI]
   have P:(fun p=>a9 (listed.setIfInBounds i true) (σ p))=jn (fun p=>a9 listed (σ p)) (τ i):=by
    funext p
    rw [sU (listed:=listed) (p:=i) (by omega)]
    by_cases e:p=τ i
    . subst e
      rw [c.st,eB,eB]
    . rw [bj _ e,bj _ (by intro U;exact e (by rw [<-U,c.ts]))]
   refine⟨B,C,j,?_⟩
   rw [<-P]
   exact sV c k b _ _ (by simpa using r) (by rw [P];have:=qX (S:=fun p=>a9 listed (σ p)) (p:=τ i) C B;omega)

section
variable{E:Env}{P:Program}(ok:EOk E P){R:Rec}(hc:fW E P R.call)(hcode:iO P R.code)
variable{ops:Array Oper}{q:Nat}{ps:List (Nat×Nat)}{M:List Nat}{L:Nat->Loc}{H:Nat->Hp}{T:Nat->Option Nat}{X:Nat->Bool}(D:DT E R ops q ps M L H T X)
variable{nr:Nat}{mu0:Mu}{w0:World}

include D in
theorem down_add{S:Nat->Bool}(j:Down ops S){p:Nat}{o:Oper}(g:ops[p]? =some o)(k:Ready o S):Down ops (jn S p):=by
 intro i l a h e d f
 by_cases b:i=p
 . subst b
   rw [g]at a;cases a
   obtain⟨m,_,n,_⟩:=D.bef i o (by rw [zM];exact g)
   have:=n e d f
   rw [bj S (by omega)]
   exact k e d f
 . rw [bj S b]at h
   have:=j i l a h e d f
   by_cases c:e.on=p
   . rw [c];exact eB S p
   . rw [bj S c];exact this

include ok hc hcode D in
theorem go_list(cL: ∀j o,j<ops.size->ops[j]? =some o->Turn ops E X q H T j o)(l: ∀i,i<=ops.size->oD nr mu0 w0 L H i)(m: ∀b,mu0 b≠ .none->b<(H 0).n)(e: ∀b c base top,mu0 b=.blk c base top->c<w0.heap.size)
 {d:Array Oper} {σ:Nat->Nat} (z:iL ops d σ) {tl:List Nat} {F:FC} {dfs:List Deferred} {k:List Item} {cs:List Frame}: ∀(n:List Nat) (S:Nat->Bool) (mu:Mu) (w:World) (tmps:Array Value),mJ ops S n->Down ops S->
  Inv E ops q L H X nr mu0 w0 S mu w tmps->
  ∃ s f w' a,Inv E ops q L H X nr mu0 w0 s f w' a/\(∀i,i<ops.size->s i=true)/\
    Steps P (lone (F.mk' tmps dfs (.inRegion d (n.map σ++tl)::k)) cs w) (lone (F.mk' a dfs (.inRegion d tl::k)) cs w')
 | [],S,mu,w,tmps,t,u,g=>⟨S,mu,w,tmps,g,t,Steps.refl _ _⟩
 | p::n,S,mu,w,tmps,t,u,g=>by
   obtain⟨B,C,h3,h4⟩:=t
   have v:ops[p]? =some ops[p]:=Xa B
   have A:=h3 _ v
   obtain⟨x,G,h,r,y⟩:=inv_step ok hc hcode D cL l m e z g u v A C (F:=F) (dfs:=dfs) (k:=k) (cs:=cs) (rest:=n.map σ++tl)
   obtain⟨s,f,w',a,I,J,K⟩:=go_list cL l m e z n _ x G h h4 (down_add D u v A) r
   exact⟨s,f,w',a,I,J,Steps.trans y K⟩

include ok hc hcode in
theorem rq(cx:Cx)(ops G:Array Oper){σ:Nat->Nat}(sm:iL ops G σ)(ls:List Nat)(hg:mJ ops (fun _=>false) ls)(tl:List Nat)(l:Loc)(h:Hp)(l':Loc)(h':Hp)(q:Nat)(ps:List (Nat×Nat))(tr:List (Nat×Tch))
 (hp:iS E ops.toList=some (q,ps)) (he:a8 E R ops.toList q ops.toList 0 l h []=some (l',h',tr)) (Y:cg tr ps=true)
 (mu:Mu) (w:World) (F:FC) (I:List Frame) (tmps:Array Value) (dfs:List Deferred) (J:Option (Value×Bool)) (k:List Item) (s:SR P cx l h mu w F I tmps dfs J):
 ∃ z w' d,SR P cx l' h' z w' F I d dfs J/\Ext mu h w z h' w'/\
   Steps P (lone (F.mk' tmps dfs (.inRegion G (ls.map σ++tl)::k)) (aH J I) {w with drawn:=w.drawn+1})
    (lone (F.mk' d dfs (.inRegion G tl::k)) (aH J I) w'):=by
 obtain⟨M,a4,ay⟩:=plan_ok hp
 obtain⟨_,L,H,T,X,Z,f,S,U,ad,af,aL⟩:=yq _ _ _ _ _ _ _ _ he
 rw [Xg,Array.length_toList]at S U
 have D:DT E R ops q ps M L H T X:=by
  refine⟨a4,fun n o r h4=>?_,fun n o m i p r hm V a5 K=>?_,fun i o r=>?_,fun {i j a b o p} A r hp ro rp ha K=>?_,fun {i j a o p} A r hp ro rp hx hh ha=>?_⟩
  . exact(ay n o (by rw [zM];exact r)).1 h4
  . exact(ay n o (by rw [zM];exact r)).2 m hm i p V (by rw [zM];exact a5) K
  . have:=ad i o (by rw [zM];exact r)
    rwa [Xg]at this
  . have e1:=af i o a (by rw [zM];exact r) ro (by rw [Xg];exact ha)
    have e2:=af j p b (by rw [zM];exact hp) rp (by rw [Xg];exact K)
    rw [Xg]at e1 e2
    have:=qa Y A
    rw [e1,e2]at this
    intro e
    subst e
    simp [i7,Xk]at this
  . have e1:=af i o a (by rw [zM];exact r) ro (by rw [Xg];exact ha)
    have e2:=aL j p (by rw [zM];exact hp) rp (by rw [Xg];exact hx) (by rw [Xg];exact hh)
    rw [Xg]at e1 e2
    rcases A with A|A
    . have:=qa Y A
      rw [e1,e2]at this
      exact vW this
    . have:=qa Y A
      rw [e1,e2]at this
      exact vW this
 let w0:World:={w with drawn:=w.drawn+1}
 have B:aJ mu h w0:=qY s.hr rfl
 have e0:Ext mu h w mu h w0:=s7 s.hr rfl rfl rfl rfl
 have a0:oD cx.nr mu w0 L H 0:=⟨mu,w0,tmps,by rw [f];exact B,s.glob,by rw [Z];exact s.regs,by rw [f];exact Ext.refl mu h w0 B⟩
 have ai: ∀i,i<=ops.size->oD cx.nr mu w0 L H i:=fun i V=>(shadow ok hc hcode D i V a0).1
 have cL: ∀j o,j<ops.size->ops[j]? =some o->Turn ops E X q H T j o:=fun j o hj r=>(shadow ok hc hcode D ops.size (Xd _) a0).2 j o hj r
 have a1: ∀b,mu b≠ .none->b<(H 0).n:=by rw [f];exact s.hr.lt
 have a2: ∀b c u N,mu b=.blk c u N->c<w0.heap.size:=fun b c u N hm=>B.clt hm
 have ak: ∀j,j<=ops.size->(H j).t.Sized (H j).n:=fun j hj=>by obtain⟨_,_,_,g,_⟩:=ai j hj;exact g.sized
 have a3:Inv E ops q L H X cx.nr mu w0 (fun _=>false) mu w0 tmps:=by
  obtain⟨c',d1,d2,d3,d4⟩:=next_W (E:=E) (ops:=ops) (q:=q) (X:=X) ops.size 0 (by omega)
  refine⟨⟨c',⟨d2,?_,fun i o V r hw=>absurd hw (d4 i o (XS _) V r)⟩,?_⟩,s.glob,fun p bf _ b h1 h2=>?_,s.regs.size,fun i V t v al hv=>?_,by rw [f];exact WExt.refl B,fun p _ C=>by cases C⟩
  . rcases d3 with e|⟨o',a6,a7⟩
    . exact .inl e
    . exact .inr ⟨o',a6,a7,rfl⟩
  . refine tO (h:=H 0) (by rw [f];exact B) (ak c' d2) (dU cL d1 d2) (fun b K=>stand cL d1 d2 (fun j oj h1 h2 O=>?_) K)
    rcases kinds D O with x|x|x
    . exact .inl x
    . exact .inr (.inl x)
    . exact absurd x (d4 j oj h1 h2 O)
  . exact B.none_ge (by
     have:=dU cL (XS p) (by omega)
     rw [f]at this;omega)
  . have Q:(L (0+i)).regs.get t=(L 0).regs.get t:=by
     refine walk_eq (fun j=>(L j).regs.get t) (a:=0) i (fun j h1 h2=>?_)
     have O:ops[j]? =some ops[j]:=Xa (by omega)
     refine qE D O fun ba=>?_
     have:=(al j _ O ba).1 (by omega)
     cases this
    rw [Xg]at Q
    rw [Q,Z]at hv
    exact s.regs.get t v hv
 obtain⟨S',z,w',d,g1,g2,g3⟩:=go_list ok hc hcode D cL ai a1 a2 sm (tl:=tl) (F:=F) (dfs:=dfs) (k:=k) (cs:=aH J I) ls _ mu w0 tmps hg (fun i o _ C=>by cases C) a3
 obtain⟨c,hC,hh⟩:=g1.c
 have bb:c=ops.size:=by
  rcases hC.2.1 with e|⟨o,r,_,C⟩
  . exact e
  . rw [g2 c (Array.getElem?_eq_some_iff.1 r).1]at C;cases C
 subst bb
 rw [U]at hh
 obtain⟨bh,wT,bc,t1,t2,t3,t4⟩:=ai ops.size (Xd _)
 rw [S]at t3
 rw [U]at t1 t4
 have le:Le mu z:=by
  intro b K
  rcases g1.ext.old b (a1 b K)with x|⟨_,x⟩
  . exact .inl x
  . exact .inr x
 have ax: ∀i,i<=ops.size->(L i).dfs=l.dfs/\(L i).rc=l.rc:=by
  intro i
  induction i with
  |zero=>intro _;rw [Z];exact⟨rfl,rfl⟩
  | succ i ih=>
    intro V
    have:=ih (by omega)
    have C:=D.step i ops[i] (Xa (by omega))
    generalize L (i+1)=L1 at C⊢
    generalize H (i+1)=H1 at C
    generalize T i=T1 at C
    generalize X i=X1 at C
    cases C with
    |skip hg=>exact⟨(sq _ _ _).1.trans this.1,(sq _ _ _).2.trans this.2⟩
    |exec hg bi=>exact⟨(sq _ _ _).1.trans this.1,(sq _ _ _).2.trans this.2⟩
 have hk:=ax ops.size (Xd _)
 rw [S]at hk
 have ext:Ext mu h w0 z h' w':=by
  have W:=g1.ext
  rw [f]at W t4
  refine⟨t4.n,W.old,W.fresh,t4.lo,t4.same,W.frame,fun b c u N t sz el hm hg=>?_,W.wsize,W.os,W.tape,W.output,fun b h1 h2=>?_⟩
  . obtain⟨x,y⟩:=W.ro b c u N t sz el hm hg
    exact⟨x,(t4.ro b c u N t sz el hm hg).2.1,y⟩
  . have bd: ∀i,i<=ops.size->b<(H i).n->z b≠ .none:=by
     intro i
     induction i with
     |zero=>intro _ K;rw [f]at K;omega
     | succ i ih=>
       intro V K
       by_cases be:b<(H i).n
       . exact ih (by omega) be
       . exact g1.cov i (by omega) (g2 i (by omega)) b (by omega) K
    exact bd ops.size (Xd _) (by rw [U];exact h2)
 refine⟨z,w',d,⟨hh,g1.glob,⟨g1.size,t3.sized,fun i v hv=>?_⟩,?_,?_,s.ko,s.fn,s.rd.mono le,s.rn,s.fs⟩,Ext.trans e0 ext,g3⟩
 . refine g1.regs ops.size (Xd _) i v (fun p o r _=>?_) (by rw [S];exact hv)
   have:=(Array.getElem?_eq_some_iff.1 r).1
   exact⟨fun _=>g2 p this,fun _=>this⟩
 . rw [hk.1];exact LR.mono s.dfs fun _ _=>kX.mono le
 . rw [hk.2];exact s.rc.mono le
include ok hc hcode in
theorem wq(cx:Cx)(a b:Array Oper)(A:b=a\/(∀(i:Nat),i<a.size->b[i]? =a[i]?)/\ ∀x∈a.toList,iJ a.size x=true)(tl:List Nat)(l:Loc)(h:Hp)(l':Loc)(h':Hp)(q:Nat)(ps:List (Nat×Nat))(m:List (Nat×Tch))
 (n:iS E (bC a.toList)=some (q,ps)) (y:a8 E R (bC a.toList) q (bC a.toList) 0 l h []=some (l',h',m)) (o:cg m ps=true)
 (mu:Mu) (w:World) (F:FC) (c:List Frame) (tmps:Array Value) (dfs:List Deferred) (d:Option (Value×Bool)) (k:List Item) (s:SR P cx l h mu w F c tmps dfs d) (t:Nat):
 ∃ g w' e,SR P cx l' h' g w' F c e dfs d/\Ext mu h w g h' w'/\
   Steps P (lone (F.mk' tmps dfs (.inRegion b (Region.linearise.go .any a a.size t (Xe a.size false) []++tl)::k)) (aH d c) {w with drawn:=w.drawn+1})
    (lone (F.mk' e dfs (.inRegion b tl::k)) (aH d c) w'):=by
 obtain⟨ops,u,B,C,f⟩:=wD a
 have G:iL ops b u:=by
  rcases A with rfl|⟨I,J⟩
  . exact f.same
  . exact f.part I J
 rw [<-C]at n y
 have j:(fun p=>a9 (Xe a.size false) (u p))=fun _=>false:=by
  funext i
  simp only [a9,zN,Xy]
  split<;>rfl
 obtain⟨M,v,_⟩:=plan_ok n
 have z:=sV f v a.size t (Xe a.size false) (by simp [f.size]) (by rw [j,<-f.size];exact nQ _)
 rw [j]at z
 have r:=rq ok hc hcode cx ops b G _ z tl l h l' h' q ps m n y o mu w F c tmps dfs d k s
 rw [XR,show(u∘B)=id from funext f.st,List.map_id]at r
 exact r
include ok hc hcode in
theorem draw_ok:DrawOk E P R:=by
 intro n id a l h o p q ps r t u g v w F i d e f k s
 have b:Region.schedule (P.follows .mixedOrders) a (w.tape w.drawn (.order F.fn id))=Region.linearise.go .any a a.size (w.tape w.drawn (.order F.fn id)) (Xe a.size false) []:=by
  rw [ok.mixed];rfl
 obtain⟨j,x,c,y,z,m⟩:=wq ok hc hcode n a a (.inl rfl) [] l h o p q ps r t u g v w F i d e f k s (w.tape w.drawn (.order F.fn id))
 rw [XL]at m
 refine⟨j,x,c,e,f,y,z,Steps.trans (.one ?_) (Steps.trans m (.one nv))⟩
 rw [<-b]
 exact mm

theorem bef_bit{ops:Array Oper}{M:List Nat}(r: ∀i,pj ops.toList M i){S:Nat->Bool}{N:Nat}(s: ∀(i:Nat) o,i<N->ops[i]? =some o->S i=true-> ∀e∈o.after.toList,binds e=true->S e.on=true): ∀(n:Nat) (o:Oper) (m i:Nat),n<=N->ops[n]? =some o->M[n]? =some m->Ready o S->m.testBit i=true->S i=true:=by
 intro n
 induction n using Nat.strongRecOn with
 | _ n t=>
   intro o m i B k u v f
   obtain⟨C,l,w,y⟩:=r n o (by rw [zM];exact k)
   rw [u]at l;cases l
   obtain⟨e,p,a,x⟩:=y i f
   have b:=v e p a
   rcases x with rfl|⟨m2,g,h⟩
   . exact b
   . have hlt:=w e p a
     have z:n<ops.size:=(Array.getElem?_eq_some_iff.1 k).1
     have c:ops[e.on]? =some ops[e.on]:=Xa (by omega)
     exact t e.on hlt ops[e.on] m2 i (by omega) c g (fun A j d=>s e.on _ (by omega) c b A j d) h

theorem wC(l:Array Bool)(i:Nat):(l.push false).getD i false=l.getD i false:=by
 simp only [zN,Xv]
 split
 next h=>subst h;simp
 next=>rfl
theorem ue{ops A:Array Oper}{n:Nat}(c:A.size=n)(d:ops.size=n+1)(a: ∀i,i<n->ops[i]? =A[i]?)(l:Array Bool)(f:l.size=n):
 Region.ready .any ops (l.push false)=Region.ready .any A l++(if((ops[n]?).map (·.after.all fun e=>!Region.binds .any e||l.getD e.on false)).getD false=true then [n]else []):=by
 unfold Region.ready
 rw [d,c,List.range_succ,List.filter_append]
 congr 1
 . refine List.filter_congr fun i g=>?_
   have b:i<n:=List.mem_range.1 g
   rw [a i b]
   simp only [wC]
   congr 2
   simp only [zN,Xv]
   rw [if_neg (by omega)]
 . simp only [wC]
   have:(l.push false).getD n true=false:=by
    rw [zN,Xv,if_pos f.symm];rfl
   simp only [List.filter_cons,List.filter_nil,this,Bool.not_false,Bool.true_and]

theorem lin_pop{ops A:Array Oper}{n:Nat}(I:A.size=n)(hn:ops.size=n+1)(c: ∀i,i<n->ops[i]? =A[i]?){M:List Nat}(O: ∀i,pj ops.toList M i){Q:Nat}(U:M[n]? =some Q)(r: ∀i,i<n->Q.testBit i=true):
 ∀ (a t:Nat) (l:Array Bool),l.size=n->(∀(i:Nat) o,i<n->ops[i]? =some o->a9 l i=true-> ∀e∈o.after.toList,binds e=true->a9 l e.on=true)->iw (a9 l) n=a->
   Region.linearise.go .any ops (a+1) t (l.push false) []=Region.linearise.go .any A a t l []++[n]:=by
 have J:ops[n]? =some (ops[n]'(by omega)):=Xa _
 obtain⟨m0,k1,k2,_⟩:=O n _ (by rw [zM];exact J)
 have s: ∀(B:Array Oper) (a t:Nat) (l:Array Bool),Region.linearise.go .any B (a+1) t l []=(match(Region.ready .any B l)[t%(Region.ready .any B l).length]? with
  |some i=>Region.linearise.go .any B a (t/(Region.ready .any B l).length) (l.setIfInBounds i true) [i]
  |none=>[]):=fun _ _ _ _=>rfl
 intro a
 induction a with
 | zero=>
   intro t l v V w
   have f:=nZ w
   have W:Region.ready .any A l=[]:=by
    unfold Region.ready
    rw [I]
    refine List.filter_eq_nil_iff.2 fun i K=>?_
    have:=f i (List.mem_range.1 K)
    have x:i<l.size:=by rw [v];exact List.mem_range.1 K
    unfold a9 at this
    rw [zN,Xa x]at this
    rw [zN,Xa x]
    simp only [Xj]at this⊢
    rw [this];simp
   have Y:Region.ready .any ops (l.push false)=[n]:=by
    rw [ue I hn c l v,W,J]
    simp only [Xi,Xj,XM]
    rw [if_pos]
    refine Array.all_eq_true'.2 fun e g=>?_
    cases b:Region.binds .any e with
    |false=>rfl
    | true=>
      have:=k2 e (by simpa using g) b
      have:=f e.on this
      simpa [a9]using this
   rw [s,Y]
   simp [Region.linearise.go,Nat.mod_one]
 | succ a ih=>
   intro t l v V w
   have Z:Region.ready .any ops (l.push false)=Region.ready .any A l:=by
    rw [ue I hn c l v,if_neg,XL]
    intro hc
    obtain⟨p,p1,y,_⟩:=oR (S:=a9 l) (n:=n) (by omega)
    have:a9 l p=true:=by
     refine bef_bit O V n _ Q p (Xd _) J U (fun e g b=>?_) (r p p1)
     rw [J]at hc
     simp only [Xi,Xj]at hc
     have:=(Array.all_eq_true'.1 hc) e (by simpa using g)
     unfold binds at b
     rw [b]at this
     simpa [a9]using this
    rw [y]at this;cases this
   rw [s,s,Z]
   have ad:Region.ready .any A l≠ []:=by
    obtain⟨p,p1,y,p3⟩:=oR (S:=a9 l) (n:=n) (by omega)
    have ho:ops[p]? =some (ops[p]'(by omega)):=Xa _
    obtain⟨m,_,af,_⟩:=O p _ (by rw [zM];exact ho)
    have :p∈Region.ready .any A l:=by
     unfold Region.ready
     simp only [XF,Xz,Xf,Xm]
     refine⟨by omega,?_,?_⟩
     . simp only [a9]at y
       rw [zN,Xa (by omega)]at y⊢
       simpa using y
     . rw [<-c p p1,ho]
       simp only [Xi,Xj]
       refine Array.all_eq_true'.2 fun e g=>?_
       cases b:Region.binds .any e with
       |false=>rfl
       | true=>
         have:=p3 e.on (af e (by simpa using g) b)
         simpa [a9]using this
    intro e
    rw [e]at this;cases this
   have z:0<(Region.ready .any A l).length:=List.length_pos_iff.2 ad
   have hlt:=Nat.mod_lt t z
   rw [Xx hlt]
   simp only []
   generalize K:(Region.ready .any A l)[t%(Region.ready .any A l).length]=i
   have ai:i∈Region.ready .any A l:=by rw [<-K];exact List.getElem_mem hlt
   have d:=ai
   unfold Region.ready at d
   simp only [XF,Xz,Xf,Xm]at d
   obtain⟨h1,h2,h3⟩:=d
   rw [I]at h1
   have ak:a9 l i=false:=by
    simp only [a9]
    rw [zN,Xa (by omega)]at h2⊢
    simpa using h2
   have C:(l.push false).setIfInBounds i true=(l.setIfInBounds i true).push false:=by
    apply Array.ext_getElem?
    intro j
    simp only [XG,Xv,Array.size_push,Array.size_setIfInBounds]
    by_cases e:i=j
    . subst e
      rw [if_pos rfl,if_pos (by omega),if_neg (by omega),if_pos rfl,if_pos (by omega)]
    . rw [if_neg e]
      by_cases N:j=l.size
      . rw [if_pos N,if_pos N]
      . rw [if_neg N,if_neg N,if_neg e]
   have h:=sU (listed:=l) (p:=i) (by omega)
   rw [linearise_go_acc,linearise_go_acc (acc:=[i]),XA,C]
   rw [ih _ (l.setIfInBounds i true) (by simpa using v) ?_ ?_]
   . rw [h]
     intro j o hj F hs e g b
     by_cases G:j=i
     . subst G
       rw [<-c j hj,F]at h3
       simp only [Xi,Xj]at h3
       have:=(Array.all_eq_true'.1 h3) e (by simpa using g)
       have k:=b
       unfold binds at k
       rw [k]at this
       have u:a9 l e.on=true:=by simpa [a9]using this
       unfold jn;split
       . rfl
       . exact u
     . rw [bj _ G]at hs
       have u:=V j o hj F hs e g b
       unfold jn;split
       . rfl
       . exact u
   . rw [h]
     have:=qX (S:=a9 l) (p:=i) ak h1
     omega

include ok hc hcode in
theorem Ao (cx:Cx) (id:Nat) (ops:Array Oper) (l:Loc) (h:Hp) (l':Loc) (h':Hp) (x:Ex) (a:rF E R cx ops.toList l h=some (x,l',h')) (mu:Mu) (w:World) (F:FC) (j:List Frame) (tmps:Array Value) (dfs:List Deferred) (p:Option (Value×Bool)) (k:List Item) (s:SR P cx l h mu w F j tmps dfs p):
 Sim P cx h mu w F j tmps dfs p (.code (.region id ops true)::k) k x l' h':=by
 unfold rF at a
 cases b:n8 ops.toList (ops.toList.length-1)with
 |false=>rw [b]at a;cases a
 | true =>
   rw [b]at a
   simp only [cond_true]at a
   unfold n8 at b
   simp only [Xf]at b
   obtain⟨c,t⟩:=b
   unfold fullM at c
   have e:ops.toList.length=ops.size:=by simp
   split at c
   next m I J=>
    obtain⟨C,_,W⟩:=sc _ _ _ J
    simp only [List.length_nil,Xg]at C W
    have Y:0<ops.size:=by rw [e]at C;simp only [XB]at C;omega
    obtain⟨n,Z⟩: ∃n,ops.size=n+1:=⟨ops.size-1,by omega⟩
    have K:ops.toList.length-1=n:=by omega
    rw [K]at a t c
    have N: ∀i,pj ops.toList (m::I).reverse i:=fun i o ho=>W i o ho
    have O:(m::I).reverse[n]? =some m:=by
     have:I.length=n:=by simp only [XB]at C;omega
     rw [List.reverse_cons,Xc (by simp [this])]
     simp [this]
    have u: ∀i,i<n->m.testBit i=true:=fun i G=>List.all_eq_true.1 c i (List.mem_range.2 G)
    have z:(ops.extract 0 n).toList=ops.toList.take n:=by simp
    have v:(ops.extract 0 n).size=n:=by simp;omega
    have f: ∀i,i<n->ops[i]? =(ops.extract 0 n)[i]? :=by
     intro i G
     rw [<-zM,<-zM,z,XH,if_pos G]
    rw [<-z]at a t
    generalize ops.extract 0 n=A at*
    cases Q:iS E (bC A.toList)with
    |none=>rw [Q]at a;cases a
    | some qp=>
      obtain⟨q,ps⟩:=qp
      rw [Q]at a
      simp only []at a
      cases S:a8 E R (bC A.toList) q (bC A.toList) 0 l h []with
      |none=>rw [S]at a;cases a
      | some q3=>
        obtain⟨l1,h1,tr⟩:=q3
        rw [S]at a
        simp only []at a
        cases y:cg tr ps with
        |false=>rw [y]at a;cases a
        | true=>
          rw [y]at a
          simp only [cond_true]at a
          have B:a9 (Xe n false)=fun _=>false:=by
           funext i
           simp only [a9,zN,Xy]
           split<;>rfl
          have d:Region.schedule (P.follows .mixedOrders) ops (w.tape w.drawn (.order F.fn id))=Region.linearise.go .any A A.size (w.tape w.drawn (.order F.fn id)) (Xe A.size false) []++[n]:=by
           rw [ok.mixed,v]
           show Region.linearise.go .any ops ops.size (w.tape w.drawn (.order F.fn id)) (Xe ops.size false) []=_
           rw [Z,Array.replicate_succ]
           exact lin_pop v Z f N O u n _ _ (by simp) (by rw [B];intro i o _ _ hs;cases hs) (by rw [B];exact nQ n)
          obtain⟨ad,w1,U,s1,e1,g⟩:=wq ok hc hcode cx A ops (.inr ⟨fun i G=>f i (by omega),fun x hx=>by rw [v];exact List.all_eq_true.1 t x hx⟩) [n] l h l1 h1 q ps tr Q S y mu w F j tmps dfs p k s (w.tape w.drawn (.order F.fn id))
          have r:=wl ok hc hcode (ops:=ops) (k:=k) (ops.toList.drop n) n _ _ _ _ _ _ _ _ _ _ rfl s1 a
          have V:(ops.toList.drop n).length=1:=by rw [List.length_drop,e];omega
          rw [V]at r
          refine Sim.pre (Steps.trans (.one ?_) g) e1 r
          rw [<-d]
          exact mm
   next=>cases c
end

end Go.Ab

namespace Go.Ab

def befL(x y:Nat):List Nat->Prop
 | []=>False
 |p::r=>p=x\/(p≠y/\befL x y r)
theorem befL_or{x y:Nat}: ∀{l:List Nat},x∈l->befL x y l\/befL y x l
 | [],h=>by cases h
 | p::r,h=>by
   by_cases a:p=x
   . exact .inl (.inl a)
   by_cases b:p=y
   . exact .inr (.inl b)
   rcases List.mem_cons.1 h with e|h
   . exact absurd e.symm a
   rcases befL_or (y:=y) h with h|h
   . exact .inl (.inr ⟨b,h⟩)
   . exact .inr (.inr ⟨a,h⟩)
theorem zi{f:Nat->Nat}{x y:Nat}(a: ∀p,f p=f y->p=y): ∀{l:List Nat},befL x y l->befL (f x) (f y) (l.map f)
 | p::r,h=>by
   rcases h with h|⟨b,c⟩
   . exact .inl (by rw [h])
   . exact .inr ⟨fun e=>b (a _ e),zi a c⟩
theorem xU{ops:Array Oper}{i:Nat}(b:i<ops.size): ∀{l:List Nat} {S:Nat->Bool},mJ ops S l->S i=false->i∈l
 | [],S,h,a=>by have:=h i b;rw [a]at this;cases this
 | p::r,S,h,a=>by
   by_cases e:p=i
   . subst e;exact Xq
   . exact Xn _ (xU b h.2.2.2 (by rw [bj S (Ne.symm e)];exact a))
theorem ow(os:List Oper)(k i:Nat):(lh os k)[i]? =(os[i]?).map (tie k i):=by
 unfold lh;rw [List.getElem?_mapIdx]
theorem xD(os:List Oper)(k:Nat):(lh os k).length=os.length:=by unfold lh;exact List.length_mapIdx
theorem tA(k i:Nat)(o:Oper):(tie k i o).op=o.op/\(tie k i o).dst=o.dst/\(tie k i o).guard=o.guard:=by
 unfold tie;cases Xt i (k+1)<;>exact⟨rfl,rfl,rfl⟩
theorem tN{ops:Array Oper}{k:Nat}: ∀{l:List Nat} {S:Nat->Bool},mJ ops S l->(S k=true\/befL k (k+1) l)->mJ (lh ops.toList k).toArray S l
 | [],S,h,_=>by
   intro i g
   rw [List.size_toArray,xD]at g
   exact h i (by simpa using g)
 | p ::r,S,h,a=>by
   obtain⟨n,q,h3,h4⟩:=h
   refine⟨by rw [List.size_toArray,xD];simpa using n,q,fun o j=>?_,tN h4 ?_⟩
   . rw [XD,ow]at j
     obtain⟨s,c,rfl⟩:=Option.map_eq_some_iff.1 j
     have m:=h3 s (by rw [<-zM];exact c)
     unfold tie
     cases d:Xt p (k+1)with
     |false=>exact m
     | true=>
       have d:=Xb d
       intro e b f
       simp only [cond_true,Array.toList_push,List.mem_append,List.mem_singleton]at b
       rcases b with b|rfl
       . exact m e b f
       . rcases a with a|a|⟨a,_⟩
         . exact a
         . omega
         . exact absurd d a
   . by_cases e:k=p
     . subst e;exact .inl (eB S k)
     . rw [bj S e]
       rcases a with a|a|⟨_,a⟩
       . exact .inl a
       . exact absurd a.symm e
       . exact .inr a
theorem xF{ops b:Array Oper}{σ τ:Nat->Nat}(a:Ord b ops σ τ){M:List Nat}(d: ∀i,pj ops.toList M i): ∀{l:List Nat} {S:Nat->Bool},mJ ops S l->mJ b (fun p=>S (σ p)) (l.map τ)
 | [],S,h=>fun i s=>h _ (by rw [<-a.size];exact(a.lt i).1 s)
 | p ::r,S,h=>by
   obtain⟨t,u,h3,h4⟩:=h
   refine⟨(a.lt _).2 (by rw [a.st,a.size];exact t),by show S (σ (τ p))=false;rw [a.st];exact u,fun o v e w c=>?_,?_⟩
   . obtain⟨k,f,_,_,_,x,_⟩:=a.op _ o v
     rw [a.st]at f
     obtain⟨g,n,y,z,C⟩:=x e w
     rw [lj y]at c
     have j:=h3 k f g n c
     obtain⟨m,_,A,_⟩:=d p k (by rw [zM];exact f)
     have hlt:g.on<b.size:=by have:=A g n c;rw [a.size];omega
     show S (σ e.on)=true
     rw [z hlt,a.st];exact j
   . have:=xF a d h4
     have j:(fun q=>jn S p (σ q))=jn (fun q=>S (σ q)) (τ p):=by
      funext q
      by_cases e:q=τ p
      . subst e;rw [a.st,eB,eB]
      . rw [bj _ e,bj _ (by intro B;exact e (by rw [<-B,a.ts]))]
     rw [j]at this
     exact this
theorem iL.tie{ops b:Array Oper}{σ:Nat->Nat}(s:iL ops b σ)(k:Nat):iL (lh ops.toList k).toArray b σ:=by
 have c: ∀(p:Nat) (o:Oper),(lh ops.toList k).toArray[p]? =some o-> ∃a,ops[p]? =some a/\o.op=a.op/\o.dst=a.dst/\o.guard=a.guard:=by
  intro p o d
  rw [XD,ow]at d
  obtain⟨a,f,rfl⟩:=Option.map_eq_some_iff.1 d
  exact⟨a,by rw [<-zM];exact f,tA k p a⟩
 refine⟨fun p o d=>?_,fun p o j e d n i=>?_⟩
 . obtain⟨a,g,l,m,h⟩:=c p o d
   rw [l,m,h]
   exact s.op p a g
 . obtain⟨a,g,l,m,h⟩:=c p o d
   refine s.no p a j e g (by rw [<-h];exact n) ?_
   rw [XD,ow]at i
   rw [<-zM]
   simpa using i
theorem iL.comp{ops a b:Array Oper}{σ c f:Nat->Nat}(s:iL ops b σ)(e:Ord a ops c f):iL a b (σ∘c):=by
 refine⟨fun p o g=>?_,fun p o j d g m n=>?_⟩
 . obtain⟨i,k,u,v,l,_⟩:=e.op p o g
   obtain⟨A,B,C,D,q⟩:=s.op _ i k
   refine⟨A,B,C.trans u,D.trans v,?_⟩
   rcases l with⟨x,y⟩|⟨j,w,x,y⟩
   . rcases q with⟨_,z⟩|⟨r,t,z,_⟩
     . exact .inl ⟨x,z⟩
     . rw [y]at z;cases z
   . rcases q with⟨z,_⟩|⟨r,t,z,E⟩
     . rw [y]at z;cases z
     . rw [y]at z;cases z
       exact .inr ⟨_,_,x,E⟩
 . obtain⟨i,k,_,_,l,_⟩:=e.op p o g
   rcases l with⟨x,_⟩|⟨r,t,x,y⟩
   . rw [m]at x;cases x
   . rw [m]at x;cases x
     refine s.no _ i _ d k y (Array.getElem?_eq_none ?_)
     have F: ¬j<a.size:=by intro h;rw [Xa h]at n;cases n
     have:=mt (e.lt j).2 F
     rw [<-e.size];omega
theorem u7(k i:Nat):swN k (swN k i)=i:=by
 have h: ∀i,swN k i=if i=k then k+1 else if i=k+1 then k else i:=by
  intro i
  unfold swN
  rw [bN,bN]
  by_cases a:i=k
  . simp [a]
  . by_cases b:i=k+1
    . simp [b]
    . simp [a,b]
 rw [h,h]
 by_cases a:i=k
 . subst a;simp
 . by_cases b:i=k+1
   . subst b;simp
   . simp [a,b]
theorem swN_lt{k n i:Nat}(c:k+1<n):swN k i<n↔i<n:=by
 unfold swN
 rw [bN,bN]
 by_cases a:i=k
 . simp [a];omega
 . by_cases b:i=k+1
   . simp [b];omega
   . simp [a,b]
theorem swN_ne{k i:Nat}(a:i≠k)(b:i≠k+1):swN k i=i:=by
 unfold swN
 rw [bN,bN,decide_eq_false a,decide_eq_false b];rfl
theorem swN_k(k:Nat):swN k k=k+1:=by unfold swN;rw [Xk];rfl
theorem swN_k1(k:Nat):swN k (k+1)=k:=by unfold swN;rw [bN,decide_eq_false (by omega),Xk];rfl
theorem tM(n k p:Nat):(gJ n k)[p]? =if p<n then some (swN k p)else none:=by
 unfold gJ
 rw [Xr]
 split
 . next h=>rw [List.getElem?_range h];rfl
 . next h=>rw [XE (by simpa using h)];rfl
theorem zf{n k:Nat}(b:k+1<n)(i:Nat):i∈gJ n k↔i<n:=by
 unfold gJ
 simp only [List.mem_map,Xz]
 constructor
 . rintro⟨a,c,rfl⟩;exact(swN_lt b).2 c
 . intro h;exact⟨swN k i,(swN_lt b).2 h,u7 k i⟩
theorem An(n k:Nat):(gJ n k).Nodup:=by
 unfold gJ
 rw [List.nodup_iff_pairwise_ne,List.pairwise_map]
 exact List.nodup_range.imp fun {a b} h e=>h (by rw [<-u7 k a,e,u7])
theorem ord2_len(n k:Nat):(gJ n k).length=n:=by unfold gJ;simp

theorem rz{E:Env}{R:Rec}{q:Nat}{ops ops':List Oper}: ∀(os a:List Oper) (i:Nat) (l:Loc) (h:Hp) (c:List (Nat×Tch)),os.map (fun o=>(o.op,o.dst))=a.map (fun o=>(o.op,o.dst))->(∀o∈os,o.guard=none)->(∀o∈a,o.guard=none)->
 a8 E R ops q os i l h c=a8 E R ops' q a i l h c
 | [],[],_,_,_,_,_,_,_=>rfl
 | [],_::_,_,_,_,_,b,_,_=>by simp at b
 |_::_,[],_,_,_,_,b,_,_=>by simp at b
 | o::os,o'::a,i,l,h,c,b,e,f=>by
   simp only [XI,List.cons.injEq,Prod.mk.injEq]at b
   obtain⟨⟨g,j⟩,k⟩:=b
   have m:=e o Xq
   have n:=f o' Xq
   have p:=fun i l h c=>rz (E:=E) (R:=R) (q:=q) (ops:=ops) (ops':=ops') os a i l h c k (fun o d=>e o (Xn _ d)) (fun o d=>f o (Xn _ d))
   simp only [a8,bV,m,n,qh g,g,j,p]
theorem nY{E:Env}{R:Rec}{q:Nat}{ops:List Oper}: ∀(xs ys:List Oper) (i:Nat) (l:Loc) (h:Hp) (a:List (Nat×Tch)),
 a8 E R ops q (xs++ys) i l h a=(a8 E R ops q xs i l h a).bind fun r=>a8 E R ops q ys (i+xs.length) r.1 r.2.1 r.2.2
 | [],ys,i,l,h,a=>rfl
 | o ::xs,ys,i,l,h,a=>by
   have e: ∀n,i+1+n=i+(n+1):=fun n=>by omega
   simp only [XC,a8,XB]
   cases bV ops l.regs o with
   |none=>rfl
   | some b=>
     cases b with
     |false=>simp only [];rw [nY xs ys,e]
     | true=>
       simp only []
       cases cw E R (l.evD (tmpsOf o.op.operands.toList)) (dQ E q i o.op) o h with
       |none=>rfl
       |some r=>obtain⟨v,c⟩:=r;simp only [];rw [nY xs ys,e]

theorem pg{k:Value}(h:oC k=true):bH k k=some true:=by
 cases k<;>first|(cases h;done)|skip
 next a n=>
 have b:jS a a=true:=by cases a<;>rfl
 have c:gX n n=true:=by cases n<;>exact Xk _
 simp only [bH,b,c,cond_true]
theorem vU{k b v:Value}{c:Nat}: ∀{a:List (Value×Value×Nat)},bH k b=some false->aN k (a++[(b,v,c)])=aN k a
 | [],h=>by simp only [XM,aN,h]
 |(d,e,n)::a,h=>by simp only [XC,aN,vU h]
theorem oK{k v:Value}{c:Nat}(d:bH k k=some true): ∀{a:List (Value×Value×Nat)},aN k a=some none->aN k (a++[(k,v,c)])=some (some (v,c))
 | [],_=>by simp only [XM,aN,d]
 | (f,g,n)::a,h=>by
   simp only [XC,aN]at h⊢
   cases e:bH k f with
   |none=>rw [e]at h;cases h
   | some b=>
     rw [e]at h
     cases b with
     |true=>cases h
     |false=>exact oK d h
theorem re{k a v:Value}: ∀{c:List (Value×Value×Nat)},bH k a=some false->aN k (iE a v c)=aN k c
 | [],_=>rfl
 | (k',v',n)::c,h=>by
   unfold iE
   cases d:bH a k' with
   |none=>simp only [aN,re h]
   | some b=>
     cases b with
     |true=>have:=li d;subst this;simp only [aN,h]
     |false=>simp only [aN,re h]
theorem qO{k v:Value}(d:bH k k=some true): ∀{a:List (Value×Value×Nat)} {u:Value×Nat},aN k a=some (some u)-> ∃n,aN k (iE k v a)=some (some (v,n))
 | [],_,h=>by cases h
 | (k',v',n)::a,u,h=>by
   simp only [aN]at h
   unfold iE
   cases c:bH k k' with
   |none=>rw [c]at h;cases h
   | some b=>
     rw [c]at h
     cases b with
     |true=>exact⟨n,by simp only [aN,d]⟩
     | false=>
       obtain⟨e,h'⟩:=qO (v:=v) d h
       exact⟨e,by simp only [aN,c];exact h'⟩
def mput(k v:Value)(a:List (Value×Value×Nat))(c:Nat):List (Value×Value×Nat)×Nat:=match aN k a with
 |some (some _)=>(iE k v a,c)
 |_=>(a++[(k,v,c)],c+1)
theorem jh{k a v:Value}{b:List (Value×Value×Nat)}{c:Nat}(h:bH k a=some false):aN k (mput a v b c).1=aN k b:=by
 unfold mput;split
 . exact re h
 . exact vU h
theorem sk{k v:Value}{a:List (Value×Value×Nat)}{c:Nat}(d:bH k k=some true)(h:aN k a≠none):(aN k (mput k v a c).1).map (XJ XP)=some (some v):=by
 unfold mput
 cases b:aN k a with
 |none=>exact absurd b h
 | some u=>
   cases u with
   |none=>simp only [];rw [oK d b];rfl
   |some u=>simp only [];obtain⟨n,e⟩:=qO (v:=v) d b;rw [e];rfl
theorem nK {E:Env} {h h':Hp} {ty:TypeId} {m k v:Value}:dH E h ty m k v=some h'↔ ∃r d c kt el,m=.map (some r)/\E.und ty=some (.map kt el)/\aP E kt k=true/\h.get r=some (.map d c)/\aN k d≠none/\h'=h.put r (.map (mput k v d c).1 (mput k v d c).2):=by
 unfold dH iv mput
 constructor
 . intro b
   split at b
   next=>cases b
   next r d c el a=>
    split at a
    next kt j g=>
     cases hf:aP E kt k with
     |false=>rw [hf]at a;cases a
     | true=>
       rw [hf]at a
       simp only [cond_true]at a
       split at a
       next o=>
        split at a
        next l p i=>
         cases a
         refine⟨_,_,_,_,_,rfl,g,hf,i,?_,?_⟩
         . intro e;rw [e]at b;cases b
         . split at b
           next=>cases b
           next u f=>rw [f];cases b;rfl
           next f=>rw [f];cases b;rfl
        next=>cases a
       next=>cases a
    next=>cases a
 . rintro⟨r,d,c,kt,el,rfl,g,hf,i,n,rfl⟩
   rw [g]
   simp only [hf,cond_true,i]
   cases a:aN k d with
   |none=>exact absurd a n
   |some u=>cases u<;>rfl
theorem Tr.set_set{α:Type}(t:Tr α)(i:Nat)(x y:α):(t.set i x).set i y=t.set i y:=by
 induction t generalizing i with
 |nil=>rfl
 | node z l r a b=>
   rw [Tr.set_node,Tr.set_node]
   cases i with
   |zero=>rfl
   | succ n=>
     simp only []
     split
     . next h=>rw [Tr.set_node];simp only [h,if_true,a]
     . next h=>rw [Tr.set_node];simp only [h,if_false,b]
theorem sj(h:Hp)(b:Nat)(x y:Blk):(h.put b x).put b y=h.put b y:=by
 unfold Hp.put
 simp only [Tr.set_set]
 congr 1
 unfold dO
 cases c:XO b h.lo with
 |true=>simp only [cond_true];rw [Xl (Xd b)];rfl
 | false=>
   simp only [cond_false]
   cases a:XO b h.lo with
   |true=>rw [c]at a;cases a
   |false=>rfl
theorem iC{h:Hp}{b:Nat}{x y:Blk}(a:h.get b=some y):(h.put b x).get b=some x:=by
 rw [Hp.get_put,if_pos ⟨rfl,by rw [a];rfl⟩]
theorem put_swap{E:Env}{h z u:Hp}{ty:TypeId}{m f k2 q l:Value}(A:oC f=true)(B:oC k2=true)(v:bH f k2=some false)(w:bH k2 f=some false)(C:dH E h ty m f q=some z)(D:dH E z ty m k2 l=some u):
 ∃ h3 h4 r d c es' c',dH E h ty m k2 l=some h3/\dH E h3 ty m f q=some h4/\m=.map (some r)/\u.get r=some (.map d c)/\h4=u.put r (.map es' c')/\
   ∀kt el k,E.und ty=some (.map kt el)->aP E kt k=true->(aN k es').map (XJ XP)=(aN k d).map (XJ XP):=by
 obtain⟨r,d,c,kt,el,rfl,s,n,t,g,rfl⟩:=nK.1 C
 obtain⟨J,F,K,x,y,G,a,o,p,b,rfl⟩:=nK.1 D
 cases G
 rw [s]at a;cases a
 rw [iC t]at p
 cases p
 rw [jh w]at b
 refine⟨_,_,r,_,_,(mput f q (mput k2 l d c).1 (mput k2 l d c).2).1,(mput f q (mput k2 l d c).1 (mput k2 l d c).2).2,nK.2 ⟨r,d,c,kt,el,rfl,s,o,t,b,rfl⟩,
  nK.2 ⟨r,_,_,kt,el,rfl,s,n,iC t,by rw [jh v];exact g,rfl⟩,rfl,iC (iC t),by rw [sj,sj,sj],?_⟩
 intro x y k a hf
 rw [s]at a;cases a
 obtain⟨H,i⟩:=qs hf n
 obtain⟨I,j⟩:=qs hf o
 cases H with
 | true=>
   have e:=li i
   subst e
   rw [sk (pg A) (by rw [jh v];exact g),jh v,sk (pg A) g]
 | false=>
   cases I with
   | true=>
     have e:=li j
     subst e
     rw [jh w,sk (pg B) b,sk (pg B) (by rw [jh w];exact b)]
   |false=>rw [jh i,jh j,jh j,jh i]
theorem qf{E:Env}{R:Rec}{ops os:List Oper}{q i:Nat}{a:Oper}{l:Loc}{h:Hp}{d:List (Nat×Tch)}{t:Tmp}{ty:TypeId}{k:Value}{x:Operand}(c:a.op=.insert ty (.tmp t) (.const k) x)(g:a.dst=none)(j:a.guard=none)(m:oC k=true):
 a8 E R ops q (a::os) i l h d=(dH E h ty (l.ev (.tmp t)) k (l.ev x)).bind fun h'=>a8 E R ops q os (i+1) l h' (gw i d (match l.ev (.tmp t)with
  | .map (some r)=>some (.blk r)
  |_=>none)):=by
 have f:l.evD (tmpsOf a.op.operands.toList) (.tmp t)=l.ev (.tmp t):=by
  rw [c];unfold Loc.evD
  simp [Op.operands,tmpsOf,mi,Xk]
 have n:l.evD (tmpsOf a.op.operands.toList) (.const k)=k:=by
  unfold Loc.evD Loc.ev
  simp only []
  cases k<;>first|(cases m;done)|rfl
 have o:l.evD (tmpsOf a.op.operands.toList) x=l.ev x:=by
  rw [c];unfold Loc.evD
  cases x<;>simp [Op.operands,tmpsOf,mi,Xk]
 have p:dQ E q i a.op=false:=by unfold dQ;rw [c];show(q.testBit i&&false)=false;simp
 simp only [a8,bV,j,p,cw,cond_false]
 rw [show aop E (l.evD (tmpsOf a.op.operands.toList)) h a.op=eQ (dH E h ty (l.ev (.tmp t)) k (l.ev x)) by
  have: ∀b:Operand->Value,aop E b h (.insert ty (.tmp t) (.const k) x)=eQ (dH E h ty (b (.tmp t)) (b (.const k)) (b x)):=fun _=>rfl
  rw [<-f,<-o]
  conv=>rhs;rw [<-n]
  rw [c,this]]
 cases dH E h ty (l.ev (.tmp t)) k (l.ev x)with
 |none=>rfl
 | some h'=>
   simp only [eQ,cI,Xs,g]
   congr 1
   congr 1
   unfold bU ij
   have e: ∀b:Operand->Value,touch b a.op=(match b (.tmp t)with| .map r=>r|_=>none):=fun b=>by rw [c];rfl
   rw [show di a.op=false by rw [c];rfl,show dR a.op=false by rw [c];rfl]
   simp only [cond_false]
   rw [e,f]
   generalize l.ev (.tmp t)=s
   cases s<;>(try rfl)
   next r=>cases r<;>rfl
theorem note_read{E:Env}{ρ:Operand->Value}{b:Bool}{op:Op}{a c h3 h4:Hp}(d:cls E op<=1):bU ρ b op a c=bU ρ b op h3 h4:=by
 unfold bU
 rw [jJ (E:=E) (by omega),lD (E:=E) (by omega),lD (E:=E) (by omega)]
 rfl
theorem vj {E : Env} {R:Rec} {ops:List Oper} {q:Nat} {t:Tmp} {ty:TypeId} {r:Nat} {F es':List (Value×Value×Nat)} {c c':Nat} {j:Hp} (G:j.get r=some (.map F c))
 (N: ∀kt el k,E.und ty=some (.map kt el)->aP E kt k=true->(aN k es').map (XJ XP)=(aN k F).map (XJ XP)):
 ∀ (os:List Oper) (i:Nat) (l:Loc) (C:List (Nat×Tch)) (l':Loc) (h':Hp) (n:List (Nat×Tch)),(∀o∈os,tZ E ty t o=true/\o.guard=none)->a8 E R ops q os i l j C=some (l',h',n)->
   h'=j/\l'.ev (.tmp t)=l.ev (.tmp t)/\a8 E R ops q os i l (j.put r (.map es' c')) C=some (l',j.put r (.map es' c'),n)
 | [],i,l,C,l',h',n,_,s=>by cases s;exact⟨rfl,rfl,rfl⟩
 | o :: os, i, l,C,l',h',n,O,s=>by
   obtain⟨w,H⟩:=O o Xq
   unfold tZ at w
   simp only [Xf,Xm,Bool.or_eq_true]at w
   have z:cls E o.op<=1:=by
    rcases w.2 with h|h
    . rw [Xb h];omega
    . unfold uO at h
      split at h
      . next e=>rw [e];exact Xd 1
      . cases h
   obtain⟨f,P,S,_⟩:=tF (E:=E) (op:=o.op) (ρ:=l.evD (tmpsOf o.op.operands.toList)) (by omega)
   have hf : ∀ v,f j=some v->f (j.put r (.map es' c'))=some v:=by
    intro v a
    rcases w.2 with h|h
    . rw [S (Xb h) _ j];exact a
    . unfold uO at h
      split at h
      next A m k I e=>
       have:=Xb h
       subst this
       have T: ∀h,f h=ce E h A (l.evD (tmpsOf o.op.operands.toList) m) (l.evD (tmpsOf o.op.operands.toList) k) I:=by
        intro h
        have:=P h
        rw [e]at this
        rw [e]
        exact vV this.symm
       rw [T]at a⊢
       generalize l.evD (tmpsOf o.op.operands.toList) m=U at a⊢
       generalize l.evD (tmpsOf o.op.operands.toList) k=D at a⊢
       unfold ce at a⊢
       cases J:E.und A with
       |none=>rw [J]at a;cases a
       | some d=>
         rw [J]at a
         cases d<;>(try (cases a;done))
         next kt el=>
          simp only []at a⊢
          cases p:aP E kt D with
          |false=>rw [p]at a;cases a
          | true =>
            rw [p]at a
            simp only [cond_true]at a⊢
            cases U<;>(try (cases a;done))
            next b =>
             cases b with
             |none=>exact a
             | some b=>
               simp only []at a⊢
               by_cases B:r=b
               . subst B
                 rw [G]at a
                 rw [iC G]
                 simp only []at a⊢
                 have g:=N kt el D J p
                 cases Q:aN D F with
                 |none=>rw [Q]at a;cases a
                 | some u=>
                   rw [Q]at a g
                   cases j:aN D es' with
                   |none=>rw [j]at g;cases g
                   | some V=>
                     rw [j]at g
                     cases u<;>cases V<;>simp at g
                     . exact a
                     . next x y=>obtain⟨x1,x2⟩:=x;obtain⟨y1,y2⟩:=y;simp only []at g a⊢;rw [g];exact a
               . rw [cd B];exact a
      next=>cases h
   have W:dQ E q i o.op=false:=qV z
   simp only [a8,bV,H,W,cw,cond_false]at s⊢
   rw [P]at s⊢
   cases a:f j with
   |none=>rw [a]at s;cases s
   | some v=>
     rw [a]at s
     rw [hf v a]
     simp only [cq,cI]at s⊢
     have K:=vj (c':=c') G N os (i+1) (l.put o.dst v) _ l' h' n (fun o L=>O o (Xn _ L)) s
     obtain⟨X,Y,Z⟩:=K
     refine⟨X,Y.trans ?_,?_⟩
     . have M:o.dst≠some t:=by
        intro e
        have:=w.1
        unfold qm at this
        rw [e]at this
        simp only [Xk]at this
        cases this
       unfold Loc.ev
       simp only [mw M]
     . rw [note_read (E:=E) z (h3:=j) (h4:=j)];exact Z
theorem fork_swap {E:Env} {R:Rec} {os:List Oper} {e q:Nat} {t:Tmp} (s:pA E os e=some t) {l l':Loc} {h h' h2:Hp} {tr:List (Nat×Tch)} (he:a8 E R os q os 0 l h []=some (l',h',tr)) (F:mK (some t) l' h'=some h2):
 e+2<os.length/\(∀o∈os,o.guard=none)/\ ∀o2:List Oper,o2.map (fun o=>(o.op,o.dst))=(gJ os.length (e+1)).filterMap (fun i=>(os[i]?).map fun o=>(o.op,o.dst))->(∀o∈o2,o.guard=none)->
  ∃G,a8 E R o2 q o2 0 l h []=some (l',G,tr)/\mK (some t) l' G=some h2:=by
 unfold pA at s
 split at s
 next m a b hm S N=>
  split at s
  next H hd =>
   split at s
   next ta x tb y T U=>
    cases O:(isMk m.op&&(Xt ta tb&&(sf x y&&(sf y x&&((os.drop (e+3)).all (tZ E ta H)&&os.all fun o=>o.guard.isNone)))))with
    |false=>rw [O]at s;cases s
    | true =>
      rw [O]at s
      simp only [cond_true,Option.some.injEq]at s
      subst s
      simp only [Xf,List.all_eq_true]at O
      obtain⟨_,A,V,W,B,X⟩:=O
      have A:=Xb A
      subst A
      have j: ∀o∈os,o.guard=none:=fun o g=>by have:=X o g;simpa using this
      have I:e+2<os.length:=(List.getElem?_eq_some_iff.1 N).1
      refine⟨I,j,fun o2 Y Z=>?_⟩
      -- the parts
      have w:os=os.take (e+1)++a::b::os.drop (e+3):=by
       have e1:os.drop (e+1)=a::b::os.drop (e+3):=by
        rw [Xo (by omega),Xo (by omega)]
        rw [(List.getElem?_eq_some_iff.1 S).2,(List.getElem?_eq_some_iff.1 N).2]
       rw [<-e1,List.take_append_drop]
      have J: ∀{o:Oper} {ty:TypeId} {k:Value},insK H o=some (ty,k)-> ∃z,o.op=.insert ty (.tmp H) (.const k) z/\o.dst=none/\oC k=true:=by
       intro o ty k h
       unfold insK at h
       split at h
       next aL ad k' z af=>
        cases n:(Xt ad H&&(o.dst.isNone&&oC k'))with
        |false=>rw [n]at h;cases h
        | true=>
          rw [n]at h
          cases h
          simp only [Xf]at n
          have:=Xb n.1
          subst this
          exact⟨z,af,by simpa using n.2.1,n.2.2⟩
       next=>cases h
      obtain⟨z1,p1,p2,p3⟩:=J T
      obtain⟨z2,r1,r2,r3⟩:=J U
      have K: ∀{u v:Value},sf u v=true->bH u v=some false:=by
       intro u v h
       unfold sf at h
       split at h
       next bb ai=>rw [ai];cases bb<;>first|rfl|cases h
       next=>cases h
      have C:=j a (Xp S)
      have D:=j b (Xp N)
      -- the run
      have f:=he
      rw [show a8 E R os q os 0 l h []=a8 E R os q (os.take (e+1)++a::b::os.drop (e+3)) 0 l h [] by rw [<-w]]at f
      rw [nY]at f
      obtain⟨⟨l1,h1,a0⟩,s1,f⟩:=Option.bind_eq_some_iff.1 f
      simp only []at f
      rw [qf p1 p2 C p3]at f
      obtain⟨a1,s2,f⟩:=Option.bind_eq_some_iff.1 f
      rw [qf r1 r2 D r3]at f
      obtain⟨a2,s3,f⟩:=Option.bind_eq_some_iff.1 f
      obtain⟨h3,h4,r,es,c,es',c',w1,w2,w3,w4,w5,w6⟩:=put_swap p3 r3 (K V) (K W) s2 s3
      obtain⟨k1,k2,k3⟩:=vj (t:=H) (es':=es') (c':=c') w4 w6 _ _ _ _ _ _ _ (fun o g=>⟨B o g,j o (XQ g)⟩) f
      refine⟨h4,?_,?_⟩
      . -- the other list
        have ak:o2.map (fun o=>(o.op,o.dst))=(os.take (e+1)++b::a::os.drop (e+3)).map (fun o=>(o.op,o.dst)):=by
         rw [Y]
         have L: ∀p:Nat,((gJ os.length (e+1)).filterMap (fun i=>(os[i]?).map fun o=>(o.op,o.dst)))[p]? =((os.take (e+1)++b::a::os.drop (e+3)).map (fun o=>(o.op,o.dst)))[p]? :=by
          intro p
          have M:(gJ os.length (e+1)).filterMap (fun i=>(os[i]?).map fun o=>(o.op,o.dst))=(gJ os.length (e+1)).map (fun i=>(os.map (fun o=>(o.op,o.dst))).getD i (m.op,m.dst)):=by
           have al: ∀(l:List Nat),(∀i∈l,i<os.length)->l.filterMap (fun i=>(os[i]?).map fun o=>(o.op,o.dst))=l.map (fun i=>(os.map (fun o=>(o.op,o.dst))).getD i (m.op,m.dst)):=by
            intro l
            induction l with
            |nil=>intro _;rfl
            | cons x l ih=>
              intro hx
              have ax:=hx x Xq
              rw [XI,<-ih (fun i hi=>hx i (Xn _ hi))]
              simp [ax]
           exact al _ fun i hi=>(zf (by omega) i).1 hi
          rw [M,Xr,tM,Xr]
          by_cases P:p<os.length
          . rw [if_pos P]
            simp only [Xi]
            rcases Nat.lt_trichotomy p (e+1)with Q|Q|Q
            . rw [swN_ne (by omega) (by omega),Xw (by rw [Xh];omega),XH,if_pos Q]
              simp [P]
            . subst Q
              rw [swN_k,Xc (by rw [Xh];omega),Xh,XN (by omega),Nat.sub_self]
              simp [N]
            . by_cases ay:p=e+2
              . subst ay
                rw [swN_k1,Xc (by rw [Xh];omega),Xh,XN (by omega),show e+2-(e+1)=1 by omega]
                simp [S]
              . rw [swN_ne (by omega) (by omega),Xc (by rw [Xh];omega),Xh,XN (by omega)]
                obtain⟨d,rfl⟩: ∃d,p=e+3+d:=⟨p-(e+3),by omega⟩
                rw [show e+3+d-(e+1)=d+2 by omega,XK,XK,List.getElem?_drop]
                simp [P]
          . rw [if_neg P,XE (by simp only [List.length_append,Xh,XB,List.length_drop];omega)]
            rfl
         exact List.ext_getElem? L
        rw [rz (ops':=os) o2 _ _ _ _ _ ak Z (fun o g=>by
         rcases List.mem_append.1 g with g|g
         . exact j o (List.mem_of_mem_take g)
         . rcases List.mem_cons.1 g with rfl|g
           . exact D
           . rcases List.mem_cons.1 g with rfl|g
             . exact C
             . exact j o (XQ g))]
        rw [nY,s1]
        simp only [Xs]
        rw [qf r1 r2 D r3,w1]
        simp only [Xs]
        rw [qf p1 p2 C p3,w2]
        simp only [Xs]
        rw [w5]
        exact k3
      . rw [w3]at k2
        unfold mK at F⊢
        simp only [k2]at F⊢
        rw [k1,w4]at F
        rw [w5,iC w4]
        simp only []at F⊢
        rw [sj];exact F
   next=>cases s
  next=>cases s
 next=>cases s

theorem tieL_sh(os:List Oper)(k:Nat):(lh os k).map (fun o=>(o.op,o.dst))=os.map (fun o=>(o.op,o.dst)):=by
 refine List.ext_getElem? fun i=>?_
 rw [Xr,Xr,ow]
 cases os[i]? with
 |none=>rfl
 |some o=>obtain⟨a,b,_⟩:=tA k i o;simp [a,b]
theorem uE{os:List Oper}{k:Nat}(h: ∀o∈os,o.guard=none): ∀o∈lh os k,o.guard=none:=by
 intro o c
 obtain⟨i,a⟩:=List.getElem?_of_mem c
 rw [ow]at a
 obtain⟨b,d,rfl⟩:=Option.map_eq_some_iff.1 a
 rw [(tA k i b).2.2]
 exact h b (Xp d)
theorem sX(os:List Oper)(ord:List Nat): ∀(l:List Nat),(dY os ord l).map (fun o=>(o.op,o.dst))=l.filterMap fun i=>(os[i]?).map fun o=>(o.op,o.dst)
 | []=>rfl
 | i::l=>by
   unfold dY
   rw [List.filterMap_cons]
   cases os[i]? with
   |none=>exact sX os ord l
   |some o=>simp only [XI,Xi,sX os ord l];rfl
theorem pJ{os:List Oper}{ord:List Nat}(h: ∀o∈os,o.guard=none): ∀(l:List Nat),∀o∈dY os ord l,o.guard=none
 | [],o,a=>by cases a
 | i ::l,o,a=>by
   unfold dY at a
   cases b:os[i]? with
   |none=>rw [b]at a;exact pJ h l o a
   | some o'=>
     rw [b]at a
     rcases List.mem_cons.1 a with rfl|a
     . have:=h o' (Xp b)
       simp [reix,this]
     . exact pJ h l o a
theorem vm{d:List (Nat×Tch)}: ∀{ps c:List (Nat×Nat)},cg d (ps++c)=true->cg d ps=true/\cg d c=true
 | [],_,h=>⟨rfl,h⟩
 | (i,j)::ps,c,h=>by
   simp only [XC,cg,Xf]at h⊢
   obtain⟨a,b⟩:=vm h.2
   exact⟨⟨h.1,a⟩,b⟩
section
variable{E:Env}{P:Program}(ok:EOk E P){R:Rec}(hc:fW E P R.call)(hcode:iO P R.code)
theorem kill_sim{cx:Cx}{l:Loc}{h f:Hp}{mu:Mu}{w:World}{F:FC}{g:List Frame}{tmps:Array Value}{dfs:List Deferred}{i:Option (Value×Bool)}{t:Tmp}(s:SR P cx l h mu w F g tmps dfs i)(a:mK (some t) l h=some f):
 ∃j,SR P cx l f j w F g tmps dfs i/\Ext mu h w j f w:=by
 unfold mK at a
 simp only []at a
 split at a
 next b d=>
  split at a
  next D c y=>
   cases a
   have p: ∃m,ao mu (.map (some b)) m:=by
    unfold Loc.ev at d
    simp only []at d
    cases q:l.regs.get t with
    |none=>rw [q]at d;cases d
    |some v=>rw [q]at d;simp only []at d;subst d;obtain⟨m,_,x⟩:=s.regs.get t _ q;exact⟨m,x⟩
   obtain⟨m,p⟩:=p
   cases p with
   | map r=>
     unfold dp at r
     cases n:mu b with
     |none=>rw [n]at r;exact r.elim
     |dead=>have:=s.hr.dead b n;rw [y]at this;cases this
     | blk z k u=>
       obtain⟨x,o,G,f,H⟩:=s.hr.blk b z k u n
       obtain⟨A,B⟩:=ng s.hr n (by intro t I el e;rw [y]at e;cases e) (⟨rfl,f,fun _ _=>rfl,rfl,rfl,rfl⟩:WSet w w z o)
       refine⟨_,s.step A (fun C _=>?_),B⟩
       by_cases e:C=b
       . subst e;exact .inr (upd_same _ _ _)
       . exact .inl (aI _ _ e)
  next=>cases a
 next=>cases a

include ok hc hcode in
theorem forkD_sim(cx:Cx)(id:Nat)(ops:Array Oper)(l:Loc)(h:Hp)(l':Loc)(h':Hp)(x:Ex)(c:forkD E R ops.toList l h=some (x,l',h'))(mu:Mu)(w:World)(F:FC)(j:List Frame)(tmps:Array Value)(dfs:List Deferred)(d:Option (Value×Bool))(k:List Item)(s:SR P cx l h mu w F j tmps dfs d):
 Sim P cx h mu w F j tmps dfs d (.code (.region id ops true)::k) k x l' h':=by
 unfold forkD at c
 cases u:rX E (bC ops.toList)with
 |none=>rw [u]at c;cases c
 |some qp=>
 obtain⟨q,ps⟩:=qp
 rw [u]at c
 simp only []at c
 cases M:a8 E R (bC ops.toList) q (bC ops.toList) 0 l h []with
 |none=>rw [M]at c;cases c
 |some r3=>
 obtain⟨l1,h1,tr⟩:=r3
 rw [M]at c
 simp only []at c
 cases G:cg tr ps with
 |false=>rw [G]at c;cases c
 |true=>
 rw [G]at c
 simp only [cond_true]at c
 obtain⟨a,A,X,hC,L⟩:=wD ops
 rw [<-hC]at u M c
 unfold rX at u
 split at u
 next t ms q1 ad q2 af hT hB ai ak=>
  cases H:Xt q1 q2 with
  |false=>rw [H]at u;cases u
  |true=>
  rw [H]at u
  cases u
  have N:=Xb H
  subst N
  rw [hT]at c
  cases Y:mK (some t) l1 h1 with
  |none=>rw [Y]at c;cases c
  |some h2=>
  rw [Y]at c
  cases c
  obtain⟨O,v,al⟩:=fork_swap hT M Y
  obtain⟨ax,ay⟩:=vm G
  obtain⟨_,_,g3⟩:=sc _ _ _ hB
  simp only [List.length_nil,Xg]at g3
  have B: ∀i,pj a.toList ms.reverse i:=fun i o ho=>g3 i o ho
  generalize a3:lu a.toList=b at*
  have hn:a.toList.length=a.size:=by simp
  rw [hn]at O
  have z:Region.schedule (P.follows .mixedOrders) ops (w.tape w.drawn (.order F.fn id))=Region.linearise.go .any ops ops.size (w.tape w.drawn (.order F.fn id)) (Xe ops.size false) []:=by
   rw [ok.mixed];rfl
  have Q:(fun p=>a9 (Xe ops.size false) (A p))=fun _=>false:=by
   funext i
   simp only [a9,zN,Xy]
   split<;>rfl
  have Z:=sV L B ops.size (w.tape w.drawn (.order F.fn id)) (Xe ops.size false) (by simp [L.size]) (by rw [Q,<-L.size];exact nQ _)
  rw [Q]at Z
  generalize a1:Region.linearise.go .any ops ops.size (w.tape w.drawn (.order F.fn id)) (Xe ops.size false) []=m at*
  have C:(m.map X).map A=m:=by rw [XR,show(A∘X)=fun i=>i from funext L.st];exact List.map_id' m
  have S: ∀(hx:Hp),mK (some t) l' hx=some h'->(∃I T g,SR P cx l' hx I T F j g dfs d/\Ext mu h w I hx T/\
   Steps P (lone (F.mk' tmps dfs (.inRegion ops (m++[])::k)) (aH d j) {w with drawn:=w.drawn+1}) (lone (F.mk' g dfs (.inRegion ops []::k)) (aH d j) T))->
   Sim P cx h mu w F j tmps dfs d (.code (.region id ops true)::k) k .normal l' h':=by
   rintro hx aL ⟨I,T,g,s',e',st⟩
   obtain⟨a0,s2,e2⟩:=kill_sim s' aL
   rw [XL]at st
   refine⟨a0,T,g,dfs,d,s2,Ext.trans e' e2,Steps.trans (.one ?_) (Steps.trans st (.one nv))⟩
   rw [<-z]
   exact mm
  have U:b+1∈m.map X:=xU (by omega) Z rfl
  rcases befL_or (y:=b+1+1) U with hb|hb
  . refine S h1 Y ?_
    have r:=rq ok hc hcode cx (lh a.toList (b+1)).toArray ops (L.same.tie (b+1)) _ (tN Z (.inr hb)) [] l h l' h1 q ad tr ai
     (by rw [<-M];exact rz _ _ _ _ _ _ (tieL_sh _ _) (uE v) v) ax mu w F j tmps dfs d k s
    rw [C]at r
    exact r
  . have V:b+1+1<a.toList.length:=by rw [hn];omega
    have J:=An a.toList.length (b+1)
    have n:=yu a (gJ a.toList.length (b+1)) (zf V) J (ord2_len _ _) (List.all_eq_true.2 fun o ho=>by unfold iJ;rw [v o ho])
    have pa:eX (b+1) (gJ a.toList.length (b+1))=b+1+1:=tw J (by rw [tM,if_pos V,swN_k1])
    have pb:eX (b+1+1) (gJ a.toList.length (b+1))=b+1:=tw J (by rw [tM,if_pos (by omega),swN_k])
    obtain⟨h3,e3,k3⟩:=al (lh (dY a.toList (gJ a.toList.length (b+1)) (gJ a.toList.length (b+1))) (b+1)) (by rw [tieL_sh,sX]) (uE (pJ v _))
    refine S h3 k3 ?_
    have g2:=xF n B Z
    generalize a2:(fun(p:Nat)=>((gJ a.toList.length (b+1))[p]?).getD p)=σ2 at*
    generalize D:(fun(i:Nat)=>if i<a.size then eX i (gJ a.toList.length (b+1))else i)=τ2 at*
    have ta:τ2 (b+1)=b+1+1:=by rw [<-D];show(if b+1<a.size then _ else _)=_;rw [if_pos (by omega),pa]
    have tb:τ2 (b+1+1)=b+1:=by rw [<-D];show(if b+1+1<a.size then _ else _)=_;rw [if_pos (by omega),pb]
    have W:=zi (f:=τ2) (fun p e=>by rw [<-n.st p,e,n.st]) hb
    rw [ta,tb]at W
    have r:=rq ok hc hcode cx (lh (dY a.toList (gJ a.toList.length (b+1)) (gJ a.toList.length (b+1))) (b+1)).toArray ops ((L.same.comp n).tie (b+1)) _ (tN g2 (.inr W)) [] l h l' h3 q af tr ak e3 ay mu w F j tmps dfs d k s
    have K:((m.map X).map τ2).map (A∘σ2)=m:=by
     rw [XR,show((A∘σ2)∘τ2)=A from funext fun i=>by show A (σ2 (τ2 i))=A i;rw [n.st]]
     exact C
    rw [K]at r
    exact r
 next=>cases u
include ok hc hcode in
theorem xP:tz E P R:=by
 intro g id b l h i j x c m w F d a e f k s
 unfold cutD at c
 cases hf:oE E b.toList with
 |true=>rw [hf]at c;exact forkD_sim ok hc hcode g id b l h i j x c m w F d a e f k s
 |false=>rw [hf]at c;exact Ao ok hc hcode g id b l h i j x c m w F d a e f k s
end

end Go.Ab

namespace Go.Ab

def RLe(R R':Rec):Prop:=(∀f a b h o,R.call f a b h=some o->R'.call f a b h=some o)/\(∀d c l h o,R.code d c l h=some o->R'.code d c l h=some o)
def nH{α:Type}(F:Rec->Option α):Prop:= ∀R a,RLe R a-> ∀o,F R=some o->F a=some o
theorem nH.const{α:Type}(x:Option α):nH (fun _=>x):=fun _ _ _ _ h=>h
theorem nH.bind{α e:Type}{F:Rec->Option α}{G:α->Rec->Option e}(f:nH F)(g: ∀a,nH (G a)):nH (fun R=>(F R).bind fun a=>G a R):=by
 intro R c d o h
 simp only []at h⊢
 cases b:F R with
 |none=>rw [b]at h;cases h
 | some a=>
   rw [b]at h
   rw [f R c d a b]
   exact g a R c d o h

theorem RLe.refl(R:Rec):RLe R R:=⟨fun _ _ _ _ _ h=>h,fun _ _ _ _ _ h=>h⟩
theorem RLe.trans{a b c:Rec}(h:RLe a b)(k:RLe b c):RLe a c:=⟨fun f x g d o e=>k.1 _ _ _ _ _ (h.1 _ _ _ _ _ e),fun i x l d o e=>k.2 _ _ _ _ _ (h.2 _ _ _ _ _ e)⟩

def MC(E:Env)(W:Rec){α:Type}(F:Rec->Option α):Prop:=nH F/\ ∀o,F W=some o-> ∃n,F (run E n)=some o

section
variable{E:Env}{W:Rec}
theorem MC.const{α:Type}(x:Option α):MC E W (fun _=>x):=⟨.const x,fun _ h=>⟨0,h⟩⟩
theorem MC.bind(e: ∀n m,n<=m->RLe (run E n) (run E m)){α f:Type}{F:Rec->Option α}{G:α->Rec->Option f}(b:MC E W F)(c: ∀a,MC E W (G a)):MC E W (fun R=>(F R).bind fun a=>G a R):=by
 refine⟨b.1.bind fun a=>(c a).1,fun o h=>?_⟩
 simp only []at h
 cases d:F W with
 |none=>rw [d]at h;cases h
 | some a=>
   rw [d]at h
   obtain⟨n,g⟩:=b.2 a d
   obtain⟨m,i⟩:=(c a).2 o h
   refine⟨n+m,?_⟩
   simp only []
   rw [b.1 _ _ (e n (n+m) (by omega)) a g]
   exact(c a).1 _ _ (e m (n+m) (by omega)) o i
theorem MC.congr{α:Type}{F F':Rec->Option α}(e: ∀R,F' R=F R)(h:MC E W F):MC E W F':=by
 have:F'=F:=funext e
 rw [this];exact h
end

section
variable(E:Env)
structure Closed(E:Env)(K: ∀{α:Type},(Rec->Option α)->Prop):Prop where
 const: ∀{α:Type} (x:Option α),K (fun _=>x)
 bind: ∀{α β:Type} {F:Rec->Option α} {G:α->Rec->Option β},K F->(∀a,K (G a))->K (fun R=>(F R).bind fun a=>G a R)
 congr: ∀{α:Type} {F F':Rec->Option α},(∀R,F' R=F R)->K F->K F'
 call: ∀f a rc h,K (fun R=>R.call f a rc h)
 code: ∀cx c l h,K (fun R=>R.code cx c l h)
end

section
variable{E:Env}{K: ∀{α:Type},(Rec->Option α)->Prop}(C:Closed E K)
include C

theorem k_round (b:Nat) (args:List Value) (h:Hp):K (fun R=>iQ E R b args h):=by
 unfold iQ
 cases m:h.get b with
 |none=>exact C.const _
 | some x =>
   cases x<;>(try exact C.const _)
   rename_i r
   simp only []
   cases(E.fn r.fn).isSome with
   |false=>exact C.const _
   | true =>
     simp only [cond_true]
     split
     next l =>
      split
      next=>exact C.const _
      next c i=>
       refine C.congr (F:=fun R=>(R.code ⟨r.fn,r.nr,some b⟩ r.assign ⟨c,[],none⟩ h).bind fun q=>match q with
        | (.normal,g,d)=>match d.get b with
          | some (.loop e)=>match e.st with
            | 0 =>(R.code ⟨r.fn,r.nr,some b⟩ r.body g (d.put b (.loop {e with st:=1}))).bind fun q=>match q with
              | (.normal,_,a)=>match a.get b with
                |some (.loop f)=>some (.ret (.bool true),a.put b (.loop {f with st:=0,pending:=none}))
                |_=>none
              | (.exit id,_,a)=>match a.get b with
                |some (.loop f)=>some (.ret (.bool false),a.put b (.loop {f with st:=2,pending:=some (.exit id)}))
                |_=>none
              | (.ret,_,a)=>match a.get b with
                |some (.loop f)=>some (.ret (.bool false),a.put b (.loop {f with st:=2,pending:=some .ret}))
                |_=>none
              | (.pan v,j,a)=>match j.dfs with
                | []=>some (.pan v,a)
                |_=>none
            |_=>none
          |_=>none
        |_=>none) ?_ ?_
       . intro R
         cases R.code ⟨r.fn,r.nr,some b⟩ r.assign ⟨c,[],none⟩ h with
         |none=>rfl
         | some q=>
           obtain⟨x,g,d⟩:=q
           cases x<;>(try rfl)
           simp only [Xs]
           cases d.get b with
           |none=>rfl
           | some y=>
             cases y<;>(try rfl)
             rename_i e
             simp only []
             cases k:e.st with
             | zero=>
               simp only []
               cases R.code ⟨r.fn,r.nr,some b⟩ r.body g (d.put b (.loop {e with st:=1}))with
               |none=>rfl
               |some q=>obtain⟨x,j,a⟩:=q;cases x<;>rfl
             |succ n=>rfl
       . refine C.bind (C.code _ _ _ _) fun q=>?_
         obtain⟨x,g,d⟩:=q
         cases x<;>(try exact C.const _)
         simp only []
         cases d.get b with
         |none=>exact C.const _
         | some y=>
           cases y<;>(try exact C.const _)
           simp only []
           split
           . refine C.bind (C.code _ _ _ _) fun q=>?_
             exact C.const _
           . exact C.const _
     next=>exact C.const _

theorem uP(x:Option (c8×Hp)):K (fun R=>cI E R x):=by
 cases x with
 |none=>exact C.const _
 | some q=>
   obtain⟨e,h⟩:=q
   cases e<;>(try exact C.const _)
   . rename_i f d
     refine C.congr (F:=fun R=>(R.call f d none h).bind fun q=>some (q.1,q.2.2)) (fun R=>?_) (C.bind (C.call _ _ _ _) fun _=>C.const _)
     simp only [cI]
     cases R.call f d none h with
     |none=>rfl
     |some q=>obtain⟨a,b,c⟩:=q;rfl
   . exact k_round C _ _ _

theorem k_stepOp(cx:Cx)(o:Oper)(l:Loc)(h:Hp):K (fun R=>dG E R cx o l h):=by
 unfold dG
 have a:K (fun R=>mI o l (cI E R (aop E l.ev h o.op))):=by
  refine C.congr (F:=fun R=>(cI E R (aop E l.ev h o.op)).bind fun q=>mI o l (some q)) (fun R=>?_) (C.bind (uP C _) fun _=>C.const _)
  cases cI E R (aop E l.ev h o.op)<;>rfl
 cases b:aop E l.ev h o.op with
 |none=>exact C.const _
 | some q=>
   rw [b]at a
   obtain⟨c,d⟩:=q
   cases c<;>(try exact a)
   . cases cx.round<;>exact C.const _
   . cases cx.round<;>exact C.const _

theorem rZ (cx:Cx) (ops:List Oper): ∀(os:List Oper) (l:Loc) (h:Hp),K (fun R=>ik E R cx ops os l h)
 | [],l,h=>C.const _
 | o :: os,l,h=>by
   simp only [ik]
   cases bV ops l.regs o with
   |none=>exact C.const _
   | some b=>
     cases b with
     |false=>exact rZ cx ops os _ _
     | true=>
       refine C.congr (F:=fun R=>(dG E R cx o l h).bind fun q=>match q with
        |(.normal,l',h')=>ik E R cx ops os l' h'
        |q=>some q) (fun R=>?_) (C.bind (k_stepOp C _ _ _ _) fun q=>?_)
       . cases dG E R cx o l h with
         |none=>rfl
         |some q=>obtain⟨x,l',h'⟩:=q;cases x<;>rfl
       . obtain⟨x,l',h'⟩:=q
         cases x<;>first|exact rZ cx ops os _ _|exact C.const _

theorem k_stepD(ρ:Operand->Value)(a:Bool)(o:Oper)(h:Hp):K (fun R=>cw E R ρ a o h):=by
 unfold cw
 cases a with
 | true=>
   refine C.congr (F:=fun R=>(cI E R (aop E ρ {h with lo:=h.n} o.op)).bind fun q=>match q with
    |(.ret v,b)=>bif XO h.n b.lo then some (v,{b with lo:=h.lo})else none
    |_=>none) (fun R=>?_) (C.bind (uP C _) fun _=>C.const _)
   simp only [cond_true]
   cases cI E R (aop E ρ {h with lo:=h.n} o.op)with
   |none=>rfl
   |some q=>obtain⟨x,b⟩:=q;cases x<;>rfl
 | false=>
   refine C.congr (F:=fun R=>(cI E R (aop E ρ h o.op)).bind fun q=>match q with
    |(.ret v,b)=>some (v,b)
    |_=>none) (fun R=>?_) (C.bind (uP C _) fun _=>C.const _)
   simp only [cond_false]
   cases cI E R (aop E ρ h o.op)with
   |none=>rfl
   |some q=>obtain⟨x,b⟩:=q;cases x<;>rfl

theorem om (ops:List Oper) (q:Nat): ∀(os:List Oper) (i:Nat) (l:Loc) (h:Hp) (c:List (Nat×Tch)),K (fun R=>a8 E R ops q os i l h c)
 | [],i,l,h,c=>C.const _
 | o :: os,i,l,h,c=>by
   simp only [a8]
   cases bV ops l.regs o with
   |none=>exact C.const _
   | some b=>
     cases b with
     |false=>exact om ops q os _ _ _ _
     | true=>
       refine C.congr (F:=fun R=>(cw E R (l.evD (tmpsOf o.op.operands.toList)) (dQ E q i o.op) o h).bind fun p=>
        a8 E R ops q os (i+1) (l.put o.dst p.1) p.2 (gw i c (bU (l.evD (tmpsOf o.op.operands.toList)) (dQ E q i o.op) o.op h p.2))) (fun R=>?_) (C.bind (k_stepD C _ _ _ _) fun q=>om ops _ os _ _ _ _)
       cases cw E R (l.evD (tmpsOf o.op.operands.toList)) (dQ E q i o.op) o h with
       |none=>rfl
       |some p=>obtain⟨a,b⟩:=p;rfl

theorem k_range (cx:Cx) (f:Value) (params:Array Tmp) (assign body:Code) (l:Loc) (h:Hp):K (fun R=>ie R cx f params assign body l h):=by
 unfold ie
 cases f<;>(try exact C.const _)
 rename_i t a b
 cases t<;>(try exact C.const _)
 rename_i g
 simp only []
 split
 . exact C.const _
 . rename_i e d c _
   refine C.congr (F:=fun R=>(R.call g (a.toList++[.func (.yield e.n) #[] #[]]++b.toList) none
    (e.new (.loop {fn:=cx.fn,regs:=l.regs,nr:=cx.nr,params,assign,body,st:=0,pending:=none,defers:=d}))).bind fun q=>match q with
    |(.pan v,_,i)=>some (.pan v,{l with dfs:=c},i)
    | (.ret _,_,i)=>match i.get e.n with
      | some (.loop x)=>match x.st with
        |1=>none
        | _=>match x.pending with
          |none=>some (.normal,{l with dfs:=c},i.put e.n .dead)
          |some (.exit id)=>some (.exit id,{l with dfs:=c},i.put e.n .dead)
          |some .ret=>some (.ret,{l with dfs:=c},i.put e.n .dead)
          |_=>none
      |_=>none) (fun R=>?_) (C.bind (C.call _ _ _ _) fun _=>C.const _)
   cases R.call g (a.toList++[.func (.yield e.n) #[] #[]]++b.toList) none
         (e.new (.loop {fn:=cx.fn,regs:=l.regs,nr:=cx.nr,params,assign,body,st:=0,pending:=none,defers:=d}))with
   |none=>rfl
   |some q=>obtain⟨x,y,z⟩:=q;cases x<;>rfl

theorem k_code(cx:Cx): ∀(c:Code) (l:Loc) (h:Hp),K (fun R=>aE E R cx c l h):=by
 intro c
 induction c with
 |skip=>intro l h;exact C.const _
 |label n=>intro l h;exact C.const _
 | region id d r=>
   intro l h
   simp only [aE]
   cases r with
   |false=>exact rZ C _ _ _ _ _
   | true=>
     simp only [cond_true]
     cases E.cut cx.fn with
     | false=>
       simp only [cond_false]
       cases iS E (bC d.toList)with
       |none=>exact C.const _
       | some p=>
         obtain⟨q,o⟩:=p
         simp only []
         refine C.congr (F:=fun R=>(a8 E R (bC d.toList) q (bC d.toList) 0 l h []).bind fun x=>bif cg x.2.2 o then some (.normal,x.1,x.2.1)else none) (fun R=>?_) (C.bind (om C _ _ _ _ _ _ _) fun _=>C.const _)
         cases a8 E R (bC d.toList) q (bC d.toList) 0 l h []with
         |none=>rfl
         |some x=>obtain⟨a,b,c⟩:=x;rfl
     | true =>
       simp only [cond_true,cutD]
       cases oE E d.toList with
       | true=>
         simp only [cond_true,forkD]
         cases rX E (bC d.toList)with
         |none=>exact C.const _
         | some p=>
           obtain⟨q,o⟩:=p
           simp only []
           refine C.congr (F:=fun R=>(a8 E R (bC d.toList) q (bC d.toList) 0 l h []).bind fun x=>bif cg x.2.2 o then(match mK (pA E (bC d.toList) (lu (bC d.toList))) x.1 x.2.1 with
            |some y=>some (.normal,x.1,y)
            |none=>none)else none) (fun R=>?_) (C.bind (om C _ _ _ _ _ _ _) fun _=>C.const _)
           cases a8 E R (bC d.toList) q (bC d.toList) 0 l h []with
           |none=>rfl
           |some x=>obtain⟨a,b,c⟩:=x;rfl
       |false=>
       simp only [cond_false,rF]
       cases n8 d.toList (d.toList.length-1)with
       |false=>exact C.const _
       | true=>
         simp only [cond_true]
         generalize bC (d.toList.take (d.toList.length-1))=A
         cases iS E A with
         |none=>exact C.const _
         | some p=>
           obtain⟨q,o⟩:=p
           simp only []
           refine C.congr (F:=fun R=>(a8 E R A q A 0 l h []).bind fun x=>bif cg x.2.2 o then ik E R cx d.toList (d.toList.drop (d.toList.length-1)) x.1 x.2.1 else none) (fun R=>?_) (C.bind (om C _ _ _ _ _ _ _) fun x=>?_)
           . cases a8 E R A q A 0 l h []with
             |none=>rfl
             |some x=>obtain⟨a,b,c⟩:=x;rfl
           . cases cg x.2.2 o with
             |false=>exact C.const _
             |true=>exact rZ C _ _ _ _ _
 | seq a b j k=>
   intro l h
   simp only [aE]
   refine C.congr (F:=fun R=>(aE E R cx a l h).bind fun q=>match q with
    |(.normal,e,g)=>aE E R cx b e g
    |q=>some q) (fun R=>?_) (C.bind (j _ _) fun q=>?_)
   . cases aE E R cx a l h with
     |none=>rfl
     |some q=>obtain⟨x,e,g⟩:=q;cases x<;>rfl
   . obtain⟨x,e,g⟩:=q
     cases x<;>first|exact k _ _|exact C.const _
 | cond c a b j k=>
   intro l h
   simp only [aE]
   cases l.ev c<;>(try exact C.const _)
   rename_i t
   cases t
   . exact k _ _
   . exact j _ _
 | block id b s=>
   intro l h
   simp only [aE]
   refine C.congr (F:=fun R=>(aE E R cx b l h).bind fun q=>match q with
    |(.exit i,e,g)=>bif Xt i id then some (.normal,e,g)else some (.exit i,e,g)
    |q=>some q) (fun R=>?_) (C.bind (s _ _) fun _=>C.const _)
   cases aE E R cx b l h with
   |none=>rfl
   |some q=>obtain⟨x,e,g⟩:=q;cases x<;>rfl
 | loop b s=>
   intro l h
   simp only [aE]
   refine C.congr (F:=fun R=>(aE E R cx b l h).bind fun q=>match q with
    |(.normal,e,g)=>R.code cx (.loop b) e g
    |q=>some q) (fun R=>?_) (C.bind (s _ _) fun q=>?_)
   . cases aE E R cx b l h with
     |none=>rfl
     |some q=>obtain⟨x,e,g⟩:=q;cases x<;>rfl
   . obtain⟨x,e,g⟩:=q
     cases x<;>first|exact C.code _ _ _ _|exact C.const _
 |rangeFunc f u v w _ _=>intro l h;exact k_range C _ _ _ _ _ _ _
 |exit id=>intro l h;exact C.const _
 |scope b s=>intro l h;exact s _ _
 |goto n=>intro l h;exact C.const _
 |ret=>intro l h;exact C.const _
 |refuse m=>intro l h;exact C.const _

theorem oB : ∀(e:List Deferred) (m:Option Value) (h:Hp),K (fun R=>bR R e m h)
 | [],m,h=>C.const _
 | d :: e,m,h=>by
   simp only [bR]
   cases d.target with
   |nil=>exact C.const _
   |builtin a b c d=>exact C.const _
   |coroexit=>exact C.const _
   | collected b=>
     simp only []
     cases h.get b with
     |none=>exact C.const _
     |some x=>cases x<;>first|exact oB e _ _|exact C.const _
   | fn t cap=>
     cases t<;>(try exact C.const _)
     rename_i f
     simp only []
     refine C.congr (F:=fun R=>(R.call f (d.args.toList++cap.toList) (match m with|none=>none|some v=>some (v,false)) h).bind fun q=>match q with
      | (.ret _,g,h')=>match m,g with
        |none,none=>bR R e none h'
        |some _,some (_,true)=>bR R e none h'
        |some _,some (v,false)=>bR R e (some v) h'
        |_,_=>none
      |_=>none) (fun R=>?_) (C.bind (C.call _ _ _ _) fun q=>?_)
     . cases R.call f (d.args.toList++cap.toList) (match m with|none=>none|some v=>some (v,false)) h with
       |none=>rfl
       |some q=>obtain⟨x,y,z⟩:=q;cases x<;>rfl
     . obtain⟨x,g,h'⟩:=q
       cases x with
       |pan v=>exact C.const _
       | ret v=>
         simp only []
         cases m with
         |none=>cases g<;>first|exact oB e _ _|exact C.const _
         | some i=>
           cases g with
           |none=>exact C.const _
           |some y=>obtain⟨j,b⟩:=y;cases b<;>exact oB e _ _

theorem k_body (f:FuncId) (args:List Value) (i:Option (Value×Bool)) (h:Hp):K (fun R=>jG E R f args i h):=by
 unfold jG
 cases E.fn f with
 |none=>exact C.const _
 | some b =>
   simp only []
   cases b.body with
   |none=>exact C.const _
   | some e=>
     simp only []
     cases XO args.length b.ntmps with
     |false=>exact C.const _
     | true =>
       simp only [cond_true]
       have g: ∀(l:Loc) (c:Hp),K (fun R=>match bR R l.dfs none c with
        | some (none,a)=>match aU E l.regs a b.results.toList with
          |none=>none
          |some d=>some (Out.ret (ac d),l.rc,a)
        |_=>none):=by
        intro l c
        refine C.congr (F:=fun R=>(bR R l.dfs none c).bind fun q=>match q with
         | (none,a)=>match aU E l.regs a b.results.toList with
           |none=>none
           |some d=>some (Out.ret (ac d),l.rc,a)
         |_=>none) (fun R=>?_) (C.bind (oB C _ _ _) fun _=>C.const _)
        cases bR R l.dfs none c with
        |none=>rfl
        |some q=>obtain⟨x,y⟩:=q;cases x<;>rfl
       refine C.congr (F:=fun R=>(R.code ⟨f,b.ntmps,none⟩ e ⟨(Tr.blank (.tuple #[]) b.ntmps b.ntmps).setAll 0 args,[],i⟩ h).bind fun q=>match q with
        |(.exit _,_,_)=>none
        | (.pan v,l,c)=>match bR R l.dfs (some v) c with
          |none=>none
          |some (some v,a)=>some (Out.pan v,l.rc,a)
          | some (none,a)=>match aU E l.regs a b.results.toList with
            |none=>none
            |some d=>some (Out.ret (ac d),l.rc,a)
        | (_,l,c)=>match bR R l.dfs none c with
          | some (none,a)=>match aU E l.regs a b.results.toList with
            |none=>none
            |some d=>some (Out.ret (ac d),l.rc,a)
          |_=>none) (fun R=>?_) (C.bind (C.code _ _ _ _) fun q=>?_)
       . cases R.code ⟨f,b.ntmps,none⟩ e ⟨(Tr.blank (.tuple #[]) b.ntmps b.ntmps).setAll 0 args,[],i⟩ h with
         |none=>rfl
         |some q=>obtain⟨x,y,z⟩:=q;cases x<;>rfl
       . obtain⟨x,l,c⟩:=q
         cases x with
         |exit id=>exact C.const _
         |normal=>exact g l c
         |ret=>exact g l c
         | pan v=>
           simp only []
           refine C.congr (F:=fun R=>(bR R l.dfs (some v) c).bind fun q=>match q with
            |(some v,a)=>some (Out.pan v,l.rc,a)
            | (none,a)=>match aU E l.regs a b.results.toList with
              |none=>none
              |some d=>some (Out.ret (ac d),l.rc,a)) (fun R=>?_) (C.bind (oB C _ _ _) fun _=>C.const _)
           cases bR R l.dfs (some v) c with
           |none=>rfl
           |some q=>obtain⟨x,y⟩:=q;cases x<;>rfl
theorem k_call(f:FuncId)(args:List Value)(a:Option (Value×Bool))(h:Hp):K (fun R=>iq E R f args a h):=by
 unfold iq
 cases E.orc f args with
 |none=>exact k_body C f args a h
 |some v=>cases a<;>exact C.const _
end

theorem ji(E:Env):Closed E (fun F=>nH F)where
 const:=nH.const
 bind:=fun hF hG=>hF.bind hG
 congr:=fun e h=>by have:=funext e;rw [this];exact h
 call:=fun f a rc h R R' le o=>le.1 f a rc h o
 code:=fun cx c l h R R' le o=>le.2 cx c l h o

theorem next_mono{E:Env}{R R':Rec}(h:RLe R R'):RLe (next E R) (next E R'):=
 ⟨fun f a d b o e=>k_call (ji E) f a d b R R' h o e,fun g c l b o e=>k_code (ji E) g c l b R R' h o e⟩
theorem yL{E:Env}: ∀n,RLe (run E n) (run E (n+1))
 | 0=>by
   constructor
   . intro f a b h o e;cases e
   . intro d c l h o e;cases e
 |n+1=>next_mono (yL n)
theorem run_up{E:Env}(n m:Nat)(h:n<=m):RLe (run E n) (run E m):=by
 induction m with
 | zero => have:n=0:=by omega
           subst this;exact RLe.refl _
 | succ m a=>
   by_cases e:n=m+1
   . subst e;exact RLe.refl _
   . exact(a (by omega)).trans (yL m)

open Classical in
noncomputable def limOf{α:Type}(F:Nat->Option α):Option α:=if h: ∃n o,F n=some o then some (Classical.choose (Classical.choose_spec h))else none
theorem uf{α:Type}{F:Nat->Option α}(d: ∀n m,n<=m-> ∀o,F n=some o->F m=some o){o:α}:limOf F=some o↔ ∃n,F n=some o:=by
 constructor
 . intro h
   unfold limOf at h
   split at h
   . rename_i c
     cases h
     exact⟨_,Classical.choose_spec (Classical.choose_spec c)⟩
   . cases h
 . intro⟨n,h⟩
   unfold limOf
   have c: ∃n o,F n=some o:=⟨n,o,h⟩
   rw [dif_pos c]
   have e:=Classical.choose_spec (Classical.choose_spec c)
   have a:=d _ (n+Classical.choose c) (by omega) _ h
   have b:=d _ (n+Classical.choose c) (by omega) _ e
   rw [a]at b;cases b;rfl

noncomputable def lim(E:Env):Rec where
 call:=fun f a rc h=>limOf fun n=>(run E n).call f a rc h
 code:=fun cx c l h=>limOf fun n=>(run E n).code cx c l h
theorem oA{E:Env}{f:FuncId}{a:List Value}{c:Option (Value×Bool)}{h:Hp}{o:Out×Option (Value×Bool)×Hp}:(lim E).call f a c h=some o↔ ∃n,(run E n).call f a c h=some o:=
 uf fun n m b o e=>(run_up n m b).1 _ _ _ _ _ e
theorem qw{E:Env}{cx:Cx}{c:Code}{l:Loc}{h:Hp}{o:Ex×Loc×Hp}:(lim E).code cx c l h=some o↔ ∃n,(run E n).code cx c l h=some o:=
 uf fun n m a o e=>(run_up n m a).2 _ _ _ _ _ e
theorem run_lim{E:Env}(n:Nat):RLe (run E n) (lim E):=⟨fun _ _ _ _ _ h=>oA.2 ⟨n,h⟩,fun _ _ _ _ _ h=>qw.2 ⟨n,h⟩⟩

theorem ur(E:Env):Closed E (fun F=>MC E (lim E) F)where
 const:=MC.const
 bind:=fun hF hG=>MC.bind run_up hF hG
 congr:=fun e h=>MC.congr e h
 call:=fun f a rc h=>⟨(ji E).call f a rc h,fun _ e=>oA.1 e⟩
 code:=fun cx c l h=>⟨(ji E).code cx c l h,fun _ e=>qw.1 e⟩

theorem tR{α:Type}{x y:Option α}(h: ∀o,x=some o↔y=some o):x=y:=by
 cases x with
 | none=>cases y with
   |none=>rfl
   |some b=>exact absurd ((h b).2 rfl) (by simp)
 |some a=>exact((h a).1 rfl).symm

theorem call_eq(E:Env)(f:FuncId)(a:List Value)(b:Option (Value×Bool))(h:Hp):(lim E).call f a b h=iq E (lim E) f a b h:=by
 refine tR fun o=>⟨fun e=>?_,fun e=>?_⟩
 . obtain⟨n,c⟩:=oA.1 e
   cases n with
   |zero=>cases c
   |succ n=>exact k_call (ji E) f a b h _ _ (run_lim n) o c
 . obtain⟨n,c⟩:=(k_call (ur E) f a b h).2 o e
   exact oA.2 ⟨n+1,c⟩
theorem vd(E:Env)(cx:Cx)(c:Code)(l:Loc)(h:Hp):(lim E).code cx c l h=aE E (lim E) cx c l h:=by
 refine tR fun o=>⟨fun e=>?_,fun e=>?_⟩
 . obtain⟨n,a⟩:=qw.1 e
   cases n with
   |zero=>cases a
   |succ n=>exact k_code (ji E) cx c l h _ _ (run_lim n) o a
 . obtain⟨n,a⟩:=(k_code (ur E) cx c l h).2 o e
   exact qw.2 ⟨n+1,a⟩

theorem lim_ok{E:Env}{P:Program}(a:EOk E P):fW E P (lim E).call:=by
 intro g b j h o e k f
 obtain⟨n,i⟩:=oA.1 f
 exact(run_ok a (fun _ c d=>⟨draw_ok a c d,xP a c d⟩) n).1 _ _ _ _ _ _ _ i
end Go.Ab
namespace Go.Ab
theorem zG{E:Env}{P:Program}{R:Rec}(p:fW E P R.call){f:FuncId}{args:List Value}{v:Value}{h':Hp}(i:args.all cJ=true)(l:cJ v=true)
 (q:R.call f args none hp0=some (.ret v,none,h')):(∃m,E.fn f=some m/\m.body.isSome=true)/\OrcAt P f args v:=by
 obtain⟨r,s⟩:=p _ _ _ _ _ _ _ q
 refine⟨r,i,l,fun w j d t=>?_⟩
 obtain⟨u,y,e,z,I,g,A,J,B,C,D⟩:=s mu0 w ⟨args⟩ none j d (hrel0 w) glob0 (LR.refl fun a k=>ao.const mu0 (by simp only [List.all_eq_true]at i;exact i a k)) trivial t
 cases e with
 |some x=>exact A.elim
 | none=>
   obtain⟨K,n,F⟩:=C
   rw [ao.const_eq l F]at n
   exact⟨y,z,⟨fun c G=>g.frame c G (by intro b o H h;unfold mu0 at h;split at h<;>cases h),g.wsize,g.os,g.tape,g.output⟩,B,n,D⟩
theorem AZ{E:Env}{P:Program}(a:EOk E P){n:Nat}{f:FuncId}{args:List Value}{v:Value}{h':Hp}(e:args.all cJ=true)(g:cJ v=true)
 (h:(run E n).call f args none hp0=some (.ret v,none,h')):(∃b,E.fn f=some b/\b.body.isSome=true)/\OrcAt P f args v:=
 zG (R:=run E n) (run_ok a (fun _ c d=>⟨draw_ok a c d,xP a c d⟩) n).1 e g h
end Go.Ab

namespace Go.Ab

def tabF:Nat->Nat->(Nat->Value)->Tr Value
 |0,_,_=>.nil
 | f+1,n,a=>match n with
   |0=>.nil
   |k+1=>.node (a 0) (tabF f ((k+1)/2) fun i=>a (2*i+1)) (tabF f (k/2) fun i=>a (2*i+2))
def tab(n:Nat)(ρ:Nat->Value):Tr Value:=tabF n n ρ
theorem get_tabF(f n:Nat)(ρ:Nat->Value)(h:n<=f)(j:Nat):(tabF f n ρ).get j=if j<n then some (ρ j)else none:=by
 induction f generalizing n j ρ with
 | zero => have:n=0:=by omega
           subst this;simp [tabF,Tr.get_nil]
 | succ f a=>
   cases n with
   |zero=>simp [tabF,Tr.get_nil]
   | succ k=>
     simp only [tabF]
     rw [Tr.get_node]
     cases j with
     |zero=>simp
     | succ m=>
       simp only []
       by_cases b:m%2=0
       . simp only [b,if_true];rw [a _ _ (by omega) (m/2)]
         have:m/2<(k+1)/2↔m+1<k+1:=by omega
         simp only [this,show 2*(m/2)+1=m+1 by omega]
       . simp only [b,if_false];rw [a _ _ (by omega) (m/2)]
         have:m/2<k/2↔m+1<k+1:=by omega
         simp only [this,show 2*(m/2)+2=m+1 by omega]
theorem kT(n:Nat)(ρ:Nat->Value)(j:Nat):(tab n ρ).get j=if j<n then some (ρ j)else none:=get_tabF n n ρ (Xd _) j
theorem Tr.ext{α:Type}{t t':Tr α}(h: ∀i,t.get i=t'.get i):t=t':=by
 induction t generalizing t' with
 | nil=>
   cases t' with
   |nil=>rfl
   |node y l r=>have:=h 0;simp [Tr.get_nil,Tr.get_node]at this
 | node x l r a b=>
   cases t' with
   |nil=>have:=h 0;simp [Tr.get_nil,Tr.get_node]at this
   | node y d e=>
     have c:=h 0
     simp [Tr.get_node]at c
     subst c
     rw [a (t':=d) (fun i=>by have:=h (2*i+1);simp only [Tr.get_node]at this;rw [if_pos (by omega),if_pos (by omega),show 2*i/2=i by omega]at this;exact this),
      b (t':=e) (fun i=>by have:=h (2*i+2);simp only [Tr.get_node]at this;rw [if_neg (by omega),if_neg (by omega),show(2*i+1)/2=i by omega]at this;exact this)]

def aa(ρ:Nat->Value)(t:Nat)(v:Value):Nat->Value:=fun i=>if i=t then v else ρ i
theorem aO(ρ:Nat->Value)(t:Nat)(v:Value)(i:Nat):aa ρ t v i=if i=t then v else ρ i:=rfl
theorem tab_set(n:Nat)(ρ:Nat->Value)(t:Nat)(v:Value):(tab n ρ).set t v=tab n (aa ρ t v):=by
 apply Tr.ext
 intro i
 rw [Tr.get_set,kT,kT]
 by_cases a:i<n
 . by_cases e:t=i
   . subst e;simp [a,aa]
   . simp [a,e,aa,Ne.symm e]
 . simp [a]
def cD:List Value->Nat->Value
 | [],_=>.tuple #[]
 | v::l,i=>match i with
   |0=>v
   |i+1=>cD l i
theorem argR_eq(l:List Value)(i:Nat):cD l i=(l[i]?).getD (.tuple #[]):=by
 induction l generalizing i with
 |nil=>rfl
 | cons v l a=>cases i with
   |zero=>rfl
   |succ i=>simp [cD,a]
theorem args_tab{n:Nat}{args:List Value}(h:args.length<=n):(Tr.blank (.tuple #[]) n n:Tr Value).setAll 0 args=tab n (cD args):=by
 apply Tr.ext
 intro i
 rw [Tr.get_setAll _ 0 args n (Tr.sized_blank _ _ _ (Xd _)) (by omega),kT,Tr.get_blank _ _ _ (Xd _),argR_eq]
 by_cases b:i<args.length
 . rw [if_pos ⟨XS _,by omega⟩,if_pos (by omega)];simp [b]
 . rw [if_neg (by omega)]
   by_cases a:i<n
   . simp [a];rw [XE (by omega)];rfl
   . simp [a]

def LL(n:Nat)(ρ:Nat->Value)(d:List Deferred)(a:Option (Value×Bool)):Loc:=⟨tab n ρ,d,a⟩
theorem cM(n:Nat)(ρ:Nat->Value)(d:List Deferred)(a:Option (Value×Bool))(t:Nat)(v:Value):(LL n ρ d a).put (some t) v=LL n (aa ρ t v) d a:=by
 simp only [LL,Loc.put,tab_set]
theorem ll_put0(l:Loc)(v:Value):l.put none v=l:=rfl
theorem cb(n:Nat)(ρ:Nat->Value)(d:List Deferred)(a:Option (Value×Bool))(t:Nat)(h:t<n):(LL n ρ d a).ev (.tmp t)=ρ t:=by
 simp only [LL,Loc.ev,kT,if_pos h]
theorem ll_func(l:Loc)(f:Nat):l.ev (.func f)=.func (.func f) #[] #[]:=rfl
theorem ll_regs(n:Nat)(ρ:Nat->Value)(d:List Deferred)(a:Option (Value×Bool)):(LL n ρ d a).regs=tab n ρ:=rfl
def Then(x:Option (Ex×Loc×Hp))(K:Ex->Loc->Hp->Prop):Prop:= ∃e l h,x=some (e,l,h)/\K e l h
theorem fJ{e:Ex}{l:Loc}{h:Hp}{K:Ex->Loc->Hp->Prop}:Then (some (e,l,h)) K↔K e l h:=by
 constructor
 . intro⟨_,_,_,b,a⟩;cases b;exact a
 . intro a;exact⟨_,_,_,rfl,a⟩

abbrev ew:=Ex->Loc->Hp->Prop
inductive Fr where
 |code (c:Code)
 |blk (id:Nat)
 |ops (all os:List Oper)
 |opsD (all:List Oper) (q:Nat) (ps:List (Nat×Nat)) (os:List Oper) (i:Nat) (tr:List (Nat×Tch))
 |kill (t:Tmp)
section
variable(E:Env)(R:Rec)(cx:Cx)(Q:ew)
def Run:List Fr->Ex->Loc->Hp->Prop
 | [],e,l,h=>Q e l h
 | .code c::k,.normal,l,h=> ∃g d f,aE E R cx c l h=some (g,d,f)/\Run k g d f
 | .ops a m::k,.normal,l,h=> ∃g d f,ik E R cx a m l h=some (g,d,f)/\Run k g d f
 | .opsD a q n m i o::k,.normal,l,h=> ∃d f j,a8 E R a q m i l h o=some (d,f,j)/\cg j n=true/\Run k .normal d f
 | .kill t::k,.normal,l,h=> ∃b p c,l.ev (.tmp t)=.map (some b)/\h.get b=some (.map p c)/\Run k .normal l (h.put b .dead)
 | .blk _::k,.normal,l,h=>Run k .normal l h
 | .blk id::k,.exit i,l,h=>if i=id then Run k .normal l h else Run k (.exit i) l h
 |_::k,.exit i,l,h=>Run k (.exit i) l h
 |_::k,.ret,l,h=>Run k .ret l h
 |_::k,.pan v,l,h=>Run k (.pan v) l h
end
section
variable{E:Env}{R:Rec}{cx:Cx}{Q:ew}{k:List Fr}{l:Loc}{h:Hp}

theorem run_nil{e:Ex}:Run E R cx Q [] e l h↔Q e l h:=Xu
theorem run_skip:Run E R cx Q (.code .skip::k) .normal l h↔Run E R cx Q k .normal l h:=by simp only [Run,aE];exact fJ
theorem run_label{n:Nat}:Run E R cx Q (.code (.label n)::k) .normal l h↔Run E R cx Q k .normal l h:=by simp only [Run,aE];exact fJ
theorem run_seq{a b:Code}:Run E R cx Q (.code (.seq a b)::k) .normal l h↔Run E R cx Q (.code a:: .code b::k) .normal l h:=by
 simp only [Run,aE]
 constructor
 . intro⟨e',l',h',c,h2⟩
   cases e:aE E R cx a l h with
   |none=>rw [e]at c;cases c
   | some q=>
     obtain⟨x,f,d⟩:=q
     rw [e]at c
     refine⟨x,f,d,rfl,?_⟩
     cases x with
     |normal=>exact⟨e',l',h',c,h2⟩
     |exit i=>cases c;exact h2
     |ret=>cases c;exact h2
     |pan v=>cases c;exact h2
 . intro⟨x,f,d,e,h2⟩
   rw [e]
   cases x with
   |normal=>exact h2
   |exit i=>exact⟨_,_,_,rfl,h2⟩
   |ret=>exact⟨_,_,_,rfl,h2⟩
   |pan v=>exact⟨_,_,_,rfl,h2⟩
theorem run_block {id:Nat} {b:Code}:Run E R cx Q (.code (.block id b)::k) .normal l h↔Run E R cx Q (.code b:: .blk id::k) .normal l h:=by
 simp only [Run,aE]
 constructor
 . intro ⟨e',l',h',a,h2⟩
   cases f:aE E R cx b l h with
   |none=>rw [f]at a;cases a
   | some q=>
     obtain⟨x,g,d⟩:=q
     rw [f]at a
     refine⟨x,g,d,rfl,?_⟩
     cases x with
     |normal=>cases a;exact h2
     | exit i=>
       simp only []at a
       cases c:Xt i id with
       |true=>rw [c]at a;cases a;have:=Xb c;subst this;simp only [Run,if_true];exact h2
       | false=>
         rw [c]at a;cases a
         simp only [Run]
         rw [if_neg (by intro e;subst e;rw [Xk]at c;cases c)];exact h2
     |ret=>cases a;exact h2
     |pan v=>cases a;exact h2
 . intro⟨x,g,d,f,h2⟩
   rw [f]
   cases x with
   |normal=>exact⟨_,_,_,rfl,h2⟩
   | exit i=>
     simp only [Run]at h2
     simp only []
     by_cases c:i=id
     . subst c;rw [if_pos rfl]at h2;rw [Xk];exact⟨_,_,_,rfl,h2⟩
     . rw [if_neg c]at h2
       have:Xt i id=false:=by
        cases j:Xt i id with
        |false=>rfl
        |true=>exact absurd (Xb j) c
       rw [this];exact⟨_,_,_,rfl,h2⟩
   |ret=>exact⟨_,_,_,rfl,h2⟩
   |pan v=>exact⟨_,_,_,rfl,h2⟩
theorem run_scope{b:Code}:Run E R cx Q (.code (.scope b)::k) .normal l h↔Run E R cx Q (.code b::k) .normal l h:=Xu
theorem run_blk{id:Nat}:Run E R cx Q (.blk id::k) .normal l h↔Run E R cx Q k .normal l h:=Xu
theorem run_exit{id:Nat}:Run E R cx Q (.code (.exit id)::k) .normal l h↔Run E R cx Q k (.exit id) l h:=by simp only [Run,aE];exact fJ
theorem run_ret:Run E R cx Q (.code .ret::k) .normal l h↔Run E R cx Q k .ret l h:=by simp only [Run,aE];exact fJ
theorem ym{id i:Nat}:Run E R cx Q (.blk id::k) (.exit i) l h↔if i=id then Run E R cx Q k .normal l h else Run E R cx Q k (.exit i) l h:=Xu
theorem xh{c:Code}{i:Nat}:Run E R cx Q (.code c::k) (.exit i) l h↔Run E R cx Q k (.exit i) l h:=Xu
theorem yN{a os:List Oper}{i:Nat}:Run E R cx Q (.ops a os::k) (.exit i) l h↔Run E R cx Q k (.exit i) l h:=Xu
theorem Ap{f:Fr}:Run E R cx Q (f::k) .ret l h↔Run E R cx Q k .ret l h:=by cases f<;>exact Xu
theorem AK{f:Fr}{v:Value}:Run E R cx Q (f::k) (.pan v) l h↔Run E R cx Q k (.pan v) l h:=by cases f<;>exact Xu
theorem run_cond{c:Operand}{a b:Code}:Run E R cx Q (.code (.cond c a b)::k) .normal l h↔ ∃t,l.ev c=.bool t/\if t=true then Run E R cx Q (.code a::k) .normal l h else Run E R cx Q (.code b::k) .normal l h:=by
 simp only [Run,aE]
 constructor
 . intro⟨e',l',h',d,h2⟩
   cases e:l.ev c<;>rw [e]at d<;>(try (cases d;done))
   rename_i t
   cases t with
   |true=>exact⟨true,rfl,by rw [if_pos rfl];exact⟨e',l',h',d,h2⟩⟩
   |false=>exact⟨false,rfl,by rw [if_neg (by simp)];exact⟨e',l',h',d,h2⟩⟩
 . intro⟨t,e,h2⟩
   rw [e]
   cases t with
   |true=>rw [if_pos rfl]at h2;exact h2
   |false=>rw [if_neg (by simp)]at h2;exact h2
theorem A7{id:Nat}{ops:Array Oper}:Run E R cx Q (.code (.region id ops false)::k) .normal l h↔Run E R cx Q (.ops ops.toList ops.toList::k) .normal l h:=by simp only [Run,aE,cond_false]
theorem zt{a:List Oper}:Run E R cx Q (.ops a []::k) .normal l h↔Run E R cx Q k .normal l h:=by simp only [Run,ik];exact fJ
theorem yF{a os:List Oper}{o:Oper}:Run E R cx Q (.ops a (o::os)::k) .normal l h↔ ∃b,bV a l.regs o=some b/\
 (if b=true then Then (dG E R cx o l h) fun e l' h'=>Run E R cx Q (.ops a os::k) e l' h' else Run E R cx Q (.ops a os::k) .normal (l.put o.dst (.tuple #[])) h):=by
 simp only [Run,ik]
 constructor
 . intro ⟨e',l',h',d,c⟩
   cases g:bV a l.regs o with
   |none=>rw [g]at d;cases d
   | some b=>
     rw [g]at d
     refine⟨b,rfl,?_⟩
     cases b with
     |false=>rw [if_neg (by simp)];exact⟨e',l',h',d,c⟩
     | true=>
       rw [if_pos rfl]
       simp only []at d
       cases j:dG E R cx o l h with
       |none=>rw [j]at d;cases d
       | some q=>
         obtain⟨x,m,f⟩:=q
         rw [j]at d
         refine⟨x,m,f,rfl,?_⟩
         cases x with
         |normal=>exact⟨e',l',h',d,c⟩
         |exit i=>cases d;exact c
         |ret=>cases d;exact c
         |pan v=>cases d;exact c
 . intro⟨b,g,c⟩
   rw [g]
   cases b with
   |false=>rw [if_neg (by simp)]at c;exact c
   | true=>
     rw [if_pos rfl]at c
     obtain⟨x,m,f,j,c⟩:=c
     simp only [j]
     cases x with
     |normal=>exact c
     |exit i=>exact⟨_,_,_,rfl,c⟩
     |ret=>exact⟨_,_,_,rfl,c⟩
     |pan v=>exact⟨_,_,_,rfl,c⟩

theorem run_draw{id:Nat}{ops:Array Oper}{q:Nat}{ps:List (Nat×Nat)}{os:List Oper}(g:E.cut cx.fn=false)(i:bC ops.toList=os)(j:iS E os=some (q,ps)):Run E R cx Q (.code (.region id ops true)::k) .normal l h↔Run E R cx Q (.opsD os q ps os 0 []::k) .normal l h:=by
 simp only [Run,aE,cond_true,g,cond_false,i,j]
 constructor
 . intro⟨e',l',h',d,h2⟩
   cases f:a8 E R os q os 0 l h []with
   |none=>rw [f]at d;cases d
   | some x=>
     obtain⟨a,b,c⟩:=x
     rw [f]at d
     simp only []at d
     cases e:cg c ps with
     |false=>rw [e]at d;cases d
     |true=>rw [e]at d;cases d;exact⟨_,_,_,rfl,e,h2⟩
 . intro⟨l',h',tr',f,e,h2⟩
   rw [f]
   simp only [e,cond_true]
   exact⟨_,_,_,rfl,h2⟩
theorem run_fork{id:Nat}{ops:Array Oper}{q:Nat}{ps:List (Nat×Nat)}{os:List Oper}{t:Tmp}(a:E.cut cx.fn=true)(d:bC ops.toList=os)(e:pA E os (lu os)=some t)(f:rX E os=some (q,ps))
 (g:Run E R cx Q (.opsD os q ps os 0 []:: .kill t::k) .normal l h):Run E R cx Q (.code (.region id ops true)::k) .normal l h:=by
 obtain⟨r,s,i,j,m,b,u,c,n,o,p⟩:=g
 have hf:oE E ops.toList=true:=by unfold oE;rw [d,e];rfl
 simp only [Run,aE,cond_true,a,cutD,hf,forkD,d,f,j,m,e,mK,n,o]
 exact⟨_,_,_,rfl,p⟩
theorem run_kill{t:Tmp}{b c:Nat}{a:List (Value×Value×Nat)}(d:l.ev (.tmp t)=.map (some b))(e:h.get b=some (.map a c))(f:Run E R cx Q k .normal l (h.put b .dead)):Run E R cx Q (.kill t::k) .normal l h:=⟨b,a,c,d,e,f⟩
theorem run_split{id:Nat}{ops:Array Oper}{q:Nat}{ps:List (Nat×Nat)}{os:List Oper}(a:E.cut cx.fn=true)(c:n8 ops.toList (ops.toList.length-1)=true)(hf:oE E ops.toList=false)(d:bC (ops.toList.take (ops.toList.length-1))=os)(e:iS E os=some (q,ps))
 (f:Run E R cx Q (.opsD os q ps os 0 []:: .ops ops.toList (ops.toList.drop (ops.toList.length-1))::k) .normal l h):Run E R cx Q (.code (.region id ops true)::k) .normal l h:=by
 obtain⟨n,o,g,i,j,p,r,s,b,m⟩:=f
 simp only [Run,aE,cond_true,a,cutD,hf,cond_false,rF,c,d,e,i,j]
 exact⟨_,_,_,b,m⟩
theorem xR{a:List Oper}{q i:Nat}{ps:List (Nat×Nat)}{d:List (Nat×Tch)}:Run E R cx Q (.opsD a q ps [] i d::k) .normal l h↔cg d ps=true/\Run E R cx Q k .normal l h:=by
 simp only [Run,a8]
 constructor
 . intro⟨_,_,_,a,b,c⟩;cases a;exact⟨b,c⟩
 . intro⟨b,c⟩;exact⟨_,_,_,rfl,b,c⟩
theorem xd{a os:List Oper}{o:Oper}{q i:Nat}{ps:List (Nat×Nat)}{g:List (Nat×Tch)}:Run E R cx Q (.opsD a q ps (o::os) i g::k) .normal l h↔ ∃b,bV a l.regs o=some b/\
 (if b=true then∃v h',cw E R (l.evD (tmpsOf o.op.operands.toList)) (dQ E q i o.op) o h=some (v,h')/\
     Run E R cx Q (.opsD a q ps os (i+1) (gw i g (bU (l.evD (tmpsOf o.op.operands.toList)) (dQ E q i o.op) o.op h h'))::k) .normal (l.put o.dst v) h'
   else Run E R cx Q (.opsD a q ps os (i+1) g::k) .normal (l.put o.dst (.tuple #[])) h):=by
 simp only [Run,a8]
 constructor
 . intro⟨l',h',tr',c,d,h3⟩
   cases e:bV a l.regs o with
   |none=>rw [e]at c;cases c
   | some b=>
     rw [e]at c
     refine⟨b,rfl,?_⟩
     cases b with
     |false=>rw [if_neg (by simp)];exact⟨l',h',tr',c,d,h3⟩
     | true=>
       rw [if_pos rfl]
       simp only []at c
       cases f:cw E R (l.evD (tmpsOf o.op.operands.toList)) (dQ E q i o.op) o h with
       |none=>rw [f]at c;cases c
       |some p=>obtain⟨v,j⟩:=p;rw [f]at c;exact⟨v,j,rfl,l',h',tr',c,d,h3⟩
 . intro⟨b,e,d⟩
   rw [e]
   cases b with
   |false=>rw [if_neg (by simp)]at d;exact d
   | true=>
     rw [if_pos rfl]at d
     obtain⟨v,j,f,d⟩:=d
     simp only [f]
     exact d
end
end Go.Ab

namespace Go.Ab

noncomputable def envOf(a:Tr Func)(b:Tr TypeInfo)(c:List Nat):Env:={fn:=fun f=>a.get f,ty:=fun t=>b.get t,eqok:=fun t=>mi t c}

theorem xK{P:Program}{f:FuncId}{b:Func}(hf:P.funcs[f]? =some b)(e:b.body.isSome=true)(c:(b.name== "runtime.NumGoroutine")=false)(args:Array Value)(w:World):
 (callFunc f args).run P w=.ok (.enter f args) w:=by
 have a:b.body.isNone=false:=by cases h:b.body<;>simp_all
 unfold callFunc
 have d:program.run P w=.ok P w:=rfl
 simp only [Sem.run_bind,d,Result.andThen_ok,hf,c,a,Bool.false_eq_true,if_false,Sem.run_pure]

theorem eok_of{P:Program}{fns:Tr Func}{tys:Tr TypeInfo}{eqs:List Nat}(h1:fns=Tr.ofList P.funcs.toList)(h2:tys=Tr.ofList P.types.toList)
 (h3:(P.funcs.toList.all fun fn=>fn.body.isNone|| !(fn.name== "runtime.NumGoroutine"))=true) (h4:(eqs.all fun t=>!P.stoodInHeld t&& !P.eqGuardType P.depth t)=true)
 (h5:P.follows .mixedOrders=true):EOk (envOf fns tys eqs) P where
 fn:=by
  intro f fn h
  have h':fns.get f=some fn:=h
  rw [h1,Tr.get_ofList]at h'
  simpa using h'
 call:=by
  intro f fn args w h hb
  have h':fns.get f=some fn:=h
  rw [h1,Tr.get_ofList]at h'
  have hm:=Xp h'
  have:=(List.all_eq_true.1 h3) fn hm
  refine xK (by simpa using h') hb ?_ args w
  cases hn:(fn.name== "runtime.NumGoroutine")with
  |false=>rfl
  |true=>rw [hn]at this;cases hx:fn.body<;>simp_all
 ty:=by
  intro t i h
  have h':tys.get t=some i:=h
  rw [h2,Tr.get_ofList]at h'
  show P.toTables.info? t=some i
  have hk:P.types[t]? =some i:=by simpa using h'
  unfold Tables.info?
  rw [if_pos (Array.getElem?_eq_some_iff.1 hk).1];exact hk
 eq:=by
  intro t h
  have hm:t∈eqs:=(mr t eqs).1 h
  have:=(List.all_eq_true.1 h4) t hm
  simp only [Xf,Xm]at this
  exact this
 mixed:=h5
 orc:=by
  intro g args v h
  cases h
noncomputable def pV(E:Env)(o:Nat->List Value->Option Value):Env:={E with orc:=o}
noncomputable def withCut(E:Env)(c:Nat->Bool):Env:={E with cut:=c}
theorem eok_cut{E:Env}{P:Program}(ok:EOk E P)(c:Nat->Bool):EOk (withCut E c) P where
 fn:=ok.fn
 call:=ok.call
 ty:=ok.ty
 eq:=ok.eq
 mixed:=ok.mixed
 orc:=ok.orc
theorem eok_with{E:Env}{P:Program}(ok:EOk E P){o:Nat->List Value->Option Value}(ho: ∀g args v,o g args=some v->(∃fn,E.fn g=some fn/\fn.body.isSome=true)/\OrcAt P g args v):EOk (pV E o) P where
 fn:=ok.fn
 call:=ok.call
 ty:=ok.ty
 eq:=ok.eq
 mixed:=ok.mixed
 orc:=ho
end Go.Ab
namespace Go.Ab
open Go.ChangeShapes Go.WideShapes
variable{H:Type}{enc:TypeId×Value->H}{P:Program}
end Go.Ab

namespace Go.Ab

def eu(E:Env)(f:FuncId)(args:List Value)(c:Option (Value×Bool))(h:Hp)(Q:Out->Option (Value×Bool)->Hp->Prop):Prop:= ∃o a b,(lim E).call f args c h=some (o,a,b)/\Q o a b
def Ret(E:Env)(f:FuncId)(args:List Value)(h:Hp)(Q:Value->Hp->Prop):Prop:= ∃v a,(lim E).call f args none h=some (.ret v,none,a)/\Q v a
theorem Ret.mono{E:Env}{f:FuncId}{args:List Value}{h:Hp}{Q c:Value->Hp->Prop}(k: ∀v h',Q v h'->c v h')(r:Ret E f args h Q):Ret E f args h c:=by
 obtain⟨v,h',a,b⟩:=r;exact⟨v,h',a,k v h' b⟩
def j5(E:Env)(b:Nat)(args:List Value)(h:Hp)(Q:Out->Hp->Prop):Prop:= ∃o a,iQ E (lim E) b args h=some (o,a)/\Q o a

section
variable(E:Env)(cx:Cx)(o:Oper)(l:Loc)(K:Ex->Loc->Hp->Prop)
def eR:Option (c8×Hp)->Prop
 |some (.val v,a)=>K .normal (l.put o.dst v) a
 |some (.skip,a)=>K .normal (l.put o.dst (.tuple #[])) a
 | some (.call f c,a)=>eu E f c none a fun x _ e=>match x with
   | .ret v=>K .normal (l.put o.dst v) e
   | .pan v=>K (.pan v) l e
 | some (.yield b c,a)=>j5 E b c a fun x e=>match x with
   | .ret v=>K .normal (l.put o.dst v) e
   | .pan v=>K (.pan v) l e
 |some (.panic v,a)=>K (.pan v) l a
 | some (.recov,a)=>cx.round=none/\match l.rc with
   |some (v,false)=>K .normal (({l with rc:=some (v,true)}:Loc).put o.dst v) a
   |_=>K .normal (l.put o.dst .nilIface) a
 |some (.defer d,a)=>cx.round=none/\K .normal (({l with dfs:=d::l.dfs}:Loc).put o.dst (.tuple #[])) a
 |none=>False
end
section
variable{E:Env}{cx:Cx}{o:Oper}{l:Loc}{K:Ex->Loc->Hp->Prop}{h:Hp}
theorem then_step:Then (dG E (lim E) cx o l h) K↔eR E cx o l K (aop E l.ev h o.op):=by
 unfold dG
 cases p:aop E l.ev h o.op with
 | none=>
   simp only [eR,cI,mI]
   exact⟨fun⟨_,_,_,i,_⟩=>(by cases i),fun h=>h.elim⟩
 | some q=>
   obtain⟨m,i⟩:=q
   cases m with
   |val v=>exact fJ
   |skip=>exact fJ
   |panic v=>exact fJ
   | call f g=>
     simp only [eR,cI,eu]
     constructor
     . intro⟨e,l',h',a,b⟩
       cases j:(lim E).call f g none i with
       |none=>rw [j]at a;cases a
       | some q=>
         obtain⟨x,n,k⟩:=q
         rw [j]at a
         cases x<;>(cases a;exact⟨_,_,_,rfl,b⟩)
     . intro⟨x,n,k,a,b⟩
       rw [a]
       cases x<;>exact⟨_,_,_,rfl,b⟩
   | yield b g=>
     simp only [eR,cI,j5]
     constructor
     . intro⟨e,l',h',a,c⟩
       cases j:iQ E (lim E) b g i with
       |none=>rw [j]at a;cases a
       | some q=>
         obtain⟨x,k⟩:=q
         rw [j]at a
         cases x<;>(cases a;exact⟨_,_,rfl,c⟩)
     . intro⟨x,k,a,c⟩
       rw [a]
       cases x<;>exact⟨_,_,_,rfl,c⟩
   | recov=>
     simp only [eR]
     cases cx.round with
     |some r=>simp only [];exact⟨fun⟨_,_,_,i,_⟩=>(by cases i),fun h=>(by cases h.1)⟩
     | none=>
       simp only [true_and]
       cases l.rc with
       |none=>exact fJ
       |some y=>obtain⟨v,b⟩:=y;cases b<;>exact fJ
   | defer d=>
     simp only [eR]
     cases cx.round with
     |some r=>simp only [];exact⟨fun⟨_,_,_,i,_⟩=>(by cases i),fun h=>(by cases h.1)⟩
     |none=>simp only [true_and];exact fJ
theorem wU{v:Value}:eR E cx o l K (some (.val v,h))↔K .normal (l.put o.dst v) h:=Xu
theorem vg:eR E cx o l K (some (.skip,h))↔K .normal (l.put o.dst (.tuple #[])) h:=Xu
theorem uM{v:Value}:eR E cx o l K (some (.panic v,h))↔K (.pan v) l h:=Xu
theorem step_ret{f:FuncId}{args:List Value}{Q:Value->Hp->Prop}(c:Ret E f args h Q)(d: ∀v h',Q v h'->K .normal (l.put o.dst v) h'):eR E cx o l K (some (.call f args,h)):=by
 obtain⟨v,h',a,b⟩:=c
 exact⟨.ret v,none,h',a,d v h' b⟩
end

def nD(E:Env)(rs:List ResultVar)(Q:Out->Option (Value×Bool)->Hp->Prop):ew
 | .exit _,_,_=>False
 | .pan v,l,h=> ∃m a,bR (lim E) l.dfs (some v) h=some (m,a)/\match m with
   |some v=>Q (.pan v) l.rc a
   |none=> ∃b,aU E l.regs a rs=some b/\Q (.ret (ac b)) l.rc a
 | .normal,l,h=> ∃a,bR (lim E) l.dfs none h=some (none,a)/\ ∃b,aU E l.regs a rs=some b/\Q (.ret (ac b)) l.rc a
 | .ret,l,h=> ∃a,bR (lim E) l.dfs none h=some (none,a)/\ ∃b,aU E l.regs a rs=some b/\Q (.ret (ac b)) l.rc a

theorem enter{E:Env}{f:FuncId}{k:Func}{body:Code}{n:Nat}{rs:List ResultVar}{args:List Value}{o:Option (Value×Bool)}{h:Hp}{Q:Out->Option (Value×Bool)->Hp->Prop}
 (s:E.orc f args=none) (hf:E.fn f=some k) (t:k.body=some body) (u:k.ntmps=n) (p:k.results.toList=rs) (hle:args.length<=n)
 (w:Run E (lim E) ⟨f,n,none⟩ (nD E rs Q) [.code body] .normal (LL n (cD args) [] o) h):eu E f args o h Q:=by
 obtain⟨e,l,x,y,j⟩:=w
 simp only [Run]at j
 unfold eu
 rw [call_eq]
 unfold iq
 rw [s]
 simp only []
 unfold jG
 rw [hf]
 simp only []
 rw [t]
 simp only []
 rw [u,Xl hle]
 simp only [cond_true]
 rw [args_tab hle]
 have g:(lim E).code ⟨f,n,none⟩ body ⟨tab n (cD args),[],o⟩ h=some (e,l,x):=by rw [vd];exact y
 rw [g,p]
 cases e with
 |exit i=>exact j.elim
 | pan v=>
   obtain⟨m,q,a,b⟩:=j
   simp only [a]
   cases m with
   |some v=>exact⟨_,_,_,rfl,b⟩
   |none=>obtain⟨r,c,d⟩:=b;simp only [c];exact⟨_,_,_,rfl,d⟩
 |normal=>obtain⟨q,a,r,c,d⟩:=j;simp only [a,c];exact⟨_,_,_,rfl,d⟩
 |ret=>obtain⟨q,a,r,c,d⟩:=j;simp only [a,c];exact⟨_,_,_,rfl,d⟩
def RetQ(Q:Value->Hp->Prop):Out->Option (Value×Bool)->Hp->Prop
 | .ret v,none,h=>Q v h
 |_,_,_=>False
theorem ret_of{E:Env}{f:FuncId}{args:List Value}{h:Hp}{Q:Value->Hp->Prop}(hq:eu E f args none h (RetQ Q)):Ret E f args h Q:=by
 obtain⟨o,c,d,a,b⟩:=hq
 cases o with
 |pan v=>exact b.elim
 | ret v=>cases c with
   |none=>exact⟨v,d,a,b⟩
   |some y=>exact b.elim
theorem ab{E:Env}{f:FuncId}{a:Func}{body:Code}{n:Nat}{rs:List ResultVar}{args:List Value}{h:Hp}{Q:Value->Hp->Prop}
 (c:E.orc f args=none) (hf:E.fn f=some a) (d:a.body=some body) (e:a.ntmps=n) (b:a.results.toList=rs) (hle:args.length<=n)
 (g:Run E (lim E) ⟨f,n,none⟩ (nD E rs (RetQ Q)) [.code body] .normal (LL n (cD args) [] none) h):Ret E f args h Q:=ret_of (enter c hf d e b hle g)
theorem ret_orc{E:Env}{f:FuncId}{args:List Value}{h:Hp}{v:Value}{Q:Value->Hp->Prop}(a:E.orc f args=some v)(hq:Q v h):Ret E f args h Q:=by
 refine⟨v,h,?_,hq⟩
 rw [call_eq]
 unfold iq
 rw [a]
section
variable{E:Env}{rs:List ResultVar}{Q:Value->Hp->Prop}{n:Nat}{ρ:Nat->Value}{h:Hp}
theorem vC:nD E rs (RetQ Q) .ret (LL n ρ [] none) h↔ ∃vs,aU E (tab n ρ) h rs=some vs/\Q (ac vs) h:=by
 simp only [nD,LL,bR]
 constructor
 . intro⟨h',a,b⟩;cases a;exact b
 . intro b;exact⟨h,rfl,b⟩
theorem xu:nD E rs (RetQ Q) .normal (LL n ρ [] none) h↔ ∃vs,aU E (tab n ρ) h rs=some vs/\Q (ac vs) h:=vC
theorem eE{P:List Value->Prop}:(∃vs,aU E (tab n ρ) h []=some vs/\P vs)↔P []:=by
 simp only [aU]
 constructor
 . intro⟨_,a,b⟩;cases a;exact b
 . intro b;exact⟨_,rfl,b⟩
theorem eY{t:Tmp}{P:List Value->Prop}(d:t<n):(∃vs,aU E (tab n ρ) h (.tmp t::rs)=some vs/\P vs)↔ ∃vs,aU E (tab n ρ) h rs=some vs/\P (ρ t::vs):=by
 simp only [aU,kT,if_pos d]
 constructor
 . intro⟨vs,a,b⟩
   cases c:aU E (tab n ρ) h rs with
   |none=>rw [c]at a;cases a
   |some l=>rw [c]at a;cases a;exact⟨l,rfl,b⟩
 . intro⟨vs,a,b⟩;rw [a];exact⟨_,rfl,b⟩
theorem dW{t:Tmp}{ty:TypeId}{v:Value}{P:List Value->Prop}(d:t<n)(e:eJ E h ty (ρ t)=some v):(∃vs,aU E (tab n ρ) h (.cell t ty::rs)=some vs/\P vs)↔ ∃vs,aU E (tab n ρ) h rs=some vs/\P (v::vs):=by
 simp only [aU,kT,if_pos d,e]
 constructor
 . intro⟨vs,a,b⟩
   cases c:aU E (tab n ρ) h rs with
   |none=>rw [c]at a;cases a
   |some l=>rw [c]at a;cases a;exact⟨l,rfl,b⟩
 . intro⟨vs,a,b⟩;rw [a];exact⟨_,rfl,b⟩
end
end Go.Ab

namespace Go.Ab

structure Gr(h h':Hp):Prop where
 ok0:h.t.Sized h.n
 ok:h'.t.Sized h'.n
 n:h.n<=h'.n
 get: ∀b,b<h.n->h'.get b=h.get b
 lo: ∀x,x<=h.n->x<=h.lo->x<=h'.lo
theorem Gr.refl{h:Hp}(a:h.t.Sized h.n):Gr h h:=⟨a,a,Xd _,fun _ _=>rfl,fun _ _ h=>h⟩
theorem Gr.trans{a b c:Hp}(x:Gr a b)(y:Gr b c):Gr a c:=
 ⟨x.ok0,y.ok,Nat.le_trans x.n y.n,fun i d=>(y.get i (Nat.lt_of_lt_of_le d x.n)).trans (x.get i d),fun i e f=>y.lo i (Nat.le_trans e x.n) (x.lo i e f)⟩
theorem new_ok{h:Hp}(a:h.t.Sized h.n)(x:Blk):(h.new x).t.Sized (h.new x).n:=Tr.sized_push x a
theorem put_ok{h:Hp}(a:h.t.Sized h.n)(b:Nat)(x:Blk):(h.put b x).t.Sized (h.put b x).n:=Tr.sized_set b x a
theorem Gr.new{h:Hp}(a:h.t.Sized h.n)(x:Blk):Gr h (h.new x):=
 ⟨a,new_ok a x,Nat.le_succ _,fun b c=>by rw [h.get_new x a,if_neg (by omega)],fun _ _ h=>h⟩
theorem Gr.put{a h:Hp}(g:Gr a h){b:Nat}(j:a.n<=b)(x:Blk):Gr a (h.put b x):=by
 refine⟨g.ok0,put_ok g.ok b x,g.n,fun i c=>?_,fun i d f=>?_⟩
 . rw [Hp.get_put,if_neg (fun e=>by omega)];exact g.get i c
 . have:=g.lo i d f
   show i<=dO b h.lo
   unfold dO
   cases XO b h.lo<;>simp<;>omega
theorem fF{h:Hp}(a:h.t.Sized h.n){b:Nat}{x:Blk}(e:h.get b=some x):b<h.n:=(a b).1 (by show(h.get b).isSome=true;rw [e];rfl)
theorem Gr.at{h h':Hp}(g:Gr h h'){b:Nat}{x:Blk}(e:h.get b=some x):h'.get b=some x:=by rw [g.get b (fF g.ok0 e)];exact e
theorem bD{h:Hp}(a:h.t.Sized h.n){b o n:Nat}{l:List Value}(e:h.load b o n=some l):b<h.n:=by
 unfold Hp.load at e
 split at e
 next c=>exact fF a c
 next=>cases e
theorem Gr.load{h h':Hp}(g:Gr h h'){b o n:Nat}{l:List Value}(e:h.load b o n=some l):h'.load b o n=some l:=by
 have:=g.get b (bD g.ok0 e)
 unfold Hp.load at e⊢
 rw [this];exact e
theorem Gr.hlo{h h':Hp}(g:Gr {h with lo:=h.n} h'):XO h.n h'.lo=true:=Xl (g.lo h.n (Xd _) (Xd _))

def Row(h:Hp)(b:Nat)(l:List Value)(md:Nat):Prop:= ∃t el,h.get b=some (.cells t l.length el md)/\t.Sized l.length/\ ∀i:Nat,t.get i=l[i]?
theorem Row.gr{h h':Hp}(g:Gr h h'){b:Nat}{l:List Value}{md:Nat}(r:Row h b l md):Row h' b l md:=by
 obtain⟨t,el,a,b,c⟩:=r;exact⟨t,el,g.at a,b,c⟩
theorem Row.lt{h:Hp}(c:h.t.Sized h.n){b:Nat}{l:List Value}{md:Nat}(r:Row h b l md):b<h.n:=by
 obtain⟨t,el,a,_,_⟩:=r;exact fF c a
theorem yy{α:Type}{t:Tr α}{l:List α}(a: ∀i:Nat,t.get i=l[i]?): ∀(n o:Nat),o+n<=l.length->t.slice o n=some ((l.drop o).take n)
 |0,o,_=>by simp [Tr.slice]
 | n+1,o,h=>by
   simp only [Tr.slice]
   have:l[o]? =some l[o]:=Xx (by omega)
   rw [a o,this,yy a n (o+1) (by omega)]
   simp only []
   congr 1
   rw [show List.drop o l=l[o]::List.drop (o+1) l from Xo (by omega)]
   rfl
theorem Row.load{h:Hp}{b:Nat}{l:List Value}{md:Nat}(r:Row h b l md){o n:Nat}(d:o+n<=l.length):h.load b o n=some ((l.drop o).take n):=by
 obtain⟨t,el,a,_,c⟩:=r
 unfold Hp.load
 rw [a]
 simp only []
 rw [Xl d]
 exact yy c n o d
theorem Row.load1{h:Hp}{b:Nat}{l:List Value}{md:Nat}(r:Row h b l md){o:Nat}{v:Value}(a:l[o]? =some v):h.load b o 1=some [v]:=by
 have hlt:=(List.getElem?_eq_some_iff.1 a).1
 rw [r.load (by omega)]
 congr 1
 rw [Xo hlt]
 have:=(List.getElem?_eq_some_iff.1 a).2
 simp [this]
theorem oe{h:Hp}(a:h.t.Sized h.n)(l:List Value)(el md:Nat):Row (h.new (.cells (Tr.ofList l) l.length el md)) h.n l md:=
 ⟨Tr.ofList l,el,by rw [h.get_new _ a,if_pos rfl],Tr.sized_ofList l,fun i=>Tr.get_ofList l i⟩
def lay(l:List Value)(o:Nat)(vs:List Value):List Value:=l.take o++vs++l.drop (o+vs.length)
theorem nS{l:List Value}{o:Nat}{vs:List Value}(h:o+vs.length<=l.length):(lay l o vs).length=l.length:=by simp [lay];omega
theorem jj{l:List Value}{o:Nat}{vs:List Value}(h:o+vs.length<=l.length)(i:Nat):(lay l o vs)[i]? =if o<=i/\i<o+vs.length then vs[i-o]? else l[i]? :=by
 unfold lay
 by_cases a:i<o
 . rw [XA,Xw (by simp;omega),XH,if_pos a,if_neg (by omega)]
 . by_cases b:i<o+vs.length
   . rw [XA,Xc (by simp;omega),Xw (by simp;omega),if_pos (by omega)]
     congr 1
     simp;omega
   . rw [XA,Xc (by simp;omega),Xc (by simp;omega),if_neg (by omega),List.getElem?_drop]
     congr 1
     simp;omega
theorem Row.store{h:Hp}(m:h.t.Sized h.n){b:Nat}{l:List Value}{md:Nat}(r:Row h b l md)(f:md≠0){o:Nat}{vs:List Value}(e:o+vs.length<=l.length)(g:vs.all iU=true):
 ∃x,h.store b o vs=some (h.put b x)/\Row (h.put b x) b (lay l o vs) md:=by
 obtain⟨t,el,a,d,c⟩:=r
 refine⟨.cells (t.setAll o vs) l.length el md,?_,?_⟩
 . unfold Hp.store
   rw [a]
   simp only []
   have j:Xt md 0=false:=by
    cases k:Xt md 0 with
    |false=>rfl
    |true=>exact absurd (Xb k) f
   rw [Xl e,j,g]
   rfl
 . refine⟨t.setAll o vs,el,?_,?_,fun i=>?_⟩
   . rw [Hp.get_put,if_pos ⟨rfl,by rw [a];rfl⟩,nS e]
   . rw [nS e];exact Tr.sized_setAll o vs d
   . rw [Tr.get_setAll t o vs l.length d e,jj e,c]
end Go.Ab

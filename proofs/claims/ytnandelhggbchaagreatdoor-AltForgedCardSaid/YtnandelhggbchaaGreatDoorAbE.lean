/- A deterministic evaluator of the model's code, and that the model follows it (part 5). -/
import Derived.Test.YtnandelhggbchaaGreatDoorAbD
import Derived.Orders
import Derived.ChangeSame
import Derived.RowKit3
import Derived.JoinedOf
import Derived.KernelRfl
open Array renaming getElem?_toList->zj,getD_eq_getD_getElem?->zk,getElem?_eq_getElem->zl,replicate->zq,getElem?_push->zO,getElem?_replicate->zR,getElem?_setIfInBounds->z8,map_congr_left->Xi
open Nat renaming eq_of_beq_eq_true->zn,le_refl->zp,zero_add->zu,beq_refl->zD,ble_eq_true_of_le->zF,beq->zN,ble->zZ,min_eq_left->Xf,zero_le->Xk
open List renaming getElem?_append_right->zo,mem_cons_self->zw,length_take->zx,mem_cons_of_mem->zz,drop_eq_getElem_cons->zH,mem_of_getElem?->zI,map_congr_left->zJ,getElem?_map->zL,getElem?_append_left->zP,getElem?_eq_getElem->zQ,mem_range->zT,append_assoc->zU,length_cons->zV,cons_append->zW,getElem?_toArray->zX,getElem?_eq_none->zY,mem_filter->z7,getElem?_take->z9,map_cons->Xa,getElem?_cons_succ->Xc,append_nil->Xd,nil_append->Xe,mem_of_mem_drop->Xh,map_map->Xj
open Bool renaming and_eq_true->zt,not_eq_true'->zG
open Option renaming map_some->zy,getD_some->zC,bind_some->zM,map->Xb
open Iff renaming rfl->zK
open Prod renaming fst->Xg
set_option maxHeartbeats 400000
set_option linter.defProp false
set_option linter.unusedVariables false
set_option linter.unusedSimpArgs false
namespace Go.Ab

def gk(S:Nat->Bool):Nat->Nat
 |0=>0
 |n+1=>gk S n+(if S n=true then 0 else 1)
theorem mi{S:Nat->Bool}: ∀{n:Nat},gk S n=0-> ∀i,i<n->S i=true
 |0,_,i,b=>by omega
 | n +1,h,i,b=>by
   simp only [gk]at h
   by_cases a:S n=true
   . rw [if_pos a]at h
     by_cases e:i=n
     . subst e;exact a
     . exact mi (n:=n) (by omega) i (by omega)
   . rw [if_neg a]at h;omega
theorem nj{S:Nat->Bool}: ∀{n:Nat},gk S n≠0-> ∃i,i<n/\S i=false/\ ∀j,j<i->S j=true
 |0,h=>absurd rfl h
 | n +1,h=>by
   by_cases b:gk S n=0
   . have a:=mi b
     simp only [gk,b]at h
     by_cases c:S n=true
     . rw [if_pos c]at h;omega
     . exact⟨n,by omega,by simpa using c,a⟩
   . obtain⟨i,f,d,e⟩:=nj b
     exact⟨i,by omega,d,e⟩
theorem wU{S:Nat->Bool}{p:Nat}: ∀{n:Nat},n<=p->gk (ip S p) n=gk S n
 |0,_=>rfl
 | n+1,h=>by
   simp only [gk]
   rw [wU (by omega),aT S (by omega)]
theorem pY{S:Nat->Bool}{p:Nat}(a:S p=false): ∀{n:Nat},p<n->gk (ip S p) n+1=gk S n
 |0,h=>by omega
 | n +1,h=>by
   simp only [gk]
   by_cases e:p=n
   . subst e
     rw [wU (zp _),dG,a];simp
   . have:=pY a (n:=n) (by omega)
     rw [aT S (by omega)];omega
theorem l8: ∀(n:Nat),gk (fun _=>false) n=n
 |0=>rfl
 |n+1=>by simp [gk,l8 n]

def aR(listed:Array Bool):Nat->Bool:=fun i=>listed.getD i false
theorem qS{listed:Array Bool}{p:Nat}(a:p<listed.size):aR (listed.setIfInBounds p true)=ip (aR listed) p:=by
 funext i
 simp only [aR,ip,zk,z8]
 by_cases e:p=i
 . subst e;simp [a]
 . rw [if_neg e,if_neg (Ne.symm e)]

theorem qy(l:Loc)(d:Option Tmp)(v:Value):(l.put d v).dfs=l.dfs/\(l.put d v).rc=l.rc:=by cases d<;>exact⟨rfl,rfl⟩

def kW(ops:Array Oper):(Nat->Bool)->List Nat->Prop
 |S,[]=> ∀i,i<ops.size->S i=true
 |S,p::a=>p<ops.size/\S p=false/\(∀o,ops[p]? =some o->Ready o S)/\kW ops (ip S p) a
theorem rf{ops a:Array Oper}{σ d:Nat->Nat}(c:Ord ops a σ d){M:List Nat}(l: ∀i,nl ops.toList M i): ∀(b t:Nat) (listed:Array Bool),listed.size=ops.size->gk (fun p=>aR listed (σ p)) ops.size=b->
 kW ops (fun p=>aR listed (σ p)) ((Region.linearise.go .any a b t listed []).map d)
 |0,t,listed,s,O=>mi O
 | b + 1,t,listed,s,O=>by
   have u: ∀i,i<ops.size->d i<ops.size:=fun i q=>(c.lt (d i)).2 (by rw [c.st];exact q)
   have v: ∀i,i∈Region.ready .any a listed->i<ops.size/\aR listed i=false/\ ∀o,ops[d i]? =some o->Ready o (fun p=>aR listed (σ p)):=by
    intro i q
    unfold Region.ready at q
    simp only [z7,zT,zt,zG]at q
    obtain⟨g,j,k⟩:=q
    rw [<-c.size]at g
    refine⟨g,?_,fun o w e E r=>?_⟩
    . simp only [aR]
      rw [zk,zl (by omega)]at j⊢
      simpa using j
    . obtain⟨R,F,_,_,_,T,_⟩:=c.op (d i) o w
      rw [c.st]at F
      rw [F]at k
      simp only [zy,zC]at k
      obtain⟨f,G,H,I,J⟩:=T e E
      have:=(Array.all_eq_true'.1 k) f (by simpa using G)
      rw [jU H]at r
      unfold binds at r
      rw [r]at this
      obtain⟨m,_,y,_⟩:=l (d i) o (by rw [zj];exact w)
      have z:=y e E (by rw [jU H];unfold binds;exact r)
      have:=u i g
      have hlt:f.on<ops.size:=by
       rcases Nat.lt_or_ge f.on ops.size with x|x
       . exact x
       . have:=J x;omega
      show aR listed (σ e.on)=true
      rw [I hlt,c.st]
      simp only [aR]
      simpa using(Array.all_eq_true'.1 k) f (by simpa using G)|>fun h=>by rw [r]at h;simpa using h
   have K:Region.ready .any a listed≠ []:=by
    obtain⟨p,g,j,k⟩:=nj (S:=fun p=>aR listed (σ p)) (n:=ops.size) (by omega)
    intro e
    have w:ops[p]? =some ops[p]:=zl g
    obtain⟨m,_,r,_⟩:=l p ops[p] (by rw [zj];exact w)
    obtain⟨R,F,_,_,_,_,U⟩:=c.op p _ w
    have A:=(c.lt p).1 g
    have :σ p∈Region.ready .any a listed:=by
     unfold Region.ready
     simp only [z7,zT,zt,zG]
     refine⟨by rw [<-c.size];exact A,?_,?_⟩
     . simp only [aR]at j
       rw [zk,zl (by omega)]at j⊢
       simpa using j
     . rw [F]
       simp only [zy,zC]
       refine Array.all_eq_true'.2 fun f E=>?_
       cases L:Region.binds .any f with
       |false=>rfl
       | true=>
         obtain⟨P,G,H,I,J⟩:=U f (by simpa using E)
         have z:=r P G (by rw [jU H];unfold binds;exact L)
         have hlt:f.on<ops.size:=by
          rcases Nat.lt_or_ge f.on ops.size with x|x
          . exact x
          . have:=J x;omega
         have:=k P.on z
         rw [I hlt,c.st]at this
         simpa [aR]using this
    rw [e]at this;cases this
   simp only [Region.linearise.go]
   change kW ops (fun p=>aR listed (σ p)) (List.map d (match(Region.ready .any a listed)[t%(Region.ready .any a listed).length]? with
    |some i=>Region.linearise.go .any a b (t/(Region.ready .any a listed).length) (listed.setIfInBounds i true) [i]
    |none=>[].reverse))
   have B:0<(Region.ready .any a listed).length:=List.length_pos_iff.2 K
   have hlt:=Nat.mod_lt t B
   rw [zQ hlt]
   simp only []
   generalize q:(Region.ready .any a listed)[t%(Region.ready .any a listed).length]=i
   have N:i∈Region.ready .any a listed:=by rw [<-q];exact List.getElem_mem hlt
   obtain⟨g,j,k⟩:=v i N
   have C:=u i g
   have D:(fun p=>aR listed (σ p)) (d i)=false:=by show aR listed (σ (d i))=false;rw [c.st];exact j
   rw [linearise_go_acc,List.reverse_singleton,List.singleton_append,Xa]
   have Q:(fun p=>aR (listed.setIfInBounds i true) (σ p))=ip (fun p=>aR listed (σ p)) (d i):=by
    funext p
    rw [qS (listed:=listed) (p:=i) (by omega)]
    by_cases e:p=d i
    . subst e
      rw [c.st,dG,dG]
    . rw [aT _ e,aT _ (by intro V;exact e (by rw [<-V,c.ts]))]
   refine⟨C,D,k,?_⟩
   rw [<-Q]
   exact rf c l b _ _ (by simpa using s) (by rw [Q];have:=pY (S:=fun p=>aR listed (σ p)) (p:=d i) D C;omega)

section
variable{E:Env}{P:Program}(ok:EOk E P){R:Rec}(hc:eG E P R.call)(hcode:gG P R.code)
variable{ops:Array Oper}{q:Nat}{ps:List (Nat×Nat)}{M:List Nat}{L:Nat->Loc}{H:Nat->Hp}{T:Nat->Option Nat}{X:Nat->Bool}(D:DT E R ops q ps M L H T X)
variable{nr:Nat}{mu0:Mu}{w0:World}

include D in
theorem down_add{S:Nat->Bool}(j:Down ops S){p:Nat}{o:Oper}(g:ops[p]? =some o)(k:Ready o S):Down ops (ip S p):=by
 intro i l a h e d f
 by_cases b:i=p
 . subst b
   rw [g]at a;cases a
   obtain⟨m,_,n,_⟩:=D.bef i o (by rw [zj];exact g)
   have:=n e d f
   rw [aT S (by omega)]
   exact k e d f
 . rw [aT S b]at h
   have:=j i l a h e d f
   by_cases c:e.on=p
   . rw [c];exact dG S p
   . rw [aT S c];exact this

include ok hc hcode D in
theorem go_list(cq: ∀j o,j<ops.size->ops[j]? =some o->Turn ops E X q H T j o)(l: ∀i,i<=ops.size->mN nr mu0 w0 L H i)(m: ∀b,mu0 b≠ .none->b<(H 0).n)(e: ∀b c base top,mu0 b=.blk c base top->c<w0.heap.size)
 {d:Array Oper} {σ:Nat->Nat} (z:gn ops d σ) {tl:List Nat} {F:FC} {dfs:List Deferred} {k:List Item} {cs:List Frame}: ∀(n:List Nat) (S:Nat->Bool) (mu:Mu) (w:World) (tmps:Array Value),kW ops S n->Down ops S->
  Inv E ops q L H X nr mu0 w0 S mu w tmps->
  ∃ s f w' a,Inv E ops q L H X nr mu0 w0 s f w' a/\(∀i,i<ops.size->s i=true)/\
    Steps P (lone (F.mk' tmps dfs (.inRegion d (n.map σ++tl)::k)) cs w) (lone (F.mk' a dfs (.inRegion d tl::k)) cs w')
 | [],S,mu,w,tmps,t,u,g=>⟨S,mu,w,tmps,g,t,Steps.refl _ _⟩
 | p::n,S,mu,w,tmps,t,u,g=>by
   obtain⟨B,C,h3,h4⟩:=t
   have v:ops[p]? =some ops[p]:=zl B
   have A:=h3 _ v
   obtain⟨x,G,h,r,y⟩:=inv_step ok hc hcode D cq l m e z g u v A C (F:=F) (dfs:=dfs) (k:=k) (cs:=cs) (rest:=n.map σ++tl)
   obtain⟨s,f,w',a,I,J,K⟩:=go_list cq l m e z n _ x G h h4 (down_add D u v A) r
   exact⟨s,f,w',a,I,J,Steps.trans y K⟩

include ok hc hcode in
theorem pC(cx:Cx)(ops G:Array Oper){σ:Nat->Nat}(sm:gn ops G σ)(ls:List Nat)(hg:kW ops (fun _=>false) ls)(tl:List Nat)(l:Loc)(h:Hp)(l':Loc)(h':Hp)(q:Nat)(ps:List (Nat×Nat))(tr:List (Nat×Tch))
 (hp:iI E ops.toList=some (q,ps)) (he:aS E R ops.toList q ops.toList 0 l h []=some (l',h',tr)) (Y:bL tr ps=true)
 (mu:Mu) (w:World) (F:FC) (I:List Frame) (tmps:Array Value) (dfs:List Deferred) (J:Option (Value×Bool)) (k:List Item) (s:SR P cx l h mu w F I tmps dfs J):
 ∃ z w' d,SR P cx l' h' z w' F I d dfs J/\Ext mu h w z h' w'/\
   Steps P (lone (F.mk' tmps dfs (.inRegion G (ls.map σ++tl)::k)) (aA J I) {w with drawn:=w.drawn+1})
    (lone (F.mk' d dfs (.inRegion G tl::k)) (aA J I) w'):=by
 obtain⟨M,a4,al⟩:=plan_ok hp
 obtain⟨_,L,H,T,X,Z,f,S,U,aa,ac,an⟩:=vp _ _ _ _ _ _ _ _ he
 rw [zu,Array.length_toList]at S U
 have D:DT E R ops q ps M L H T X:=by
  refine⟨a4,fun n o r h4=>?_,fun n o m i p r hm V a5 K=>?_,fun i o r=>?_,fun {i j a b o p} A r hp ro rp ha K=>?_,fun {i j a o p} A r hp ro rp hx hh ha=>?_⟩
  . exact(al n o (by rw [zj];exact r)).1 h4
  . exact(al n o (by rw [zj];exact r)).2 m hm i p V (by rw [zj];exact a5) K
  . have:=aa i o (by rw [zj];exact r)
    rwa [zu]at this
  . have e1:=ac i o a (by rw [zj];exact r) ro (by rw [zu];exact ha)
    have e2:=ac j p b (by rw [zj];exact hp) rp (by rw [zu];exact K)
    rw [zu]at e1 e2
    have:=oy Y A
    rw [e1,e2]at this
    intro e
    subst e
    simp [iY,zD]at this
  . have e1:=ac i o a (by rw [zj];exact r) ro (by rw [zu];exact ha)
    have e2:=an j p (by rw [zj];exact hp) rp (by rw [zu];exact hx) (by rw [zu];exact hh)
    rw [zu]at e1 e2
    rcases A with A|A
    . have:=oy Y A
      rw [e1,e2]at this
      exact uo this
    . have:=oy Y A
      rw [e1,e2]at this
      exact uo this
 let w0:World:={w with drawn:=w.drawn+1}
 have B:aD mu h w0:=pX s.hr rfl
 have e0:Ext mu h w mu h w0:=rC s.hr rfl rfl rfl rfl
 have a0:mN cx.nr mu w0 L H 0:=⟨mu,w0,tmps,by rw [f];exact B,s.glob,by rw [Z];exact s.regs,by rw [f];exact Ext.refl mu h w0 B⟩
 have ad: ∀i,i<=ops.size->mN cx.nr mu w0 L H i:=fun i V=>(shadow ok hc hcode D i V a0).1
 have cq: ∀j o,j<ops.size->ops[j]? =some o->Turn ops E X q H T j o:=fun j o hj r=>(shadow ok hc hcode D ops.size (zp _) a0).2 j o hj r
 have a1: ∀b,mu b≠ .none->b<(H 0).n:=by rw [f];exact s.hr.lt
 have a2: ∀b c u N,mu b=.blk c u N->c<w0.heap.size:=fun b c u N hm=>B.clt hm
 have af: ∀j,j<=ops.size->(H j).t.Sized (H j).n:=fun j hj=>by obtain⟨_,_,_,g,_⟩:=ad j hj;exact g.sized
 have a3:Inv E ops q L H X cx.nr mu w0 (fun _=>false) mu w0 tmps:=by
  obtain⟨c',d1,d2,d3,d4⟩:=next_W (E:=E) (ops:=ops) (q:=q) (X:=X) ops.size 0 (by omega)
  refine⟨⟨c',⟨d2,?_,fun i o V r hw=>absurd hw (d4 i o (Xk _) V r)⟩,?_⟩,s.glob,fun p bf _ b h1 h2=>?_,s.regs.size,fun i V t v ai hv=>?_,by rw [f];exact WExt.refl B,fun p _ C=>by cases C⟩
  . rcases d3 with e|⟨o',a6,a7⟩
    . exact .inl e
    . exact .inr ⟨o',a6,a7,rfl⟩
  . refine sW (h:=H 0) (by rw [f];exact B) (af c' d2) (dt cq d1 d2) (fun b K=>stand cq d1 d2 (fun j oj h1 h2 O=>?_) K)
    rcases kinds D O with x|x|x
    . exact .inl x
    . exact .inr (.inl x)
    . exact absurd x (d4 j oj h1 h2 O)
  . exact B.none_ge (by
     have:=dt cq (Xk p) (by omega)
     rw [f]at this;omega)
  . have Q:(L (0+i)).regs.get t=(L 0).regs.get t:=by
     refine walk_eq (fun j=>(L j).regs.get t) (a:=0) i (fun j h1 h2=>?_)
     have O:ops[j]? =some ops[j]:=zl (by omega)
     refine oF D O fun ba=>?_
     have:=(ai j _ O ba).1 (by omega)
     cases this
    rw [zu]at Q
    rw [Q,Z]at hv
    exact s.regs.get t v hv
 obtain⟨S',z,w',d,g1,g2,g3⟩:=go_list ok hc hcode D cq ad a1 a2 sm (tl:=tl) (F:=F) (dfs:=dfs) (k:=k) (cs:=aA J I) ls _ mu w0 tmps hg (fun i o _ C=>by cases C) a3
 obtain⟨c,hC,hh⟩:=g1.c
 have bb:c=ops.size:=by
  rcases hC.2.1 with e|⟨o,r,_,C⟩
  . exact e
  . rw [g2 c (Array.getElem?_eq_some_iff.1 r).1]at C;cases C
 subst bb
 rw [U]at hh
 obtain⟨bh,wT,bc,t1,t2,t3,t4⟩:=ad ops.size (zp _)
 rw [S]at t3
 rw [U]at t1 t4
 have le:Le mu z:=by
  intro b K
  rcases g1.ext.old b (a1 b K)with x|⟨_,x⟩
  . exact .inl x
  . exact .inr x
 have ak: ∀i,i<=ops.size->(L i).dfs=l.dfs/\(L i).rc=l.rc:=by
  intro i
  induction i with
  |zero=>intro _;rw [Z];exact⟨rfl,rfl⟩
  | succ i ih=>
    intro V
    have:=ih (by omega)
    have C:=D.step i ops[i] (zl (by omega))
    generalize L (i+1)=L1 at C⊢
    generalize H (i+1)=H1 at C
    generalize T i=T1 at C
    generalize X i=X1 at C
    cases C with
    |skip hg=>exact⟨(qy _ _ _).1.trans this.1,(qy _ _ _).2.trans this.2⟩
    |exec hg bi=>exact⟨(qy _ _ _).1.trans this.1,(qy _ _ _).2.trans this.2⟩
 have hk:=ak ops.size (zp _)
 rw [S]at hk
 have ext:Ext mu h w0 z h' w':=by
  have W:=g1.ext
  rw [f]at W t4
  refine⟨t4.n,W.old,W.fresh,t4.lo,t4.same,W.frame,fun b c u N t sz el hm hg=>?_,W.wsize,W.os,W.tape,W.output,fun b h1 h2=>?_⟩
  . obtain⟨x,y⟩:=W.ro b c u N t sz el hm hg
    exact⟨x,(t4.ro b c u N t sz el hm hg).2.1,y⟩
  . have bd: ∀i,i<=ops.size->b<(H i).n->z b≠ .none:=by
     intro i
     induction i with
     |zero=>intro _ K;rw [f]at K;omega
     | succ i ih=>
       intro V K
       by_cases be:b<(H i).n
       . exact ih (by omega) be
       . exact g1.cov i (by omega) (g2 i (by omega)) b (by omega) K
    exact bd ops.size (zp _) (by rw [U];exact h2)
 refine⟨z,w',d,⟨hh,g1.glob,⟨g1.size,t3.sized,fun i v hv=>?_⟩,?_,?_,s.ko,s.fn,s.rd.mono le,s.rn,s.fs⟩,Ext.trans e0 ext,g3⟩
 . refine g1.regs ops.size (zp _) i v (fun p o r _=>?_) (by rw [S];exact hv)
   have:=(Array.getElem?_eq_some_iff.1 r).1
   exact⟨fun _=>g2 p this,fun _=>this⟩
 . rw [hk.1];exact LR.mono s.dfs fun _ _=>jw.mono le
 . rw [hk.2];exact s.rc.mono le
include ok hc hcode in
theorem uk(cx:Cx)(a b:Array Oper)(B:b=a\/(∀(i:Nat),i<a.size->b[i]? =a[i]?)/\ ∀x∈a.toList,gE a.size x=true)(tl:List Nat)(l:Loc)(h:Hp)(l':Loc)(m:Hp)(q:Nat)(ps:List (Nat×Nat))(n:List (Nat×Tch))
 (o:iI E (aZ a.toList)=some (q,ps)) (z:aS E R (aZ a.toList) q (aZ a.toList) 0 l h []=some (l',m,n)) (u:bL n ps=true)
 (mu:Mu) (w:World) (F:FC) (c:List Frame) (tmps:Array Value) (dfs:List Deferred) (d:Option (Value×Bool)) (k:List Item) (s:SR P cx l h mu w F c tmps dfs d) (t:Nat):
 ∃ g w' e,SR P cx l' m g w' F c e dfs d/\Ext mu h w g m w'/\
   Steps P (lone (F.mk' tmps dfs (.inRegion b (Region.linearise.go .any a a.size t (zq a.size false) []++tl)::k)) (aA d c) {w with drawn:=w.drawn+1})
    (lone (F.mk' e dfs (.inRegion b tl::k)) (aA d c) w'):=by
 obtain⟨ops,v,C,G,f⟩:=um a
 have I:gn ops b v:=by
  rcases B with rfl|⟨J,K⟩
  . exact f.same
  . exact f.part J K
 rw [<-G]at o z
 have j:(fun p=>aR (zq a.size false) (v p))=fun _=>false:=by
  funext i
  simp only [aR,zk,zR]
  split<;>rfl
 obtain⟨M,y,_⟩:=plan_ok o
 have A:=rf f y a.size t (zq a.size false) (by simp [f.size]) (by rw [j,<-f.size];exact l8 _)
 rw [j]at A
 have r:=pC ok hc hcode cx ops b I _ A tl l h l' m q ps n o z u mu w F c tmps dfs d k s
 rw [Xj,show(v∘C)=id from funext f.st,List.map_id]at r
 exact r
include ok hc hcode in
theorem draw_ok:DrawOk E P R:=by
 intro n id a l h o p q ps r t u g v w F i d e f k s
 have b:Region.schedule (P.follows .mixedOrders) a (w.tape w.drawn (.order F.fn id))=Region.linearise.go .any a a.size (w.tape w.drawn (.order F.fn id)) (zq a.size false) []:=by
  rw [ok.mixed];rfl
 obtain⟨j,x,c,y,z,m⟩:=uk ok hc hcode n a a (.inl rfl) [] l h o p q ps r t u g v w F i d e f k s (w.tape w.drawn (.order F.fn id))
 rw [Xd]at m
 refine⟨j,x,c,e,f,y,z,Steps.trans (.one ?_) (Steps.trans m (.one lK))⟩
 rw [<-b]
 exact ky

theorem bef_bit{ops:Array Oper}{M:List Nat}(r: ∀i,nl ops.toList M i){S:Nat->Bool}{N:Nat}(s: ∀(i:Nat) o,i<N->ops[i]? =some o->S i=true-> ∀e∈o.after.toList,binds e=true->S e.on=true): ∀(n:Nat) (o:Oper) (m i:Nat),n<=N->ops[n]? =some o->M[n]? =some m->Ready o S->m.testBit i=true->S i=true:=by
 intro n
 induction n using Nat.strongRecOn with
 | _ n t=>
   intro o m i B k u v f
   obtain⟨C,l,w,y⟩:=r n o (by rw [zj];exact k)
   rw [u]at l;cases l
   obtain⟨e,p,a,x⟩:=y i f
   have b:=v e p a
   rcases x with rfl|⟨m2,g,h⟩
   . exact b
   . have hlt:=w e p a
     have z:n<ops.size:=(Array.getElem?_eq_some_iff.1 k).1
     have c:ops[e.on]? =some ops[e.on]:=zl (by omega)
     exact t e.on hlt ops[e.on] m2 i (by omega) c g (fun A j d=>s e.on _ (by omega) c b A j d) h

theorem ug(l:Array Bool)(i:Nat):(l.push false).getD i false=l.getD i false:=by
 simp only [zk,zO]
 split
 next h=>subst h;simp
 next=>rfl
theorem sc{ops A:Array Oper}{n:Nat}(c:A.size=n)(d:ops.size=n+1)(a: ∀i,i<n->ops[i]? =A[i]?)(l:Array Bool)(f:l.size=n):
 Region.ready .any ops (l.push false)=Region.ready .any A l++(if((ops[n]?).map (·.after.all fun e=>!Region.binds .any e||l.getD e.on false)).getD false=true then [n]else []):=by
 unfold Region.ready
 rw [d,c,List.range_succ,List.filter_append]
 congr 1
 . refine List.filter_congr fun i g=>?_
   have b:i<n:=List.mem_range.1 g
   rw [a i b]
   simp only [ug]
   congr 2
   simp only [zk,zO]
   rw [if_neg (by omega)]
 . simp only [ug]
   have:(l.push false).getD n true=false:=by
    rw [zk,zO,if_pos f.symm];rfl
   simp only [List.filter_cons,List.filter_nil,this,Bool.not_false,Bool.true_and]

theorem lin_pop{ops A:Array Oper}{n:Nat}(I:A.size=n)(hn:ops.size=n+1)(c: ∀i,i<n->ops[i]? =A[i]?){M:List Nat}(O: ∀i,nl ops.toList M i){Q:Nat}(U:M[n]? =some Q)(r: ∀i,i<n->Q.testBit i=true):
 ∀ (a t:Nat) (l:Array Bool),l.size=n->(∀(i:Nat) o,i<n->ops[i]? =some o->aR l i=true-> ∀e∈o.after.toList,binds e=true->aR l e.on=true)->gk (aR l) n=a->
   Region.linearise.go .any ops (a+1) t (l.push false) []=Region.linearise.go .any A a t l []++[n]:=by
 have J:ops[n]? =some (ops[n]'(by omega)):=zl _
 obtain⟨m0,k1,k2,_⟩:=O n _ (by rw [zj];exact J)
 have s: ∀(B:Array Oper) (a t:Nat) (l:Array Bool),Region.linearise.go .any B (a+1) t l []=(match(Region.ready .any B l)[t%(Region.ready .any B l).length]? with
  |some i=>Region.linearise.go .any B a (t/(Region.ready .any B l).length) (l.setIfInBounds i true) [i]
  |none=>[]):=fun _ _ _ _=>rfl
 intro a
 induction a with
 | zero=>
   intro t l v V w
   have f:=mi w
   have W:Region.ready .any A l=[]:=by
    unfold Region.ready
    rw [I]
    refine List.filter_eq_nil_iff.2 fun i K=>?_
    have:=f i (List.mem_range.1 K)
    have x:i<l.size:=by rw [v];exact List.mem_range.1 K
    unfold aR at this
    rw [zk,zl x]at this
    rw [zk,zl x]
    simp only [zC]at this⊢
    rw [this];simp
   have Y:Region.ready .any ops (l.push false)=[n]:=by
    rw [sc I hn c l v,W,J]
    simp only [zy,zC,Xe]
    rw [if_pos]
    refine Array.all_eq_true'.2 fun e g=>?_
    cases b:Region.binds .any e with
    |false=>rfl
    | true=>
      have:=k2 e (by simpa using g) b
      have:=f e.on this
      simpa [aR]using this
   rw [s,Y]
   simp [Region.linearise.go,Nat.mod_one]
 | succ a ih=>
   intro t l v V w
   have Z:Region.ready .any ops (l.push false)=Region.ready .any A l:=by
    rw [sc I hn c l v,if_neg,Xd]
    intro hc
    obtain⟨p,p1,y,_⟩:=nj (S:=aR l) (n:=n) (by omega)
    have:aR l p=true:=by
     refine bef_bit O V n _ Q p (zp _) J U (fun e g b=>?_) (r p p1)
     rw [J]at hc
     simp only [zy,zC]at hc
     have:=(Array.all_eq_true'.1 hc) e (by simpa using g)
     unfold binds at b
     rw [b]at this
     simpa [aR]using this
    rw [y]at this;cases this
   rw [s,s,Z]
   have aa:Region.ready .any A l≠ []:=by
    obtain⟨p,p1,y,p3⟩:=nj (S:=aR l) (n:=n) (by omega)
    have ho:ops[p]? =some (ops[p]'(by omega)):=zl _
    obtain⟨m,_,ac,_⟩:=O p _ (by rw [zj];exact ho)
    have :p∈Region.ready .any A l:=by
     unfold Region.ready
     simp only [z7,zT,zt,zG]
     refine⟨by omega,?_,?_⟩
     . simp only [aR]at y
       rw [zk,zl (by omega)]at y⊢
       simpa using y
     . rw [<-c p p1,ho]
       simp only [zy,zC]
       refine Array.all_eq_true'.2 fun e g=>?_
       cases b:Region.binds .any e with
       |false=>rfl
       | true=>
         have:=p3 e.on (ac e (by simpa using g) b)
         simpa [aR]using this
    intro e
    rw [e]at this;cases this
   have z:0<(Region.ready .any A l).length:=List.length_pos_iff.2 aa
   have hlt:=Nat.mod_lt t z
   rw [zQ hlt]
   simp only []
   generalize K:(Region.ready .any A l)[t%(Region.ready .any A l).length]=i
   have ad:i∈Region.ready .any A l:=by rw [<-K];exact List.getElem_mem hlt
   have d:=ad
   unfold Region.ready at d
   simp only [z7,zT,zt,zG]at d
   obtain⟨h1,h2,h3⟩:=d
   rw [I]at h1
   have af:aR l i=false:=by
    simp only [aR]
    rw [zk,zl (by omega)]at h2⊢
    simpa using h2
   have C:(l.push false).setIfInBounds i true=(l.setIfInBounds i true).push false:=by
    apply Array.ext_getElem?
    intro j
    simp only [z8,zO,Array.size_push,Array.size_setIfInBounds]
    by_cases e:i=j
    . subst e
      rw [if_pos rfl,if_pos (by omega),if_neg (by omega),if_pos rfl,if_pos (by omega)]
    . rw [if_neg e]
      by_cases N:j=l.size
      . rw [if_pos N,if_pos N]
      . rw [if_neg N,if_neg N,if_neg e]
   have h:=qS (listed:=l) (p:=i) (by omega)
   rw [linearise_go_acc,linearise_go_acc (acc:=[i]),zU,C]
   rw [ih _ (l.setIfInBounds i true) (by simpa using v) ?_ ?_]
   . rw [h]
     intro j o hj F hs e g b
     by_cases G:j=i
     . subst G
       rw [<-c j hj,F]at h3
       simp only [zy,zC]at h3
       have:=(Array.all_eq_true'.1 h3) e (by simpa using g)
       have k:=b
       unfold binds at k
       rw [k]at this
       have u:aR l e.on=true:=by simpa [aR]using this
       unfold ip;split
       . rfl
       . exact u
     . rw [aT _ G]at hs
       have u:=V j o hj F hs e g b
       unfold ip;split
       . rfl
       . exact u
   . rw [h]
     have:=pY (S:=aR l) (p:=i) af h1
     omega

include ok hc hcode in
theorem zc (cx:Cx) (id:Nat) (ops:Array Oper) (l:Loc) (h:Hp) (l':Loc) (W:Hp) (x:Ex) (a:sh E R cx ops.toList l h=some (x,l',W)) (mu:Mu) (w:World) (F:FC) (j:List Frame) (tmps:Array Value) (dfs:List Deferred) (p:Option (Value×Bool)) (k:List Item) (s:SR P cx l h mu w F j tmps dfs p):
 Sim P cx h mu w F j tmps dfs p (.code (.region id ops true)::k) k x l' W:=by
 unfold sh at a
 cases b:qm ops.toList (ops.toList.length-1)with
 |false=>rw [b]at a;cases a
 | true =>
   rw [b]at a
   simp only [cond_true]at a
   unfold qm at b
   simp only [zt]at b
   obtain⟨c,t⟩:=b
   unfold fullM at c
   have e:ops.toList.length=ops.size:=by simp
   split at c
   next m I J=>
    obtain⟨C,_,Y⟩:=qk _ _ _ J
    simp only [List.length_nil,zu]at C Y
    have Z:0<ops.size:=by rw [e]at C;simp only [zV]at C;omega
    obtain⟨n,hn⟩: ∃n,ops.size=n+1:=⟨ops.size-1,by omega⟩
    have K:ops.toList.length-1=n:=by omega
    rw [K]at a t c
    have N: ∀i,nl ops.toList (m::I).reverse i:=fun i o ho=>Y i o ho
    have O:(m::I).reverse[n]? =some m:=by
     have:I.length=n:=by simp only [zV]at C;omega
     rw [List.reverse_cons,zo (by simp [this])]
     simp [this]
    have u: ∀i,i<n->m.testBit i=true:=fun i G=>List.all_eq_true.1 c i (List.mem_range.2 G)
    have z:(ops.extract 0 n).toList=ops.toList.take n:=by simp
    have v:(ops.extract 0 n).size=n:=by simp;omega
    have f: ∀i,i<n->ops[i]? =(ops.extract 0 n)[i]? :=by
     intro i G
     rw [<-zj,<-zj,z,z9,if_pos G]
    rw [<-z]at a t
    generalize ops.extract 0 n=A at*
    cases Q:iI E (aZ A.toList)with
    |none=>rw [Q]at a;cases a
    | some qp=>
      obtain⟨q,ps⟩:=qp
      rw [Q]at a
      simp only []at a
      cases S:aS E R (aZ A.toList) q (aZ A.toList) 0 l h []with
      |none=>rw [S]at a;cases a
      | some q3=>
        obtain⟨l1,h1,tr⟩:=q3
        rw [S]at a
        simp only []at a
        cases y:bL tr ps with
        |false=>rw [y]at a;cases a
        | true=>
          rw [y]at a
          simp only [cond_true]at a
          have B:aR (zq n false)=fun _=>false:=by
           funext i
           simp only [aR,zk,zR]
           split<;>rfl
          have d:Region.schedule (P.follows .mixedOrders) ops (w.tape w.drawn (.order F.fn id))=Region.linearise.go .any A A.size (w.tape w.drawn (.order F.fn id)) (zq A.size false) []++[n]:=by
           rw [ok.mixed,v]
           show Region.linearise.go .any ops ops.size (w.tape w.drawn (.order F.fn id)) (zq ops.size false) []=_
           rw [hn,Array.replicate_succ]
           exact lin_pop v hn f N O u n _ _ (by simp) (by rw [B];intro i o _ _ hs;cases hs) (by rw [B];exact l8 n)
          obtain⟨aa,w1,U,s1,e1,g⟩:=uk ok hc hcode cx A ops (.inr ⟨fun i G=>f i (by omega),fun x hx=>by rw [v];exact List.all_eq_true.1 t x hx⟩) [n] l h l1 h1 q ps tr Q S y mu w F j tmps dfs p k s (w.tape w.drawn (.order F.fn id))
          have r:=ua ok hc hcode (ops:=ops) (k:=k) (ops.toList.drop n) n _ _ _ _ _ _ _ _ _ _ rfl s1 a
          have V:(ops.toList.drop n).length=1:=by rw [List.length_drop,e];omega
          rw [V]at r
          refine Sim.pre (Steps.trans (.one ?_) g) e1 r
          rw [<-d]
          exact ky
   next=>cases c
end

end Go.Ab

namespace Go.Ab

def befL(x y:Nat):List Nat->Prop
 | []=>False
 |p::r=>p=x\/(p≠y/\befL x y r)
theorem befL_or{x y:Nat}: ∀{l:List Nat},x∈l->befL x y l\/befL y x l
 | [],h=>by cases h
 | p::r,h=>by
   by_cases a:p=x
   . exact .inl (.inl a)
   by_cases b:p=y
   . exact .inr (.inl b)
   rcases List.mem_cons.1 h with e|h
   . exact absurd e.symm a
   rcases befL_or (y:=y) h with h|h
   . exact .inl (.inr ⟨b,h⟩)
   . exact .inr (.inr ⟨a,h⟩)
theorem xi{f:Nat->Nat}{x y:Nat}(a: ∀p,f p=f y->p=y): ∀{l:List Nat},befL x y l->befL (f x) (f y) (l.map f)
 | p::r,h=>by
   rcases h with h|⟨b,c⟩
   . exact .inl (by rw [h])
   . exact .inr ⟨fun e=>b (a _ e),xi a c⟩
theorem wP{ops:Array Oper}{i:Nat}(b:i<ops.size): ∀{l:List Nat} {S:Nat->Bool},kW ops S l->S i=false->i∈l
 | [],S,h,a=>by have:=h i b;rw [a]at this;cases this
 | p::r,S,h,a=>by
   by_cases e:p=i
   . subst e;exact zw
   . exact zz _ (wP b h.2.2.2 (by rw [aT S (Ne.symm e)];exact a))
theorem mD(os:List Oper)(k i:Nat):(jS os k)[i]? =(os[i]?).map (tie k i):=by
 unfold jS;rw [List.getElem?_mapIdx]
theorem wQ(os:List Oper)(k:Nat):(jS os k).length=os.length:=by unfold jS;exact List.length_mapIdx
theorem rQ(k i:Nat)(o:Oper):(tie k i o).op=o.op/\(tie k i o).dst=o.dst/\(tie k i o).guard=o.guard:=by
 unfold tie;cases zN i (k+1)<;>exact⟨rfl,rfl,rfl⟩
theorem q9{ops:Array Oper}{k:Nat}: ∀{l:List Nat} {S:Nat->Bool},kW ops S l->(S k=true\/befL k (k+1) l)->kW (jS ops.toList k).toArray S l
 | [],S,h,_=>by
   intro i g
   rw [List.size_toArray,wQ]at g
   exact h i (by simpa using g)
 | p ::r,S,h,a=>by
   obtain⟨n,q,h3,h4⟩:=h
   refine⟨by rw [List.size_toArray,wQ];simpa using n,q,fun o j=>?_,q9 h4 ?_⟩
   . rw [zX,mD]at j
     obtain⟨s,c,rfl⟩:=Option.map_eq_some_iff.1 j
     have m:=h3 s (by rw [<-zj];exact c)
     unfold tie
     cases d:zN p (k+1)with
     |false=>exact m
     | true=>
       have d:=zn d
       intro e b f
       simp only [cond_true,Array.toList_push,List.mem_append,List.mem_singleton]at b
       rcases b with b|rfl
       . exact m e b f
       . rcases a with a|a|⟨a,_⟩
         . exact a
         . omega
         . exact absurd d a
   . by_cases e:k=p
     . subst e;exact .inl (dG S k)
     . rw [aT S e]
       rcases a with a|a|⟨_,a⟩
       . exact .inl a
       . exact absurd a.symm e
       . exact .inr a
theorem wA{ops b:Array Oper}{σ d:Nat->Nat}(a:Ord b ops σ d){M:List Nat}(f: ∀i,nl ops.toList M i): ∀{l:List Nat} {S:Nat->Bool},kW ops S l->kW b (fun p=>S (σ p)) (l.map d)
 | [],S,h=>fun i t=>h _ (by rw [<-a.size];exact(a.lt i).1 t)
 | p ::r,S,h=>by
   obtain⟨u,v,h3,h4⟩:=h
   refine⟨(a.lt _).2 (by rw [a.st,a.size];exact u),by show S (σ (d p))=false;rw [a.st];exact v,fun o w e x c=>?_,?_⟩
   . obtain⟨n,g,_,_,_,y,_⟩:=a.op _ o w
     rw [a.st]at g
     obtain⟨j,s,z,A,D⟩:=y e x
     rw [jU z]at c
     have k:=h3 n g j s c
     obtain⟨m,_,B,_⟩:=f p n (by rw [zj];exact g)
     have hlt:j.on<b.size:=by have:=B j s c;rw [a.size];omega
     show S (σ e.on)=true
     rw [A hlt,a.st];exact k
   . have:=wA a f h4
     have k:(fun q=>ip S p (σ q))=ip (fun q=>S (σ q)) (d p):=by
      funext q
      by_cases e:q=d p
      . subst e;rw [a.st,dG,dG]
      . rw [aT _ e,aT _ (by intro C;exact e (by rw [<-C,a.ts]))]
     rw [k]at this
     exact this
theorem gn.tie{ops b:Array Oper}{σ:Nat->Nat}(s:gn ops b σ)(k:Nat):gn (jS ops.toList k).toArray b σ:=by
 have c: ∀(p:Nat) (o:Oper),(jS ops.toList k).toArray[p]? =some o-> ∃a,ops[p]? =some a/\o.op=a.op/\o.dst=a.dst/\o.guard=a.guard:=by
  intro p o d
  rw [zX,mD]at d
  obtain⟨a,f,rfl⟩:=Option.map_eq_some_iff.1 d
  exact⟨a,by rw [<-zj];exact f,rQ k p a⟩
 refine⟨fun p o d=>?_,fun p o j e d n i=>?_⟩
 . obtain⟨a,g,l,m,h⟩:=c p o d
   rw [l,m,h]
   exact s.op p a g
 . obtain⟨a,g,l,m,h⟩:=c p o d
   refine s.no p a j e g (by rw [<-h];exact n) ?_
   rw [zX,mD]at i
   rw [<-zj]
   simpa using i
theorem gn.comp{ops a b:Array Oper}{σ c f:Nat->Nat}(s:gn ops b σ)(e:Ord a ops c f):gn a b (σ∘c):=by
 refine⟨fun p o g=>?_,fun p o j d g m n=>?_⟩
 . obtain⟨i,k,u,v,l,_⟩:=e.op p o g
   obtain⟨A,B,C,D,q⟩:=s.op _ i k
   refine⟨A,B,C.trans u,D.trans v,?_⟩
   rcases l with⟨x,y⟩|⟨j,w,x,y⟩
   . rcases q with⟨_,z⟩|⟨r,t,z,_⟩
     . exact .inl ⟨x,z⟩
     . rw [y]at z;cases z
   . rcases q with⟨z,_⟩|⟨r,t,z,E⟩
     . rw [y]at z;cases z
     . rw [y]at z;cases z
       exact .inr ⟨_,_,x,E⟩
 . obtain⟨i,k,_,_,l,_⟩:=e.op p o g
   rcases l with⟨x,_⟩|⟨r,t,x,y⟩
   . rw [m]at x;cases x
   . rw [m]at x;cases x
     refine s.no _ i _ d k y (Array.getElem?_eq_none ?_)
     have F: ¬j<a.size:=by intro h;rw [zl h]at n;cases n
     have:=mt (e.lt j).2 F
     rw [<-e.size];omega
theorem tC(k i:Nat):swN k (swN k i)=i:=by
 have h: ∀i,swN k i=if i=k then k+1 else if i=k+1 then k else i:=by
  intro i
  unfold swN
  rw [a9,a9]
  by_cases a:i=k
  . simp [a]
  . by_cases b:i=k+1
    . simp [b]
    . simp [a,b]
 rw [h,h]
 by_cases a:i=k
 . subst a;simp
 . by_cases b:i=k+1
   . subst b;simp
   . simp [a,b]
theorem swN_lt{k n i:Nat}(c:k+1<n):swN k i<n↔i<n:=by
 unfold swN
 rw [a9,a9]
 by_cases a:i=k
 . simp [a];omega
 . by_cases b:i=k+1
   . simp [b];omega
   . simp [a,b]
theorem swN_ne{k i:Nat}(a:i≠k)(b:i≠k+1):swN k i=i:=by
 unfold swN
 rw [a9,a9,decide_eq_false a,decide_eq_false b];rfl
theorem swN_k(k:Nat):swN k k=k+1:=by unfold swN;rw [zD];rfl
theorem swN_k1(k:Nat):swN k (k+1)=k:=by unfold swN;rw [a9,decide_eq_false (by omega),zD];rfl
theorem rP(n k p:Nat):(fj n k)[p]? =if p<n then some (swN k p)else none:=by
 unfold fj
 rw [zL]
 split
 . next h=>rw [List.getElem?_range h];rfl
 . next h=>rw [zY (by simpa using h)];rfl
theorem wF{n k:Nat}(b:k+1<n)(i:Nat):i∈fj n k↔i<n:=by
 unfold fj
 simp only [List.mem_map,zT]
 constructor
 . rintro⟨a,c,rfl⟩;exact(swN_lt b).2 c
 . intro h;exact⟨swN k i,(swN_lt b).2 h,tC k i⟩
theorem y6(n k:Nat):(fj n k).Nodup:=by
 unfold fj
 rw [List.nodup_iff_pairwise_ne,List.pairwise_map]
 exact List.nodup_range.imp fun {a b} h e=>h (by rw [<-tC k a,e,tC])
theorem ord2_len(n k:Nat):(fj n k).length=n:=by unfold fj;simp

theorem px{E:Env}{R:Rec}{q:Nat}{ops ops':List Oper}: ∀(os a:List Oper) (i:Nat) (l:Loc) (h:Hp) (c:List (Nat×Tch)),os.map (fun o=>(o.op,o.dst))=a.map (fun o=>(o.op,o.dst))->(∀o∈os,o.guard=none)->(∀o∈a,o.guard=none)->
 aS E R ops q os i l h c=aS E R ops' q a i l h c
 | [],[],_,_,_,_,_,_,_=>rfl
 | [],_::_,_,_,_,_,b,_,_=>by simp at b
 |_::_,[],_,_,_,_,b,_,_=>by simp at b
 | o::os,o'::a,i,l,h,c,b,e,f=>by
   simp only [Xa,List.cons.injEq,Prod.mk.injEq]at b
   obtain⟨⟨g,j⟩,k⟩:=b
   have m:=e o zw
   have n:=f o' zw
   have p:=fun i l h c=>px (E:=E) (R:=R) (q:=q) (ops:=ops) (ops':=ops') os a i l h c k (fun o d=>e o (zz _ d)) (fun o d=>f o (zz _ d))
   simp only [aS,bC,m,n,oP g,g,j,p]
theorem mb{E:Env}{R:Rec}{q:Nat}{ops:List Oper}: ∀(xs ys:List Oper) (i:Nat) (l:Loc) (h:Hp) (a:List (Nat×Tch)),
 aS E R ops q (xs++ys) i l h a=(aS E R ops q xs i l h a).bind fun r=>aS E R ops q ys (i+xs.length) r.1 r.2.1 r.2.2
 | [],ys,i,l,h,a=>rfl
 | o ::xs,ys,i,l,h,a=>by
   have e: ∀n,i+1+n=i+(n+1):=fun n=>by omega
   simp only [zW,aS,zV]
   cases bC ops l.regs o with
   |none=>rfl
   | some b=>
     cases b with
     |false=>simp only [];rw [mb xs ys,e]
     | true=>
       simp only []
       cases bQ E R (l.evD (tmpsOf o.op.operands.toList)) (dk E q i o.op) o h with
       |none=>rfl
       |some r=>obtain⟨v,c⟩:=r;simp only [];rw [mb xs ys,e]

theorem mU{k:Value}(h:mC k=true):aY k k=some true:=by
 cases k<;>first|(cases h;done)|skip
 next a n=>
 have b:iU a a=true:=by cases a<;>rfl
 have c:fw n n=true:=by cases n<;>exact zD _
 simp only [aY,b,c,cond_true]
theorem tT{k b v:Value}{c:Nat}: ∀{a:List (Value×Value×Nat)},aY k b=some false->aJ k (a++[(b,v,c)])=aJ k a
 | [],h=>by simp only [Xe,aJ,h]
 |(d,e,n)::a,h=>by simp only [zW,aJ,tT h]
theorem mE{k v:Value}{c:Nat}(d:aY k k=some true): ∀{a:List (Value×Value×Nat)},aJ k a=some none->aJ k (a++[(k,v,c)])=some (some (v,c))
 | [],_=>by simp only [Xe,aJ,d]
 | (f,g,n)::a,h=>by
   simp only [zW,aJ]at h⊢
   cases e:aY k f with
   |none=>rw [e]at h;cases h
   | some b=>
     rw [e]at h
     cases b with
     |true=>cases h
     |false=>exact mE d h
theorem pH{k a v:Value}: ∀{c:List (Value×Value×Nat)},aY k a=some false->aJ k (gp a v c)=aJ k c
 | [],_=>rfl
 | (k',v',n)::c,h=>by
   unfold gp
   cases d:aY a k' with
   |none=>simp only [aJ,pH h]
   | some b=>
     cases b with
     |true=>have:=jD d;subst this;simp only [aJ,h]
     |false=>simp only [aJ,pH h]
theorem pq{k v:Value}(d:aY k k=some true): ∀{a:List (Value×Value×Nat)} {u:Value×Nat},aJ k a=some (some u)-> ∃n,aJ k (gp k v a)=some (some (v,n))
 | [],_,h=>by cases h
 | (k',v',n)::a,u,h=>by
   simp only [aJ]at h
   unfold gp
   cases c:aY k k' with
   |none=>rw [c]at h;cases h
   | some b=>
     rw [c]at h
     cases b with
     |true=>exact⟨n,by simp only [aJ,d]⟩
     | false=>
       obtain⟨e,f⟩:=pq (v:=v) d h
       exact⟨e,by simp only [aJ,c];exact f⟩
def mput(k v:Value)(a:List (Value×Value×Nat))(c:Nat):List (Value×Value×Nat)×Nat:=match aJ k a with
 |some (some _)=>(gp k v a,c)
 |_=>(a++[(k,v,c)],c+1)
theorem ia{k a v:Value}{b:List (Value×Value×Nat)}{c:Nat}(h:aY k a=some false):aJ k (mput a v b c).1=aJ k b:=by
 unfold mput;split
 . exact pH h
 . exact tT h
theorem qD{k v:Value}{a:List (Value×Value×Nat)}{c:Nat}(d:aY k k=some true)(h:aJ k a≠none):(aJ k (mput k v a c).1).map (Xb Xg)=some (some v):=by
 unfold mput
 cases b:aJ k a with
 |none=>exact absurd b h
 | some u=>
   cases u with
   |none=>simp only [];rw [mE d b];rfl
   |some u=>simp only [];obtain⟨n,e⟩:=pq (v:=v) d b;rw [e];rfl
theorem lP {E:Env} {h j:Hp} {ty:TypeId} {m k v:Value}:c7 E h ty m k v=some j↔ ∃r d c kt el,m=.map (some r)/\E.und ty=some (.map kt el)/\aM E kt k=true/\h.get r=some (.map d c)/\aJ k d≠none/\j=h.put r (.map (mput k v d c).1 (mput k v d c).2):=by
 unfold c7 gc mput
 constructor
 . intro b
   split at b
   next=>cases b
   next r d c el a=>
    split at a
    next kt l g=>
     cases hf:aM E kt k with
     |false=>rw [hf]at a;cases a
     | true=>
       rw [hf]at a
       simp only [cond_true]at a
       split at a
       next p=>
        split at a
        next n q i=>
         cases a
         refine⟨_,_,_,_,_,rfl,g,hf,i,?_,?_⟩
         . intro e;rw [e]at b;cases b
         . split at b
           next=>cases b
           next u f=>rw [f];cases b;rfl
           next f=>rw [f];cases b;rfl
        next=>cases a
       next=>cases a
    next=>cases a
 . rintro⟨r,d,c,kt,el,rfl,g,hf,i,o,rfl⟩
   rw [g]
   simp only [hf,cond_true,i]
   cases a:aJ k d with
   |none=>exact absurd a o
   |some u=>cases u<;>rfl
theorem Tr.set_set{α:Type}(t:Tr α)(i:Nat)(x y:α):(t.set i x).set i y=t.set i y:=by
 induction t generalizing i with
 |nil=>rfl
 | node z l r a b=>
   rw [Tr.set_node,Tr.set_node]
   cases i with
   |zero=>rfl
   | succ n=>
     simp only []
     split
     . next h=>rw [Tr.set_node];simp only [h,if_true,a]
     . next h=>rw [Tr.set_node];simp only [h,if_false,b]
theorem qd(h:Hp)(b:Nat)(x y:Blk):(h.put b x).put b y=h.put b y:=by
 unfold Hp.put
 simp only [Tr.set_set]
 congr 1
 unfold dR
 cases c:zZ b h.lo with
 |true=>simp only [cond_true];rw [zF (zp b)];rfl
 | false=>
   simp only [cond_false]
   cases a:zZ b h.lo with
   |true=>rw [c]at a;cases a
   |false=>rfl
theorem gu{h:Hp}{b:Nat}{x y:Blk}(a:h.get b=some y):(h.put b x).get b=some x:=by
 rw [Hp.get_put,if_pos ⟨rfl,by rw [a];rfl⟩]
theorem put_swap{E:Env}{h z u:Hp}{ty:TypeId}{m f k2 q l:Value}(A:mC f=true)(B:mC k2=true)(v:aY f k2=some false)(w:aY k2 f=some false)(C:c7 E h ty m f q=some z)(D:c7 E z ty m k2 l=some u):
 ∃ h3 h4 r d c es' c',c7 E h ty m k2 l=some h3/\c7 E h3 ty m f q=some h4/\m=.map (some r)/\u.get r=some (.map d c)/\h4=u.put r (.map es' c')/\
   ∀kt el k,E.und ty=some (.map kt el)->aM E kt k=true->(aJ k es').map (Xb Xg)=(aJ k d).map (Xb Xg):=by
 obtain⟨r,d,c,kt,el,rfl,s,n,t,g,rfl⟩:=lP.1 C
 obtain⟨J,F,K,x,y,G,a,o,p,b,rfl⟩:=lP.1 D
 cases G
 rw [s]at a;cases a
 rw [gu t]at p
 cases p
 rw [ia w]at b
 refine⟨_,_,r,_,_,(mput f q (mput k2 l d c).1 (mput k2 l d c).2).1,(mput f q (mput k2 l d c).1 (mput k2 l d c).2).2,lP.2 ⟨r,d,c,kt,el,rfl,s,o,t,b,rfl⟩,
  lP.2 ⟨r,_,_,kt,el,rfl,s,n,gu t,by rw [ia v];exact g,rfl⟩,rfl,gu (gu t),by rw [qd,qd,qd],?_⟩
 intro x y k a hf
 rw [s]at a;cases a
 obtain⟨H,i⟩:=oJ hf n
 obtain⟨I,j⟩:=oJ hf o
 cases H with
 | true=>
   have e:=jD i
   subst e
   rw [qD (mU A) (by rw [ia v];exact g),ia v,qD (mU A) g]
 | false=>
   cases I with
   | true=>
     have e:=jD j
     subst e
     rw [ia w,qD (mU B) b,qD (mU B) (by rw [ia w];exact b)]
   |false=>rw [ia i,ia j,ia j,ia i]
theorem oB{E:Env}{R:Rec}{ops os:List Oper}{q i:Nat}{a:Oper}{l:Loc}{h:Hp}{d:List (Nat×Tch)}{t:Tmp}{ty:TypeId}{k:Value}{x:Operand}(c:a.op=.insert ty (.tmp t) (.const k) x)(j:a.dst=none)(m:a.guard=none)(n:mC k=true):
 aS E R ops q (a::os) i l h d=(c7 E h ty (l.ev (.tmp t)) k (l.ev x)).bind fun f=>aS E R ops q os (i+1) l f (eJ i d (match l.ev (.tmp t)with
  | .map (some r)=>some (.blk r)
  |_=>none)):=by
 have g:l.evD (tmpsOf a.op.operands.toList) (.tmp t)=l.ev (.tmp t):=by
  rw [c];unfold Loc.evD
  simp [Op.operands,tmpsOf,jY,zD]
 have o:l.evD (tmpsOf a.op.operands.toList) (.const k)=k:=by
  unfold Loc.evD Loc.ev
  simp only []
  cases k<;>first|(cases n;done)|rfl
 have p:l.evD (tmpsOf a.op.operands.toList) x=l.ev x:=by
  rw [c];unfold Loc.evD
  cases x<;>simp [Op.operands,tmpsOf,jY,zD]
 have s:dk E q i a.op=false:=by unfold dk;rw [c];show(q.testBit i&&false)=false;simp
 simp only [aS,bC,m,s,bQ,cond_false]
 rw [show aop E (l.evD (tmpsOf a.op.operands.toList)) h a.op=dK (c7 E h ty (l.ev (.tmp t)) k (l.ev x)) by
  have: ∀b:Operand->Value,aop E b h (.insert ty (.tmp t) (.const k) x)=dK (c7 E h ty (b (.tmp t)) (b (.const k)) (b x)):=fun _=>rfl
  rw [<-g,<-p]
  conv=>rhs;rw [<-o]
  rw [c,this]]
 cases c7 E h ty (l.ev (.tmp t)) k (l.ev x)with
 |none=>rfl
 | some f=>
   simp only [dK,cd,zM,j]
   congr 1
   congr 1
   unfold bM g8
   have e: ∀b:Operand->Value,touch b a.op=(match b (.tmp t)with| .map r=>r|_=>none):=fun b=>by rw [c];rfl
   rw [show cQ a.op=false by rw [c];rfl,show dI a.op=false by rw [c];rfl]
   simp only [cond_false]
   rw [e,g]
   generalize l.ev (.tmp t)=u
   cases u<;>(try rfl)
   next r=>cases r<;>rfl
theorem note_read{E:Env}{ρ:Operand->Value}{b:Bool}{op:Op}{a c h3 h4:Hp}(d:cls E op<=1):bM ρ b op a c=bM ρ b op h3 h4:=by
 unfold bM
 rw [iA (E:=E) (by omega),jF (E:=E) (by omega),jF (E:=E) (by omega)]
 rfl
theorem uc {E : Env} {R:Rec} {ops:List Oper} {q:Nat} {t:Tmp} {ty:TypeId} {r:Nat} {G es':List (Value×Value×Nat)} {c c':Nat} {j:Hp} (H:j.get r=some (.map G c))
 (O: ∀kt el k,E.und ty=some (.map kt el)->aM E kt k=true->(aJ k es').map (Xb Xg)=(aJ k G).map (Xb Xg)):
 ∀ (os:List Oper) (i:Nat) (l:Loc) (D:List (Nat×Tch)) (l':Loc) (w:Hp) (n:List (Nat×Tch)),(∀o∈os,sn E ty t o=true/\o.guard=none)->aS E R ops q os i l j D=some (l',w,n)->
   w=j/\l'.ev (.tmp t)=l.ev (.tmp t)/\aS E R ops q os i l (j.put r (.map es' c')) D=some (l',j.put r (.map es' c'),n)
 | [],i,l,D,l',w,n,_,s=>by cases s;exact⟨rfl,rfl,rfl⟩
 | o :: os, i, l,D,l',w,n,P,s=>by
   obtain⟨z,I⟩:=P o zw
   unfold sn at z
   simp only [zt,zG,Bool.or_eq_true]at z
   have A:cls E o.op<=1:=by
    rcases z.2 with h|h
    . rw [zn h];omega
    . unfold tw at h
      split at h
      . next e=>rw [e];exact zp 1
      . cases h
   obtain⟨f,Q,T,_⟩:=rq (E:=E) (op:=o.op) (ρ:=l.evD (tmpsOf o.op.operands.toList)) (by omega)
   have hf : ∀ v,f j=some v->f (j.put r (.map es' c'))=some v:=by
    intro v a
    rcases z.2 with h|h
    . rw [T (zn h) _ j];exact a
    . unfold tw at h
      split at h
      next B m k J e=>
       have:=zn h
       subst this
       have U: ∀h,f h=bU E h B (l.evD (tmpsOf o.op.operands.toList) m) (l.evD (tmpsOf o.op.operands.toList) k) J:=by
        intro h
        have:=Q h
        rw [e]at this
        rw [e]
        exact uA this.symm
       rw [U]at a⊢
       generalize l.evD (tmpsOf o.op.operands.toList) m=V at a⊢
       generalize l.evD (tmpsOf o.op.operands.toList) k=F at a⊢
       unfold bU at a⊢
       cases K:E.und B with
       |none=>rw [K]at a;cases a
       | some d=>
         rw [K]at a
         cases d<;>(try (cases a;done))
         next kt el=>
          simp only []at a⊢
          cases p:aM E kt F with
          |false=>rw [p]at a;cases a
          | true =>
            rw [p]at a
            simp only [cond_true]at a⊢
            cases V<;>(try (cases a;done))
            next b =>
             cases b with
             |none=>exact a
             | some b=>
               simp only []at a⊢
               by_cases C:r=b
               . subst C
                 rw [H]at a
                 rw [gu H]
                 simp only []at a⊢
                 have g:=O kt el F K p
                 cases S:aJ F G with
                 |none=>rw [S]at a;cases a
                 | some u=>
                   rw [S]at a g
                   cases j:aJ F es' with
                   |none=>rw [j]at g;cases g
                   | some W=>
                     rw [j]at g
                     cases u<;>cases W<;>simp at g
                     . exact a
                     . next x y=>obtain⟨x1,x2⟩:=x;obtain⟨y1,y2⟩:=y;simp only []at g a⊢;rw [g];exact a
               . rw [bK C];exact a
      next=>cases h
   have X:dk E q i o.op=false:=pM A
   simp only [aS,bC,I,X,bQ,cond_false]at s⊢
   rw [Q]at s⊢
   cases a:f j with
   |none=>rw [a]at s;cases s
   | some v=>
     rw [a]at s
     rw [hf v a]
     simp only [bO,cd]at s⊢
     have L:=uc (c':=c') H O os (i+1) (l.put o.dst v) _ l' w n (fun o M=>P o (zz _ M)) s
     obtain⟨Y,Z,k3⟩:=L
     refine⟨Y,Z.trans ?_,?_⟩
     . have N:o.dst≠some t:=by
        intro e
        have:=z.1
        unfold oY at this
        rw [e]at this
        simp only [zD]at this
        cases this
       unfold Loc.ev
       simp only [ku N]
     . rw [note_read (E:=E) A (h3:=j) (h4:=j)];exact k3
theorem fork_swap {E:Env} {R:Rec} {os:List Oper} {e q:Nat} {t:Tmp} (s:m6 E os e=some t) {l l':Loc} {h h' h2:Hp} {tr:List (Nat×Tch)} (he:aS E R os q os 0 l h []=some (l',h',tr)) (F:kT (some t) l' h'=some h2):
 e+2<os.length/\(∀o∈os,o.guard=none)/\ ∀o2:List Oper,o2.map (fun o=>(o.op,o.dst))=(fj os.length (e+1)).filterMap (fun i=>(os[i]?).map fun o=>(o.op,o.dst))->(∀o∈o2,o.guard=none)->
  ∃G,aS E R o2 q o2 0 l h []=some (l',G,tr)/\kT (some t) l' G=some h2:=by
 unfold m6 at s
 split at s
 next m a b hm S N=>
  split at s
  next H hd =>
   split at s
   next ta x tb y T U=>
    cases O:(isMk m.op&&(zN ta tb&&(p9 x y&&(p9 y x&&((os.drop (e+3)).all (sn E ta H)&&os.all fun o=>o.guard.isNone)))))with
    |false=>rw [O]at s;cases s
    | true =>
      rw [O]at s
      simp only [cond_true,Option.some.injEq]at s
      subst s
      simp only [zt,List.all_eq_true]at O
      obtain⟨_,A,V,W,B,X⟩:=O
      have A:=zn A
      subst A
      have j: ∀o∈os,o.guard=none:=fun o g=>by have:=X o g;simpa using this
      have I:e+2<os.length:=(List.getElem?_eq_some_iff.1 N).1
      refine⟨I,j,fun o2 Y Z=>?_⟩
      -- the parts
      have w:os=os.take (e+1)++a::b::os.drop (e+3):=by
       have e1:os.drop (e+1)=a::b::os.drop (e+3):=by
        rw [zH (by omega),zH (by omega)]
        rw [(List.getElem?_eq_some_iff.1 S).2,(List.getElem?_eq_some_iff.1 N).2]
       rw [<-e1,List.take_append_drop]
      have J: ∀{o:Oper} {ty:TypeId} {k:Value},insK H o=some (ty,k)-> ∃z,o.op=.insert ty (.tmp H) (.const k) z/\o.dst=none/\mC k=true:=by
       intro o ty k h
       unfold insK at h
       split at h
       next an aa k' z ac=>
        cases n:(zN aa H&&(o.dst.isNone&&mC k'))with
        |false=>rw [n]at h;cases h
        | true=>
          rw [n]at h
          cases h
          simp only [zt]at n
          have:=zn n.1
          subst this
          exact⟨z,ac,by simpa using n.2.1,n.2.2⟩
       next=>cases h
      obtain⟨z1,p1,p2,p3⟩:=J T
      obtain⟨z2,r1,r2,r3⟩:=J U
      have K: ∀{u v:Value},p9 u v=true->aY u v=some false:=by
       intro u v h
       unfold p9 at h
       split at h
       next bb ad=>rw [ad];cases bb<;>first|rfl|cases h
       next=>cases h
      have C:=j a (zI S)
      have D:=j b (zI N)
      -- the run
      have f:=he
      rw [show aS E R os q os 0 l h []=aS E R os q (os.take (e+1)++a::b::os.drop (e+3)) 0 l h [] by rw [<-w]]at f
      rw [mb]at f
      obtain⟨⟨l1,h1,a0⟩,s1,f⟩:=Option.bind_eq_some_iff.1 f
      simp only []at f
      rw [oB p1 p2 C p3]at f
      obtain⟨a1,s2,f⟩:=Option.bind_eq_some_iff.1 f
      rw [oB r1 r2 D r3]at f
      obtain⟨a2,s3,f⟩:=Option.bind_eq_some_iff.1 f
      obtain⟨h3,h4,r,es,c,es',c',w1,w2,w3,w4,w5,w6⟩:=put_swap p3 r3 (K V) (K W) s2 s3
      obtain⟨k1,k2,k3⟩:=uc (t:=H) (es':=es') (c':=c') w4 w6 _ _ _ _ _ _ _ (fun o g=>⟨B o g,j o (Xh g)⟩) f
      refine⟨h4,?_,?_⟩
      . -- the other list
        have af:o2.map (fun o=>(o.op,o.dst))=(os.take (e+1)++b::a::os.drop (e+3)).map (fun o=>(o.op,o.dst)):=by
         rw [Y]
         have L: ∀p:Nat,((fj os.length (e+1)).filterMap (fun i=>(os[i]?).map fun o=>(o.op,o.dst)))[p]? =((os.take (e+1)++b::a::os.drop (e+3)).map (fun o=>(o.op,o.dst)))[p]? :=by
          intro p
          have M:(fj os.length (e+1)).filterMap (fun i=>(os[i]?).map fun o=>(o.op,o.dst))=(fj os.length (e+1)).map (fun i=>(os.map (fun o=>(o.op,o.dst))).getD i (m.op,m.dst)):=by
           have ai: ∀(l:List Nat),(∀i∈l,i<os.length)->l.filterMap (fun i=>(os[i]?).map fun o=>(o.op,o.dst))=l.map (fun i=>(os.map (fun o=>(o.op,o.dst))).getD i (m.op,m.dst)):=by
            intro l
            induction l with
            |nil=>intro _;rfl
            | cons x l ih=>
              intro hx
              have ak:=hx x zw
              rw [Xa,<-ih (fun i hi=>hx i (zz _ hi))]
              simp [ak]
           exact ai _ fun i hi=>(wF (by omega) i).1 hi
          rw [M,zL,rP,zL]
          by_cases P:p<os.length
          . rw [if_pos P]
            simp only [zy]
            rcases Nat.lt_trichotomy p (e+1)with Q|Q|Q
            . rw [swN_ne (by omega) (by omega),zP (by rw [zx];omega),z9,if_pos Q]
              simp [P]
            . subst Q
              rw [swN_k,zo (by rw [zx];omega),zx,Xf (by omega),Nat.sub_self]
              simp [N]
            . by_cases al:p=e+2
              . subst al
                rw [swN_k1,zo (by rw [zx];omega),zx,Xf (by omega),show e+2-(e+1)=1 by omega]
                simp [S]
              . rw [swN_ne (by omega) (by omega),zo (by rw [zx];omega),zx,Xf (by omega)]
                obtain⟨d,rfl⟩: ∃d,p=e+3+d:=⟨p-(e+3),by omega⟩
                rw [show e+3+d-(e+1)=d+2 by omega,Xc,Xc,List.getElem?_drop]
                simp [P]
          . rw [if_neg P,zY (by simp only [List.length_append,zx,zV,List.length_drop];omega)]
            rfl
         exact List.ext_getElem? L
        rw [px (ops':=os) o2 _ _ _ _ _ af Z (fun o g=>by
         rcases List.mem_append.1 g with g|g
         . exact j o (List.mem_of_mem_take g)
         . rcases List.mem_cons.1 g with rfl|g
           . exact D
           . rcases List.mem_cons.1 g with rfl|g
             . exact C
             . exact j o (Xh g))]
        rw [mb,s1]
        simp only [zM]
        rw [oB r1 r2 D r3,w1]
        simp only [zM]
        rw [oB p1 p2 C p3,w2]
        simp only [zM]
        rw [w5]
        exact k3
      . rw [w3]at k2
        unfold kT at F⊢
        simp only [k2]at F⊢
        rw [k1,w4]at F
        rw [w5,gu w4]
        simp only []at F⊢
        rw [qd];exact F
   next=>cases s
  next=>cases s
 next=>cases s

theorem tieL_sh(os:List Oper)(k:Nat):(jS os k).map (fun o=>(o.op,o.dst))=os.map (fun o=>(o.op,o.dst)):=by
 refine List.ext_getElem? fun i=>?_
 rw [zL,zL,mD]
 cases os[i]? with
 |none=>rfl
 |some o=>obtain⟨a,b,_⟩:=rQ k i o;simp [a,b]
theorem rR{os:List Oper}{k:Nat}(h: ∀o∈os,o.guard=none): ∀o∈jS os k,o.guard=none:=by
 intro o c
 obtain⟨i,a⟩:=List.getElem?_of_mem c
 rw [mD]at a
 obtain⟨b,d,rfl⟩:=Option.map_eq_some_iff.1 a
 rw [(rQ k i b).2.2]
 exact h b (zI d)
theorem rH(os:List Oper)(ord:List Nat): ∀(l:List Nat),(dv os ord l).map (fun o=>(o.op,o.dst))=l.filterMap fun i=>(os[i]?).map fun o=>(o.op,o.dst)
 | []=>rfl
 | i::l=>by
   unfold dv
   rw [List.filterMap_cons]
   cases os[i]? with
   |none=>exact rH os ord l
   |some o=>simp only [Xa,zy,rH os ord l];rfl
theorem nD{os:List Oper}{ord:List Nat}(h: ∀o∈os,o.guard=none): ∀(l:List Nat),∀o∈dv os ord l,o.guard=none
 | [],o,a=>by cases a
 | i ::l,o,a=>by
   unfold dv at a
   cases b:os[i]? with
   |none=>rw [b]at a;exact nD h l o a
   | some o'=>
     rw [b]at a
     rcases List.mem_cons.1 a with rfl|a
     . have:=h o' (zI b)
       simp [reix,this]
     . exact nD h l o a
theorem ut{d:List (Nat×Tch)}: ∀{ps c:List (Nat×Nat)},bL d (ps++c)=true->bL d ps=true/\bL d c=true
 | [],_,h=>⟨rfl,h⟩
 | (i,j)::ps,c,h=>by
   simp only [zW,bL,zt]at h⊢
   obtain⟨a,b⟩:=ut h.2
   exact⟨⟨h.1,a⟩,b⟩
section
variable{E:Env}{P:Program}(ok:EOk E P){R:Rec}(hc:eG E P R.call)(hcode:gG P R.code)
theorem kill_sim{cx:Cx}{l:Loc}{h f:Hp}{mu:Mu}{w:World}{F:FC}{g:List Frame}{tmps:Array Value}{dfs:List Deferred}{i:Option (Value×Bool)}{t:Tmp}(s:SR P cx l h mu w F g tmps dfs i)(a:kT (some t) l h=some f):
 ∃j,SR P cx l f j w F g tmps dfs i/\Ext mu h w j f w:=by
 unfold kT at a
 simp only []at a
 split at a
 next b d=>
  split at a
  next D c y=>
   cases a
   have p: ∃m,aq mu (.map (some b)) m:=by
    unfold Loc.ev at d
    simp only []at d
    cases q:l.regs.get t with
    |none=>rw [q]at d;cases d
    |some v=>rw [q]at d;simp only []at d;subst d;obtain⟨m,_,x⟩:=s.regs.get t _ q;exact⟨m,x⟩
   obtain⟨m,p⟩:=p
   cases p with
   | map r=>
     unfold cL at r
     cases n:mu b with
     |none=>rw [n]at r;exact r.elim
     |dead=>have:=s.hr.dead b n;rw [y]at this;cases this
     | blk z k u=>
       obtain⟨x,o,G,f,H⟩:=s.hr.blk b z k u n
       obtain⟨A,B⟩:=lD s.hr n (by intro t I el e;rw [y]at e;cases e) (⟨rfl,f,fun _ _=>rfl,rfl,rfl,rfl⟩:WSet w w z o)
       refine⟨_,s.step A (fun C _=>?_),B⟩
       by_cases e:C=b
       . subst e;exact .inr (upd_same _ _ _)
       . exact .inl (aB _ _ e)
  next=>cases a
 next=>cases a

include ok hc hcode in
theorem forkD_sim(cx:Cx)(id:Nat)(ops:Array Oper)(l:Loc)(h:Hp)(l':Loc)(X:Hp)(x:Ex)(c:forkD E R ops.toList l h=some (x,l',X))(mu:Mu)(w:World)(F:FC)(j:List Frame)(tmps:Array Value)(dfs:List Deferred)(d:Option (Value×Bool))(k:List Item)(s:SR P cx l h mu w F j tmps dfs d):
 Sim P cx h mu w F j tmps dfs d (.code (.region id ops true)::k) k x l' X:=by
 unfold forkD at c
 cases u:qA E (aZ ops.toList)with
 |none=>rw [u]at c;cases c
 |some qp=>
 obtain⟨q,ps⟩:=qp
 rw [u]at c
 simp only []at c
 cases M:aS E R (aZ ops.toList) q (aZ ops.toList) 0 l h []with
 |none=>rw [M]at c;cases c
 |some r3=>
 obtain⟨l1,h1,tr⟩:=r3
 rw [M]at c
 simp only []at c
 cases G:bL tr ps with
 |false=>rw [G]at c;cases c
 |true=>
 rw [G]at c
 simp only [cond_true]at c
 obtain⟨a,A,Y,hC,L⟩:=um ops
 rw [<-hC]at u M c
 unfold qA at u
 split at u
 next t ms q1 aa q2 ac hT hB ad af=>
  cases H:zN q1 q2 with
  |false=>rw [H]at u;cases u
  |true=>
  rw [H]at u
  cases u
  have N:=zn H
  subst N
  rw [hT]at c
  cases Z:kT (some t) l1 h1 with
  |none=>rw [Z]at c;cases c
  |some h2=>
  rw [Z]at c
  cases c
  obtain⟨O,v,ai⟩:=fork_swap hT M Z
  obtain⟨ak,al⟩:=ut G
  obtain⟨_,_,g3⟩:=qk _ _ _ hB
  simp only [List.length_nil,zu]at g3
  have B: ∀i,nl a.toList ms.reverse i:=fun i o ho=>g3 i o ho
  generalize a3:jH a.toList=b at*
  have hn:a.toList.length=a.size:=by simp
  rw [hn]at O
  have z:Region.schedule (P.follows .mixedOrders) ops (w.tape w.drawn (.order F.fn id))=Region.linearise.go .any ops ops.size (w.tape w.drawn (.order F.fn id)) (zq ops.size false) []:=by
   rw [ok.mixed];rfl
  have Q:(fun p=>aR (zq ops.size false) (A p))=fun _=>false:=by
   funext i
   simp only [aR,zk,zR]
   split<;>rfl
  have hg:=rf L B ops.size (w.tape w.drawn (.order F.fn id)) (zq ops.size false) (by simp [L.size]) (by rw [Q,<-L.size];exact l8 _)
  rw [Q]at hg
  generalize a1:Region.linearise.go .any ops ops.size (w.tape w.drawn (.order F.fn id)) (zq ops.size false) []=m at*
  have C:(m.map Y).map A=m:=by rw [Xj,show(A∘Y)=fun i=>i from funext L.st];exact List.map_id' m
  have S: ∀(hx:Hp),kT (some t) l' hx=some X->(∃I T g,SR P cx l' hx I T F j g dfs d/\Ext mu h w I hx T/\
   Steps P (lone (F.mk' tmps dfs (.inRegion ops (m++[])::k)) (aA d j) {w with drawn:=w.drawn+1}) (lone (F.mk' g dfs (.inRegion ops []::k)) (aA d j) T))->
   Sim P cx h mu w F j tmps dfs d (.code (.region id ops true)::k) k .normal l' X:=by
   rintro hx an ⟨I,T,g,s',e',st⟩
   obtain⟨a0,s2,e2⟩:=kill_sim s' an
   rw [Xd]at st
   refine⟨a0,T,g,dfs,d,s2,Ext.trans e' e2,Steps.trans (.one ?_) (Steps.trans st (.one lK))⟩
   rw [<-z]
   exact ky
  have U:b+1∈m.map Y:=wP (by omega) hg rfl
  rcases befL_or (y:=b+1+1) U with hb|hb
  . refine S h1 Z ?_
    have r:=pC ok hc hcode cx (jS a.toList (b+1)).toArray ops (L.same.tie (b+1)) _ (q9 hg (.inr hb)) [] l h l' h1 q aa tr ad
     (by rw [<-M];exact px _ _ _ _ _ _ (tieL_sh _ _) (rR v) v) ak mu w F j tmps dfs d k s
    rw [C]at r
    exact r
  . have V:b+1+1<a.toList.length:=by rw [hn];omega
    have J:=y6 a.toList.length (b+1)
    have n:=wD a (fj a.toList.length (b+1)) (wF V) J (ord2_len _ _) (List.all_eq_true.2 fun o ho=>by unfold gE;rw [v o ho])
    have pa:dT (b+1) (fj a.toList.length (b+1))=b+1+1:=rA J (by rw [rP,if_pos V,swN_k1])
    have pb:dT (b+1+1) (fj a.toList.length (b+1))=b+1:=rA J (by rw [rP,if_pos (by omega),swN_k])
    obtain⟨h3,e3,k3⟩:=ai (jS (dv a.toList (fj a.toList.length (b+1)) (fj a.toList.length (b+1))) (b+1)) (by rw [tieL_sh,rH]) (rR (nD v _))
    refine S h3 k3 ?_
    have g2:=wA n B hg
    generalize a2:(fun(p:Nat)=>((fj a.toList.length (b+1))[p]?).getD p)=σ2 at*
    generalize D:(fun(i:Nat)=>if i<a.size then dT i (fj a.toList.length (b+1))else i)=τ2 at*
    have ta:τ2 (b+1)=b+1+1:=by rw [<-D];show(if b+1<a.size then _ else _)=_;rw [if_pos (by omega),pa]
    have tb:τ2 (b+1+1)=b+1:=by rw [<-D];show(if b+1+1<a.size then _ else _)=_;rw [if_pos (by omega),pb]
    have W:=xi (f:=τ2) (fun p e=>by rw [<-n.st p,e,n.st]) hb
    rw [ta,tb]at W
    have r:=pC ok hc hcode cx (jS (dv a.toList (fj a.toList.length (b+1)) (fj a.toList.length (b+1))) (b+1)).toArray ops ((L.same.comp n).tie (b+1)) _ (q9 g2 (.inr W)) [] l h l' h3 q ac tr af e3 al mu w F j tmps dfs d k s
    have K:((m.map Y).map τ2).map (A∘σ2)=m:=by
     rw [Xj,show((A∘σ2)∘τ2)=A from funext fun i=>by show A (σ2 (τ2 i))=A i;rw [n.st]]
     exact C
    rw [K]at r
    exact r
 next=>cases u
include ok hc hcode in
theorem ww:rl E P R:=by
 intro g id b l h i j x c m w F d a e f k s
 unfold cutD at c
 cases hf:pE E b.toList with
 |true=>rw [hf]at c;exact forkD_sim ok hc hcode g id b l h i j x c m w F d a e f k s
 |false=>rw [hf]at c;exact zc ok hc hcode g id b l h i j x c m w F d a e f k s
end

end Go.Ab

namespace Go.Ab

def RLe(R R':Rec):Prop:=(∀f a b h o,R.call f a b h=some o->R'.call f a b h=some o)/\(∀d c l h o,R.code d c l h=some o->R'.code d c l h=some o)
def lU{α:Type}(F:Rec->Option α):Prop:= ∀R a,RLe R a-> ∀o,F R=some o->F a=some o
theorem lU.const{α:Type}(x:Option α):lU (fun _=>x):=fun _ _ _ _ h=>h
theorem lU.bind{α e:Type}{F:Rec->Option α}{G:α->Rec->Option e}(f:lU F)(g: ∀a,lU (G a)):lU (fun R=>(F R).bind fun a=>G a R):=by
 intro R c d o h
 simp only []at h⊢
 cases b:F R with
 |none=>rw [b]at h;cases h
 | some a=>
   rw [b]at h
   rw [f R c d a b]
   exact g a R c d o h

theorem RLe.refl(R:Rec):RLe R R:=⟨fun _ _ _ _ _ h=>h,fun _ _ _ _ _ h=>h⟩
theorem RLe.trans{a b c:Rec}(h:RLe a b)(k:RLe b c):RLe a c:=⟨fun f x g d o e=>k.1 _ _ _ _ _ (h.1 _ _ _ _ _ e),fun i x l d o e=>k.2 _ _ _ _ _ (h.2 _ _ _ _ _ e)⟩

def MC(E:Env)(W:Rec){α:Type}(F:Rec->Option α):Prop:=lU F/\ ∀o,F W=some o-> ∃n,F (run E n)=some o

section
variable{E:Env}{W:Rec}
theorem MC.const{α:Type}(x:Option α):MC E W (fun _=>x):=⟨.const x,fun _ h=>⟨0,h⟩⟩
theorem MC.bind(e: ∀n m,n<=m->RLe (run E n) (run E m)){α f:Type}{F:Rec->Option α}{G:α->Rec->Option f}(b:MC E W F)(c: ∀a,MC E W (G a)):MC E W (fun R=>(F R).bind fun a=>G a R):=by
 refine⟨b.1.bind fun a=>(c a).1,fun o h=>?_⟩
 simp only []at h
 cases d:F W with
 |none=>rw [d]at h;cases h
 | some a=>
   rw [d]at h
   obtain⟨n,g⟩:=b.2 a d
   obtain⟨m,i⟩:=(c a).2 o h
   refine⟨n+m,?_⟩
   simp only []
   rw [b.1 _ _ (e n (n+m) (by omega)) a g]
   exact(c a).1 _ _ (e m (n+m) (by omega)) o i
theorem MC.congr{α:Type}{F F':Rec->Option α}(e: ∀R,F' R=F R)(h:MC E W F):MC E W F':=by
 have:F'=F:=funext e
 rw [this];exact h
end

section
variable(E:Env)
structure Closed(E:Env)(K: ∀{α:Type},(Rec->Option α)->Prop):Prop where
 const: ∀{α:Type} (x:Option α),K (fun _=>x)
 bind: ∀{α β:Type} {F:Rec->Option α} {G:α->Rec->Option β},K F->(∀a,K (G a))->K (fun R=>(F R).bind fun a=>G a R)
 congr: ∀{α:Type} {F F':Rec->Option α},(∀R,F' R=F R)->K F->K F'
 call: ∀f a rc h,K (fun R=>R.call f a rc h)
 code: ∀cx c l h,K (fun R=>R.code cx c l h)
end

section
variable{E:Env}{K: ∀{α:Type},(Rec->Option α)->Prop}(C:Closed E K)
include C

theorem k_round (b:Nat) (args:List Value) (h:Hp):K (fun R=>gK E R b args h):=by
 unfold gK
 cases m:h.get b with
 |none=>exact C.const _
 | some x =>
   cases x<;>(try exact C.const _)
   rename_i r
   simp only []
   cases(E.fn r.fn).isSome with
   |false=>exact C.const _
   | true =>
     simp only [cond_true]
     split
     next l =>
      split
      next=>exact C.const _
      next c i=>
       refine C.congr (F:=fun R=>(R.code ⟨r.fn,r.nr,some b⟩ r.assign ⟨c,[],none⟩ h).bind fun q=>match q with
        | (.normal,g,d)=>match d.get b with
          | some (.loop e)=>match e.st with
            | 0 =>(R.code ⟨r.fn,r.nr,some b⟩ r.body g (d.put b (.loop {e with st:=1}))).bind fun q=>match q with
              | (.normal,_,a)=>match a.get b with
                |some (.loop f)=>some (.ret (.bool true),a.put b (.loop {f with st:=0,pending:=none}))
                |_=>none
              | (.exit id,_,a)=>match a.get b with
                |some (.loop f)=>some (.ret (.bool false),a.put b (.loop {f with st:=2,pending:=some (.exit id)}))
                |_=>none
              | (.ret,_,a)=>match a.get b with
                |some (.loop f)=>some (.ret (.bool false),a.put b (.loop {f with st:=2,pending:=some .ret}))
                |_=>none
              | (.pan v,j,a)=>match j.dfs with
                | []=>some (.pan v,a)
                |_=>none
            |_=>none
          |_=>none
        |_=>none) ?_ ?_
       . intro R
         cases R.code ⟨r.fn,r.nr,some b⟩ r.assign ⟨c,[],none⟩ h with
         |none=>rfl
         | some q=>
           obtain⟨x,g,d⟩:=q
           cases x<;>(try rfl)
           simp only [zM]
           cases d.get b with
           |none=>rfl
           | some y=>
             cases y<;>(try rfl)
             rename_i e
             simp only []
             cases k:e.st with
             | zero=>
               simp only []
               cases R.code ⟨r.fn,r.nr,some b⟩ r.body g (d.put b (.loop {e with st:=1}))with
               |none=>rfl
               |some q=>obtain⟨x,j,a⟩:=q;cases x<;>rfl
             |succ n=>rfl
       . refine C.bind (C.code _ _ _ _) fun q=>?_
         obtain⟨x,g,d⟩:=q
         cases x<;>(try exact C.const _)
         simp only []
         cases d.get b with
         |none=>exact C.const _
         | some y=>
           cases y<;>(try exact C.const _)
           simp only []
           split
           . refine C.bind (C.code _ _ _ _) fun q=>?_
             exact C.const _
           . exact C.const _
     next=>exact C.const _

theorem tH(x:Option (cH×Hp)):K (fun R=>cd E R x):=by
 cases x with
 |none=>exact C.const _
 | some q=>
   obtain⟨e,h⟩:=q
   cases e<;>(try exact C.const _)
   . rename_i f d
     refine C.congr (F:=fun R=>(R.call f d none h).bind fun q=>some (q.1,q.2.2)) (fun R=>?_) (C.bind (C.call _ _ _ _) fun _=>C.const _)
     simp only [cd]
     cases R.call f d none h with
     |none=>rfl
     |some q=>obtain⟨a,b,c⟩:=q;rfl
   . exact k_round C _ _ _

theorem k_stepOp(cx:Cx)(o:Oper)(l:Loc)(h:Hp):K (fun R=>c9 E R cx o l h):=by
 unfold c9
 have a:K (fun R=>kU o l (cd E R (aop E l.ev h o.op))):=by
  refine C.congr (F:=fun R=>(cd E R (aop E l.ev h o.op)).bind fun q=>kU o l (some q)) (fun R=>?_) (C.bind (tH C _) fun _=>C.const _)
  cases cd E R (aop E l.ev h o.op)<;>rfl
 cases b:aop E l.ev h o.op with
 |none=>exact C.const _
 | some q=>
   rw [b]at a
   obtain⟨c,d⟩:=q
   cases c<;>(try exact a)
   . cases cx.round<;>exact C.const _
   . cases cx.round<;>exact C.const _

theorem qz (cx:Cx) (ops:List Oper): ∀(os:List Oper) (l:Loc) (h:Hp),K (fun R=>fK E R cx ops os l h)
 | [],l,h=>C.const _
 | o :: os,l,h=>by
   simp only [fK]
   cases bC ops l.regs o with
   |none=>exact C.const _
   | some b=>
     cases b with
     |false=>exact qz cx ops os _ _
     | true=>
       refine C.congr (F:=fun R=>(c9 E R cx o l h).bind fun q=>match q with
        |(.normal,l',a)=>fK E R cx ops os l' a
        |q=>some q) (fun R=>?_) (C.bind (k_stepOp C _ _ _ _) fun q=>?_)
       . cases c9 E R cx o l h with
         |none=>rfl
         |some q=>obtain⟨x,l',a⟩:=q;cases x<;>rfl
       . obtain⟨x,l',a⟩:=q
         cases x<;>first|exact qz cx ops os _ _|exact C.const _

theorem k_stepD(ρ:Operand->Value)(a:Bool)(o:Oper)(h:Hp):K (fun R=>bQ E R ρ a o h):=by
 unfold bQ
 cases a with
 | true=>
   refine C.congr (F:=fun R=>(cd E R (aop E ρ {h with lo:=h.n} o.op)).bind fun q=>match q with
    |(.ret v,b)=>bif zZ h.n b.lo then some (v,{b with lo:=h.lo})else none
    |_=>none) (fun R=>?_) (C.bind (tH C _) fun _=>C.const _)
   simp only [cond_true]
   cases cd E R (aop E ρ {h with lo:=h.n} o.op)with
   |none=>rfl
   |some q=>obtain⟨x,b⟩:=q;cases x<;>rfl
 | false=>
   refine C.congr (F:=fun R=>(cd E R (aop E ρ h o.op)).bind fun q=>match q with
    |(.ret v,b)=>some (v,b)
    |_=>none) (fun R=>?_) (C.bind (tH C _) fun _=>C.const _)
   simp only [cond_false]
   cases cd E R (aop E ρ h o.op)with
   |none=>rfl
   |some q=>obtain⟨x,b⟩:=q;cases x<;>rfl

theorem mO (ops:List Oper) (q:Nat): ∀(os:List Oper) (i:Nat) (l:Loc) (h:Hp) (c:List (Nat×Tch)),K (fun R=>aS E R ops q os i l h c)
 | [],i,l,h,c=>C.const _
 | o :: os,i,l,h,c=>by
   simp only [aS]
   cases bC ops l.regs o with
   |none=>exact C.const _
   | some b=>
     cases b with
     |false=>exact mO ops q os _ _ _ _
     | true=>
       refine C.congr (F:=fun R=>(bQ E R (l.evD (tmpsOf o.op.operands.toList)) (dk E q i o.op) o h).bind fun p=>
        aS E R ops q os (i+1) (l.put o.dst p.1) p.2 (eJ i c (bM (l.evD (tmpsOf o.op.operands.toList)) (dk E q i o.op) o.op h p.2))) (fun R=>?_) (C.bind (k_stepD C _ _ _ _) fun q=>mO ops _ os _ _ _ _)
       cases bQ E R (l.evD (tmpsOf o.op.operands.toList)) (dk E q i o.op) o h with
       |none=>rfl
       |some p=>obtain⟨a,b⟩:=p;rfl

theorem k_range (cx:Cx) (f:Value) (params:Array Tmp) (assign body:Code) (l:Loc) (h:Hp):K (fun R=>fJ R cx f params assign body l h):=by
 unfold fJ
 cases f<;>(try exact C.const _)
 rename_i t a b
 cases t<;>(try exact C.const _)
 rename_i g
 simp only []
 split
 . exact C.const _
 . rename_i e d c _
   refine C.congr (F:=fun R=>(R.call g (a.toList++[.func (.yield e.n) #[] #[]]++b.toList) none
    (e.new (.loop {fn:=cx.fn,regs:=l.regs,nr:=cx.nr,params,assign,body,st:=0,pending:=none,defers:=d}))).bind fun q=>match q with
    |(.pan v,_,i)=>some (.pan v,{l with dfs:=c},i)
    | (.ret _,_,i)=>match i.get e.n with
      | some (.loop x)=>match x.st with
        |1=>none
        | _=>match x.pending with
          |none=>some (.normal,{l with dfs:=c},i.put e.n .dead)
          |some (.exit id)=>some (.exit id,{l with dfs:=c},i.put e.n .dead)
          |some .ret=>some (.ret,{l with dfs:=c},i.put e.n .dead)
          |_=>none
      |_=>none) (fun R=>?_) (C.bind (C.call _ _ _ _) fun _=>C.const _)
   cases R.call g (a.toList++[.func (.yield e.n) #[] #[]]++b.toList) none
         (e.new (.loop {fn:=cx.fn,regs:=l.regs,nr:=cx.nr,params,assign,body,st:=0,pending:=none,defers:=d}))with
   |none=>rfl
   |some q=>obtain⟨x,y,z⟩:=q;cases x<;>rfl

theorem k_code(cx:Cx): ∀(c:Code) (l:Loc) (h:Hp),K (fun R=>ay E R cx c l h):=by
 intro c
 induction c with
 |skip=>intro l h;exact C.const _
 |label n=>intro l h;exact C.const _
 | region id d r=>
   intro l h
   simp only [ay]
   cases r with
   |false=>exact qz C _ _ _ _ _
   | true=>
     simp only [cond_true]
     cases E.cut cx.fn with
     | false=>
       simp only [cond_false]
       cases iI E (aZ d.toList)with
       |none=>exact C.const _
       | some p=>
         obtain⟨q,o⟩:=p
         simp only []
         refine C.congr (F:=fun R=>(aS E R (aZ d.toList) q (aZ d.toList) 0 l h []).bind fun x=>bif bL x.2.2 o then some (.normal,x.1,x.2.1)else none) (fun R=>?_) (C.bind (mO C _ _ _ _ _ _ _) fun _=>C.const _)
         cases aS E R (aZ d.toList) q (aZ d.toList) 0 l h []with
         |none=>rfl
         |some x=>obtain⟨a,b,c⟩:=x;rfl
     | true =>
       simp only [cond_true,cutD]
       cases pE E d.toList with
       | true=>
         simp only [cond_true,forkD]
         cases qA E (aZ d.toList)with
         |none=>exact C.const _
         | some p=>
           obtain⟨q,o⟩:=p
           simp only []
           refine C.congr (F:=fun R=>(aS E R (aZ d.toList) q (aZ d.toList) 0 l h []).bind fun x=>bif bL x.2.2 o then(match kT (m6 E (aZ d.toList) (jH (aZ d.toList))) x.1 x.2.1 with
            |some y=>some (.normal,x.1,y)
            |none=>none)else none) (fun R=>?_) (C.bind (mO C _ _ _ _ _ _ _) fun _=>C.const _)
           cases aS E R (aZ d.toList) q (aZ d.toList) 0 l h []with
           |none=>rfl
           |some x=>obtain⟨a,b,c⟩:=x;rfl
       |false=>
       simp only [cond_false,sh]
       cases qm d.toList (d.toList.length-1)with
       |false=>exact C.const _
       | true=>
         simp only [cond_true]
         generalize aZ (d.toList.take (d.toList.length-1))=A
         cases iI E A with
         |none=>exact C.const _
         | some p=>
           obtain⟨q,o⟩:=p
           simp only []
           refine C.congr (F:=fun R=>(aS E R A q A 0 l h []).bind fun x=>bif bL x.2.2 o then fK E R cx d.toList (d.toList.drop (d.toList.length-1)) x.1 x.2.1 else none) (fun R=>?_) (C.bind (mO C _ _ _ _ _ _ _) fun x=>?_)
           . cases aS E R A q A 0 l h []with
             |none=>rfl
             |some x=>obtain⟨a,b,c⟩:=x;rfl
           . cases bL x.2.2 o with
             |false=>exact C.const _
             |true=>exact qz C _ _ _ _ _
 | seq a b j k=>
   intro l h
   simp only [ay]
   refine C.congr (F:=fun R=>(ay E R cx a l h).bind fun q=>match q with
    |(.normal,e,g)=>ay E R cx b e g
    |q=>some q) (fun R=>?_) (C.bind (j _ _) fun q=>?_)
   . cases ay E R cx a l h with
     |none=>rfl
     |some q=>obtain⟨x,e,g⟩:=q;cases x<;>rfl
   . obtain⟨x,e,g⟩:=q
     cases x<;>first|exact k _ _|exact C.const _
 | cond c a b j k=>
   intro l h
   simp only [ay]
   cases l.ev c<;>(try exact C.const _)
   rename_i t
   cases t
   . exact k _ _
   . exact j _ _
 | block id b s=>
   intro l h
   simp only [ay]
   refine C.congr (F:=fun R=>(ay E R cx b l h).bind fun q=>match q with
    |(.exit i,e,g)=>bif zN i id then some (.normal,e,g)else some (.exit i,e,g)
    |q=>some q) (fun R=>?_) (C.bind (s _ _) fun _=>C.const _)
   cases ay E R cx b l h with
   |none=>rfl
   |some q=>obtain⟨x,e,g⟩:=q;cases x<;>rfl
 | loop b s=>
   intro l h
   simp only [ay]
   refine C.congr (F:=fun R=>(ay E R cx b l h).bind fun q=>match q with
    |(.normal,e,g)=>R.code cx (.loop b) e g
    |q=>some q) (fun R=>?_) (C.bind (s _ _) fun q=>?_)
   . cases ay E R cx b l h with
     |none=>rfl
     |some q=>obtain⟨x,e,g⟩:=q;cases x<;>rfl
   . obtain⟨x,e,g⟩:=q
     cases x<;>first|exact C.code _ _ _ _|exact C.const _
 |rangeFunc f u v w _ _=>intro l h;exact k_range C _ _ _ _ _ _ _
 |exit id=>intro l h;exact C.const _
 |scope b s=>intro l h;exact s _ _
 |goto n=>intro l h;exact C.const _
 |ret=>intro l h;exact C.const _
 |refuse m=>intro l h;exact C.const _

theorem mM : ∀(e:List Deferred) (m:Option Value) (h:Hp),K (fun R=>bA R e m h)
 | [],m,h=>C.const _
 | d :: e,m,h=>by
   simp only [bA]
   cases d.target with
   |nil=>exact C.const _
   |builtin a b c d=>exact C.const _
   |coroexit=>exact C.const _
   | collected b=>
     simp only []
     cases h.get b with
     |none=>exact C.const _
     |some x=>cases x<;>first|exact mM e _ _|exact C.const _
   | fn t cap=>
     cases t<;>(try exact C.const _)
     rename_i f
     simp only []
     refine C.congr (F:=fun R=>(R.call f (d.args.toList++cap.toList) (match m with|none=>none|some v=>some (v,false)) h).bind fun q=>match q with
      | (.ret _,g,i)=>match m,g with
        |none,none=>bA R e none i
        |some _,some (_,true)=>bA R e none i
        |some _,some (v,false)=>bA R e (some v) i
        |_,_=>none
      |_=>none) (fun R=>?_) (C.bind (C.call _ _ _ _) fun q=>?_)
     . cases R.call f (d.args.toList++cap.toList) (match m with|none=>none|some v=>some (v,false)) h with
       |none=>rfl
       |some q=>obtain⟨x,y,z⟩:=q;cases x<;>rfl
     . obtain⟨x,g,i⟩:=q
       cases x with
       |pan v=>exact C.const _
       | ret v=>
         simp only []
         cases m with
         |none=>cases g<;>first|exact mM e _ _|exact C.const _
         | some j=>
           cases g with
           |none=>exact C.const _
           |some y=>obtain⟨k,b⟩:=y;cases b<;>exact mM e _ _

theorem k_body (f:FuncId) (args:List Value) (i:Option (Value×Bool)) (h:Hp):K (fun R=>iG E R f args i h):=by
 unfold iG
 cases E.fn f with
 |none=>exact C.const _
 | some b =>
   simp only []
   cases b.body with
   |none=>exact C.const _
   | some e=>
     simp only []
     cases zZ args.length b.ntmps with
     |false=>exact C.const _
     | true =>
       simp only [cond_true]
       have g: ∀(l:Loc) (c:Hp),K (fun R=>match bA R l.dfs none c with
        | some (none,a)=>match aO E l.regs a b.results.toList with
          |none=>none
          |some d=>some (Out.ret (ae d),l.rc,a)
        |_=>none):=by
        intro l c
        refine C.congr (F:=fun R=>(bA R l.dfs none c).bind fun q=>match q with
         | (none,a)=>match aO E l.regs a b.results.toList with
           |none=>none
           |some d=>some (Out.ret (ae d),l.rc,a)
         |_=>none) (fun R=>?_) (C.bind (mM C _ _ _) fun _=>C.const _)
        cases bA R l.dfs none c with
        |none=>rfl
        |some q=>obtain⟨x,y⟩:=q;cases x<;>rfl
       refine C.congr (F:=fun R=>(R.code ⟨f,b.ntmps,none⟩ e ⟨(Tr.blank (.tuple #[]) b.ntmps b.ntmps).setAll 0 args,[],i⟩ h).bind fun q=>match q with
        |(.exit _,_,_)=>none
        | (.pan v,l,c)=>match bA R l.dfs (some v) c with
          |none=>none
          |some (some v,a)=>some (Out.pan v,l.rc,a)
          | some (none,a)=>match aO E l.regs a b.results.toList with
            |none=>none
            |some d=>some (Out.ret (ae d),l.rc,a)
        | (_,l,c)=>match bA R l.dfs none c with
          | some (none,a)=>match aO E l.regs a b.results.toList with
            |none=>none
            |some d=>some (Out.ret (ae d),l.rc,a)
          |_=>none) (fun R=>?_) (C.bind (C.code _ _ _ _) fun q=>?_)
       . cases R.code ⟨f,b.ntmps,none⟩ e ⟨(Tr.blank (.tuple #[]) b.ntmps b.ntmps).setAll 0 args,[],i⟩ h with
         |none=>rfl
         |some q=>obtain⟨x,y,z⟩:=q;cases x<;>rfl
       . obtain⟨x,l,c⟩:=q
         cases x with
         |exit id=>exact C.const _
         |normal=>exact g l c
         |ret=>exact g l c
         | pan v=>
           simp only []
           refine C.congr (F:=fun R=>(bA R l.dfs (some v) c).bind fun q=>match q with
            |(some v,a)=>some (Out.pan v,l.rc,a)
            | (none,a)=>match aO E l.regs a b.results.toList with
              |none=>none
              |some d=>some (Out.ret (ae d),l.rc,a)) (fun R=>?_) (C.bind (mM C _ _ _) fun _=>C.const _)
           cases bA R l.dfs (some v) c with
           |none=>rfl
           |some q=>obtain⟨x,y⟩:=q;cases x<;>rfl
theorem k_call(f:FuncId)(args:List Value)(a:Option (Value×Bool))(h:Hp):K (fun R=>fV E R f args a h):=by
 unfold fV
 cases E.orc f args with
 |none=>exact k_body C f args a h
 |some v=>cases a<;>exact C.const _
end

theorem hU(E:Env):Closed E (fun F=>lU F)where
 const:=lU.const
 bind:=fun hF hG=>hF.bind hG
 congr:=fun e h=>by have:=funext e;rw [this];exact h
 call:=fun f a rc h R R' le o=>le.1 f a rc h o
 code:=fun cx c l h R R' le o=>le.2 cx c l h o

theorem next_mono{E:Env}{R R':Rec}(h:RLe R R'):RLe (next E R) (next E R'):=
 ⟨fun f a d b o e=>k_call (hU E) f a d b R R' h o e,fun g c l b o e=>k_code (hU E) g c l b R R' h o e⟩
theorem vQ{E:Env}: ∀n,RLe (run E n) (run E (n+1))
 | 0=>by
   constructor
   . intro f a b h o e;cases e
   . intro d c l h o e;cases e
 |n+1=>next_mono (vQ n)
theorem run_up{E:Env}(n m:Nat)(h:n<=m):RLe (run E n) (run E m):=by
 induction m with
 | zero => have:n=0:=by omega
           subst this;exact RLe.refl _
 | succ m a=>
   by_cases e:n=m+1
   . subst e;exact RLe.refl _
   . exact(a (by omega)).trans (vQ m)

open Classical in
noncomputable def limOf{α:Type}(F:Nat->Option α):Option α:=if h: ∃n o,F n=some o then some (Classical.choose (Classical.choose_spec h))else none
theorem s6{α:Type}{F:Nat->Option α}(d: ∀n m,n<=m-> ∀o,F n=some o->F m=some o){o:α}:limOf F=some o↔ ∃n,F n=some o:=by
 constructor
 . intro h
   unfold limOf at h
   split at h
   . rename_i c
     cases h
     exact⟨_,Classical.choose_spec (Classical.choose_spec c)⟩
   . cases h
 . intro⟨n,h⟩
   unfold limOf
   have c: ∃n o,F n=some o:=⟨n,o,h⟩
   rw [dif_pos c]
   have e:=Classical.choose_spec (Classical.choose_spec c)
   have a:=d _ (n+Classical.choose c) (by omega) _ h
   have b:=d _ (n+Classical.choose c) (by omega) _ e
   rw [a]at b;cases b;rfl

noncomputable def lim(E:Env):Rec where
 call:=fun f a rc h=>limOf fun n=>(run E n).call f a rc h
 code:=fun cx c l h=>limOf fun n=>(run E n).code cx c l h
theorem mI{E:Env}{f:FuncId}{a:List Value}{c:Option (Value×Bool)}{h:Hp}{o:Out×Option (Value×Bool)×Hp}:(lim E).call f a c h=some o↔ ∃n,(run E n).call f a c h=some o:=
 s6 fun n m b o e=>(run_up n m b).1 _ _ _ _ _ e
theorem oW{E:Env}{cx:Cx}{c:Code}{l:Loc}{h:Hp}{o:Ex×Loc×Hp}:(lim E).code cx c l h=some o↔ ∃n,(run E n).code cx c l h=some o:=
 s6 fun n m a o e=>(run_up n m a).2 _ _ _ _ _ e
theorem run_lim{E:Env}(n:Nat):RLe (run E n) (lim E):=⟨fun _ _ _ _ _ h=>mI.2 ⟨n,h⟩,fun _ _ _ _ _ h=>oW.2 ⟨n,h⟩⟩

theorem sQ(E:Env):Closed E (fun F=>MC E (lim E) F)where
 const:=MC.const
 bind:=fun hF hG=>MC.bind run_up hF hG
 congr:=fun e h=>MC.congr e h
 call:=fun f a rc h=>⟨(hU E).call f a rc h,fun _ e=>mI.1 e⟩
 code:=fun cx c l h=>⟨(hU E).code cx c l h,fun _ e=>oW.1 e⟩

theorem sj{α:Type}{x y:Option α}(h: ∀o,x=some o↔y=some o):x=y:=by
 cases x with
 | none=>cases y with
   |none=>rfl
   |some b=>exact absurd ((h b).2 rfl) (by simp)
 |some a=>exact((h a).1 rfl).symm

theorem call_eq(E:Env)(f:FuncId)(a:List Value)(b:Option (Value×Bool))(h:Hp):(lim E).call f a b h=fV E (lim E) f a b h:=by
 refine sj fun o=>⟨fun e=>?_,fun e=>?_⟩
 . obtain⟨n,c⟩:=mI.1 e
   cases n with
   |zero=>cases c
   |succ n=>exact k_call (hU E) f a b h _ _ (run_lim n) o c
 . obtain⟨n,c⟩:=(k_call (sQ E) f a b h).2 o e
   exact mI.2 ⟨n+1,c⟩
theorem tF(E:Env)(cx:Cx)(c:Code)(l:Loc)(h:Hp):(lim E).code cx c l h=ay E (lim E) cx c l h:=by
 refine sj fun o=>⟨fun e=>?_,fun e=>?_⟩
 . obtain⟨n,a⟩:=oW.1 e
   cases n with
   |zero=>cases a
   |succ n=>exact k_code (hU E) cx c l h _ _ (run_lim n) o a
 . obtain⟨n,a⟩:=(k_code (sQ E) cx c l h).2 o e
   exact oW.2 ⟨n+1,a⟩

theorem lim_ok{E:Env}{P:Program}(a:EOk E P):eG E P (lim E).call:=by
 intro g b j h o e k f
 obtain⟨n,i⟩:=mI.1 f
 exact(run_ok a (fun _ c d=>⟨draw_ok a c d,ww a c d⟩) n).1 _ _ _ _ _ _ _ i
end Go.Ab
namespace Go.Ab
theorem xO{E:Env}{P:Program}{R:Rec}(p:eG E P R.call){f:FuncId}{args:List Value}{v:Value}{q:Hp}(i:args.all cg=true)(l:cg v=true)
 (r:R.call f args none hp0=some (.ret v,none,q)):(∃m,E.fn f=some m/\m.body.isSome=true)/\OrcAt P f args v:=by
 obtain⟨s,t⟩:=p _ _ _ _ _ _ _ r
 refine⟨s,i,l,fun w j d u=>?_⟩
 obtain⟨y,z,e,A,J,g,B,K,C,D,F⟩:=t mu0 w ⟨args⟩ none j d (hrel0 w) glob0 (LR.refl fun a k=>aq.const mu0 (by simp only [List.all_eq_true]at i;exact i a k)) trivial u
 cases e with
 |some x=>exact B.elim
 | none=>
   obtain⟨L,n,G⟩:=D
   rw [aq.const_eq l G]at n
   exact⟨z,A,⟨fun c H=>g.frame c H (by intro b o I h;unfold mu0 at h;split at h<;>cases h),g.wsize,g.os,g.tape,g.output⟩,C,n,F⟩
theorem yt{E:Env}{P:Program}(a:EOk E P){n:Nat}{f:FuncId}{args:List Value}{v:Value}{e:Hp}(g:args.all cg=true)(h:cg v=true)
 (i:(run E n).call f args none hp0=some (.ret v,none,e)):(∃b,E.fn f=some b/\b.body.isSome=true)/\OrcAt P f args v:=
 xO (R:=run E n) (run_ok a (fun _ c d=>⟨draw_ok a c d,ww a c d⟩) n).1 g h i
end Go.Ab

namespace Go.Ab

def tabF:Nat->Nat->(Nat->Value)->Tr Value
 |0,_,_=>.nil
 | f+1,n,a=>match n with
   |0=>.nil
   |k+1=>.node (a 0) (tabF f ((k+1)/2) fun i=>a (2*i+1)) (tabF f (k/2) fun i=>a (2*i+2))
def tab(n:Nat)(ρ:Nat->Value):Tr Value:=tabF n n ρ
theorem get_tabF(f n:Nat)(ρ:Nat->Value)(h:n<=f)(j:Nat):(tabF f n ρ).get j=if j<n then some (ρ j)else none:=by
 induction f generalizing n j ρ with
 | zero => have:n=0:=by omega
           subst this;simp [tabF,Tr.get_nil]
 | succ f a=>
   cases n with
   |zero=>simp [tabF,Tr.get_nil]
   | succ k=>
     simp only [tabF]
     rw [Tr.get_node]
     cases j with
     |zero=>simp
     | succ m=>
       simp only []
       by_cases b:m%2=0
       . simp only [b,if_true];rw [a _ _ (by omega) (m/2)]
         have:m/2<(k+1)/2↔m+1<k+1:=by omega
         simp only [this,show 2*(m/2)+1=m+1 by omega]
       . simp only [b,if_false];rw [a _ _ (by omega) (m/2)]
         have:m/2<k/2↔m+1<k+1:=by omega
         simp only [this,show 2*(m/2)+2=m+1 by omega]
theorem jt(n:Nat)(ρ:Nat->Value)(j:Nat):(tab n ρ).get j=if j<n then some (ρ j)else none:=get_tabF n n ρ (zp _) j
theorem Tr.ext{α:Type}{t t':Tr α}(h: ∀i,t.get i=t'.get i):t=t':=by
 induction t generalizing t' with
 | nil=>
   cases t' with
   |nil=>rfl
   |node y l r=>have:=h 0;simp [Tr.get_nil,Tr.get_node]at this
 | node x l r a b=>
   cases t' with
   |nil=>have:=h 0;simp [Tr.get_nil,Tr.get_node]at this
   | node y d e=>
     have c:=h 0
     simp [Tr.get_node]at c
     subst c
     rw [a (t':=d) (fun i=>by have:=h (2*i+1);simp only [Tr.get_node]at this;rw [if_pos (by omega),if_pos (by omega),show 2*i/2=i by omega]at this;exact this),
      b (t':=e) (fun i=>by have:=h (2*i+2);simp only [Tr.get_node]at this;rw [if_neg (by omega),if_neg (by omega),show(2*i+1)/2=i by omega]at this;exact this)]

def ab(ρ:Nat->Value)(t:Nat)(v:Value):Nat->Value:=fun i=>if i=t then v else ρ i
theorem aQ(ρ:Nat->Value)(t:Nat)(v:Value)(i:Nat):ab ρ t v i=if i=t then v else ρ i:=rfl
theorem tab_set(n:Nat)(ρ:Nat->Value)(t:Nat)(v:Value):(tab n ρ).set t v=tab n (ab ρ t v):=by
 apply Tr.ext
 intro i
 rw [Tr.get_set,jt,jt]
 by_cases a:i<n
 . by_cases e:t=i
   . subst e;simp [a,ab]
   . simp [a,e,ab,Ne.symm e]
 . simp [a]
def cC:List Value->Nat->Value
 | [],_=>.tuple #[]
 | v::l,i=>match i with
   |0=>v
   |i+1=>cC l i
theorem argR_eq(l:List Value)(i:Nat):cC l i=(l[i]?).getD (.tuple #[]):=by
 induction l generalizing i with
 |nil=>rfl
 | cons v l a=>cases i with
   |zero=>rfl
   |succ i=>simp [cC,a]
theorem args_tab{n:Nat}{args:List Value}(h:args.length<=n):(Tr.blank (.tuple #[]) n n:Tr Value).setAll 0 args=tab n (cC args):=by
 apply Tr.ext
 intro i
 rw [Tr.get_setAll _ 0 args n (Tr.sized_blank _ _ _ (zp _)) (by omega),jt,Tr.get_blank _ _ _ (zp _),argR_eq]
 by_cases b:i<args.length
 . rw [if_pos ⟨Xk _,by omega⟩,if_pos (by omega)];simp [b]
 . rw [if_neg (by omega)]
   by_cases a:i<n
   . simp [a];rw [zY (by omega)];rfl
   . simp [a]

def LL(n:Nat)(ρ:Nat->Value)(d:List Deferred)(a:Option (Value×Bool)):Loc:=⟨tab n ρ,d,a⟩
theorem dl(n:Nat)(ρ:Nat->Value)(d:List Deferred)(a:Option (Value×Bool))(t:Nat)(v:Value):(LL n ρ d a).put (some t) v=LL n (ab ρ t v) d a:=by
 simp only [LL,Loc.put,tab_set]
theorem ll_put0(l:Loc)(v:Value):l.put none v=l:=rfl
theorem cy(n:Nat)(ρ:Nat->Value)(d:List Deferred)(a:Option (Value×Bool))(t:Nat)(h:t<n):(LL n ρ d a).ev (.tmp t)=ρ t:=by
 simp only [LL,Loc.ev,jt,if_pos h]
theorem ll_func(l:Loc)(f:Nat):l.ev (.func f)=.func (.func f) #[] #[]:=rfl
theorem ll_regs(n:Nat)(ρ:Nat->Value)(d:List Deferred)(a:Option (Value×Bool)):(LL n ρ d a).regs=tab n ρ:=rfl
def Then(x:Option (Ex×Loc×Hp))(K:Ex->Loc->Hp->Prop):Prop:= ∃e l h,x=some (e,l,h)/\K e l h
theorem ep{e:Ex}{l:Loc}{h:Hp}{K:Ex->Loc->Hp->Prop}:Then (some (e,l,h)) K↔K e l h:=by
 constructor
 . intro⟨_,_,_,b,a⟩;cases b;exact a
 . intro a;exact⟨_,_,_,rfl,a⟩

abbrev dP:=Ex->Loc->Hp->Prop
inductive Fr where
 |code (c:Code)
 |blk (id:Nat)
 |ops (all os:List Oper)
 |opsD (all:List Oper) (q:Nat) (ps:List (Nat×Nat)) (os:List Oper) (i:Nat) (tr:List (Nat×Tch))
 |kill (t:Tmp)
section
variable(E:Env)(R:Rec)(cx:Cx)(Q:dP)
def Run:List Fr->Ex->Loc->Hp->Prop
 | [],e,l,h=>Q e l h
 | .code c::k,.normal,l,h=> ∃g d f,ay E R cx c l h=some (g,d,f)/\Run k g d f
 | .ops a m::k,.normal,l,h=> ∃g d f,fK E R cx a m l h=some (g,d,f)/\Run k g d f
 | .opsD a q n m i o::k,.normal,l,h=> ∃d f j,aS E R a q m i l h o=some (d,f,j)/\bL j n=true/\Run k .normal d f
 | .kill t::k,.normal,l,h=> ∃b p c,l.ev (.tmp t)=.map (some b)/\h.get b=some (.map p c)/\Run k .normal l (h.put b .dead)
 | .blk _::k,.normal,l,h=>Run k .normal l h
 | .blk id::k,.exit i,l,h=>if i=id then Run k .normal l h else Run k (.exit i) l h
 |_::k,.exit i,l,h=>Run k (.exit i) l h
 |_::k,.ret,l,h=>Run k .ret l h
 |_::k,.pan v,l,h=>Run k (.pan v) l h
end
section
variable{E:Env}{R:Rec}{cx:Cx}{Q:dP}{k:List Fr}{l:Loc}{h:Hp}

theorem run_nil{e:Ex}:Run E R cx Q [] e l h↔Q e l h:=zK
theorem run_skip:Run E R cx Q (.code .skip::k) .normal l h↔Run E R cx Q k .normal l h:=by simp only [Run,ay];exact ep
theorem run_label{n:Nat}:Run E R cx Q (.code (.label n)::k) .normal l h↔Run E R cx Q k .normal l h:=by simp only [Run,ay];exact ep
theorem run_seq{a b:Code}:Run E R cx Q (.code (.seq a b)::k) .normal l h↔Run E R cx Q (.code a:: .code b::k) .normal l h:=by
 simp only [Run,ay]
 constructor
 . intro⟨e',l',h',c,h2⟩
   cases e:ay E R cx a l h with
   |none=>rw [e]at c;cases c
   | some q=>
     obtain⟨x,f,d⟩:=q
     rw [e]at c
     refine⟨x,f,d,rfl,?_⟩
     cases x with
     |normal=>exact⟨e',l',h',c,h2⟩
     |exit i=>cases c;exact h2
     |ret=>cases c;exact h2
     |pan v=>cases c;exact h2
 . intro⟨x,f,d,e,h2⟩
   rw [e]
   cases x with
   |normal=>exact h2
   |exit i=>exact⟨_,_,_,rfl,h2⟩
   |ret=>exact⟨_,_,_,rfl,h2⟩
   |pan v=>exact⟨_,_,_,rfl,h2⟩
theorem run_block {id:Nat} {b:Code}:Run E R cx Q (.code (.block id b)::k) .normal l h↔Run E R cx Q (.code b:: .blk id::k) .normal l h:=by
 simp only [Run,ay]
 constructor
 . intro ⟨e',l',h',a,h2⟩
   cases f:ay E R cx b l h with
   |none=>rw [f]at a;cases a
   | some q=>
     obtain⟨x,g,d⟩:=q
     rw [f]at a
     refine⟨x,g,d,rfl,?_⟩
     cases x with
     |normal=>cases a;exact h2
     | exit i=>
       simp only []at a
       cases c:zN i id with
       |true=>rw [c]at a;cases a;have:=zn c;subst this;simp only [Run,if_true];exact h2
       | false=>
         rw [c]at a;cases a
         simp only [Run]
         rw [if_neg (by intro e;subst e;rw [zD]at c;cases c)];exact h2
     |ret=>cases a;exact h2
     |pan v=>cases a;exact h2
 . intro⟨x,g,d,f,h2⟩
   rw [f]
   cases x with
   |normal=>exact⟨_,_,_,rfl,h2⟩
   | exit i=>
     simp only [Run]at h2
     simp only []
     by_cases c:i=id
     . subst c;rw [if_pos rfl]at h2;rw [zD];exact⟨_,_,_,rfl,h2⟩
     . rw [if_neg c]at h2
       have:zN i id=false:=by
        cases j:zN i id with
        |false=>rfl
        |true=>exact absurd (zn j) c
       rw [this];exact⟨_,_,_,rfl,h2⟩
   |ret=>exact⟨_,_,_,rfl,h2⟩
   |pan v=>exact⟨_,_,_,rfl,h2⟩
theorem run_scope{b:Code}:Run E R cx Q (.code (.scope b)::k) .normal l h↔Run E R cx Q (.code b::k) .normal l h:=zK
theorem run_blk{id:Nat}:Run E R cx Q (.blk id::k) .normal l h↔Run E R cx Q k .normal l h:=zK
theorem run_exit{id:Nat}:Run E R cx Q (.code (.exit id)::k) .normal l h↔Run E R cx Q k (.exit id) l h:=by simp only [Run,ay];exact ep
theorem run_ret:Run E R cx Q (.code .ret::k) .normal l h↔Run E R cx Q k .ret l h:=by simp only [Run,ay];exact ep
theorem u7{id i:Nat}:Run E R cx Q (.blk id::k) (.exit i) l h↔if i=id then Run E R cx Q k .normal l h else Run E R cx Q k (.exit i) l h:=zK
theorem uE{c:Code}{i:Nat}:Run E R cx Q (.code c::k) (.exit i) l h↔Run E R cx Q k (.exit i) l h:=zK
theorem wJ{a os:List Oper}{i:Nat}:Run E R cx Q (.ops a os::k) (.exit i) l h↔Run E R cx Q k (.exit i) l h:=zK
theorem yA{f:Fr}:Run E R cx Q (f::k) .ret l h↔Run E R cx Q k .ret l h:=by cases f<;>exact zK
theorem yN{f:Fr}{v:Value}:Run E R cx Q (f::k) (.pan v) l h↔Run E R cx Q k (.pan v) l h:=by cases f<;>exact zK
theorem run_cond{c:Operand}{a b:Code}:Run E R cx Q (.code (.cond c a b)::k) .normal l h↔ ∃t,l.ev c=.bool t/\if t=true then Run E R cx Q (.code a::k) .normal l h else Run E R cx Q (.code b::k) .normal l h:=by
 simp only [Run,ay]
 constructor
 . intro⟨e',l',h',d,h2⟩
   cases e:l.ev c<;>rw [e]at d<;>(try (cases d;done))
   rename_i t
   cases t with
   |true=>exact⟨true,rfl,by rw [if_pos rfl];exact⟨e',l',h',d,h2⟩⟩
   |false=>exact⟨false,rfl,by rw [if_neg (by simp)];exact⟨e',l',h',d,h2⟩⟩
 . intro⟨t,e,h2⟩
   rw [e]
   cases t with
   |true=>rw [if_pos rfl]at h2;exact h2
   |false=>rw [if_neg (by simp)]at h2;exact h2
theorem yL{id:Nat}{ops:Array Oper}:Run E R cx Q (.code (.region id ops false)::k) .normal l h↔Run E R cx Q (.ops ops.toList ops.toList::k) .normal l h:=by simp only [Run,ay,cond_false]
theorem yd{a:List Oper}:Run E R cx Q (.ops a []::k) .normal l h↔Run E R cx Q k .normal l h:=by simp only [Run,fK];exact ep
theorem vG{a os:List Oper}{o:Oper}:Run E R cx Q (.ops a (o::os)::k) .normal l h↔ ∃b,bC a l.regs o=some b/\
 (if b=true then Then (c9 E R cx o l h) fun e l' g=>Run E R cx Q (.ops a os::k) e l' g else Run E R cx Q (.ops a os::k) .normal (l.put o.dst (.tuple #[])) h):=by
 simp only [Run,fK]
 constructor
 . intro ⟨e',l',g,d,c⟩
   cases j:bC a l.regs o with
   |none=>rw [j]at d;cases d
   | some b=>
     rw [j]at d
     refine⟨b,rfl,?_⟩
     cases b with
     |false=>rw [if_neg (by simp)];exact⟨e',l',g,d,c⟩
     | true=>
       rw [if_pos rfl]
       simp only []at d
       cases m:c9 E R cx o l h with
       |none=>rw [m]at d;cases d
       | some q=>
         obtain⟨x,n,f⟩:=q
         rw [m]at d
         refine⟨x,n,f,rfl,?_⟩
         cases x with
         |normal=>exact⟨e',l',g,d,c⟩
         |exit i=>cases d;exact c
         |ret=>cases d;exact c
         |pan v=>cases d;exact c
 . intro⟨b,j,c⟩
   rw [j]
   cases b with
   |false=>rw [if_neg (by simp)]at c;exact c
   | true=>
     rw [if_pos rfl]at c
     obtain⟨x,n,f,m,c⟩:=c
     simp only [m]
     cases x with
     |normal=>exact c
     |exit i=>exact⟨_,_,_,rfl,c⟩
     |ret=>exact⟨_,_,_,rfl,c⟩
     |pan v=>exact⟨_,_,_,rfl,c⟩

theorem run_draw{id:Nat}{ops:Array Oper}{q:Nat}{ps:List (Nat×Nat)}{os:List Oper}(g:E.cut cx.fn=false)(i:aZ ops.toList=os)(j:iI E os=some (q,ps)):Run E R cx Q (.code (.region id ops true)::k) .normal l h↔Run E R cx Q (.opsD os q ps os 0 []::k) .normal l h:=by
 simp only [Run,ay,cond_true,g,cond_false,i,j]
 constructor
 . intro⟨e',l',h',d,h2⟩
   cases f:aS E R os q os 0 l h []with
   |none=>rw [f]at d;cases d
   | some x=>
     obtain⟨a,b,c⟩:=x
     rw [f]at d
     simp only []at d
     cases e:bL c ps with
     |false=>rw [e]at d;cases d
     |true=>rw [e]at d;cases d;exact⟨_,_,_,rfl,e,h2⟩
 . intro⟨l',h',tr',f,e,h2⟩
   rw [f]
   simp only [e,cond_true]
   exact⟨_,_,_,rfl,h2⟩
theorem run_fork{id:Nat}{ops:Array Oper}{q:Nat}{ps:List (Nat×Nat)}{os:List Oper}{t:Tmp}(a:E.cut cx.fn=true)(d:aZ ops.toList=os)(e:m6 E os (jH os)=some t)(f:qA E os=some (q,ps))
 (g:Run E R cx Q (.opsD os q ps os 0 []:: .kill t::k) .normal l h):Run E R cx Q (.code (.region id ops true)::k) .normal l h:=by
 obtain⟨r,s,i,j,m,b,u,c,n,o,p⟩:=g
 have hf:pE E ops.toList=true:=by unfold pE;rw [d,e];rfl
 simp only [Run,ay,cond_true,a,cutD,hf,forkD,d,f,j,m,e,kT,n,o]
 exact⟨_,_,_,rfl,p⟩
theorem run_kill{t:Tmp}{b c:Nat}{a:List (Value×Value×Nat)}(d:l.ev (.tmp t)=.map (some b))(e:h.get b=some (.map a c))(f:Run E R cx Q k .normal l (h.put b .dead)):Run E R cx Q (.kill t::k) .normal l h:=⟨b,a,c,d,e,f⟩
theorem vu{a:List Oper}{q i:Nat}{ps:List (Nat×Nat)}{d:List (Nat×Tch)}:Run E R cx Q (.opsD a q ps [] i d::k) .normal l h↔bL d ps=true/\Run E R cx Q k .normal l h:=by
 simp only [Run,aS]
 constructor
 . intro⟨_,_,_,a,b,c⟩;cases a;exact⟨b,c⟩
 . intro⟨b,c⟩;exact⟨_,_,_,rfl,b,c⟩
theorem uI{a os:List Oper}{o:Oper}{q i:Nat}{ps:List (Nat×Nat)}{j:List (Nat×Tch)}:Run E R cx Q (.opsD a q ps (o::os) i j::k) .normal l h↔ ∃b,bC a l.regs o=some b/\
 (if b=true then∃v e,bQ E R (l.evD (tmpsOf o.op.operands.toList)) (dk E q i o.op) o h=some (v,e)/\
     Run E R cx Q (.opsD a q ps os (i+1) (eJ i j (bM (l.evD (tmpsOf o.op.operands.toList)) (dk E q i o.op) o.op h e))::k) .normal (l.put o.dst v) e
   else Run E R cx Q (.opsD a q ps os (i+1) j::k) .normal (l.put o.dst (.tuple #[])) h):=by
 simp only [Run,aS]
 constructor
 . intro⟨l',e,tr',c,d,h3⟩
   cases f:bC a l.regs o with
   |none=>rw [f]at c;cases c
   | some b=>
     rw [f]at c
     refine⟨b,rfl,?_⟩
     cases b with
     |false=>rw [if_neg (by simp)];exact⟨l',e,tr',c,d,h3⟩
     | true=>
       rw [if_pos rfl]
       simp only []at c
       cases g:bQ E R (l.evD (tmpsOf o.op.operands.toList)) (dk E q i o.op) o h with
       |none=>rw [g]at c;cases c
       |some p=>obtain⟨v,m⟩:=p;rw [g]at c;exact⟨v,m,rfl,l',e,tr',c,d,h3⟩
 . intro⟨b,f,d⟩
   rw [f]
   cases b with
   |false=>rw [if_neg (by simp)]at d;exact d
   | true=>
     rw [if_pos rfl]at d
     obtain⟨v,m,g,d⟩:=d
     simp only [g]
     exact d
end
end Go.Ab

namespace Go.Ab

noncomputable def envOf(a:Tr Func)(b:Tr TypeInfo)(c:List Nat):Env:={fn:=fun f=>a.get f,ty:=fun t=>b.get t,eqok:=fun t=>jY t c}

theorem wW{P:Program}{f:FuncId}{b:Func}(hf:P.funcs[f]? =some b)(e:b.body.isSome=true)(c:(b.name== "runtime.NumGoroutine")=false)(args:Array Value)(w:World):
 (callFunc f args).run P w=.ok (.enter f args) w:=by
 have a:b.body.isNone=false:=by cases h:b.body<;>simp_all
 unfold callFunc
 have d:program.run P w=.ok P w:=rfl
 simp only [Sem.run_bind,d,Result.andThen_ok,hf,c,a,Bool.false_eq_true,if_false,Sem.run_pure]

theorem eok_of{P:Program}{fns:Tr Func}{tys:Tr TypeInfo}{eqs:List Nat}(h1:fns=Tr.ofList P.funcs.toList)(h2:tys=Tr.ofList P.types.toList)
 (h3:(P.funcs.toList.all fun fn=>fn.body.isNone|| !(fn.name== "runtime.NumGoroutine"))=true) (h4:(eqs.all fun t=>!P.stoodInHeld t&& !P.eqGuardType P.depth t)=true)
 (h5:P.follows .mixedOrders=true):EOk (envOf fns tys eqs) P where
 fn:=by
  intro f fn h
  have h':fns.get f=some fn:=h
  rw [h1,Tr.get_ofList]at h'
  simpa using h'
 call:=by
  intro f fn args w h hb
  have h':fns.get f=some fn:=h
  rw [h1,Tr.get_ofList]at h'
  have hm:=zI h'
  have:=(List.all_eq_true.1 h3) fn hm
  refine wW (by simpa using h') hb ?_ args w
  cases hn:(fn.name== "runtime.NumGoroutine")with
  |false=>rfl
  |true=>rw [hn]at this;cases hx:fn.body<;>simp_all
 ty:=by
  intro t i h
  have h':tys.get t=some i:=h
  rw [h2,Tr.get_ofList]at h'
  show P.toTables.info? t=some i
  have hk:P.types[t]? =some i:=by simpa using h'
  unfold Tables.info?
  rw [if_pos (Array.getElem?_eq_some_iff.1 hk).1];exact hk
 eq:=by
  intro t h
  have hm:t∈eqs:=(kN t eqs).1 h
  have:=(List.all_eq_true.1 h4) t hm
  simp only [zt,zG]at this
  exact this
 mixed:=h5
 orc:=by
  intro g args v h
  cases h
noncomputable def oa(E:Env)(o:Nat->List Value->Option Value):Env:={E with orc:=o}
noncomputable def withCut(E:Env)(c:Nat->Bool):Env:={E with cut:=c}
theorem eok_cut{E:Env}{P:Program}(ok:EOk E P)(c:Nat->Bool):EOk (withCut E c) P where
 fn:=ok.fn
 call:=ok.call
 ty:=ok.ty
 eq:=ok.eq
 mixed:=ok.mixed
 orc:=ok.orc
theorem eok_with{E:Env}{P:Program}(ok:EOk E P){o:Nat->List Value->Option Value}(ho: ∀g args v,o g args=some v->(∃fn,E.fn g=some fn/\fn.body.isSome=true)/\OrcAt P g args v):EOk (oa E o) P where
 fn:=ok.fn
 call:=ok.call
 ty:=ok.ty
 eq:=ok.eq
 mixed:=ok.mixed
 orc:=ho
end Go.Ab
namespace Go.Ab
open Go.ChangeShapes Go.WideShapes
variable{H:Type}{enc:TypeId×Value->H}{P:Program}
end Go.Ab

namespace Go.Ab

def fu(E:Env)(f:FuncId)(args:List Value)(c:Option (Value×Bool))(h:Hp)(Q:Out->Option (Value×Bool)->Hp->Prop):Prop:= ∃o a b,(lim E).call f args c h=some (o,a,b)/\Q o a b
def Ret(E:Env)(f:FuncId)(args:List Value)(h:Hp)(Q:Value->Hp->Prop):Prop:= ∃v a,(lim E).call f args none h=some (.ret v,none,a)/\Q v a
theorem Ret.mono{E:Env}{f:FuncId}{args:List Value}{h:Hp}{Q d:Value->Hp->Prop}(k: ∀v c,Q v c->d v c)(r:Ret E f args h Q):Ret E f args h d:=by
 obtain⟨v,c,a,b⟩:=r;exact⟨v,c,a,k v c b⟩
def jO(E:Env)(b:Nat)(args:List Value)(h:Hp)(Q:Out->Hp->Prop):Prop:= ∃o a,gK E (lim E) b args h=some (o,a)/\Q o a

section
variable(E:Env)(cx:Cx)(o:Oper)(l:Loc)(K:Ex->Loc->Hp->Prop)
def ed:Option (cH×Hp)->Prop
 |some (.val v,a)=>K .normal (l.put o.dst v) a
 |some (.skip,a)=>K .normal (l.put o.dst (.tuple #[])) a
 | some (.call f c,a)=>fu E f c none a fun x _ e=>match x with
   | .ret v=>K .normal (l.put o.dst v) e
   | .pan v=>K (.pan v) l e
 | some (.yield b c,a)=>jO E b c a fun x e=>match x with
   | .ret v=>K .normal (l.put o.dst v) e
   | .pan v=>K (.pan v) l e
 |some (.panic v,a)=>K (.pan v) l a
 | some (.recov,a)=>cx.round=none/\match l.rc with
   |some (v,false)=>K .normal (({l with rc:=some (v,true)}:Loc).put o.dst v) a
   |_=>K .normal (l.put o.dst .nilIface) a
 |some (.defer d,a)=>cx.round=none/\K .normal (({l with dfs:=d::l.dfs}:Loc).put o.dst (.tuple #[])) a
 |none=>False
end
section
variable{E:Env}{cx:Cx}{o:Oper}{l:Loc}{K:Ex->Loc->Hp->Prop}{h:Hp}
theorem then_step:Then (c9 E (lim E) cx o l h) K↔ed E cx o l K (aop E l.ev h o.op):=by
 unfold c9
 cases p:aop E l.ev h o.op with
 | none=>
   simp only [ed,cd,kU]
   exact⟨fun⟨_,_,_,i,_⟩=>(by cases i),fun h=>h.elim⟩
 | some q=>
   obtain⟨m,i⟩:=q
   cases m with
   |val v=>exact ep
   |skip=>exact ep
   |panic v=>exact ep
   | call f g=>
     simp only [ed,cd,fu]
     constructor
     . intro⟨e,l',h',a,b⟩
       cases j:(lim E).call f g none i with
       |none=>rw [j]at a;cases a
       | some q=>
         obtain⟨x,n,k⟩:=q
         rw [j]at a
         cases x<;>(cases a;exact⟨_,_,_,rfl,b⟩)
     . intro⟨x,n,k,a,b⟩
       rw [a]
       cases x<;>exact⟨_,_,_,rfl,b⟩
   | yield b g=>
     simp only [ed,cd,jO]
     constructor
     . intro⟨e,l',h',a,c⟩
       cases j:gK E (lim E) b g i with
       |none=>rw [j]at a;cases a
       | some q=>
         obtain⟨x,k⟩:=q
         rw [j]at a
         cases x<;>(cases a;exact⟨_,_,rfl,c⟩)
     . intro⟨x,k,a,c⟩
       rw [a]
       cases x<;>exact⟨_,_,_,rfl,c⟩
   | recov=>
     simp only [ed]
     cases cx.round with
     |some r=>simp only [];exact⟨fun⟨_,_,_,i,_⟩=>(by cases i),fun h=>(by cases h.1)⟩
     | none=>
       simp only [true_and]
       cases l.rc with
       |none=>exact ep
       |some y=>obtain⟨v,b⟩:=y;cases b<;>exact ep
   | defer d=>
     simp only [ed]
     cases cx.round with
     |some r=>simp only [];exact⟨fun⟨_,_,_,i,_⟩=>(by cases i),fun h=>(by cases h.1)⟩
     |none=>simp only [true_and];exact ep
theorem uH{v:Value}:ed E cx o l K (some (.val v,h))↔K .normal (l.put o.dst v) h:=zK
theorem tL:ed E cx o l K (some (.skip,h))↔K .normal (l.put o.dst (.tuple #[])) h:=zK
theorem sb{v:Value}:ed E cx o l K (some (.panic v,h))↔K (.pan v) l h:=zK
theorem step_ret{f:FuncId}{args:List Value}{Q:Value->Hp->Prop}(d:Ret E f args h Q)(e: ∀v c,Q v c->K .normal (l.put o.dst v) c):ed E cx o l K (some (.call f args,h)):=by
 obtain⟨v,c,a,b⟩:=d
 exact⟨.ret v,none,c,a,e v c b⟩
end

def mq(E:Env)(rs:List ResultVar)(Q:Out->Option (Value×Bool)->Hp->Prop):dP
 | .exit _,_,_=>False
 | .pan v,l,h=> ∃m a,bA (lim E) l.dfs (some v) h=some (m,a)/\match m with
   |some v=>Q (.pan v) l.rc a
   |none=> ∃b,aO E l.regs a rs=some b/\Q (.ret (ae b)) l.rc a
 | .normal,l,h=> ∃a,bA (lim E) l.dfs none h=some (none,a)/\ ∃b,aO E l.regs a rs=some b/\Q (.ret (ae b)) l.rc a
 | .ret,l,h=> ∃a,bA (lim E) l.dfs none h=some (none,a)/\ ∃b,aO E l.regs a rs=some b/\Q (.ret (ae b)) l.rc a

theorem enter{E:Env}{f:FuncId}{k:Func}{body:Code}{n:Nat}{rs:List ResultVar}{args:List Value}{o:Option (Value×Bool)}{h:Hp}{Q:Out->Option (Value×Bool)->Hp->Prop}
 (s:E.orc f args=none) (hf:E.fn f=some k) (t:k.body=some body) (u:k.ntmps=n) (p:k.results.toList=rs) (hle:args.length<=n)
 (w:Run E (lim E) ⟨f,n,none⟩ (mq E rs Q) [.code body] .normal (LL n (cC args) [] o) h):fu E f args o h Q:=by
 obtain⟨e,l,x,y,j⟩:=w
 simp only [Run]at j
 unfold fu
 rw [call_eq]
 unfold fV
 rw [s]
 simp only []
 unfold iG
 rw [hf]
 simp only []
 rw [t]
 simp only []
 rw [u,zF hle]
 simp only [cond_true]
 rw [args_tab hle]
 have g:(lim E).code ⟨f,n,none⟩ body ⟨tab n (cC args),[],o⟩ h=some (e,l,x):=by rw [tF];exact y
 rw [g,p]
 cases e with
 |exit i=>exact j.elim
 | pan v=>
   obtain⟨m,q,a,b⟩:=j
   simp only [a]
   cases m with
   |some v=>exact⟨_,_,_,rfl,b⟩
   |none=>obtain⟨r,c,d⟩:=b;simp only [c];exact⟨_,_,_,rfl,d⟩
 |normal=>obtain⟨q,a,r,c,d⟩:=j;simp only [a,c];exact⟨_,_,_,rfl,d⟩
 |ret=>obtain⟨q,a,r,c,d⟩:=j;simp only [a,c];exact⟨_,_,_,rfl,d⟩
def RetQ(Q:Value->Hp->Prop):Out->Option (Value×Bool)->Hp->Prop
 | .ret v,none,h=>Q v h
 |_,_,_=>False
theorem ret_of{E:Env}{f:FuncId}{args:List Value}{h:Hp}{Q:Value->Hp->Prop}(c:fu E f args none h (RetQ Q)):Ret E f args h Q:=by
 obtain⟨o,d,e,a,b⟩:=c
 cases o with
 |pan v=>exact b.elim
 | ret v=>cases d with
   |none=>exact⟨v,e,a,b⟩
   |some y=>exact b.elim
theorem ag{E:Env}{f:FuncId}{a:Func}{body:Code}{n:Nat}{rs:List ResultVar}{args:List Value}{h:Hp}{Q:Value->Hp->Prop}
 (c:E.orc f args=none) (hf:E.fn f=some a) (d:a.body=some body) (e:a.ntmps=n) (b:a.results.toList=rs) (hle:args.length<=n)
 (g:Run E (lim E) ⟨f,n,none⟩ (mq E rs (RetQ Q)) [.code body] .normal (LL n (cC args) [] none) h):Ret E f args h Q:=ret_of (enter c hf d e b hle g)
theorem ret_orc{E:Env}{f:FuncId}{args:List Value}{h:Hp}{v:Value}{Q:Value->Hp->Prop}(a:E.orc f args=some v)(b:Q v h):Ret E f args h Q:=by
 refine⟨v,h,?_,b⟩
 rw [call_eq]
 unfold fV
 rw [a]
section
variable{E:Env}{rs:List ResultVar}{Q:Value->Hp->Prop}{n:Nat}{ρ:Nat->Value}{h:Hp}
theorem tW:mq E rs (RetQ Q) .ret (LL n ρ [] none) h↔ ∃vs,aO E (tab n ρ) h rs=some vs/\Q (ae vs) h:=by
 simp only [mq,LL,bA]
 constructor
 . intro⟨h',a,b⟩;cases a;exact b
 . intro b;exact⟨h,rfl,b⟩
theorem uZ:mq E rs (RetQ Q) .normal (LL n ρ [] none) h↔ ∃vs,aO E (tab n ρ) h rs=some vs/\Q (ae vs) h:=tW
theorem dX{P:List Value->Prop}:(∃vs,aO E (tab n ρ) h []=some vs/\P vs)↔P []:=by
 simp only [aO]
 constructor
 . intro⟨_,a,b⟩;cases a;exact b
 . intro b;exact⟨_,rfl,b⟩
theorem gw{t:Tmp}{P:List Value->Prop}(d:t<n):(∃vs,aO E (tab n ρ) h (.tmp t::rs)=some vs/\P vs)↔ ∃vs,aO E (tab n ρ) h rs=some vs/\P (ρ t::vs):=by
 simp only [aO,jt,if_pos d]
 constructor
 . intro⟨vs,a,b⟩
   cases c:aO E (tab n ρ) h rs with
   |none=>rw [c]at a;cases a
   |some l=>rw [c]at a;cases a;exact⟨l,rfl,b⟩
 . intro⟨vs,a,b⟩;rw [a];exact⟨_,rfl,b⟩
theorem dC{t:Tmp}{ty:TypeId}{v:Value}{P:List Value->Prop}(d:t<n)(e:dJ E h ty (ρ t)=some v):(∃vs,aO E (tab n ρ) h (.cell t ty::rs)=some vs/\P vs)↔ ∃vs,aO E (tab n ρ) h rs=some vs/\P (v::vs):=by
 simp only [aO,jt,if_pos d,e]
 constructor
 . intro⟨vs,a,b⟩
   cases c:aO E (tab n ρ) h rs with
   |none=>rw [c]at a;cases a
   |some l=>rw [c]at a;cases a;exact⟨l,rfl,b⟩
 . intro⟨vs,a,b⟩;rw [a];exact⟨_,rfl,b⟩
end
end Go.Ab

namespace Go.Ab

structure Gr(h h':Hp):Prop where
 ok0:h.t.Sized h.n
 ok:h'.t.Sized h'.n
 n:h.n<=h'.n
 get: ∀b,b<h.n->h'.get b=h.get b
 lo: ∀x,x<=h.n->x<=h.lo->x<=h'.lo
theorem Gr.refl{h:Hp}(a:h.t.Sized h.n):Gr h h:=⟨a,a,zp _,fun _ _=>rfl,fun _ _ h=>h⟩
theorem Gr.trans{a b c:Hp}(x:Gr a b)(y:Gr b c):Gr a c:=
 ⟨x.ok0,y.ok,Nat.le_trans x.n y.n,fun i d=>(y.get i (Nat.lt_of_lt_of_le d x.n)).trans (x.get i d),fun i e f=>y.lo i (Nat.le_trans e x.n) (x.lo i e f)⟩
theorem new_ok{h:Hp}(a:h.t.Sized h.n)(x:Blk):(h.new x).t.Sized (h.new x).n:=Tr.sized_push x a
theorem put_ok{h:Hp}(a:h.t.Sized h.n)(b:Nat)(x:Blk):(h.put b x).t.Sized (h.put b x).n:=Tr.sized_set b x a
theorem Gr.new{h:Hp}(a:h.t.Sized h.n)(x:Blk):Gr h (h.new x):=
 ⟨a,new_ok a x,Nat.le_succ _,fun b c=>by rw [h.get_new x a,if_neg (by omega)],fun _ _ h=>h⟩
theorem Gr.put{a h:Hp}(g:Gr a h){b:Nat}(j:a.n<=b)(x:Blk):Gr a (h.put b x):=by
 refine⟨g.ok0,put_ok g.ok b x,g.n,fun i c=>?_,fun i d f=>?_⟩
 . rw [Hp.get_put,if_neg (fun e=>by omega)];exact g.get i c
 . have:=g.lo i d f
   show i<=dR b h.lo
   unfold dR
   cases zZ b h.lo<;>simp<;>omega
theorem eX{h:Hp}(a:h.t.Sized h.n){b:Nat}{x:Blk}(e:h.get b=some x):b<h.n:=(a b).1 (by show(h.get b).isSome=true;rw [e];rfl)
theorem Gr.at{h a:Hp}(g:Gr h a){b:Nat}{x:Blk}(e:h.get b=some x):a.get b=some x:=by rw [g.get b (eX g.ok0 e)];exact e
theorem bw{h:Hp}(a:h.t.Sized h.n){b o n:Nat}{l:List Value}(e:h.load b o n=some l):b<h.n:=by
 unfold Hp.load at e
 split at e
 next c=>exact eX a c
 next=>cases e
theorem Gr.load{h a:Hp}(g:Gr h a){b o n:Nat}{l:List Value}(e:h.load b o n=some l):a.load b o n=some l:=by
 have:=g.get b (bw g.ok0 e)
 unfold Hp.load at e⊢
 rw [this];exact e
theorem Gr.hlo{h a:Hp}(g:Gr {h with lo:=h.n} a):zZ h.n a.lo=true:=zF (g.lo h.n (zp _) (zp _))

def Row(h:Hp)(b:Nat)(l:List Value)(md:Nat):Prop:= ∃t el,h.get b=some (.cells t l.length el md)/\t.Sized l.length/\ ∀i:Nat,t.get i=l[i]?
theorem Row.gr{h d:Hp}(g:Gr h d){b:Nat}{l:List Value}{md:Nat}(r:Row h b l md):Row d b l md:=by
 obtain⟨t,el,a,b,c⟩:=r;exact⟨t,el,g.at a,b,c⟩
theorem Row.lt{h:Hp}(c:h.t.Sized h.n){b:Nat}{l:List Value}{md:Nat}(r:Row h b l md):b<h.n:=by
 obtain⟨t,el,a,_,_⟩:=r;exact eX c a
theorem wV{α:Type}{t:Tr α}{l:List α}(a: ∀i:Nat,t.get i=l[i]?): ∀(n o:Nat),o+n<=l.length->t.slice o n=some ((l.drop o).take n)
 |0,o,_=>by simp [Tr.slice]
 | n+1,o,h=>by
   simp only [Tr.slice]
   have:l[o]? =some l[o]:=zQ (by omega)
   rw [a o,this,wV a n (o+1) (by omega)]
   simp only []
   congr 1
   rw [show List.drop o l=l[o]::List.drop (o+1) l from zH (by omega)]
   rfl
theorem Row.load{h:Hp}{b:Nat}{l:List Value}{md:Nat}(r:Row h b l md){o n:Nat}(d:o+n<=l.length):h.load b o n=some ((l.drop o).take n):=by
 obtain⟨t,el,a,_,c⟩:=r
 unfold Hp.load
 rw [a]
 simp only []
 rw [zF d]
 exact wV c n o d
theorem Row.load1{h:Hp}{b:Nat}{l:List Value}{md:Nat}(r:Row h b l md){o:Nat}{v:Value}(a:l[o]? =some v):h.load b o 1=some [v]:=by
 have hlt:=(List.getElem?_eq_some_iff.1 a).1
 rw [r.load (by omega)]
 congr 1
 rw [zH hlt]
 have:=(List.getElem?_eq_some_iff.1 a).2
 simp [this]
theorem my{h:Hp}(a:h.t.Sized h.n)(l:List Value)(el md:Nat):Row (h.new (.cells (Tr.ofList l) l.length el md)) h.n l md:=
 ⟨Tr.ofList l,el,by rw [h.get_new _ a,if_pos rfl],Tr.sized_ofList l,fun i=>Tr.get_ofList l i⟩
def lay(l:List Value)(o:Nat)(vs:List Value):List Value:=l.take o++vs++l.drop (o+vs.length)
theorem lV{l:List Value}{o:Nat}{vs:List Value}(h:o+vs.length<=l.length):(lay l o vs).length=l.length:=by simp [lay];omega
theorem ic{l:List Value}{o:Nat}{vs:List Value}(h:o+vs.length<=l.length)(i:Nat):(lay l o vs)[i]? =if o<=i/\i<o+vs.length then vs[i-o]? else l[i]? :=by
 unfold lay
 by_cases a:i<o
 . rw [zU,zP (by simp;omega),z9,if_pos a,if_neg (by omega)]
 . by_cases b:i<o+vs.length
   . rw [zU,zo (by simp;omega),zP (by simp;omega),if_pos (by omega)]
     congr 1
     simp;omega
   . rw [zU,zo (by simp;omega),zo (by simp;omega),if_neg (by omega),List.getElem?_drop]
     congr 1
     simp;omega
theorem Row.store{h:Hp}(m:h.t.Sized h.n){b:Nat}{l:List Value}{md:Nat}(r:Row h b l md)(f:md≠0){o:Nat}{vs:List Value}(e:o+vs.length<=l.length)(g:vs.all iw=true):
 ∃x,h.store b o vs=some (h.put b x)/\Row (h.put b x) b (lay l o vs) md:=by
 obtain⟨t,el,a,d,c⟩:=r
 refine⟨.cells (t.setAll o vs) l.length el md,?_,?_⟩
 . unfold Hp.store
   rw [a]
   simp only []
   have j:zN md 0=false:=by
    cases k:zN md 0 with
    |false=>rfl
    |true=>exact absurd (zn k) f
   rw [zF e,j,g]
   rfl
 . refine⟨t.setAll o vs,el,?_,?_,fun i=>?_⟩
   . rw [Hp.get_put,if_pos ⟨rfl,by rw [a];rfl⟩,lV e]
   . rw [lV e];exact Tr.sized_setAll o vs d
   . rw [Tr.get_setAll t o vs l.length d e,ic e,c]
end Go.Ab

namespace Go.Ab

theorem pop_ext {E:Env} {op:Op} {ρ d:Operand->Value} (e: ∀x∈op.operands.toList,ρ x=d x):pop E ρ op=pop E d op:=by
 cases op
 case build t z=>
  simp only [pop]
  congr 1
  apply zJ
  intro p o
  rw [e p.2 (by simp only [Op.operands];simp;exact⟨p.1,by simpa using o⟩)]
 case makeFunc q a b=>
  cases q<;>(try rfl)
  simp only [pop]
  have s:a.map ρ=a.map d:=by
   apply Xi
   intro x g
   exact e x (by simp only [Op.operands];simp;exact .inl g)
  have u:b.map ρ=b.map d:=by
   apply Xi
   intro x g
   exact e x (by simp only [Op.operands];simp;exact .inr g)
  rw [s,u]
 case slice t x l h m=>
  simp only [pop]
  have g:=e x (by simp [Op.operands])
  have j:l.map ρ=l.map d:=by cases l with|none=>rfl|some y=>simp [e y (by simp [Op.operands])]
  have v:h.map ρ=h.map d:=by cases h with|none=>rfl|some y=>simp [e y (by simp [Op.operands])]
  have w:m.map ρ=m.map d:=by cases m with|none=>rfl|some y=>simp [e y (by simp [Op.operands])]
  rw [g,j,v,w]
 case call c=>
  have k:c.args.toList.map ρ=c.args.toList.map d:=by
   apply zJ
   intro x g
   refine e x ?_
   simp only [Op.operands,Call.operands]
   cases c.callee<;>simp_all
  cases i:c.callee with
  |value f=>simp only [pop,i]
  |invoke r n=>simp only [pop,i]
  | builtin b=>
    cases b<;>simp only [pop,i]<;>(try rfl)
    . cases j:c.args.toList with
      |nil=>cases c.argTypes.toList<;>rfl
      | cons x A=>
        have g:ρ x=d x:=e x (by
         have:x∈c.args.toList:=by rw [j];exact zw
         simp only [Op.operands,Call.operands,i];simpa using this)
        cases c.argTypes.toList with
        |nil=>rfl
        |cons t B=>simp only [g]
    . rw [k]
    . rw [k]
 all_goals (try rfl)
 all_goals first
  |(unfold Op.operands at e;simp at e;simp only [pop];simp [e];done)
  |(simp only [pop];done)
  |(cases ‹Fn› <;>simp only [pop];done)

theorem qE{E:Env}{op:Op}{h:Hp}{ρ a:Operand->Value}(e: ∀x∈op.operands.toList,ρ x=a x):aop E ρ h op=aop E a h op:=by
 have i:=pop_ext (E:=E) e
 cases op
 case buildSlice t n q=>
  simp only [aop]
  congr 2
  apply zJ
  intro p i
  rw [e p.2 (by simp only [Op.operands];simp;exact⟨p.1,by simpa using i⟩)]
 case makeMap t r=>cases r<;>simp only [aop,i]
 case call c=>
  have k:c.args.toList.map ρ=c.args.toList.map a:=by
   apply zJ
   intro x g
   refine e x ?_
   simp only [Op.operands,Call.operands]
   cases c.callee<;>simp_all
  have g: ∀x∈c.args.toList,ρ x=a x:=by
   intro x g
   refine e x ?_
   simp only [Op.operands,Call.operands]
   cases c.callee<;>simp_all
  cases d:c.callee with
  | value f=>
    have hf:ρ f=a f:=e f (by simp [Op.operands,Call.operands,d])
    simp only [aop,d,k,hf]
  |invoke r n=>simp only [aop,d]
  | builtin b=>
    cases b<;>simp only [aop,d,i]<;>(try rfl)
    all_goals (cases m:c.args.toList with
     |nil=>first|rfl|(cases c.argTypes.toList<;>rfl)
     | cons s o=>
       simp only [m]at g
       have j:=g s zw
       cases o with
       |nil=>first|rfl|(cases c.argTypes.toList<;>rfl)|simp only [j]
       | cons y u=>
         have l:=g y (zz _ zw)
         first|rfl|(simp only [j,l];done)|(simp only [j];done)|(cases c.argTypes.toList with
          |nil=>rfl
          |cons t v=>simp only [j,l]))
 case defer c=>
  have k:c.args.toList.map ρ=c.args.toList.map a:=by
   apply zJ
   intro x g
   refine e x ?_
   simp only [Op.operands,Call.operands]
   cases c.callee<;>simp_all
  cases d:c.callee with
  | value f=>
    have hf:ρ f=a f:=e f (by simp [Op.operands,Call.operands,d])
    simp only [aop,d,k,hf]
  |invoke r n=>simp only [aop,d]
  |builtin b=>simp only [aop,d]
 all_goals first
  |(simp only [aop];done)
  |(simp only [aop,i];done)
  |(unfold Op.operands at e;simp at e;simp only [aop,e];done)
theorem touch_ext{op:Op}{ρ a:Operand->Value}(e: ∀x∈op.operands.toList,ρ x=a x):touch ρ op=touch a op:=by
 cases op
 case call c=>
  simp only [touch]
  cases b:c.args.toList with
  |nil=>rfl
  | cons x d=>
    simp only []
    rw [e x (by simp only [Op.operands,Call.operands];cases c.callee<;>simp_all)]
 all_goals first
  |rfl
  |(unfold Op.operands at e;simp at e;simp only [touch,e];done)
  |(simp only [touch];done)
theorem qs(l:Loc)(op:Op): ∀x∈op.operands.toList,l.evD (tmpsOf op.operands.toList) x=l.ev x:=by
 intro x a
 cases x with
 | tmp t=>
   simp only [Loc.evD]
   rw [(kN t _).2 ((oq t _).2 a)]
   rfl
 |_=>rfl

def iz(E:Env)(K:Value->Hp->Prop):Option (cH×Hp)->Prop
 |some (.val v,c)=>K v c
 |some (.skip,c)=>K (.tuple #[]) c
 | some (.call f a,c)=>fu E f a none c fun x _ d=>match x with
   | .ret v=>K v d
   | .pan _=>False
 | some (.yield b a,c)=>jO E b a c fun x d=>match x with
   | .ret v=>K v d
   | .pan _=>False
 |_=>False
theorem opVal_n{E:Env}{x:Option (cH×Hp)}{K:Value->Hp->Prop}:(∃v g,cd E (lim E) x=some (.ret v,g)/\K v g)↔iz E K x:=by
 cases x with
 |none=>exact⟨fun⟨_,_,a,_⟩=>(by cases a),fun h=>h.elim⟩
 | some q=>
   obtain⟨k,l⟩:=q
   cases k with
   |val v=>exact⟨fun⟨_,_,a,b⟩=>(by cases a;exact b),fun h=>⟨_,_,rfl,h⟩⟩
   |skip=>exact⟨fun⟨_,_,a,b⟩=>(by cases a;exact b),fun h=>⟨_,_,rfl,h⟩⟩
   |panic v=>exact⟨fun⟨_,_,a,_⟩=>(by cases a),fun h=>h.elim⟩
   |recov=>exact⟨fun⟨_,_,a,_⟩=>(by cases a),fun h=>h.elim⟩
   |defer d=>exact⟨fun⟨_,_,a,_⟩=>(by cases a),fun h=>h.elim⟩
   | call f e=>
     simp only [iz,cd,fu]
     constructor
     . intro⟨v,g,a,b⟩
       cases i:(lim E).call f e none l with
       |none=>rw [i]at a;cases a
       |some q=>obtain⟨x,m,j⟩:=q;rw [i]at a;cases a;exact⟨_,_,_,rfl,b⟩
     . intro⟨x,m,j,a,b⟩
       rw [a]
       cases x with
       |ret v=>exact⟨_,_,rfl,b⟩
       |pan v=>exact b.elim
   | yield b e=>
     simp only [iz,cd,jO]
     constructor
     . intro⟨v,g,a,c⟩;exact⟨_,_,a,c⟩
     . intro⟨x,j,a,c⟩
       cases x with
       |ret v=>exact⟨_,_,a,c⟩
       |pan v=>exact c.elim
theorem stepD_iff{E:Env}{l:Loc}{c:Bool}{o:Oper}{h:Hp}{K:Value->Hp->Prop}:(∃v d,bQ E (lim E) (l.evD (tmpsOf o.op.operands.toList)) c o h=some (v,d)/\K v d)↔
 (if c=true then iz E (fun v d=>zZ h.n d.lo=true/\K v {d with lo:=h.lo}) (aop E l.ev {h with lo:=h.n} o.op)else iz E K (aop E l.ev h o.op)):=by
 have e:=qs l o.op
 unfold bQ
 cases c with
 | false=>
   rw [if_neg (by simp)]
   simp only [cond_false]
   rw [qE e,<-opVal_n]
   constructor
   . intro⟨v,d,a,b⟩
     cases f:cd E (lim E) (aop E l.ev h o.op)with
     |none=>rw [f]at a;cases a
     |some q=>obtain⟨x,i⟩:=q;rw [f]at a;cases x<;>cases a;exact⟨_,_,rfl,b⟩
   . intro⟨v,d,a,b⟩;rw [a];exact⟨_,_,rfl,b⟩
 | true=>
   rw [if_pos rfl]
   simp only [cond_true]
   rw [qE e,<-opVal_n]
   constructor
   . intro⟨v,d,a,b⟩
     cases f:cd E (lim E) (aop E l.ev {h with lo:=h.n} o.op)with
     |none=>rw [f]at a;cases a
     | some q=>
       obtain⟨x,i⟩:=q
       rw [f]at a
       cases x with
       |pan v=>cases a
       | ret v=>
         simp only []at a
         cases g:zZ h.n i.lo with
         |false=>rw [g]at a;cases a
         |true=>rw [g]at a;cases a;exact⟨_,_,rfl,g,b⟩
   . intro⟨v,d,a,g,b⟩
     rw [a]
     simp only [g,cond_true]
     exact⟨_,_,rfl,b⟩
theorem yq{op:Op}{ρ a:Operand->Value}{b:Bool}{h c:Hp}(e: ∀x∈op.operands.toList,ρ x=a x):bM ρ b op h c=bM a b op h c:=by
 unfold bM g8;rw [touch_ext e]
theorem run_opsD{E:Env}{cx:Cx}{Q:dP}{k:List Fr}{l:Loc}{h:Hp}{a os:List Oper}{o:Oper}{q i:Nat}{ps:List (Nat×Nat)}{d:List (Nat×Tch)}:Run E (lim E) cx Q (.opsD a q ps (o::os) i d::k) .normal l h↔ ∃b,bC a l.regs o=some b/\
 (if b =true then(if dk E q i o.op=true then
       iz E (fun v c=>zZ h.n c.lo=true/\Run E (lim E) cx Q (.opsD a q ps os (i+1) (eJ i d (bM l.ev true o.op h h))::k) .normal (l.put o.dst v) {c with lo:=h.lo}) (aop E l.ev {h with lo:=h.n} o.op)
     else iz E (fun v c=>Run E (lim E) cx Q (.opsD a q ps os (i+1) (eJ i d (bM l.ev false o.op h c))::k) .normal (l.put o.dst v) c) (aop E l.ev h o.op))
   else Run E (lim E) cx Q (.opsD a q ps os (i+1) d::k) .normal (l.put o.dst (.tuple #[])) h):=by
 rw [uI]
 simp only [yq (qs l o.op),stepD_iff]
 cases dk E q i o.op with
 | true=>
   simp only [if_pos]
   exact zK
 |false=>exact zK
theorem tR{E:Env}{K:Value->Hp->Prop}{f:FuncId}{args:List Value}{h:Hp}{Q:Value->Hp->Prop}(d:Ret E f args h Q)(e: ∀v c,Q v c->K v c):iz E K (some (.call f args,h)):=by
 obtain⟨v,c,a,b⟩:=d
 exact⟨.ret v,none,c,a,e v c b⟩
end Go.Ab

/- Nets, cells, flags: what the functions do (part 4). -/
import Derived.Test.YtnandelhggbchaaGreatDoorMetC
open Go.Ab.Tryz
open Go.Ab.Tryz renaming abEnv->zM,e3E->X6,e94E->X8
open List renaming getD_eq_getElem?_getD->zN,getElem?_eq_getElem->Xa,append_nil->Xe,take->Xi,drop->Xj,flatMap_append->Xk,take_succ_cons->Xl,length_append->Xm,mem_append_left->Xn,range->Xo,flatMap_cons->Xp,getElem_mem->Xq,length_cons->Xr,drop_zero->Xs,length_singleton->Xu,mem_append_right->Xv,take_zero->Xx,cons_append->Xy,flatMap_nil->Xz,nil_append->XA,filterMap_nil->XB,getElem?_map->XC,all_cons->XG,take_succ_eq_append_getElem->XH,length_take->XI,not_mem_nil->XJ,all_nil->XL,length_map->XM,mem_cons_self->XO,map_cons->XQ,mem_cons->XR,take_length->XU,map_nil->XV,map_append->XW,flatMap_eq_foldl->XY,mem_cons_of_mem->XZ,length_reverse->X7
open Nat renaming le_trans->Xb,lt_of_succ_le->Xc,zero_le->Xf,le_refl->Xh,lt_of_lt_of_le->Xt,mul_le_mul_right->Xw,zero_add->XE,mul_one->XF,zero_mul->XK,one_mul->XN,add_sub_cancel->XP
open Int renaming cast_ofNat_Int->Xd,tmod_eq_emod_of_nonneg->XS
open Bool renaming and_true->Xg
open Option renaming map_some->XD,getD_some->XT,map_none->XX
set_option maxHeartbeats 4000000
set_option linter.defProp false
set_option linter.unusedVariables false
set_option linter.unusedSimpArgs false
section
namespace Go.Ab
open Go.Proofs
set_option maxRecDepth 10000
def Tryz.FJ:=aj t1<|aj t2<|aj t3<|aj t4<|aj t5<|aj t6<|aj t24<|aj Z0<|aj t32<|aj t33<|aj t48<|aj t58<|aj t74<|aj Z2<|aj Z10<|aj Z11<|aj t189<|aj Z1<|aj t192<|aj t199<|aj t200<|aj t201<|aj Z14<|aj t218<|aj t275<|aj t277<|aj Z17<|Z7
def Tryz.F0w:=aj t1<|aj t2<|aj t3<|aj t4<|aj t24<|aj t32<|aj t33<|aj t48<|aj t58<|aj t74<|aj Z10<|aj Z11<|aj Z1<|aj t192<|aj t199<|aj t200<|aj t201<|aj Z14<|aj t218<|aj t275<|aj t277<|aj Z17<|t288
def mN(i:Bool):FuncId:=if i then 118 else 116
theorem y7{h0:Hp}(b:h0.t.Sized h0.n){i:Bool}{a:Arc}:bz zM (mN i) [.agg ⟨ct a⟩] h0 (.int .i64 (ftB i a:Nat)):=by
 cases i
 . exact head1_ok b
 . exact head2_ok b
structure BkAt(h:Hp)(br:Nat)(pn:Value)(m:Nat)(i:Bool)(x:Sx)(s:Sd):Prop where
 l0:h.load br 0 1=some [pn]
 l10:h.load br 10 1=some [.int .i64 (m:Nat)]
 row:Row h x.b (x.row i) 1
 map:h.get x.ma=some (.map x.ea x.ca)
 ok:x.Ok s
theorem BkAt.gr{h h':Hp}{br:Nat}{pn:Value}{m:Nat}{i:Bool}{x:Sx}{s:Sd}(a:BkAt h br pn m i x s)(g:Gr h h'):BkAt h' br pn m i x s:=⟨g.load a.l0,g.load a.l10,a.row.gr g,g.at a.map,a.ok⟩
theorem dL.bk{h:Hp}{br:Nat}{pn:Value}{s t:Nat}{vPi:Value}{X:Bool->Sx}{F:Bool->List Nat}{vE:Value}{N:Nat}{σ:Bi}(a:dL h br pn s t vPi X F vE N σ)(i:Bool):BkAt h br pn σ.meet i (X i) (σ.sd i):=by
 obtain⟨R,b⟩:=a.rows
 refine⟨R.load1 (o:=0) rfl,R.load1 (o:=10) rfl,b i,?_,a.ok i⟩
 have c:Has h (X i).ma (.map (X i).ea (X i).ca):=by
  cases i
  . exact a.own ((X false).ma,.map _ _) (by simp [boL,Sx.L])
  . exact a.own ((X true).ma,.map _ _) (by simp [boL,Sx.L])
 exact c
theorem back1_ok{h0:Hp}(t:h0.t.Sized h0.n){br F M m:Nat}{x:Sx}{d:Sd}{γ:Gra}(N:bI h0 M (ptrTo F) γ)(f:Good γ){i:Bool}(a:BkAt h0 br (ptrTo F) m i x d)(O:x.vH=.func (.func (mN i)) #[] #[])
 {G u v:Nat} (P:h0.load G 0 1=some [ptrTo br]) (k:h0.load u 0 1=some [ptrTo x.b]) (Q:(d.L v).isSome=true) (R: ∀e∈d.P v,e<γ.arcs.length):
 Ret zM 204 ([.int .i64 (v:Nat)]++[ptrTo u,ptrTo G]) h0 fun r h'=>Gr h0 h'/\r=nxV (nxB γ.arcs i d.P v):=by
 have S:=Si t
 have n2:=f.n2
 obtain⟨ga,T,w⟩:=a.ok.ma
 have A:=a.l0
 have H:=a.row.load1 (o:=6) rfl
 have B:=a.row.load1 (o:=4) rfl
 rw [O]at B
 have U:=a.map
 have c:=jR (x:=(v:Int)) Tryz.t218.1 Tryz.t3.1 (z:=.int .i64 0) (by kernel_rfl) U T
 rw [w v Q,XT]at c
 refine ab (n:=40) (rs:=[.tmp 4,.tmp 5,.tmp 6]) rfl Tryz.e204 rfl rfl rfl (lbt rfl) ?_
 cases g:d.P v with
 | nil=>
   rw [g]at c
   replace c:ce _ h0 _ _ _ _=some (.int .i64 (-1)):=c
   simp only [BS,LB,ac,Nat.reduceLT,Nat.reduceEqDiff,Int.reduceLT,FJ,k,H,c]
   exact⟨S.gr,by unfold nxB;rw [g];rfl⟩
 | cons e l=>
   rw [g]at c
   replace c:ce _ h0 _ _ _ _=some (.int .i64 (e:Nat)):=c
   have C:=R e (by rw [g];simp)
   have V: ¬((e:Int)<0):=by omega
   simp only [BS,LB,Nat.reduceLT,Nat.reduceEqDiff,FJ,k,H,c,V,P,A]
   refine step_ret (mZ S.ok N C) ?_
   rintro r h1 ⟨W,rfl⟩
   replace S:=S.call W
   obtain⟨X,Y,Z⟩:=f.arcs _ (Xq C)
   have j:γ.arcs.getD e default=γ.arcs[e]:=by simp [zN,C]
   generalize γ.arcs[e]=y at X Y Z j
   simp only [BS,LB,Nat.reduceLT,Nat.reduceEqDiff,FJ,ct]
   refine ae aA S ?_;clear S;intro h p S I
   simp only [BS,LB,Nat.reduceLT,Nat.reduceEqDiff]
   refine az (S.store (i:=0) rfl ?_ ?_ rfl rfl ?_ ono) ?_
   . exact(by exact Tryz.t99.2.1)
   . exact(by intro x e;cases e)
   . exact lbt rfl
   clear S;rintro h ⟨S,mo⟩;clear mo;simp only [LC,ah,lay,Xi,Xj,Nat.reduceAdd]at S
   have D:=S.old k (fun h=>h)
   have E:=S.old B (fun h=>h)
   have z3:=bD t k
   have z4:=bD t B
   have w1:an .i64 ((y.s:Int)+(y.t:Int))=(y.s:Int)+(y.t:Int):=by rw [wrap64]<;>omega
   have w2:an .i64 ((y.s:Int)+(y.t:Int)-(ftB i y:Int))=((fsB i y:Nat):Int):=by
    cases i<;>simp only [ftB,fsB,if_true,if_false,Bool.false_eq_true]<;>rw [wrap64]<;>omega
   simp only [BS,LB,Nat.reduceLT,Nat.reduceEqDiff]
   refine aB (aG rfl) (q:=0) (ps:=[(4,11),(2,11)]) (by kernel_rfl) ?_
   simp only [BS,LB,cls,Nat.reduceLT,Nat.reduceEqDiff,Nat.reduceAdd,Nat.reducePow,Nat.reduceDiv,Nat.reduceMod,Nat.reduceLeDiff,FJ,D,E,w1,S.ld (b:=p) (o:=0) m0 rfl,S.ld (b:=p) (o:=1) m0 rfl,S.lds (b:=p) (o:=0) (n:=3) m0 (lbt rfl)]
   have k8:=(S.row (b:=p) m0).lt S.ok
   have n0:=S.gr.n
   refine df (y7 (a:=y) S.ok) ?_
   intro h9 s
   have J:=ar s (show u<_ by omega)
   have K:=ar s (show x.b<_ by omega)
   have L:=ar s k8
   replace S:=S.call s
   simp only [BS,LB,cls,ac,Nat.reduceLT,Nat.reduceEqDiff,Nat.reduceAdd,Nat.reducePow,Nat.reduceDiv,Nat.reduceMod,Nat.reduceLeDiff,w2]
   refine⟨by simp only [bn,bE,aT,bJ,aV,ne_eq,not_false_eq_true,bK,bZ,bg,aX,cb,cM,aO,Nat.reduceLT,Nat.reduceEqDiff,reduceIte,Xg,ag,av J,aD J,av K,aD K,av L,aD L],?_⟩
   refine⟨S.gr,?_⟩
   unfold nxB
   rw [g]
   simp only [j]
   rfl
theorem back_ok{h0:Hp}(C:h0.t.Sized h0.n){br t E m:Nat}{x:Sx}{d:Sd}{γ:Gra}(F:bI h0 E (ptrTo t) γ)(k:Good γ){i:Bool}(a:BkAt h0 br (ptrTo t) m i x d)(G:x.vH=.func (.func (mN i)) #[] #[])
 {D:Nat->Prop} (f: ∀v,D v->(d.L v).isSome=true/\ ∀e∈d.P v,e<γ.arcs.length) (l: ∀v y w,D v->nxB γ.arcs i d.P v=some (y,w)->D w) (H:D m) (p:NxtL (nxB γ.arcs i d.P) m (d.P m)) (I:(d.P m).length<=1000):
 Ret zM 122 [ptrTo br,ptrTo x.b] h0 fun r h'=>Gr h0 h'/\fL h' (r,1,(d.P m).flatMap cB)/\ ∀c,aq r c->h0.n<=c:=by
 have S:=Si C
 have q:=a.l10
 refine ab (n:=11) (rs:=[.tmp 4]) rfl Tryz.e122 rfl rfl rfl (lbt rfl) ?_
 simp only [BS,Nat.reduceLT]
 refine ae (cK (by exact dz)) S ?_;clear S;intro h s S u
 simp only [BS,Nat.reduceLT,Nat.reduceEqDiff,if_false]
 refine ae (cK (by exact dz)) S ?_;clear S;intro h z S A
 have j:=S.old q (fun h=>h)
 simp only [BS,LB,Nat.reduceLT,Nat.reduceEqDiff,F0w,j,S.ld (b:=s) (o:=0) m1 rfl]
 have J:=S.gr.n
 have K:=S.ld (b:=s) (o:=0) m1 rfl
 have L:=S.ld (b:=z) (o:=0) m0 rfl
 refine step_ret (chain_ok S.ok (g:=204) (post:=#[ptrTo z,ptrTo s]) (nx:=nxB γ.arcs i d.P) (D:=D) (fun h' g v B=>back1_ok g.ok (F.gr (S.gr.trans g)) k (a.gr (S.gr.trans g)) G (g.load K) (g.load L) (f v B).1 (f v B).2) l H p I) ?_
 rintro r Q ⟨M,N,O⟩
 simp only [BS,LB,ac,Nat.reduceLT,Nat.reduceEqDiff]
 exact⟨S.gr.trans M,N,fun c P=>Xb J (O c P)⟩
end Go.Ab
end
section
namespace Go.Ab
section
variable{A:List Arc}{N:Nat}{al:Nat->Bool}{pi:Nat->Int}{σ:Bi}{rt:Bool->Nat}
structure KeB(b:Bool)(σ τ:Bi):Prop where
 O:(τ.sd b).O=(σ.sd b).O
 L: ∀v∈(σ.sd b).O,(τ.sd b).L v=(σ.sd b).L v/\(τ.sd b).P v=(σ.sd b).P v
 ot:τ.sd (!b)=σ.sd (!b)
theorem KeB.refl{b:Bool}:KeB b σ σ:=⟨rfl,fun _ _=>⟨rfl,rfl⟩,rfl⟩
theorem KeB.trans{b:Bool}{τ c:Bi}(h:KeB b σ τ)(g:KeB b τ c):KeB b σ c:=
 ⟨g.O.trans h.O,fun v a=>⟨(g.L v (h.O▸a)).1.trans (h.L v a).1,(g.L v (h.O▸a)).2.trans (h.L v a).2⟩,g.ot.trans h.ot⟩
theorem oO{b:Bool}{v lab:Nat}{p:List Nat}:KeB b σ (bW pi b σ v lab p):=by
 unfold bW
 split
 . exact .refl
 . rename_i a
   simp only [not_or,Decidable.not_not]at a
   refine⟨?_,fun u c=>?_,?_⟩
   . rw [mg.1]
     show(cQ σ.sd b _ b).O=_
     rw [du];rfl
   . rw [mg.1]
     show(cQ σ.sd b _ b).L u=_/\(cQ σ.sd b _ b).P u=_
     rw [du]
     have e:u≠v:=fun e=>a.1 (e▸c)
     exact⟨if_neg e,if_neg e⟩
   . rw [mg.1]
     exact kj
theorem evB_I{e:Ev2}(h:BiI A N rt al pi σ):BiI A N rt al pi (evB σ e):=⟨h.sv,h.dm,h.le⟩
def nU(σ:Bi)(b:Bool)(v m:Nat):Prop:=v∈(σ.sd b).O/\(σ.sd b).L v=some m/\m+bO<=(σ.sd b).O.length*bO/\((σ.sd b).P v).length+1<=(σ.sd b).O.length
theorem nU.ke{b:Bool}{τ:Bi}{v m:Nat}(r:nU σ b v m)(k:KeB b σ τ):nU τ b v m:=by
 obtain⟨a,c,d,e⟩:=r
 exact⟨by rw [k.O];exact a,by rw [(k.L v a).1];exact c,by rw [k.O];exact d,by rw [k.O,(k.L v a).2];exact e⟩
theorem tC{b:Bool}{v m a:Nat}(k:N<=12)(l: ∀a∈A,a.s<N/\a.t<N/\a.w<=bO)(h:BiI A N rt al pi σ)(r:nU σ b v m)(d:a<A.length)(e:fsB b (A.getD a default)=v):
 BiI A N rt al pi (cF A al pi b v σ a)/\KeB b σ (cF A al pi b v σ a):=by
 unfold cF
 split
 . rename_i f
   obtain⟨n,j,s,o⟩:=r
   have q:A.getD a default∈A:=by rw [zN,Xa d];exact Xq d
   obtain⟨t,u,w⟩:=l _ q
   have c:jT σ b v=m:=by unfold jT;rw [j];rfl
   have g:ftB b (A.getD a default)<N:=by unfold ftB;split<;>assumption
   have i:=oO (pi:=pi) (σ:=evB σ ⟨1,b,a,0⟩) (b:=b) (v:=ftB b (A.getD a default)) (lab:=jT σ b v+(A.getD a default).w) (p:=a::(σ.sd b).P v)
   refine⟨(evB_I h).reach k g ?_ ?_ (.inr ⟨a,m,d,f,rfl,?_,?_,?_,?_⟩),⟨i.O,i.L,i.ot⟩⟩
   . show jT σ b v+_<=(σ.sd b).O.length*bO
     omega
   . show((σ.sd b).P v).length+1<=(σ.sd b).O.length
     exact o
   . rw [e];exact n
   . rw [e];rfl
   . rw [e];exact j
   . rw [c]
 . exact⟨h,.refl⟩
theorem xN{b:Bool}{v m:Nat}(d:N<=12)(e: ∀a∈A,a.s<N/\a.t<N/\a.w<=bO): ∀(l:List Nat) {σ:Bi},BiI A N rt al pi σ->nU σ b v m->(∀a∈l,a<A.length/\fsB b (A.getD a default)=v)->
 BiI A N rt al pi (l.foldl (cF A al pi b v) σ)/\KeB b σ (l.foldl (cF A al pi b v) σ)
 | [],_,h,_,_=>⟨h,.refl⟩
 | a::l,σ,h,r,c=>by
   obtain⟨g,f⟩:=tC d e h r (c a XO).1 (c a XO).2
   obtain⟨i,j⟩:=xN d e l g (r.ke f) (fun x k=>c x (XZ _ k))
   exact⟨i,f.trans j⟩
theorem yS{b:Bool}{v:Nat}{k:Int}(h:BiI A N rt al pi σ)(E:(σ.sd b).K v=some k):BiI A N rt al pi (aW σ b v)/\ ∃m,nU (aW σ b v) b v m/\(σ.sd b).L v=some m/\k=2*(m:Int)+qB pi b v/\v∉(σ.sd b).O:=by
 have c:=h.sv b
 obtain⟨B,m,g,t⟩:=c.op v k E
 obtain⟨F,O,P,Q,R⟩:=c.lab v m g
 have n: ∀i u,((aW σ b v).sd i).L u=(σ.sd i).L u:=fun i u=>by
  show(cQ σ.sd b _ i).L u=_
  by_cases e:i=b
  . subst e;rw [du]
  . rw [uU e]
 refine⟨⟨fun i=>?_,?_,fun i u x y f o=>?_⟩,m,⟨?_,by rw [n];exact g,?_,?_⟩,g,t,B⟩
 . show SvB A N (rt i) al pi i (cQ σ.sd b _ i)
   by_cases e:i=b
   . subst e
     rw [du]
     have G:((σ.sd i).O++[v]).length*bO=(σ.sd i).O.length*bO+bO:=by rw [Xm,Xu,Nat.succ_mul]
     refine⟨?_,fun u p=>?_,fun u j s=>?_,fun u l w=>?_,fun u l w=>?_⟩
     . rw [List.nodup_append]
       exact⟨c.nd,by simp,fun x f y o e=>by simp at o;subst o;subst e;exact B f⟩
     . rcases List.mem_append.1 p with p|p
       . exact c.lt u p
       . rw [List.mem_singleton.1 p];exact⟨F,by show(σ.sd i).L v≠none;rw [g];nofun⟩
     . by_cases e:u=v
       . subst e;simp [cE]at s
       . have s:(σ.sd i).K u=some j:=by simpa [cE,e]using s
         obtain⟨q,r⟩:=c.op u j s
         exact⟨fun g=>(List.mem_append.1 g).elim q (fun h=>e (List.mem_singleton.1 h)),r⟩
     . obtain⟨q,r,C,D,z⟩:=c.lab u l w
       refine⟨q,r,by show l<=((σ.sd i).O++[v]).length*bO;omega,by show((σ.sd i).P u).length<=((σ.sd i).O++[v]).length;rw [Xm];omega,?_⟩
       by_cases e:u=v
       . exact .inl (Xv _ (List.mem_singleton.2 e))
       . exact z.imp (fun h=>Xn _ h) (fun h=>by simpa [cE,e]using h)
     . rcases c.path u l w with H|⟨a,j,q,r,C,D,z⟩
       . exact .inl H
       . exact .inr ⟨a,j,q,r,C,Xn _ D,z⟩
   . rw [uU e];exact h.sv i
 . rcases h.dm with⟨I,J⟩|d
   . exact .inl ⟨I,fun i u x f=>by rw [n]at f⊢;exact J i u x f⟩
   . exact .inr fun i=>by
      obtain⟨x,y,K,L,M⟩:=d i
      exact⟨x,y,by rw [n];exact K,by rw [n];exact L,M⟩
 . rw [n]at f o;exact h.le i u x y f o
 . show v∈(cQ σ.sd b _ b).O
   rw [du]
   exact Xv _ (List.mem_singleton.2 rfl)
 . show m+bO<=(cQ σ.sd b _ b).O.length*bO
   rw [du]
   show m+bO<=((σ.sd b).O++[v]).length*bO
   rw [Xm,Xu,Nat.succ_mul];omega
 . show((cQ σ.sd b _ b).P v).length+1<=(cQ σ.sd b _ b).O.length
   rw [du]
   show((σ.sd b).P v).length+1<=((σ.sd b).O++[v]).length
   rw [Xm,Xu];omega
theorem vS{b:Bool}{a v:Nat}:a∈outs A (fsB b) A.length v↔a<A.length/\fsB b (A.getD a default)=v:=jI
theorem rM{b:Bool}{v:Nat}{k:Int}(c:N<=12)(d: ∀a∈A,a.s<N/\a.t<N/\a.w<=bO)(h:BiI A N rt al pi σ)(e:(σ.sd b).K v=some k):
 BiI A N rt al pi (eo A al pi b v (aW σ b v))/\KeB b (aW σ b v) (eo A al pi b v (aW σ b v)):=by
 obtain⟨f,m,r,_⟩:=yS h e
 exact xN c d _ f r (fun a g=>vS.1 g)

def InB(A:List Arc)(al:Nat->Bool)(pi:Nat->Int)(a:Nat):Prop:=al a=true/\OpB pi (A.getD a default).s/\OpB pi (A.getD a default).t
instance (a:Nat):Decidable (InB A al pi a):=by unfold InB;infer_instance
def hB(A:List Arc)(al:Nat->Bool)(pi:Nat->Int)(b:Bool):List Arc:=((Xo A.length).filter fun a=>decide (InB A al pi a)).map fun a=>⟨fsB b (A.getD a default),ftB b (A.getD a default),(A.getD a default).w⟩
theorem mem_hB{b:Bool}{a:Arc}:a∈hB A al pi b↔ ∃i,i<A.length/\InB A al pi i/\(⟨fsB b (A.getD i default),ftB b (A.getD i default),(A.getD i default).w⟩:Arc)=a:=by
 unfold hB
 simp only [List.mem_map,List.mem_filter,List.mem_range,decide_eq_true_eq]
 constructor
 . rintro⟨i,⟨c,d⟩,e⟩;exact⟨i,c,d,e⟩
 . rintro⟨i,c,d,e⟩;exact⟨i,⟨c,d⟩,e⟩
def FeasB(A:List Arc)(al:Nat->Bool)(pi:Nat->Int):Prop:= ∀i,i<A.length->InB A al pi i->pi (A.getD i default).s<=2*(A.getD i default).w+pi (A.getD i default).t
theorem FeasB.q(h:FeasB A al pi){i:Nat}(a:i<A.length)(c:InB A al pi i)(b:Bool):qB pi b (fsB b (A.getD i default))<=2*(A.getD i default).w+qB pi b (ftB b (A.getD i default)):=by
 have:=h i a c
 cases b
 . exact this
 . show-pi (A.getD i default).t<=2*((A.getD i default).w:Int)+ -pi (A.getD i default).s
   omega
structure FeB(A:List Arc)(r:Nat)(al:Nat->Bool)(pi:Nat->Int)(b:Bool)(x:Sd)(ex:Nat->Prop):Prop where
 opt: ∀v∈x.O,∀l w,x.L v=some l->Wk (hB A al pi b) r v w->l<=w
 fr: ∀a,a<A.length->InB A al pi a->fsB b (A.getD a default)∈x.O-> ¬ex a-> ∃l m,x.L (fsB b (A.getD a default))=some m/\x.L (ftB b (A.getD a default))=some l/\l<=m+(A.getD a default).w
 st:x.L r=some 0
theorem SvB.wk{r:Nat}{b:Bool}{x:Sd}(h:SvB A N r al pi b x): ∀(n:Nat) {v l:Nat},(x.P v).length<=n->x.L v=some l->Wk (hB A al pi b) r v l:=by
 intro n
 induction n with
 | zero=>
   intro v l c d
   rcases h.path v l d with⟨rfl,_,rfl⟩|⟨a,m,_,_,_,_,e,_⟩
   . exact .nil
   . rw [e]at c;simp at c
 | succ n k=>
   intro v l c d
   rcases h.path v l d with⟨rfl,_,rfl⟩|⟨a,m,o,p,g,u,e,i,q⟩
   . exact .nil
   . rw [e]at c
     have s:=k (v:=fsB b (A.getD a default)) (l:=m) (by rw [Xr]at c;omega) i
     have j:=(h.lab _ _ d).2.1
     have t:=(h.lab _ _ i).2.1
     have f:InB A al pi a:=by
      refine⟨p,?_,?_⟩<;>cases b<;>first|exact t|(rw [<-g]at j;exact j)
     exact s.snoc' (mem_hB.2 ⟨a,o,f,rfl⟩) rfl g q
theorem FeB.front{r:Nat}{b:Bool}{x:Sd}(f:FeB A r al pi b x (fun _=>False))(h:SvB A N r al pi b x)(u:FeasB A al pi){v w:Nat}(k:Wk (hB A al pi b) r v w):
 (v∈x.O/\ ∃l,x.L v=some l/\l<=w)\/ ∃y j,x.K y=some j/\j<=2*(w:Int)+qB pi b v:=by
 induction k with
 | nil =>
   rcases(h.lab r 0 f.st).2.2.2.2 with c|c
   . exact .inl ⟨c,0,f.st,Xh _⟩
   . cases d:x.K r with
     |none=>exact absurd d c
     | some j=>
       obtain⟨_,l,g,z⟩:=h.op r j d
       rw [f.st]at g;cases g
       exact .inr ⟨r,j,d,by omega⟩
 | @snoc w a B G C=>
   obtain⟨i,q,n,rfl⟩:=mem_hB.1 B
   have H:=u.q q n b
   rcases C with⟨D,E,p,hle⟩|⟨y,j,c,s⟩
   . obtain⟨l,m,t,g,F⟩:=f.fr i q n D (fun h=>h)
     have e:m=E:=by rw [show x.L (fsB b (A.getD i default))=_ from p]at t;cases t;rfl
     subst e
     rcases(h.lab _ l g).2.2.2.2 with c|c
     . exact .inl ⟨c,l,g,by show l<=w+(A.getD i default).w;omega⟩
     . cases d:x.K (ftB b (A.getD i default))with
       |none=>exact absurd d c
       | some j=>
         obtain⟨_,I,o,z⟩:=h.op _ j d
         rw [g]at o;cases o
         refine .inr ⟨_,j,d,?_⟩
         show j<=2*((w+(A.getD i default).w:Nat):Int)+qB pi b (ftB b (A.getD i default))
         omega
   . refine .inr ⟨y,j,c,?_⟩
     have s:j<=2*(w:Int)+qB pi b (fsB b (A.getD i default)):=s
     show j<=2*((w+(A.getD i default).w:Nat):Int)+qB pi b (ftB b (A.getD i default))
     omega
theorem FeB.key{r:Nat}{b:Bool}{x:Sd}(f:FeB A r al pi b x (fun _=>False))(h:SvB A N r al pi b x)(c:FeasB A al pi){v:Nat}{k:Int}(d:iV x.K v k){u w:Nat}(e:u∉x.O)(g:Wk (hB A al pi b) r u w):k<=2*(w:Int)+qB pi b u:=by
 rcases f.front h c g with a|⟨y,j,a,i⟩
 . exact absurd a.1 e
 . have:=d.2 y j a
   omega
end
end Go.Ab

end
section
namespace Go.Ab
inductive jP(A:List Arc)(s:Nat):List Nat->Nat->Nat->Prop where
 |nil:jP A s [] s 0
 |snoc {l:List Nat} {w a:Nat}:jP A s l (A.getD a default).s w->a<A.length->jP A s (l++[a]) (A.getD a default).t (w+(A.getD a default).w)
def jV(A:List Arc)(s:Nat)(l:List Nat)(i:Nat):Nat:=if i=0 then s else(A.getD (l.getD (i-1) 0) default).t
def sumA(A:List Arc)(l:List Nat)(k:Nat):Nat:=((l.take k).map fun a=>(A.getD a default).w).sum
theorem sF{l:List Nat}{a i:Nat}(h:i<l.length):(l++[a]).getD i 0=l.getD i 0:=by
 rw [zN,zN,List.getElem?_append_left h]
theorem sN{l:List Nat}{a:Nat}:(l++[a]).getD l.length 0=a:=by simp [zN]
theorem yO{A:List Arc}{s a i:Nat}{l:List Nat}(h:i<=l.length):jV A s (l++[a]) i=jV A s l i:=by
 unfold jV
 split
 . rfl
 . rw [sF (by omega)]
theorem jP.at{A:List Arc}{s t w:Nat}{l:List Nat}(h:jP A s l t w):(∀i,i<l.length->l.getD i 0<A.length/\(A.getD (l.getD i 0) default).s=jV A s l i)/\jV A s l l.length=t/\sumA A l l.length=w:=by
 induction h with
 |nil=>exact⟨fun i c=>absurd c (Nat.not_lt_zero _),rfl,rfl⟩
 | @snoc l w a _ d e=>
   obtain⟨f,g,b⟩:=e
   have j:(l++[a]).length=l.length+1:=by simp
   refine⟨fun i c=>?_,?_,?_⟩
   . rcases Nat.lt_or_ge i l.length with h|h
     . rw [sF h,yO (Nat.le_of_lt h)];exact f i h
     . have:i=l.length:=by omega
       subst this
       rw [sN,yO (Xh _)]
       exact⟨d,g.symm⟩
   . rw [j]
     unfold jV
     rw [if_neg (by omega),XP,sN]
   . unfold sumA at b⊢
     rw [XU]at b⊢
     rw [XW,List.sum_append,b]
     rfl
theorem sumA_succ{A:List Arc}{l:List Nat}{k:Nat}(h:k<l.length):sumA A l (k+1)=sumA A l k+(A.getD (l.getD k 0) default).w:=by
 have e:l.getD k 0=l[k]:=by rw [zN,Xa h];rfl
 unfold sumA
 rw [e,XH h,XW,List.sum_append]
 simp
end Go.Ab

end
section
namespace Go.Ab
section
variable{A:List Arc}{N:Nat}{al:Nat->Bool}{pi:Nat->Int}{σ:Bi}{rt:Bool->Nat}
theorem clo_b{b:Bool}{v:Nat}:(aW σ b v).sd b=⟨cE (σ.sd b).K v none,(σ.sd b).L,(σ.sd b).P,(σ.sd b).O++[v]⟩:=du
theorem clo_n{b:Bool}{v:Nat}:(aW σ b v).sd (!b)=σ.sd (!b):=kj
theorem FeB.close{r b v}{k:Int}(f:FeB A r al pi b (σ.sd b) (fun _=>False))(h:SvB A N r al pi b (σ.sd b))(o:FeasB A al pi)(j:iV (σ.sd b).K v k):FeB A r al pi b ((aW σ b v).sd b) (fun a=>fsB b (A.getD a default)=v):=by
 obtain⟨p,m,q,y⟩:=h.op v k j.1
 rw [clo_b]
 refine⟨fun u c l w g n=>?_,fun a s i d t=>?_,f.st⟩
 . rcases List.mem_append.1 c with c|c
   . exact f.opt u c l w g n
   . have e:=List.mem_singleton.1 c
     subst e
     have x:l=m:=by rw [show(σ.sd b).L u=_ from q]at g;cases g;rfl
     subst x
     have:=f.key h o j p n
     omega
 . rcases List.mem_append.1 d with d|d
   . exact f.fr a s i d (fun h=>h)
   . exact absurd (List.mem_singleton.1 d) t
theorem reach_L{b:Bool}{v lab:Nat}{p:List Nat}:(∀u,u≠v->((bW pi b σ v lab p).sd b).L u=(σ.sd b).L u)/\(v∉(σ.sd b).O->OpB pi v-> ∃l,((bW pi b σ v lab p).sd b).L v=some l/\l<=lab/\ ∀l',(σ.sd b).L v=some l'->l<=l')/\
 ((((bW pi b σ v lab p).sd b).L v=(σ.sd b).L v)\/(∀l',(σ.sd b).L v=some l'->lab<l')):=by
 unfold bW
 split
 . rename_i c
   refine⟨fun _ _=>rfl,fun g i=>?_,.inl rfl⟩
   rcases c with h|h|h
   . exact absurd h g
   . exact absurd i h
   . cases d:(σ.sd b).L v with
     |none=>rw [d]at h;cases h
     |some l=>rw [d]at h;exact⟨l,rfl,of_decide_eq_true h,fun l' a=>by cases a;exact Xh _⟩
 . rename_i c
   simp only [not_or,Decidable.not_not]at c
   have e:(nJ ((σ.sd (!b)).L v) ⟨cQ σ.sd b (dv pi (σ.sd b) b v lab p),σ.ev,σ.dist,σ.meet⟩ v lab).sd b=dv pi (σ.sd b) b v lab p:=by
    rw [mg.1];exact du
   have f: ∀l',(σ.sd b).L v=some l'->lab<l':=fun l' a=>by
    have:=c.2.2
    rw [a]at this
    simp only [leO,decide_eq_true_eq]at this
    omega
   rw [e]
   exact⟨fun u j=>if_neg j,fun _ _=>⟨lab,if_pos rfl,Xh _,fun l' a=>Nat.le_of_lt (f l' a)⟩,.inr f⟩
theorem FeB.scan1 {r v m a:Nat} {b:Bool} {O ex':Nat->Prop} (f:FeB A r al pi b (σ.sd b) O) (h:SvB A N r al pi b (σ.sd b)) (U:nU σ b v m) (V:a<A.length) (D:fsB b (A.getD a default)=v) (P: ∀c,¬ex' c-> ¬O c\/c=a):
 FeB A r al pi b ((cF A al pi b v σ a).sd b) ex':=by
 obtain⟨Y,z,_⟩:=U
 have o:jT σ b v=m:=by unfold jT;rw [z];rfl
 unfold cF
 split
 . rename_i q
   have s:(evB σ ⟨1,b,a,0⟩).sd b=σ.sd b:=rfl
   obtain⟨E,F,k⟩:=reach_L (pi:=pi) (σ:=evB σ ⟨1,b,a,0⟩) (b:=b) (v:=ftB b (A.getD a default)) (lab:=jT σ b v+(A.getD a default).w) (p:=a::(σ.sd b).P v)
   have G:=oO (pi:=pi) (σ:=evB σ ⟨1,b,a,0⟩) (b:=b) (v:=ftB b (A.getD a default)) (lab:=jT σ b v+(A.getD a default).w) (p:=a::(σ.sd b).P v)
   generalize bW pi b (evB σ ⟨1,b,a,0⟩) (ftB b (A.getD a default)) (jT σ b v+(A.getD a default).w) (a::(σ.sd b).P v)=Q at E F k G
   have R:(Q.sd b).O=(σ.sd b).O:=G.O
   have B: ∀u∈(σ.sd b).O,(Q.sd b).L u=(σ.sd b).L u:=fun u t=>(G.L u t).1
   refine⟨fun u t l w n W=>?_,fun c H d x g=>?_,?_⟩
   . rw [R]at t
     rw [B u t]at n
     exact f.opt u t l w n W
   . rw [R]at x
     rw [B _ x]
     rcases P c g with i|e
     . obtain⟨l,I,J,y,S⟩:=f.fr c H d x i
       by_cases e:ftB b (A.getD c default)=ftB b (A.getD a default)
       . by_cases j:ftB b (A.getD a default)∈(σ.sd b).O
         . exact⟨l,I,J,by rw [B _ (e▸j)];exact y,S⟩
         . have C:=(h.lab _ l y).2.1
           rw [e]at C y
           obtain⟨K,L,_,X⟩:=F j C
           have:=X l y
           exact⟨K,I,J,by rw [e];exact L,by omega⟩
       . exact⟨l,I,J,by rw [E _ e];exact y,S⟩
     . subst e
       have C:OpB pi (ftB b (A.getD c default)):=by
        cases b with
        |false=>exact d.2.2
        |true=>exact d.2.1
       by_cases j:ftB b (A.getD c default)∈(σ.sd b).O
       . obtain⟨_,M⟩:=h.lt _ j
         cases n:(σ.sd b).L (ftB b (A.getD c default))with
         |none=>exact absurd n M
         | some l=>
           refine⟨l,m,by rw [D];exact z,by rw [B _ j];exact n,f.opt _ j l _ n ?_⟩
           exact(h.wk _ (Xh _) z).snoc' (mem_hB.2 ⟨c,V,d,rfl⟩) D rfl rfl
       . obtain⟨K,L,T,_⟩:=F j C
         exact⟨K,m,by rw [D];exact z,L,by rw [o]at T;exact T⟩
   . by_cases e:r=ftB b (A.getD a default)
     . rcases k with k|k
       . rw [e,k,s,<-e];exact f.st
       . have:=k 0 (by rw [s,<-e];exact f.st)
         omega
     . rw [E r e];exact f.st
 . rename_i q
   refine⟨f.opt,fun c H d x g=>?_,f.st⟩
   rcases P c g with i|e
   . exact f.fr c H d x i
   . subst e;exact absurd d.1 q
theorem FeB.scanL{r v m:Nat}{b:Bool}(j:N<=12)(k: ∀a∈A,a.s<N/\a.t<N/\a.w<=bO)(n:r=rt b): ∀(l:List Nat) {σ:Bi},FeB A r al pi b (σ.sd b) (· ∈l)->BiI A N rt al pi σ->nU σ b v m->(∀a∈l,a<A.length/\fsB b (A.getD a default)=v)->
 FeB A r al pi b ((l.foldl (cF A al pi b v) σ).sd b) (fun _=>False)
 | [],_,f,_,_,_=>⟨f.opt,fun a d g q _=>f.fr a d g q (by simp),f.st⟩
 | a::l,σ,f,h,i,o=>by
   obtain⟨d,p⟩:=o a XO
   have s:=FeB.scan1 (ex':=(· ∈l)) f (by rw [n];exact h.sv b) i d p (fun c t=>by
    by_cases e:c=a
    . exact .inr e
    . exact .inl (fun u=>(List.mem_cons.1 u).elim e t))
   obtain⟨w,y⟩:=tC j k h i d p
   exact FeB.scanL j k n l s w (i.ke y) (fun x z=>o x (XZ _ z))
theorem ends_I{τ:Bi}(b:N<=12)(c: ∀a∈A,a.s<N/\a.t<N/\a.w<=bO)(d:iW A al pi σ τ):BiI A N rt al pi σ->BiI A N rt al pi τ:=by
 induction d with
 |stop _=>exact fun h=>h
 |step _ e _ f=>exact fun h=>f (rM b c h e.1).1
end
end Go.Ab

end
section
namespace Go.Ab
def rtB(s t:Nat)(i:Bool):Nat:=if i then t else s
def nC(σ:Bi):List Nat:=((σ.sd false).P σ.meet).reverse++(σ.sd true).P σ.meet
section
variable{A:List Arc}{N s t:Nat}{al:Nat->Bool}{pi:Nat->Int}{σ:Bi}
theorem uQ:BiI A N (rtB s t) al pi ⟨fun _=>fV,[],FAR,0⟩:=
 ⟨fun i=>⟨.nil,fun v c=>(by cases c),fun v k d=>(by cases d),fun v l a=>(by cases a),fun v l a=>(by cases a)⟩,.inl ⟨rfl,fun i v x b=>rfl⟩,fun i v x y b=>(by cases b)⟩
theorem sC(a:N<=12)(c:s<N)(d:t<N):BiI A N (rtB s t) al pi (jq pi s t):=
 (uQ.reach (b:=false) (p:=[]) (lab:=0) a c (Xf _) (Xf _) (.inl ⟨rfl,rfl,rfl⟩)).reach (b:=true) (p:=[]) (lab:=0) a d (Xf _) (Xf _) (.inl ⟨rfl,rfl,rfl⟩)
theorem initB_O(i:Bool):((jq pi s t).sd i).O=[]:=by
 have a:=oO (pi:=pi) (σ:=⟨fun _=>fV,[],FAR,0⟩) (b:=false) (v:=s) (lab:=0) (p:=[])
 have c:=oO (pi:=pi) (σ:=bW pi false ⟨fun _=>fV,[],FAR,0⟩ s 0 []) (b:=true) (v:=t) (lab:=0) (p:=[])
 cases i
 . have:=c.ot
   show((bW pi true _ t 0 []).sd (!true)).O=[]
   rw [this]
   exact a.O
 . exact c.O.trans (by rw [show(true:Bool)=(!false)from rfl,a.ot];rfl)
theorem tg:(jq pi s t).ev=[]:=by
 have e: ∀{b:Bool} {σ:Bi} {v a:Nat} {p:List Nat},(bW pi b σ v a p).ev=σ.ev:=by
  intro b σ v a p
  unfold bW
  split
  . rfl
  . exact mg.2
 unfold jq
 rw [e,e]
theorem SvB.pathF{x:Sd}(h:SvB A N s al pi false x): ∀(n:Nat) {v l:Nat},(x.P v).length<=n->x.L v=some l->jP A s (x.P v).reverse v l:=by
 intro n
 induction n with
 | zero=>
   intro v l b c
   rcases h.path v l c with⟨rfl,d,rfl⟩|⟨a,m,_,_,_,_,e,_⟩
   . rw [d];exact .nil
   . rw [e]at b;simp at b
 | succ n f=>
   intro v l b c
   rcases h.path v l c with⟨rfl,d,rfl⟩|⟨a,m,g,_,i,_,e,j,k⟩
   . rw [d];exact .nil
   . rw [e]at b⊢
     rw [k,List.reverse_cons,<-i]
     exact .snoc (f (by rw [Xr]at b;omega) j) g
theorem SvB.pathT{x:Sd}(h:SvB A N t al pi true x): ∀(n:Nat) {v l w:Nat} {b:List Nat},(x.P v).length<=n->x.L v=some l->jP A s b v w->jP A s (b++x.P v) t (w+l):=by
 intro n
 induction n with
 | zero=>
   intro v l w b c e d
   rcases h.path v l e with⟨rfl,f,rfl⟩|⟨a,m,_,_,_,_,g,_⟩
   . rw [f,Xe];exact d
   . rw [g]at c;simp at c
 | succ n j=>
   intro v l w b c e d
   rcases h.path v l e with⟨rfl,f,rfl⟩|⟨a,m,k,_,i,_,g,o,p⟩
   . rw [f,Xe];exact d
   . rw [g]at c⊢
     have i:(A.getD a default).s=v:=i
     have:=j (by rw [Xr]at c;omega) o (.snoc (by rw [i];exact d) k)
     rw [List.append_assoc]at this
     rw [p,show w+(m+(A.getD a default).w)=w+(A.getD a default).w+m by omega]
     exact this
theorem AJ(h:BiI A N (rtB s t) al pi σ)(g:σ.dist<FAR):jP A s (nC σ) t σ.dist/\(nC σ).length<=2*N:=by
 rcases h.dm with⟨d,_⟩|d
 . omega
 . obtain⟨x,y,a,b,c⟩:=d false
   have e:=(show SvB A N s al pi false (σ.sd false)from h.sv false).pathF _ (Xh _) a
   have f:=(show SvB A N t al pi true (σ.sd true)from h.sv true).pathT _ (Xh _) b e
   rw [c]
   refine⟨f,?_⟩
   have i:=((h.sv false).lab _ _ a).2.2.2.1
   have j:=((h.sv true).lab _ _ b).2.2.2.1
   have k:=(h.sv false).len
   have l:=(h.sv true).len
   unfold nC
   rw [Xm,X7]
   omega
def EvP(A:List Arc)(rt:Bool->Nat)(al:Nat->Bool)(pi:Nat->Int)(l:List Ev2):Prop:= ∀e∈l,e.kind=0->Wk (hB A al pi e.side) (rt e.side) e.id e.lab/\ ∀w,Wk (hB A al pi e.side) (rt e.side) e.id w->e.lab<=w
theorem oZ{b:Bool}{v lab:Nat}{p:List Nat}:(bW pi b σ v lab p).ev=σ.ev:=by
 unfold bW
 split
 . rfl
 . exact mg.2
theorem EvP.scan1{rt:Bool->Nat}{b:Bool}{v a:Nat}(h:EvP A rt al pi σ.ev):EvP A rt al pi (cF A al pi b v σ a).ev:=by
 unfold cF
 split
 . rw [oZ]
   intro e c d
   rcases List.mem_append.1 c with c|c
   . exact h e c d
   . rw [List.mem_singleton.1 c]at d;cases d
 . exact h
theorem EvP.scanL{rt:Bool->Nat}{b:Bool}{v:Nat}: ∀(l:List Nat) {σ:Bi},EvP A rt al pi σ.ev->EvP A rt al pi (l.foldl (cF A al pi b v) σ).ev
 | [],_,h=>h
 |_::l,_,h=>EvP.scanL l h.scan1
end
end Go.Ab

end
section
namespace Go.Ab
open Go.Proofs
set_option maxRecDepth 10000
theorem BiI.distLe{A:List Arc}{N:Nat}{rt:Bool->Nat}{al:Nat->Bool}{pi:Nat->Int}{σ:Bi}(h:BiI A N rt al pi σ)(a:N<=12):σ.dist<=FAR:=by
 have f:=jK
 have g:=kP
 rcases h.dm with⟨e,_⟩|b
 . omega
 . obtain⟨x,y,c,d,i⟩:=b false
   have j:=((h.sv false).lab _ x c).2.2.1
   have k:=((h.sv (!false)).lab _ y d).2.2.1
   have l:=Xw bO (Xb (h.sv false).len a)
   have m:=Xw bO (Xb (h.sv (!false)).len a)
   omega
theorem SvB.has{A:List Arc}{N r:Nat}{al:Nat->Bool}{pi:Nat->Int}{i:Bool}{x:Sd}(h:SvB A N r al pi i x){v l:Nat}(a:x.L v=some l)(c:v∉x.O):x.K v=some (2*(l:Int)+qB pi i v):=by
 have d:=((h.lab v l a).2.2.2.2).resolve_left c
 cases b:x.K v with
 |none=>exact absurd b d
 | some k=>
   obtain⟨_,g,e,f⟩:=h.op v k b
   rw [a]at e
   cases e
   rw [f]
theorem SvB.hasNo{A:List Arc}{N r:Nat}{al:Nat->Bool}{pi:Nat->Int}{i:Bool}{x:Sd}(h:SvB A N r al pi i x){v:Nat}(a:x.L v=none):x.K v=none:=by
 cases b:x.K v with
 |none=>rfl
 | some k=>
   obtain⟨_,c,e,d⟩:=h.op v k b
   rw [a]at e
   cases e
theorem qD{h0:Hp}(g:h0.t.Sized h0.n){br:Nat}{pn:Value}{s t:Nat}{vPi:Value}{b:List Int}{X:Bool->Sx}{F:Bool->List Nat}{vE:Value}{N:Nat}{σ:Bi}(a:dL h0 br pn s t vPi X F vE N σ)
 (k:au h0 1 (encI .i64) vPi b) (m:b.length=N) (n: ∀c,aq vPi c->c∉boB br pn s t vPi X F vE σ) (e:N<=12) {A:List Arc} {rt:Bool->Nat} {al:Nat->Bool} (I:BiI A N rt al (fun v=>b.getD v 0) σ) {i:Bool} {v lab:Nat} {p:List Nat} (o:v<N) (f:lab<=13*bO):
 Ret zM 119 [ptrTo br,ptrTo (X i).b,.int .i64 (v:Nat),.int .i64 (byI p),.int .i64 (lab:Nat)] h0 fun _ h'=>Mo (· ∈boB br pn s t vPi X F vE σ) h0 h'/\ ∃d F',dL h' br pn s t vPi d F' vE N (bW (fun v=>b.getD v 0) i σ v lab p)/\(∀j,(d j).b=(X j).b/\(d j).vA=(X j).vA/\(d j).vH=(X j).vH)/\ ∀c∈boB br pn s t vPi d F' vE (bW (fun v=>b.getD v 0) i σ v lab p),c∈boB br pn s t vPi X F vE σ\/h0.n<=c:=
 breach_ok g a k m n e o f (I.distLe e) (fun j u l q=>by
  have w:=((I.sv j).lab u l q).2.2.1
  have x:=Xw bO (Xb (I.sv j).len e)
  have y:=kP
  omega) (fun l f r=>(I.sv i).has f r) (fun h=>(I.sv i).hasNo h)
def Tryz.Fi:=aj t1<|aj t2<|aj t3<|aj t4<|aj t5<|aj t6<|aj Z3<|aj Z4<|aj t9<|aj t10<|aj t24<|aj Z0<|aj t32<|aj t33<|aj t48<|aj t58<|aj t74<|aj Z8<|aj Z2<|aj Z10<|aj Z11<|aj t189<|aj Z1<|aj t192<|aj t199<|aj t200<|aj t201<|aj Z14<|aj t218<|aj t275<|aj t277<|aj Z17<|aj Z6<|Z7
theorem note_look{ρ:Operand->Value}{b a:Bool}{t:TypeId}{m k:Operand}{h h':Hp}:bU ρ b (.lookup t m k a) h h'=(match ρ m with| .map (some r)=>some (.blk r)|_=>none):=by
 simp only [bU,di,ij,dR,touch,cond_false]
 cases ρ m<;>first|rfl|(rename_i x;cases x<;>rfl)
theorem tB{A:List Arc}{al:Nat->Bool}{pi:Nat->Int}{b:Bool}{v:Nat}: ∀(l:List Nat) {σ:Bi},(l.foldl (cF A al pi b v) σ).ev.length<=σ.ev.length+l.length
 | [],_=>Xh _
 | a::l,σ=>by
   have h:=tB (A:=A) (al:=al) (pi:=pi) (b:=b) (v:=v) l (σ:=cF A al pi b v σ a)
   have c:(cF A al pi b v σ a).ev.length<=σ.ev.length+1:=by
    unfold cF
    split
    . rw [oZ]
      simp [evB]
    . omega
   rw [List.foldl_cons,Xr]
   omega
theorem qZ: ∀e:Ev2,(dB e).length=4:=fun _=>rfl
def outF(i:Bool):FuncId:=if i then 117 else 115
theorem outF_ok{h0:Hp}(b:h0.t.Sized h0.n){p:Value}{γ:Gra}{e:Nat}(c:bI h0 e p γ)(a:γ.arcs.length<1000){i:Bool}{v:Nat}(d:v<γ.nodes):Ret zM (outF i) [p,.int .i64 v] h0 fun r h'=>Gr h0 h'/\au h' 1 cB r (outs γ.arcs (fsB i) γ.arcs.length v)/\ ∀c,aq r c->h0.n<=c:=by
 cases i
 . exact v7 b c a d
 . exact xM b c a d
theorem dL.lt{h:Hp}(b:h.t.Sized h.n){br:Nat}{pn:Value}{s t:Nat}{vPi:Value}{X:Bool->Sx}{F:Bool->List Nat}{vE:Value}{N:Nat}{σ:Bi}(a:dL h br pn s t vPi X F vE N σ): ∀c∈boB br pn s t vPi X F vE σ,c<h.n:=fun c d=>
 (List.mem_append.1 d).elim (fun h=>(a.st b false).key_lt h) (fun h=>(List.mem_append.1 h).elim (fun h=>(a.heap false).lt b c h) (fun h=>(a.heap true).lt b c h))
theorem bo_fin{h0 h':Hp}{br:Nat}{pn:Value}{s t:Nat}{vPi:Value}{X:Bool->Sx}{F:Bool->List Nat}{vE:Value}{N:Nat}{σ:Bi}(a:dL h0 br pn s t vPi X F vE N σ){i:Bool}{x2:Sx}(e:x2.b=(X i).b/\x2.vA=(X i).vA/\x2.vH=(X i).vH){τ:Bi}{y:Sd}(k:τ.sd=cQ σ.sd i y){vE2:Value}{F6:List Nat}
 (S:St (· ∈boB br pn s t vPi X F vE σ) h0 h' ((br,.row (fg pn s t vPi X vE2 τ) 1)::(x2.L i++(X (!i)).L (!i))) (boG vE2 τ)) (z:bM h' F6 (ptrTo x2.p) N y.K) (v:bM h' (F (!i)) (ptrTo (X (!i)).p) N (σ.sd (!i)).K) (w:x2.Ok y)
 (x: ∀c∈F6,c∈F i\/h0.n<=c) (l: ∀c∈F6,c∉keys ((br,Ob.row (fg pn s t vPi X vE2 τ) 1)::(x2.L i++(X (!i)).L (!i))) (boG vE2 τ)/\c∉F (!i)) (n: ∀c∈F (!i),c∉keys ((br,Ob.row (fg pn s t vPi X vE2 τ) 1)::(x2.L i++(X (!i)).L (!i))) (boG vE2 τ)):
 ∃f F',dL h' br pn s t vPi f F' vE2 N τ/\(∀j,(f j).b=(X j).b/\(f j).vA=(X j).vA/\(f j).vH=(X j).vH)/\ ∀c∈boB br pn s t vPi f F' vE2 τ,c∈boB br pn s t vPi X F vE σ\/h0.n<=c:=by
 have g: ∀j:Bool,j≠i->j= !i:=fun j h=>me h
 have o:(!i)≠i:=not_ne
 let f:Bool->Sx:=fun j=>if j=i then x2 else X j
 let F':Bool->List Nat:=fun j=>if j=i then F6 else F j
 have p:f i=x2:=if_pos rfl
 have q:f (!i)=X (!i):=if_neg o
 have r:F' i=F6:=if_pos rfl
 have u:F' (!i)=F (!i):=if_neg o
 have m: ∀j,(f j).b=(X j).b/\(f j).vA=(X j).vA/\(f j).vH=(X j).vH:=fun j=>by
  by_cases d:j=i
  . subst d;rw [p];exact e
  . rw [g j d,q];exact⟨rfl,rfl,rfl⟩
 have A:boL i br pn s t vPi f vE2 τ=(br,.row (fg pn s t vPi X vE2 τ) 1)::(x2.L i++(X (!i)).L (!i)):=by
  simp only [boL,fg,p,q,(m false).1,(m true).1]
 rw [<-A]at S l n
 refine⟨f,F',dL.of i S (fun j=>?_) (fun j=>?_) (fun j c b=>?_),m,fun c b=>?_⟩
 . by_cases d:j=i
   . subst d
     rw [r,p,k,du]
     exact z
   . rw [g j d,u,q,k,kj]
     exact v
 . by_cases d:j=i
   . subst d
     rw [p,k,du]
     exact w
   . rw [g j d,q,k,kj]
     exact a.ok _
 . by_cases d:j=i
   . subst d
     rw [r]at b
     rw [u]
     exact l c b
   . rw [g j d]at b⊢
     rw [u]at b
     rw [Bool.not_not,r]
     exact⟨n c b,fun B=>(l c B).2 b⟩
 . have hB: ∀j,∀c∈F' j,c∈boB br pn s t vPi X F vE σ\/h0.n<=c:=fun j c b=>by
    by_cases d:j=i
    . subst d
      rw [r]at b
      exact(x c b).elim (fun h=>.inl (oq h)) .inr
    . rw [g j d,u]at b
      exact .inl (oq b)
   rcases List.mem_append.1 b with b|b
   . refine(S.key_own ?_).symm
     unfold keys at b⊢
     rcases List.mem_append.1 b with h|h
     . exact Xn _ (((lL i).map _).mem_iff.2 h)
     . exact Xv _ h
   . rcases List.mem_append.1 b with b|b
     . exact hB _ c b
     . exact hB _ c b
theorem bstep_ok {hq h0:Hp} (gq:Gr hq h0) {br B nb:Nat} {s t:Nat} {vPi:Value} {f:List Int} {X:Bool->Sx} {F:Bool->List Nat} {vE:Value} {σ:Bi} {γ:Gra} (E:Good γ) (hn:bI hq nb (ptrTo B) γ) (a:dL h0 br (ptrTo B) s t vPi X F vE γ.nodes σ) (hB: ∀c∈boB br (ptrTo B) s t vPi X F vE σ,hq.n<=c)
 (sP:au hq 1 (encI .i64) vPi f) (lP:f.length=γ.nodes) {rt:Bool->Nat} (I:BiI γ.arcs γ.nodes rt (fun _=>true) (fun v=>f.getD v 0) σ) (c2:σ.ev.length<=100000) {i:Bool} {v:Nat} {k:Int} (hp:iV (σ.sd i).K v k) (hA:(X i).vA=.func (.func (outF i)) #[ptrTo B] #[]) (hH:(X i).vH=.func (.func (mN i)) #[] #[]):
 Ret zM 121 [ptrTo br,ptrTo (X i).b] h0 fun _ h'=>Mo (· ∈boB br (ptrTo B) s t vPi X F vE σ) h0 h'/\ ∃X' F' C,dL h' br (ptrTo B) s t vPi X' F' C γ.nodes (eo γ.arcs (fun _=>true) (fun v=>f.getD v 0) i v (aW σ i v))/\(∀j,(X' j).b=(X j).b/\(X' j).vA=(X j).vA/\(X' j).vH=(X j).vH)/\ ∀c∈boB br (ptrTo B) s t vPi X' F' C (eo γ.arcs (fun _=>true) (fun v=>f.getD v 0) i v (aW σ i v)),c∈boB br (ptrTo B) s t vPi X F vE σ\/h0.n<=c:=by
 have ok:=gq.ok
 have n2:=E.n2
 have S:=a.st ok i
 have Ho:=a.ok i
 have H:=a.heap i
 have Hx:=a.heap (!i)
 have hk:=fun j c (d:c∈F j)=>a.apart' i d
 have bd: ∀j,∀c∈F j,c∈boB br (ptrTo B) s t vPi X F vE σ\/h0.n<=c:=fun j c d=>.inl (oq d)
 generalize ax:boB br (ptrTo B) s t vPi X F vE σ=BB at S bd
 rcases hX:X i with⟨xb,xp,xl,xa,xc,vA,vH,el,cl,ea,ca,ec,cc⟩
 rcases hY:X (!i)with⟨yb,yp,yl,ya,yc,wA,wH,fl,dl,fa,da,fc,dc⟩
 rw [hX]at Ho H hA hH
 rw [hY]at Hx
 obtain⟨gl,ML,be⟩:=Ho.ml
 obtain⟨gc,MC,bf⟩:=Ho.mc
 simp only []at ML MC hA hH
 subst hA hH
 simp only [LC,boL,boG,fg,Sx.L,Sx.row,hX,hY]at S hk
 have c3:=fun c d=>S.key_lt (b:=c) d
 obtain⟨b6,l,ay,c4⟩:=(I.sv i).op v k hp.1
 have b7:=((I.sv i).lab v l ay).1
 refine ab (n:=125) (rs:=[]) rfl Tryz.e121 rfl rfl rfl (lbt rfl) ?_
 simp only [BS,LB,Nat.reduceLT,Nat.reduceEqDiff,Fi,S.ld (b:=xb) (o:=0) m1 rfl]
 refine step_ret (uJ S.ok H (by omega)) ?_
 rintro rv h2 (⟨_,aL,_⟩|⟨v',k',rfl,b8,bh,f2,H2⟩)
 . exact absurd ((aL v).symm.trans hp.1) (by nofun)
 . obtain ⟨rfl,rfl⟩:=hp.uniq (⟨b8,bh⟩:iV (σ.sd i).K v' k')
   replace S:=S.stepF f2 (fun c d=>⟨bd i c d,hk i c d⟩)
   have bi:=Hx.mo f2 (fun c d g=>(a.apart (!i) c d).2 (by rw [Bool.not_not];exact g))
   have S2:=S
   have cf:=H2.lt S2.ok
   have ch:=bi.lt S2.ok
   replace S:=S.base
   have bk:=jR (x:=(v:Int)) Tryz.t218.1 Tryz.t3.1 (z:=.int .i64 0) (by kernel_rfl) (show h2.get xc=some (.map ec cc)from(S.own _ m4).2) MC
   rw [bf,if_neg b6,Option.getD_none]at bk
   have w1:an .i64 ((0:Int)+1)=1:=rfl
   simp only [BS,LB,Nat.reduceLT,Nat.reduceEqDiff,Int.reduceAdd,Fi,bk,S.ld (b:=xb) (o:=7) m1 rfl]
   refine az (S.mputI (i:=4) rfl Tryz.t218.1 Tryz.t3.1 MC _) ?_
   clear S;rintro h3 ⟨c5,cj,ck,cm,S⟩
   simp only [LC]at S
   have bl:=jR (x:=(v:Int)) Tryz.t277.1 Tryz.t3.1 (z:=.int .i64 0) (by kernel_rfl) (show h3.get xl=some (.map el cl)from(S.own _ m2).2) ML
   rw [be,ay,XD,XT]at bl
   have c6:Fl vE:=(S.gown _ m0).1.fl
   simp only [BS]
   refine aB (aG rfl) (q:=262144) (ps:=[]) (by kernel_rfl) ?_
   simp only [BS,LB,cls,Nat.reduceLT,Nat.reduceEqDiff,Nat.reduceAdd,Nat.reducePow,Nat.reduceDiv,Nat.reduceMod,Nat.reduceLeDiff,Fi,bl,S.ld (b:=br) (o:=9) m0 rfl,S.ld (b:=xb) (o:=1) m1 rfl,S.ld (b:=xb) (o:=5) m1 rfl]
   refine dC (co (by exact Tryz.t48.1) (by exact X8) (by decide) (by rfl)) S ?_;clear S;intro h bs S bm bt;simp only [LC,bA,bS,ah,Nat.reduceMul,Nat.reduceAdd,XK,XE,XF,XN]at S
   simp only [BS,LB,cls,Nat.reduceLT,Nat.reduceEqDiff,Nat.reduceAdd,Nat.reducePow,Nat.reduceDiv,Nat.reduceMod,Nat.reduceLeDiff]
   have J:aM h 4 (.slice (some ⟨bs,0,none⟩) 1 1)=some (1,dB ⟨0,i,v,l⟩):=by simp only [aM];rw [S.lds (b:=bs) (o:=0) (n:=1*4) m0 (lbt rfl)];rfl
   replace S:=S.drop1
   refine jF (S.grow (j:=0) (m:=1) (new:=dB ⟨0,i,v,l⟩) rfl Tryz.t48.1 X8 (by decide) Tryz.t48.2.2.2.2.2 J rfl (by decide) rfl (by rw [bw qZ];show(_+4)*_<=_;omega)) ?_
   clear S J;rintro h4 C S
   simp only [LC]at S
   have bu:Fl C:=(S.gown _ m0).1.fl
   simp only [BS,LB,cls,Nat.reduceLT,Nat.reduceEqDiff,Nat.reduceAdd,Nat.reducePow,Nat.reduceDiv,Nat.reduceMod,Nat.reduceLeDiff,Fi]
   refine dS (aC S (i:=0) rfl Tryz.t48.2.2.1 bu (Xc (lbt rfl)) ono) ?_
   clear S;rintro h5 ⟨S,db⟩
   simp only [LC]at S
   have T:=S2.rebase S
   have K:jT σ i v=l:=by unfold jT;rw [ay];rfl
   have bo:=bo_fin a (i:=i) (x2:=⟨xb,xp,xl,xa,xc,.func (.func (outF i)) #[ptrTo B] #[],.func (.func (mN i)) #[] #[],el,cl,ea,ca,cj,ck⟩) (by rw [hX];exact⟨rfl,rfl,rfl⟩) (τ:=aW σ i v) (y:=⟨cE (σ.sd i).K v none,(σ.sd i).L,(σ.sd i).P,(σ.sd i).O++[v]⟩) rfl (vE2:=C) (F6:=F i) (h':=h5) (by
    rw [ax]
    simp only [fg,Sx.L,Sx.row,hY,Xy,XA,boG,aW,K,Xk,Xp,Xz,Xe]
    exact T) (H2.mo S.fr (fun c d=>hk i c d)) (by rw [hY];exact bi.mo S.fr (fun c d=>hk _ c d)) (⟨⟨gl,ML,be⟩,Ho.ma,⟨_,cm,fun u=>by
    simp only [dk]
    by_cases hu:u=v
    . subst hu;simp;rfl
    . rw [if_neg (by omega),bf u]
      simp [hu]⟩⟩) (fun c d=>.inl d) (fun c d=>⟨fun g=>by
    simp only [fg,Sx.L,Sx.row,hY,Xy,XA,boG,aW,K,Xk,Xp,Xz,Xe]at g
    exact(S.key_own g).elim (fun h=>by have:=cf c d;omega) (fun h=>hk i c d h),(a.apart i c d).2⟩) (fun c d g=>by
    simp only [fg,Sx.L,Sx.row,hY,Xy,XA,boG,aW,K,Xk,Xp,Xz,Xe]at g
    exact(S.key_own g).elim (fun h=>by have:=ch c d;omega) (fun h=>hk _ c d h))
   obtain⟨X2,F2,A2,e2,bv⟩:=bo
   have a0: ∀c∈BB,hq.n<=c:=fun c d=>hB c (by rw [ax];exact d)
   have cn:Gr hq h5:=gq.mo' T.fr a0
   obtain⟨I5,m5,R5,dd,_,_⟩:=yS I hp.1
   simp only [BS,LB,Nat.reduceLT,Nat.reduceEqDiff,Nat.reduceAdd,Fi,S.ld (b:=xb) (o:=3) m1 rfl]
   refine step_ret (outF_ok (i:=i) S.ok (hn.gr cn) (by have:=E.many;omega) b7) ?_
   rintro vL h6 ⟨g6,W,nL⟩
   have f6:Mo (· ∈BB) h0 h6:=T.fr.trans (g6.fr (M:=NoM)) (fun _ h=>h.elim)
   have A6:=A2.gr g6
   have n6:h5.n<=h6.n:=g6.n
   have cp: ∀c∈boB br (ptrTo B) s t vPi X2 F2 C (aW σ i v),c<h5.n:=A2.lt S.ok
   generalize hL:outs γ.arcs (fsB i) γ.arcs.length v=L at W
   have cr: ∀e∈L,e<γ.arcs.length/\fsB i (γ.arcs.getD e default)=v:=fun e he=>by rw [<-hL]at he;exact vS.1 he
   have de:L.length<=γ.arcs.length:=by rw [<-hL];exact kD _ _ _ _
   have a4:eo γ.arcs (fun _=>true) (fun v=>f.getD v 0) i v (aW σ i v)=L.foldl (cF γ.arcs (fun _=>true) (fun v=>f.getD v 0) i v) (aW σ i v):=by unfold eo;rw [hL]
   rw [a4]
   have dj:(X2 i).b=xb:=by rw [(e2 i).1,hX]
   simp only [BS,LB,Nat.reduceLT,Nat.reduceEqDiff,Fi,W.lenq]
   refine bL (fun(j:Nat) ρ h=>j<=L.length/\ ∃N F3 G,dL h br (ptrTo B) s t vPi N F3 G γ.nodes ((L.take j).foldl (cF γ.arcs (fun _=>true) (fun v=>f.getD v 0) i v) (aW σ i v))/\BiI γ.arcs γ.nodes rt (fun _=>true) (fun v=>f.getD v 0) ((L.take j).foldl (cF γ.arcs (fun _=>true) (fun v=>f.getD v 0) i v) (aW σ i v))/\nU ((L.take j).foldl (cF γ.arcs (fun _=>true) (fun v=>f.getD v 0) i v) (aW σ i v)) i v m5/\(∀j,(N j).b=(X j).b/\(N j).vA=(X j).vA/\(N j).vH=(X j).vH)/\Mo (· ∈BB) h0 h/\(∀c∈boB br (ptrTo B) s t vPi N F3 G ((L.take j).foldl (cF γ.arcs (fun _=>true) (fun v=>f.getD v 0) i v) (aW σ i v)),(c∈BB\/h0.n<=c)/\ ¬aq vL c)/\au h 1 cB vL L/\ρ 0=ptrTo br/\ρ 1=ptrTo xb/\ρ 4=.int .i64 (v:Nat)/\ρ 55=vL/\ρ 56=.int .i64 (L.length:Nat)/\ρ 57=.int .i64 j) (fun j=>L.length-j) ?_ 0 _ _ ?_
   . clear S A6 W
     intro j ih ρ h ⟨hj,N,F3,G,A3,I3,R3,e3,f3,sub3,W,r0,r1,r4,r55,r56,r57⟩
     have w:an .i64 ((j:Int)+1)=((j+1:Nat):Int):=by have:=E.many;rw [wrap64]<;>omega
     by_cases hlt:j<L.length
     . obtain⟨c0,o0,x0,y0⟩:=W.ix (kd:=.i64) fj hlt
       obtain⟨O,ai⟩:=cr _ (Xq hlt)
       have bx:L.take (j+1)=L.take j++[L[j]]:=XH hlt
       generalize L[j]=e at y0 O ai bx
       replace y0:h.load c0 o0 1=some [.int .i64 (e:Nat)]:=y0
       generalize bB:(L.take j).foldl (cF γ.arcs (fun _=>true) (fun v=>f.getD v 0) i v) (aW σ i v)=τ at A3 I3 R3 sub3
       have P:=f3.ok
       have S:=A3.st P i
       have bF:=A3.ok i
       have H3:=A3.heap i
       have a5:=A3.heap (!i)
       have Q:=fun j c (d:c∈F3 j)=>A3.apart' i d
       have Y:=e3 i
       rw [hX]at Y
       generalize R:boB br (ptrTo B) s t vPi N F3 G τ=dm at S sub3
       rcases hX3:N i with⟨U,dn,Z,dq,ds,dx,dy,a6,a7,dF,d0,d1,d2⟩
       rcases hY3:N (!i)with⟨d3,d4,d5,d6,d7,d8,d9,eb,ed,ei,ej,ek,em⟩
       rw [hX3]at bF H3 Y
       rw [hY3]at a5
       simp only []at Y
       obtain⟨rfl,rfl,rfl⟩:=Y
       simp only [LC,boL,boG,fg,Sx.L,Sx.row,hX3,hY3]at S Q
       simp only [BS,LB,Nat.reduceLT,Nat.reduceEqDiff,Nat.reduceAdd,Int.reduceLT,Xd,Fi,r0,r55,r56,r57,aK,hlt,x0,y0,S.ld (b:=br) (o:=3) m0 rfl]
       have cW:Fl G:=(S.gown _ m0).1.fl
       have S2:=S
       have cs:=H3.lt P
       have bP:=a5.lt P
       replace S:=S.base
       refine aB (aG rfl) (q:=4096) (ps:=[]) (by kernel_rfl) ?_
       simp only [BS,LB,cls,Nat.reduceLT,Nat.reduceEqDiff,Nat.reduceAdd,Nat.reducePow,Nat.reduceDiv,Nat.reduceMod,Nat.reduceLeDiff,Fi,r0,r1,S.ld (b:=br) (o:=9) m0 rfl,S.ld (b:=U) (o:=1) m1 rfl]
       refine dC (co (by exact Tryz.t48.1) (by exact X8) (by decide) (by rfl)) S ?_;clear S;intro h bs S bm bt;simp only [LC,bA,bS,ah,Nat.reduceMul,Nat.reduceAdd,XK,XE,XF,XN]at S
       simp only [BS,LB,cls,Nat.reduceLT,Nat.reduceEqDiff,Nat.reduceAdd,Nat.reducePow,Nat.reduceDiv,Nat.reduceMod,Nat.reduceLeDiff]
       have J:aM h 4 (.slice (some ⟨bs,0,none⟩) 1 1)=some (1,dB ⟨1,i,e,0⟩):=by simp only [aM];rw [S.lds (b:=bs) (o:=0) (n:=1*4) m0 (lbt rfl)];rfl
       replace S:=S.drop1
       have cX:τ.ev.length<=1000000:=by
        have D:=tB (A:=γ.arcs) (al:=fun _=>true) (pi:=fun v=>f.getD v 0) (b:=i) (v:=v) (L.take j) (σ:=aW σ i v)
        rw [bB,XI]at D
        have h2:(aW σ i v).ev.length=σ.ev.length+1:=by simp [aW]
        have:=E.many
        omega
       refine jF (S.grow (j:=0) (m:=1) (new:=dB ⟨1,i,e,0⟩) rfl Tryz.t48.1 X8 (by decide) Tryz.t48.2.2.2.2.2 J rfl (by decide) rfl (by rw [bw qZ];show(_+4)*_<=_;omega)) ?_
       clear S J;rintro h8 V S
       simp only [LC]at S
       have bT:Fl V:=(S.gown _ m0).1.fl
       simp only [BS,LB,cls,Nat.reduceLT,Nat.reduceEqDiff,Nat.reduceAdd,Nat.reducePow,Nat.reduceDiv,Nat.reduceMod,Nat.reduceLeDiff,Fi]
       refine dS (aC S (i:=0) rfl Tryz.t48.2.2.1 bT (Xc (lbt rfl)) ono) ?_
       clear S;rintro h9 ⟨S,en⟩
       simp only [LC]at S
       have T:=S2.rebase S
       have cx:(evB τ ⟨1,i,e,0⟩).sd=cQ τ.sd i (τ.sd i):=by
        funext j
        unfold cQ
        by_cases hj:j=i
        . rw [if_pos hj,hj];rfl
        . rw [if_neg hj];rfl
       have bo:=bo_fin A3 (i:=i) (x2:=N i) ⟨rfl,rfl,rfl⟩ (τ:=evB τ ⟨1,i,e,0⟩) cx (vE2:=V) (F6:=F3 i) (h':=h9) (by
        rw [R]
        simp only [fg,Sx.L,Sx.row,hX3,hY3,Xy,XA,boG,evB,Xk,Xp,Xz,Xe]
        exact T) (by rw [hX3];exact H3.mo S.fr (fun c d=>Q i c d)) (by rw [hY3];exact a5.mo S.fr (fun c d=>Q _ c d)) (A3.ok i) (fun c d=>.inl d) (fun c d=>⟨fun g=>by
        simp only [fg,Sx.L,Sx.row,hX3,hY3,Xy,XA,boG,evB,Xk,Xp,Xz,Xe]at g
        exact(S.key_own g).elim (fun h=>by have:=cs c d;omega) (fun h=>Q i c d h),(A3.apart i c d).2⟩) (fun c d g=>by
        simp only [fg,Sx.L,Sx.row,hX3,hY3,Xy,XA,boG,evB,Xk,Xp,Xz,Xe]at g
        exact(S.key_own g).elim (fun h=>by have:=bP c d;omega) (fun h=>Q _ c d h))
       obtain⟨X4,F4,A4,e4,ak⟩:=bo
       have f9:Mo (· ∈BB) h0 h9:=f3.trans T.fr (fun c d=>(sub3 c d).1)
       have bX:=gq.mo' f9 a0
       have cy:(X4 i).b=U:=by rw [(e4 i).1,hX3]
       simp only [BS,LB,Nat.reduceLT,Nat.reduceEqDiff,Nat.reduceAdd,Fi,r0,S.ld (b:=br) (o:=0) m0 rfl]
       refine step_ret (mZ S.ok (hn.gr bX) O) ?_
       rintro r hA ⟨gA,rfl⟩
       have ba:=gA.ok
       have bY:γ.arcs.getD e default=γ.arcs[e]:=by simp [zN,O]
       obtain⟨a1,a2,a3⟩:=E.arcs _ (Xq O)
       generalize γ.arcs[e]=x at bY a1 a2 a3
       have AA:=A4.gr gA
       replace S:=S.call gA
       have l4:=S.ld (b:=U) (o:=4) m1 rfl
       have l5:=S.ld (b:=U) (o:=5) m1 rfl
       have gx:=S.gown
       have SA:=S
       clear S
       have S:=Si ba
       simp only [BS,LB,Nat.reduceLT,Nat.reduceEqDiff,Fi,ct]
       refine ae aA S ?_;clear S;intro h b9 S cY
       simp only [BS,LB,Nat.reduceLT,Nat.reduceEqDiff]
       refine az (S.store (i:=0) rfl ?_ ?_ rfl rfl ?_ ono) ?_
       . exact(by exact Tryz.t99.2.1)
       . exact(by intro x e;cases e)
       . exact lbt rfl
       clear S;rintro h ⟨S,mo⟩;clear mo;simp only [LC,ah,lay,Xi,Xj,Nat.reduceAdd]at S
       have cz:=S.old l4 (fun h=>h)
       have ep:=S.old l5 (fun h=>h)
       simp only [BS,LB,Nat.reduceLT,Nat.reduceEqDiff]
       refine aB (aG rfl) (q:=0) (ps:=[(7,16),(7,14),(7,12)]) (by kernel_rfl) ?_
       simp only [BS,LB,cls,Nat.reduceLT,Nat.reduceEqDiff,Nat.reduceAdd,Nat.reducePow,Nat.reduceDiv,Nat.reduceMod,Nat.reduceLeDiff,Fi,r0,r1,cz,S.lds (b:=b9) (o:=0) (n:=3) m0 (lbt rfl)]
       have k9:=(S.row (b:=b9) m0).lt S.ok
       refine df (y7 (a:=x) S.ok) ?_
       intro cA ad
       have z4:=bD ba l4
       have nA:=S.gr.n
       have p1:=ar ad (show U<_ by omega)
       have p2:=ar ad k9
       have p3:=ar ad (show Z<_ from Xt (fF ba (show hA.get Z=some (.map a6 a7)from(SA.own _ m2).2)) nA)
       replace S:=S.call ad
       have b0:=S.old l5 (fun h=>h)
       have b1:cA.get Z=some (.map a6 a7):=S.gr.at (show hA.get Z=some (.map a6 a7)from(SA.own _ m2).2)
       obtain⟨et,cN,bb⟩:=bF.ml
       have b2:=jR (x:=(v:Int)) Tryz.t277.1 Tryz.t3.1 (z:=.int .i64 0) (by kernel_rfl) b1 cN
       rw [bb v,R3.2.1,XD,XT]at b2
       have r31:=R3.2.2.1
       have c1:=Xw bO (Xb (I3.sv i).len n2)
       have ev:=kP
       have b3:an .i64 ((m5:Int)+(x.w:Int))=((m5+x.w:Nat):Int):=by rw [wrap64]<;>omega
       simp only [BS,LB,cls,Nat.reduceLT,Nat.reduceEqDiff,Nat.reduceAdd,Nat.reducePow,Nat.reduceDiv,Nat.reduceMod,Nat.reduceLeDiff,Fi,r1,r4,b0,b2,b3,S.ld (b:=b9) (o:=2) m0 rfl]
       have ex:=f3.n
       have eA:=gq.n
       have bc: ∀c∈boB br (ptrTo B) s t vPi X4 F4 V (evB τ ⟨1,i,e,0⟩),hq.n<=c/\(c∈BB\/h0.n<=c):=fun c d=>by
        rcases ak c d with D|D
        . rw [R]at D
          have h2:=(sub3 c D).1
          exact⟨h2.elim (a0 c) (fun h=>by omega),h2⟩
        . exact⟨by omega,.inr (by omega)⟩
       have af:=gA.trans S.gr
       have n9:=T.fr.n
       have eD:=af.n
       have b4: ∀c∈boB br (ptrTo B) s t vPi X4 F4 V (evB τ ⟨1,i,e,0⟩),¬aq vL c:=fun c d hb=>by
        rcases ak c d with D|D
        . rw [R]at D
          exact(sub3 c D).2 hb
        . have:=W.blt P hb
          omega
       have cO:=bX.trans af
       have cT:ftB i x<γ.nodes:=by unfold ftB;split<;>assumption
       have rc:=qD S.ok (AA.gr S.gr) (sP.gr cO) lP (fun c d g=>by have D:=sP.blt gq.ok0 d;have h2:=(bc c g).1;omega) n2 (evB_I I3) (i:=i) (v:=ftB i x) (lab:=m5+x.w) (p:=e::(τ.sd i).P v) cT (by omega)
       rw [cy]at rc
       refine cV rc ?_
       rintro r hC ⟨fC,X5,F5,A5,e5,b5⟩
       simp only [BS,LB,Nat.reduceLT,Nat.reduceEqDiff,Nat.reduceAdd,r57,w]
       refine⟨by simp only [bn,bE,aT,bJ,aV,ne_eq,not_false_eq_true,bK,bZ,bg,aX,cb,cM,aO,Nat.reduceLT,Nat.reduceEqDiff,reduceIte,Xg,r0,r1,r4,r55,r56,r57,ag,note_look,av p1,aD p1,av p2,aD p2,av p3,aD p3],?_⟩
       have es:cF γ.arcs (fun _=>true) (fun v=>f.getD v 0) i v τ e=bW (fun v=>f.getD v 0) i (evB τ ⟨1,i,e,0⟩) (ftB i x) (m5+x.w) (e::(τ.sd i).P v):=by
        have:jT τ i v=m5:=by unfold jT;rw [R3.2.1];rfl
        unfold cF
        rw [if_pos rfl,bY,this]
       have ef:(L.take (j+1)).foldl (cF γ.arcs (fun _=>true) (fun v=>f.getD v 0) i v) (aW σ i v)=cF γ.arcs (fun _=>true) (fun v=>f.getD v 0) i v τ e:=by
        rw [bx,List.foldl_append,bB];rfl
       obtain⟨I6,K6⟩:=tC n2 (fun a ha=>E.arcs a ha) I3 R3 O ai
       refine ih (j+1) _ _ (by omega) ⟨by omega,X5,F5,V,by rw [ef,es];exact A5,by rw [ef];exact I6,by rw [ef];exact R3.ke K6,fun q=>⟨(e5 q).1.trans ((e4 q).1.trans (e3 q).1),(e5 q).2.1.trans ((e4 q).2.1.trans (e3 q).2.1),(e5 q).2.2.trans ((e4 q).2.2.trans (e3 q).2.2)⟩,?_,?_,?_,by simp [aa,r0,ag],by simp [aa,r1,ag],by simp [aa,r4],by simp [aa,r55],by simp [aa,r56],by simp [aa]⟩
       . exact(f9.trans (af.fr (M:=NoM)) (fun _ h=>h.elim)).trans fC (fun c d=>(bc c d).2)
       . intro c d
         rw [ef,es]at d
         rcases b5 c d with D|D
         . exact⟨(bc c D).2,b4 c D⟩
         . refine⟨.inr (by omega),fun hb=>?_⟩
           have:=W.blt P hb
           omega
       . exact((W.mo T.fr (fun c d g=>(sub3 c g).2 d)).gr af).mo fC (fun c d g=>b4 c g d)
     . have:j=L.length:=by omega
       subst this
       rw [XU]at A3 sub3
       simp only [BS,LB,Nat.reduceLT,r56,r57,aK,hlt]
       exact⟨f3,N,F3,G,A3,e3,fun c d=>(sub3 c d).1⟩
   . exact⟨Xf _,X2,F2,C,A6,I5,R5,e2,f6,fun c d=>⟨by rw [<-ax];exact bv c d,fun hb=>by have D:=nL c hb;have h2:=cp c d;omega⟩,W,by simp [aa,cD,ag],by simp [aa,cD,ag],by simp [aa],by simp [aa],by simp [aa],by simp [aa]⟩
end Go.Ab
end
section
namespace Go.Ab
section
variable{A:List Arc}{N r:Nat}{al:Nat->Bool}{pi:Nat->Int}{i:Bool}{x:Sd}
theorem SvB.ids(h:SvB A N r al pi i x): ∀(n:Nat) {v:Nat},(x.P v).length<=n->(x.L v).isSome=true-> ∀e∈x.P v,e<A.length:=by
 intro n
 induction n with
 | zero=>
   intro v c _ e b
   rw [List.length_eq_zero_iff.1 (Nat.le_zero.1 c)]at b
   cases b
 | succ n f=>
   intro v c d e b
   obtain⟨l,d⟩:=Option.isSome_iff_exists.1 d
   rcases h.path v l d with⟨_,g,_⟩|⟨a,m,j,_,_,_,k,o,_⟩
   . rw [g]at b;cases b
   . rw [k]at c b
     rcases List.mem_cons.1 b with rfl|b
     . exact j
     . exact f (by rw [Xr]at c;omega) (by rw [o];rfl) e b
end
end Go.Ab

end
section
namespace Go.Ab
open Go.Proofs
set_option maxRecDepth 10000
def Tryz.Fc:=aj t1<|aj t2<|aj t3<|aj t4<|aj t5<|aj t6<|aj Z3<|aj Z4<|aj t9<|aj t10<|aj t11<|aj t12<|aj Z12<|aj Z15<|aj t15<|aj t16<|aj t17<|aj Z20<|aj t19<|aj r19<|aj t20<|aj t24<|aj Z0<|aj t32<|aj t33<|aj t45<|aj t48<|aj t58<|aj t74<|aj Z8<|aj Z10<|aj Z11<|aj t181<|aj t189<|aj Z1<|aj t192<|aj t199<|aj t200<|aj t201<|aj Z14<|aj t218<|aj t271<|aj t275<|aj t277<|aj Z17<|aj t358<|aj Z16<|aj t372<|aj t374<|aj t376<|aj t377<|aj t378<|aj t379<|Z13
section
variable{A:List Arc}{N r:Nat}{al:Nat->Bool}{pi:Nat->Int}{i:Bool}{x:Sd}
theorem SvB.nxt(h:SvB A N r al pi i x): ∀(n:Nat) {v:Nat},(x.P v).length<=n->(x.L v).isSome=true->NxtL (nxB A i x.P) v (x.P v):=by
 intro n
 induction n with
 | zero=>
   intro v b _
   have e:=List.length_eq_zero_iff.1 (Nat.le_zero.1 b)
   rw [e]
   exact .nil (by unfold nxB;rw [e])
 | succ n g=>
   intro v b c
   obtain⟨l,c⟩:=Option.isSome_iff_exists.1 c
   rcases h.path v l c with⟨_,f,_⟩|⟨a,m,k,_,_,_,d,j,_⟩
   . rw [f]
     exact .nil (by unfold nxB;rw [f])
   . have e:=g (v:=fsB i (A.getD a default)) (by rw [d,Xr]at b;omega) (by rw [j];rfl)
     rw [d]
     exact .cons (by unfold nxB;rw [d]) e
theorem SvB.nxtD(h:SvB A N r al pi i x){v y w:Nat}(c:(x.L v).isSome=true)(b:nxB A i x.P v=some (y,w)):(x.L w).isSome=true:=by
 obtain⟨l,c⟩:=Option.isSome_iff_exists.1 c
 rcases h.path v l c with⟨_,d,_⟩|⟨a,m,g,_,_,_,e,f,_⟩
 . unfold nxB at b;rw [d]at b;cases b
 . unfold nxB at b;rw [e]at b;cases b;rw [f];rfl
end
theorem bo_init{k l h3:Hp}{br:Nat}{pn:Value}{s t:Nat}{vPi:Value}{x y:Sx}{m n:List Nat}{N:Nat}(G:k.t.Sized k.n)(R:Row h3 br (fg pn s t vPi (fun j=>if j=true then y else x) (.slice none 0 0) ⟨fun _=>fV,[],FAR,0⟩) 1)(T:br<k.n)
 (u:Mo (· =br) l h3) (o:k.n<=l.n) (B: ∀q∈x.L false,Has l q.1 q.2) (H: ∀q∈y.L true,Has h3 q.1 q.2) (I:x.Ok fV) (J:y.Ok fV) (C:bM l m (ptrTo x.p) N (fun _=>none)) (K:bM h3 n (ptrTo y.p) N (fun _=>none))
 (nx: ∀c∈keys (x.L false) []++m,k.n<=c) (D: ∀c∈keys (y.L true) []++n,l.n<=c) (L:(keys (x.L false) []).Nodup) (M:(keys (y.L true) []).Nodup) (O: ∀c∈m,c∉keys (x.L false) []) (P: ∀c∈n,c∉keys (y.L true) []):
 dL h3 br pn s t vPi (fun j=>if j=true then y else x) (fun j=>if j=true then n else m) (.slice none 0 0) N ⟨fun _=>fV,[],FAR,0⟩/\ ∀c∈boB br pn s t vPi (fun j=>if j=true then y else x) (fun j=>if j=true then n else m) (.slice none 0 0) ⟨fun _=>fV,[],FAR,0⟩,c=br\/k.n<=c:=by
 have p:=u.ok0
 have E: ∀c∈keys (x.L false) [],c<l.n:=fun c d=>by
  simp only [keys,XB,Xe]at d
  obtain⟨q,f,rfl⟩:=List.mem_map.1 d
  exact(B q f).lt p
 have F:=C.lt p
 have v: ∀c∈keys (x.L false) [],k.n<=c:=fun c d=>nx c (Xn _ d)
 have w: ∀c∈m,k.n<=c:=fun c d=>nx c (Xv _ d)
 have r: ∀c∈keys (y.L true) [],l.n<=c:=fun c d=>D c (Xn _ d)
 have z: ∀c∈n,l.n<=c:=fun c d=>D c (Xv _ d)
 have A:keys (boL false br pn s t vPi (fun j=>if j=true then y else x) (.slice none 0 0) ⟨fun _=>fV,[],FAR,0⟩) (boG (.slice none 0 0) ⟨fun _=>fV,[],FAR,0⟩)=br::(keys (x.L false) []++keys (y.L true) []):=by
  simp [keys,boL,boG,dM]
 have own: ∀q∈boL false br pn s t vPi (fun j=>if j=true then y else x) (.slice none 0 0) ⟨fun _=>fV,[],FAR,0⟩,Has h3 q.1 q.2:=fun q f=>by
  rcases List.mem_cons.1 f with rfl|f
  . exact R
  . rcases List.mem_append.1 f with f|f
    . have f:q∈x.L false:=f
      refine u.has (B q f) fun e=>?_
      have:=v q.1 (by simp only [keys,XB,Xe];exact List.mem_map.2 ⟨q,f,rfl⟩)
      omega
    . exact H q f
 refine⟨⟨own,.inl ⟨rfl,rfl⟩,?_,?_,?_,?_⟩,?_⟩
 . rw [A,List.nodup_cons,List.nodup_append]
   refine⟨fun g=>?_,L,M,fun a Q b S e=>?_⟩
   . rcases List.mem_append.1 g with h|h
     . have:=v _ h;omega
     . have:=r _ h;omega
   . have:=E a Q
     have:=r b S
     omega
 . intro i
   cases i
   . exact C.mo u (fun c d e=>by have:=w c d;omega)
   . exact K
 . intro i
   cases i
   . exact I
   . exact J
 . intro i c d
   rw [A]
   cases i
   . have d:c∈m:=d
     have:=F c d
     have:=w c d
     refine⟨fun g=>?_,fun g=>?_⟩
     . rcases List.mem_cons.1 g with h|h
       . omega
       . rcases List.mem_append.1 h with h|h
         . exact O c d h
         . have:=r c h;omega
     . have:=z c g;omega
   . have d:c∈n:=d
     have:=z c d
     refine⟨fun g=>?_,fun g=>?_⟩
     . rcases List.mem_cons.1 g with h|h
       . omega
       . rcases List.mem_append.1 h with h|h
         . have:=E c h;omega
         . exact P c d h
     . have g:c∈m:=g
       have:=F c g;omega
 . intro c d
   unfold boB at d
   rw [A]at d
   rcases List.mem_append.1 d with h|h
   . rcases List.mem_cons.1 h with h|h
     . exact .inl h
     . rcases List.mem_append.1 h with h|h
       . exact .inr (v c h)
       . exact .inr (Xb o (r c h))
   . rcases List.mem_append.1 h with h|h
     . exact .inr (w c h)
     . exact .inr (Xb o (z c h))
theorem st_rg{h:Hp}(i:h.t.Sized h.n){b:Nat}{l:List Value}{v:Value}{vs:List Value}(R:Row h b l 1)(G:fL h (v,1,vs))(a: ∀c,aq v c->c≠b):St (fun c=>c=b\/aq v c) h h [(b,.row l 1)] [(v,1,vs)]:=by
 refine⟨Mo.refl i,fun p d=>?_,fun p d=>?_,?_⟩
 . rw [List.mem_singleton.1 d];exact⟨.inr (.inl rfl),R⟩
 . rw [List.mem_singleton.1 d]
   refine⟨G,fun c f=>.inr (.inr ?_)⟩
   rcases G with⟨e,_⟩|⟨g,n,e,_⟩
   . simp only []at e;subst e;cases f
   . simp only []at e;subst e;cases f;rfl
 . rcases G with⟨e,_⟩|⟨g,n,e,_⟩
   . simp only []at e;subst e;exact(by simp:([b]:List Nat).Nodup)
   . simp only []at e;subst e
     have:=a g rfl
     simp [keys,dM]
     exact fun h=>this h.symm
theorem natC_flat(l:List Nat):(l.flatMap cB).all iU=true:=by
 induction l with
 |nil=>rfl
 |cons x l a=>rw [Xp,List.all_append,a];rfl
theorem BiI.keyB{A:List Arc}{N:Nat}{rt:Bool->Nat}{al:Nat->Bool}{pi:Nat->Int}{σ:Bi}(h:BiI A N rt al pi σ)(a:N<=12)(i:Bool)(v:Nat)(k:Int)(b:(σ.sd i).K v=some k): -1000000000000000000<=k/\k<=1000000000000000000:=by
 obtain⟨_,l,c,e⟩:=(h.sv i).op v k b
 obtain⟨_,d,g,_⟩:=(h.sv i).lab v l c
 have j:=Xw bO (Xb (h.sv i).len a)
 have m:=kP
 have n:=jK
 obtain⟨o,p⟩:=d
 cases i
 . have f:qB pi false v=pi v:=rfl
   omega
 . have f:qB pi true v= -pi v:=rfl
   omega
theorem Ba {h0:Hp} (ok:h0.t.Sized h0.n) {C nb s t:Nat} {γ:Gra} (J:Good γ) (V:bI h0 nb (ptrTo C) γ) {vPi:Value} {z:List Int} (sP:au h0 1 (encI .i64) vPi z) (lP:z.length=γ.nodes) (hs:s<γ.nodes) (ht:t<γ.nodes) (a3:s≠t):
 Ret zM 50 [ptrTo C,.agg ⟨[.int .i64 (s:Nat),.int .i64 (t:Nat),.slice none 0 0,vPi]⟩] h0 fun r h'=>Gr h0 h'/\ ∃vA vE τ,r=.tuple #[.agg ⟨[.int .i64 (τ.dist:Nat),vA,vE]⟩,.int .i64 0]/\iW γ.arcs (fun _=>true) (fun v=>z.getD v 0) (jq (fun v=>z.getD v 0) s t) τ/\
  au h' 4 dB vE τ.ev/\au h' 1 cB vA (if τ.dist<FAR then nC τ else [])/\ ∀c,aq vA c\/aq vE c->h0.n<=c:=by
 have S:=Si ok
 have fP:=sP.fl
 have W:=J.n2
 have ch:=jK
 have bd: ¬((s:Int)=(t:Int)):=by omega
 have hA: ∀a∈γ.arcs,a.s<γ.nodes/\a.t<γ.nodes/\a.w<=bO:=fun a ha=>J.arcs a ha
 refine ab (n:=113) (rs:=[.cell 4 114,.tmp 5]) rfl Tryz.e50 rfl rfl rfl (lbt rfl) ?_
 simp only [BS,Nat.reduceLT]
 refine ae (aS (by intro x e;cases e)) S ?_;clear S;intro h Y S b9;simp only [ah]at S
 simp only [BS,Fc]
 refine ae aA S ?_;clear S;intro h Z S ca
 simp only [BS,LB,Nat.reduceLT,Nat.reduceEqDiff,Fc,Xs,Xl,Xx,S.lds (b:=Y) (o:=0) (n:=4) m1 (lbt rfl)]
 refine am (right_ok S.ok (V.gr S.gr) hs ht (sP.gr S.gr) lP) ?_
 intro h g;replace S:=S.call g;clear g
 simp only [BS,LB,Nat.reduceLT,Nat.reduceEqDiff,Nat.reduceAdd,Nat.reduceLeDiff,Fc,bd,Xs,Xl,Xx,S.ld (b:=Y) (o:=0) m1 rfl,S.ld (b:=Y) (o:=1) m1 rfl,S.lds (b:=Y) (o:=0) (n:=4) m1 (lbt rfl)]
 refine ae (aS (by intro x e;cases e)) S ?_;clear S;intro h d S bx;simp only [ah]at S
 have Rq:=S.row (b:=d) m0
 have R3:=S.row (b:=Y) m2
 have R4:=S.row (b:=Z) m1
 have k3:=R3.lt S.ok
 have k4:=R4.lt S.ok
 have kq:=Rq.lt S.ok
 have ap:=S.apart
 simp only [keys,XQ,XV,XB,Xe,List.nodup_cons,XR,XJ,or_false,not_or]at ap
 have a4:Y≠d:=fun e=>by omega
 have be:Z≠d:=fun e=>by omega
 have g0:=S.gr
 have bf:=S.ok
 have eF:((FAR:Nat):Int)=72057594037927936:=by rw [jK];rfl
 rename Hp=>hA'
 have G: ∀{h:Hp},Mo (· =d) hA' h->Gr h0 h:=fun f=>(g0.fr.trans f (fun i E=>.inr (by subst E;omega)):Mo NoM h0 _).gr
 have a5: ∀{h:Hp} {b:Nat} {l:List Value},Mo (· =d) hA' h->Row hA' b l 1->b≠d->Row h b l 1:=fun {h b l} f r e=>f.has (b:=b) (o:=.row l 1) r e
 simp only [BS,LB,Nat.reduceLT,Nat.reduceEqDiff,Fc,S.ld (b:=Y) (o:=0) m2 rfl]
 have O:Ret zM 114 [ptrTo d,.int .i64 0,.int .i64 (s:Nat),.int .i64 1,.func (.func (outF false)) #[ptrTo C] #[],.func (.func (mN false)) #[] #[]] hA' _:=wO bf (V.gr g0) Rq rfl rfl (i:=false) (v:=s) fO fO
 refine step_ret O ?_
 rintro r P ⟨f1,x,F1,R1,hx,xA,xH,ox,Hx,nx,dx,ax⟩
 clear O
 clear S
 have S:=Si f1.ok
 have bh:Row P Y _ 1:=f1.has (b:=Y) (o:=.row _ 1) R3 a4
 simp only [BS,LB,Nat.reduceLT,Nat.reduceEqDiff,Fc,bh.load1 (o:=1) rfl]
 have O:Ret zM 114 [ptrTo d,.int .i64 1,.int .i64 (t:Nat),.int .i64 (-1),.func (.func (outF true)) #[ptrTo C] #[],.func (.func (mN true)) #[] #[]] P _:=wO f1.ok (V.gr (G f1)) R1 rfl rfl (i:=true) (v:=t) fO fO
 refine step_ret O ?_
 rintro r Q ⟨f2,y,F2,R2,hy,yA,yH,oy,Hy,ny,dy,ay⟩
 clear O
 have bi:Row Q d (fg (ptrTo C) s t vPi (fun j=>if j=true then y else x) (.slice none 0 0) ⟨fun _=>fV,[],FAR,0⟩) 1:=by
  unfold fg
  rw [eF]
  exact R2
 obtain⟨A0,K⟩:=bo_init bf bi kq f2 f1.n hx hy ox oy Hx Hy nx ny dx dy ax ay
 have ad: ∀j:Bool,((fun j:Bool=>if j=true then y else x) j).vA=.func (.func (outF j)) #[ptrTo C] #[]/\((fun j:Bool=>if j=true then y else x) j).vH=.func (.func (mN j)) #[] #[]:=fun j=>by
  cases j
  . exact⟨xA,xH⟩
  . exact⟨yA,yH⟩
 have L:Mo (· =d) hA' Q:=f1.trans f2 (fun i E=>.inl E)
 clear R2 bi hx hy ox oy Hx Hy nx ny dx dy ax ay xA xH yA yH f1 f2 R1 bh S
 generalize(fun j:Bool=>if j=true then y else x)=X0 at A0 K ad
 generalize(fun j:Bool=>if j=true then F2 else F1)=F0 at A0 K
 have nP: ∀{h:Hp} {X:Bool->Sx} {F:Bool->List Nat} {vE:Value} {σ:Bi},(∀c∈boB d (ptrTo C) s t vPi X F vE σ,c=d\/hA'.n<=c)-> ∀c,aq vPi c->c∉boB d (ptrTo C) s t vPi X F vE σ:=fun {h X F vE σ} pB c B hm=>by
  have P:=sP.blt ok B
  have Q:=g0.n
  rcases pB c hm with h|h<;>omega
 have bk:=L.ok
 have S:=Si bk
 rename Hp=>hB
 have l5:=A0.rows.1.load1 (o:=5) rfl
 have bl:=(a5 L R3 a4).load1 (o:=0) rfl
 simp only [BS]
 refine aB (aG rfl) (q:=0) (ps:=[]) (by kernel_rfl) ?_
 simp only [BS,LB,cls,Nat.reduceLT,Nat.reduceEqDiff,Nat.reduceAdd,Nat.reducePow,Nat.reduceDiv,Nat.reduceMod,Nat.reduceLeDiff,Int.reduceToNat,Int.reduceLE,Int.reduceLT,Xd,Fc,l5,bl]
 have O:Ret zM 119 [ptrTo d,ptrTo (X0 false).b,.int .i64 (s:Nat),.int .i64 (-1),.int .i64 0] hB _:=qD bk A0 (sP.gr (G L)) lP (nP (h:=hB) K) W (uQ (A:=γ.arcs) (al:=fun _=>true) (s:=s) (t:=t)) (i:=false) (v:=s) (lab:=0) (p:=[]) hs (Xf _)
 refine cV O ?_
 rintro r hC ⟨f4,X1,F1,A1,e1,a1⟩
 clear O
 simp only [BS,LB,Nat.reduceAdd]
 have af: ∀c∈boB d (ptrTo C) s t vPi X1 F1 (.slice none 0 0) _,c=d\/hA'.n<=c:=fun c B=>(a1 c B).elim (fun h=>K c h) (fun h=>.inr (Xb L.n h))
 have H:Mo (· =d) hA' hC:=L.trans f4 K
 have I1:=(uQ (A:=γ.arcs) (al:=fun _=>true) (pi:=fun v=>z.getD v 0) (s:=s) (t:=t)).reach (b:=false) (v:=s) (p:=[]) (lab:=0) W hs (Xf _) (Xf _) (.inl ⟨rfl,rfl,rfl⟩)
 clear S
 have S:=Si H.ok
 have l6:=A1.rows.1.load1 (o:=6) rfl
 have bm:=(a5 H R3 a4).load1 (o:=1) rfl
 refine aB (aG rfl) (q:=0) (ps:=[]) (by kernel_rfl) ?_
 simp only [BS,LB,cls,Nat.reduceLT,Nat.reduceEqDiff,Nat.reduceAdd,Nat.reducePow,Nat.reduceDiv,Nat.reduceMod,Nat.reduceLeDiff,Int.reduceToNat,Int.reduceLE,Int.reduceLT,Xd,Fc,l6,bm]
 have O:Ret zM 119 [ptrTo d,ptrTo (X1 true).b,.int .i64 (t:Nat),.int .i64 (-1),.int .i64 0] hC _:=qD H.ok A1 (sP.gr (G H)) lP (nP (h:=hC) af) W I1 (i:=true) (v:=t) (lab:=0) (p:=[]) ht (Xf _)
 refine cV O ?_
 rintro r hD ⟨f5,X2,F2,A2,e2,R⟩
 clear O
 simp only [BS,LB,Nat.reduceLT,Nat.reduceEqDiff,Nat.reduceAdd]
 have eI:bW (fun v=>z.getD v 0) true (bW (fun v=>z.getD v 0) false ⟨fun _=>fV,[],FAR,0⟩ s 0 []) t 0 []=jq (fun v=>z.getD v 0) s t:=rfl
 rw [eI]at A2 R
 have bo: ∀c∈boB d (ptrTo C) s t vPi X2 F2 (.slice none 0 0) (jq (fun v=>z.getD v 0) s t),c=d\/hA'.n<=c:=fun c B=>(R c B).elim (fun h=>af c h) (fun h=>.inr (Xb H.n h))
 have a6:Mo (· =d) hA' hD:=H.trans f5 af
 have I2:=sC (A:=γ.arcs) (al:=fun _=>true) (pi:=fun v=>z.getD v 0) W hs ht
 have br: ∀j,(X2 j).vA=.func (.func (outF j)) #[ptrTo C] #[]/\(X2 j).vH=.func (.func (mN j)) #[] #[]:=fun j=>⟨(e2 j).2.1.trans ((e1 j).2.1.trans (ad j).1),(e2 j).2.2.trans ((e1 j).2.2.trans (ad j).2)⟩
 have O2:=fun j=>initB_O (pi:=fun v=>z.getD v 0) (s:=s) (t:=t) j
 refine step_ret (yz a6.ok A2 (I2.keyB W) (I2.distLe W)) ?_
 rintro r hE ⟨gE,nx⟩
 simp only [BS,LB,Nat.reduceLT,Nat.reduceEqDiff]
 have A3:=A2.gr gE
 have bs:Mo (· =d) hA' hE:=a6.trans (gE.fr (M:=NoM)) (fun _ h=>h.elim)
 refine bL (fun(σ:Bi) ρ h=> ∃X F vE,Mo (· =d) hA' h/\dL h d (ptrTo C) s t vPi X F vE γ.nodes σ/\(∀c∈boB d (ptrTo C) s t vPi X F vE σ,c=d\/hA'.n<=c)/\(∀j,(X j).vA=.func (.func (outF j)) #[ptrTo C] #[]/\(X j).vH=.func (.func (mN j)) #[] #[])/\BiI γ.arcs γ.nodes (rtB s t) (fun _=>true) (fun v=>z.getD v 0) σ/\σ.ev.length<=200*((σ.sd false).O.length+(σ.sd true).O.length)/\
  (∀τ,iW γ.arcs (fun _=>true) (fun v=>z.getD v 0) σ τ->iW γ.arcs (fun _=>true) (fun v=>z.getD v 0) (jq (fun v=>z.getD v 0) s t) τ)/\((StopB σ/\ρ 7=.pointer none)\/ ∃i,TurnB σ i/\ρ 7=ptrTo (X i).b)/\ρ 0=ptrTo C/\ρ 4=ptrTo Z/\ρ 6=ptrTo d) (fun σ=>2*γ.nodes-((σ.sd false).O.length+(σ.sd true).O.length)) ?_ (jq (fun v=>z.getD v 0) s t) _ _ ?_
 . clear A2 A3 A1 A0 I2 I1 O2 K af bo L H a6 bs nx e1 e2 ad br a1 R eI gE f4 f5 S l5 bl l6 bm
   intro σ ih ρ h ⟨X,F,vE,fh,A,pB,eV,I,hev,hEnd,nx,r0,r4,r6⟩
   have o1:=(I.sv false).len
   have o2:=(I.sv true).len
   rcases nx with⟨a3,r7⟩|⟨i,tu,r7⟩
   . have gh:=G fh
     have N:=fh.ok
     have S0:=A.st N false
     have l7:=A.rows.1.load1 (o:=7) rfl
     have l5:=A.rows.1.load1 (o:=5) rfl
     have a7:=a5 fh R4 be
     have cj:=a7.lt N
     have nE: ∀c,aq vE c->h0.n<=c/\c≠d/\c≠Z/\c<h.n:=fun c B=>by
      have P:=pB c (Xn _ (eW (p:=(vE,4,σ.ev.flatMap dB)) m0 (my A.ev B)))
      have Q:c≠d:=fun e=>(S0.gblk m0 B).2 (by rw [e];exact m0)
      have h3:=A.ev.lt N (my A.ev B)
      have:=g0.n
      rcases P with h|h
      . exact absurd h Q
      . exact⟨by omega,Q,by omega,h3⟩
     have sE:au h 4 dB vE σ.ev:=A.ev.sl rfl qZ (by decide)
     have fE:=sE.fl
     by_cases hd:σ.dist<FAR
     . have ba:(σ.dist:Int)<72057594037927936:=by omega
       obtain⟨x,y,q1,q2,_⟩:=(I.dm.resolve_left (fun h=>by omega)) false
       have q2:(σ.sd true).L σ.meet=some y:=q2
       have ai:=I.sv false
       have ak:=I.sv true
       have cc:=(ai.lab _ _ q1).2.2.2.1
       have cf:=(ak.lab _ _ q2).2.2.2.1
       have nd:=(List.nodup_cons.1 (show(d::_).Nodup from A.nd)).1
       have bB:(X true).b≠d:=fun e=>nd (by rw [<-e];simp [Sx.L])
       have bF:(X true).ma≠d:=fun e=>nd (by rw [<-e];simp [Sx.L])
       clear S0
       simp only [BS,LB,Nat.reduceLT,Nat.reduceEqDiff,Int.reduceToNat,Int.reduceLE,Int.reduceLT,Xd,Fc,r6,r7,l7,ba,l5]
       refine step_ret (back_ok N (V.gr gh) J (A.bk false) (eV false).2 (D:=fun v=>((σ.sd false).L v).isSome=true) (fun v hv=>⟨hv,ai.ids _ (Xh _) hv⟩) (fun v y w hv V=>ai.nxtD hv V) (by rw [q1];rfl) (ai.nxt _ (Xh _) (by rw [q1];rfl)) (by omega)) ?_
       rintro v1 P ⟨g1,G1,n1⟩
       have bP:Fl v1:=G1.fl
       have bb: ∀c,aq v1 c->c≠d:=fun c B e=>by have:=n1 c B;have:=A.rows.1.lt N;omega
       have S:=st_rg g1.ok (A.rows.1.gr g1) G1 bb
       simp only [fg]at S
       simp only [BS,LB,Nat.reduceLT,Nat.reduceEqDiff,Nat.reduceAdd,Fc]
       refine az (aC S (i:=0) rfl Tryz.t33.2.2.1 bP (Xc (lbt rfl)) ono) ?_
       clear S;rintro Q ⟨S,bT⟩
       simp only [LC]at S
       simp only [BS,LB,Nat.reduceLT,Nat.reduceEqDiff,Nat.reduceAdd,Fc,r6,S.ld (b:=d) (o:=8) m0 rfl]
       refine step_ret (zV S.ok (S.gown _ m0).1 (by omega)) ?_
       rintro r h3 ⟨f3,G3⟩
       have aL:Row h3 d _ 1:=f3.has (b:=d) (o:=.row _ 1) (S.row m0) (fun B=>bb _ B rfl)
       have S3:=st_rg f3.ok aL G3 bb
       clear S
       have S:=S3
       clear S3
       have fT:Mo (· =d) h h3:=((g1.fr (M:=(· =d))).trans bT (fun i E=>.inl E)).trans f3 (fun i E=>.inr (n1 i E))
       have bX:Mo (· =d) hA' h3:=fh.trans fT (fun i E=>.inl E)
       have B1:BkAt h3 d (ptrTo C) σ.meet true (X true) (σ.sd true):=⟨aL.load1 (o:=0) rfl,aL.load1 (o:=10) rfl,fT.has (b:=(X true).b) (o:=.row _ 1) (A.rows.2 true) bB,fT.has (b:=(X true).ma) (o:=.map _ _) (A.bk true).map bF,A.ok true⟩
       have bY:=aL.lt f3.ok
       simp only [BS]
       refine aB (aG rfl) (q:=0) (ps:=[(5,12)]) (by kernel_rfl) ?_
       simp only [BS,LB,cls,Nat.reduceLT,Nat.reduceEqDiff,Nat.reduceAdd,Nat.reducePow,Nat.reduceDiv,Nat.reduceMod,Nat.reduceLeDiff,Int.reduceToNat,Int.reduceLE,Int.reduceLT,Xd,Fc,r6,S.ld (b:=d) (o:=8) m0 rfl,S.ld (b:=d) (o:=6) m0 rfl]
       refine cV (back_ok f3.ok (V.gr (G bX)) J B1 (eV true).2 (D:=fun v=>((σ.sd true).L v).isSome=true) (fun v hv=>⟨hv,ak.ids _ (Xh _) hv⟩) (fun v y w hv V=>ak.nxtD hv V) (by rw [q2];rfl) (ak.nxt _ (Xh _) (by rw [q2];rfl)) (by omega)) ?_
       rintro v2 h4 ⟨g4,G2,ck⟩
       have e29:=ar g4 bY
       replace S:=S.call g4
       have s2:au h4 1 cB v2 ((σ.sd true).P σ.meet):=G2.sl rfl fj (by decide)
       simp only [BS,LB,cls,Nat.reduceLT,Nat.reduceEqDiff,Nat.reduceAdd,Nat.reducePow,Nat.reduceDiv,Nat.reduceMod,Nat.reduceLeDiff]
       refine jF (S.grow (j:=0) (m:=((σ.sd true).P σ.meet).length) (new:=((σ.sd true).P σ.meet).flatMap cB) rfl Tryz.t33.1 X6 (by decide) Tryz.t33.2.2.2.2.2 s2.src (by rw [ov];omega) (by decide) (natC_flat _) (by rw [ov,ov,X7];omega)) ?_
       clear S;rintro h5 vA S
       simp only [LC]at S
       have bt:Fl vA:=(S.gown _ m0).1.fl
       simp only [BS,LB,cls,Nat.reduceLT,Nat.reduceEqDiff,Nat.reduceAdd,Nat.reducePow,Nat.reduceDiv,Nat.reduceMod,Nat.reduceLeDiff,Fc]
       refine dS (aC S (i:=0) rfl Tryz.t33.2.2.1 bt (Xc (lbt rfl)) ono) ?_
       clear S;rintro h6 ⟨S,cl⟩
       simp only [LC]at S
       simp only [BS,LB,Nat.reduceLT,Nat.reduceEqDiff,Nat.reduceAdd,Fc,r6]
       refine⟨by simp only [bn,bE,aT,bJ,aV,ne_eq,not_false_eq_true,bK,bZ,bg,aX,cb,cM,aO,Nat.reduceLT,Nat.reduceEqDiff,reduceIte,Xg,r0,r4,r6,r7,ag,qK,av e29,aD e29],?_⟩
       have bu:=S.ok
       have b0:Mo (fun c=>c=d\/aq v1 c) h3 h6:=S.fr
       have bc:Mo (· =d) h h6:=fT.trans b0 (fun i E=>E.elim .inl (fun h=>.inr (n1 i h)))
       have b1:Row h6 Z _ 1:=bc.has (b:=Z) (o:=.row _ 1) a7 be
       have T:=S.lds (b:=d) (o:=7) (n:=3) m0 (lbt rfl)
       simp only [Xj,Xi]at T
       have sA:au h6 1 cB vA (nC σ):=(S.gown _ m0).1.sl (by unfold nC;rw [Xk]) fj (by decide)
       have nA: ∀c,aq vA c->h0.n<=c/\c≠Z:=fun c B=>by
        obtain⟨P,Q⟩:=S.gblk m0 B
        have:=gh.n
        have:=fT.n
        rcases P with h|h|h
        . exact⟨by omega,by omega⟩
        . exact absurd (by rw [h];exact m0) Q
        . have:=n1 c h
          exact⟨by omega,by omega⟩
       have b2:=sE.mo bc (fun c B e=>(nE c B).2.1 e)
       have g6:Gr h0 h6:=G (fh.trans bc (fun i E=>.inl E))
       clear S
       have S:=St.init1 bu (o:=.row _ 1) b1
       simp only [BS,LB,Nat.reduceLT,Nat.reduceEqDiff,r4,T]
       refine az (S.store (i:=0) rfl Tryz.t114.2.1 (by intro x e;cases e) rfl (by simp only [ah,XG,XL,bt.2.1,fE.2.1,Xg];rfl) (lbt rfl) ono) ?_
       clear S;rintro h7 ⟨S,a0⟩
       simp only [LC,ah,lay,Xi,Xj,Nat.reduceAdd]at S
       simp only [BS,ac]
       refine(dW (by decide) (by simp only [aO,r4,ag,Nat.reduceEqDiff,reduceIte];exact cP Tryz.t114.1 Tryz.t114.2.1 (S.lds (b:=Z) (o:=0) (n:=3) m0 (lbt rfl)))).2 ?_
       refine(eY (by decide)).2 (eE.2 ?_)
       have gZ:Gr h0 h7:=(g6.fr.trans S.fr (fun i E=>.inr (by subst E;omega)):Mo NoM h0 h7).gr
       exact⟨gZ,vA,vE,σ,rfl,hEnd σ (.stop a3),b2.mo a0 (fun c B e=>(nE c B).2.2.1 e),by rw [if_pos hd];exact sA.mo a0 (fun c B e=>(nA c B).2 e),fun c B=>B.elim (fun h=>(nA c h).1) (fun h=>(nE c h).1)⟩
     . have ba: ¬(σ.dist:Int)<72057594037927936:=by omega
       have T:=A.rows.1.load (o:=7) (n:=3) (lbt rfl)
       simp only [fg,Xj,Xi]at T
       have g6:=gh
       have fN:Fl (.slice none 0 0):=bq
       have S:=St.init1 N (o:=.row _ 1) a7
       simp only [BS,LB,Nat.reduceLT,Nat.reduceEqDiff,Fc,r6,r7,l7,ba]
       simp only [BS,LB,Nat.reduceLT,Nat.reduceEqDiff,r4,T]
       refine az (S.store (i:=0) rfl Tryz.t114.2.1 (by intro x e;cases e) rfl (by simp only [ah,XG,XL,fN.2.1,fE.2.1,Xg];rfl) (lbt rfl) ono) ?_
       clear S;rintro h7 ⟨S,a0⟩
       simp only [LC,ah,lay,Xi,Xj,Nat.reduceAdd]at S
       simp only [BS,ac]
       refine(dW (by decide) (by simp only [aO,r4,ag,Nat.reduceEqDiff,reduceIte];exact cP Tryz.t114.1 Tryz.t114.2.1 (S.lds (b:=Z) (o:=0) (n:=3) m0 (lbt rfl)))).2 ?_
       refine(eY (by decide)).2 (eE.2 ?_)
       have gZ:Gr h0 h7:=(g6.fr.trans S.fr (fun i E=>.inr (by subst E;omega)):Mo NoM h0 h7).gr
       exact⟨gZ,_,vE,σ,rfl,hEnd σ (.stop a3),sE.mo a0 (fun c B e=>(nE c B).2.2.1 e),by rw [if_neg hd];exact .inl ⟨rfl,rfl⟩,fun c B=>B.elim (fun h=>h.elim) (fun h=>(nE c h).1)⟩
   . obtain⟨v,k,hp⟩: ∃v k,iV (σ.sd i).K v k:=by
      obtain⟨v,k,u,l,p1,p2,_,_⟩:=tu
      cases i
      . exact⟨v,k,p1⟩
      . exact⟨u,l,p2⟩
     have gh:=G fh
     have b5: ∀c∈boB d (ptrTo C) s t vPi X F vE σ,h0.n<=c:=fun c B=>(pB c B).elim (fun e=>by omega) (fun e=>Xb g0.n e)
     simp only [BS,LB,Nat.reduceLT,Nat.reduceEqDiff,Fc,r6,r7]
     refine step_ret (bstep_ok gh J V A b5 sP lP I (by omega) hp (eV i).1 (eV i).2) ?_
     rintro r P ⟨f1,X',F',b6,A',e',a2⟩
     obtain⟨I',ke⟩:=rM W hA I hp.1
     have b7:(eo γ.arcs (fun _=>true) (fun v=>z.getD v 0) i v (aW σ i v)).ev.length<=σ.ev.length+200:=by
      have P:=tB (A:=γ.arcs) (al:=fun _=>true) (pi:=fun v=>z.getD v 0) (b:=i) (v:=v) (outs γ.arcs (fsB i) γ.arcs.length v) (σ:=aW σ i v)
      have Q:(aW σ i v).ev.length=σ.ev.length+1:=by simp [aW]
      have h3:=kD γ.arcs (fsB i) γ.arcs.length v
      have:=J.many
      unfold eo
      omega
     have eO:((eo γ.arcs (fun _=>true) (fun v=>z.getD v 0) i v (aW σ i v)).sd false).O.length+((eo γ.arcs (fun _=>true) (fun v=>z.getD v 0) i v (aW σ i v)).sd true).O.length=(σ.sd false).O.length+(σ.sd true).O.length+1:=by
      have k1:=ke.O
      have k2:=ke.ot
      rw [clo_b]at k1
      rw [clo_n]at k2
      cases i
      . rw [k1,show((eo γ.arcs (fun _=>true) (fun v=>z.getD v 0) false v (aW σ false v)).sd true)=σ.sd true from k2]
        simp only [Xm,Xu]
        omega
      . rw [k1,show((eo γ.arcs (fun _=>true) (fun v=>z.getD v 0) true v (aW σ true v)).sd false)=σ.sd false from k2]
        simp only [Xm,Xu]
        omega
     have U: ∀τ,iW γ.arcs (fun _=>true) (fun v=>z.getD v 0) (eo γ.arcs (fun _=>true) (fun v=>z.getD v 0) i v (aW σ i v)) τ->iW γ.arcs (fun _=>true) (fun v=>z.getD v 0) (jq (fun v=>z.getD v 0) s t) τ:=fun τ h=>hEnd τ (.step tu hp h)
     generalize eo γ.arcs (fun _=>true) (fun v=>z.getD v 0) i v (aW σ i v)=τ at A' a2 I' b7 eO U
     have p1:=(I'.sv false).len
     have p2:=(I'.sv true).len
     have bv:Mo (· =d) hA' P:=fh.trans f1 pB
     simp only [BS,LB,Nat.reduceLT,Nat.reduceEqDiff,r6]
     refine step_ret (yz bv.ok A' (I'.keyB W) (I'.distLe W)) ?_
     rintro r Q ⟨g2,b8⟩
     simp only [BS,LB,Nat.reduceLT,Nat.reduceEqDiff]
     refine ih τ _ _ (by omega) ⟨X',F',b6,bv.trans (g2.fr (M:=NoM)) (fun _ h=>h.elim),A'.gr g2,fun c B=>(a2 c B).elim (pB c) (fun h=>.inr (Xb fh.n h)),fun j=>⟨(e' j).2.1.trans (eV j).1,(e' j).2.2.trans (eV j).2⟩,I',by omega,U,?_,by simp [aa,r0,ag],by simp [aa,r4,ag],by simp [aa,r6,ag]⟩
     rcases b8 with⟨a,rfl⟩|⟨j,a,rfl⟩
     . exact .inl ⟨a,by simp [aa]⟩
     . exact .inr ⟨j,a,by simp [aa,ag]⟩
 . refine⟨X2,F2,_,bs,A3,bo,br,I2,by rw [tg];exact Xf _,fun τ h=>h,?_,by simp [aa,cD,ag],by simp [aa,ag],by simp [aa,ag]⟩
   rcases nx with⟨a,rfl⟩|⟨j,a,rfl⟩
   . exact .inl ⟨a,by simp [aa]⟩
   . exact .inr ⟨j,a,by simp [aa,ag]⟩
end Go.Ab

end
section
namespace Go.Ab
def swJ(l:List Nat)(j:Nat):List Nat:=(l.set j (l.getD (j-1) 0)).set (j-1) (l.getD j 0)
def bub(key:Nat->Int):Nat->List Nat->List Nat
 |0,l=>l
 |j+1,l=>if key (l.getD j 0)<key (l.getD (j+1) 0)then bub key j (swJ l (j+1))else l
def iD(key:Nat->Int)(k:Nat)(l:List Nat):List Nat:=(Xo k).foldl (fun l i=>bub key (i+1) l) l
theorem pD(key:Nat->Int)(k:Nat)(l:List Nat):iD key (k+1) l=bub key (k+1) (iD key k l):=by
 unfold iD;rw [List.range_succ,List.foldl_append];rfl
theorem swJ_len(l:List Nat)(j:Nat):(swJ l j).length=l.length:=by simp [swJ]
theorem yK{l:List Nat}{j:Nat}(h:j<l.length):(swJ l j).Perm l:=by
 have:((l.set j l[j-1]).set (j-1) l[j]).Perm l:=List.set_set_perm h (by omega)
 unfold swJ
 rwa [show l.getD (j-1) 0=l[j-1] by simp [zN,show j-1<l.length by omega],show l.getD j 0=l[j] by simp [zN,h]]
theorem yQ{key:Nat->Int}: ∀(j:Nat) {l:List Nat},j<l.length->(bub key j l).Perm l
 |0,l,_=>.refl _
 | j+1,l,h=>by
   unfold bub
   split
   . exact(yQ j (by rw [swJ_len];omega)).trans (yK h)
   . exact .refl _
theorem pI{key:Nat->Int}{l:List Nat}: ∀(k:Nat),k<l.length\/k=0->(iD key k l).Perm l
 |0,_=>.refl _
 | k+1,h=>by
   have a:=pI (key:=key) (l:=l) k (by omega)
   rw [pD]
   exact(yQ (k+1) (by rw [a.length_eq];omega)).trans a
end Go.Ab

end
section
namespace Go.Ab
open Go.Proofs
set_option maxRecDepth 10000
def Tryz.FV:=aj t1<|aj t2<|aj t3<|aj t4<|aj t5<|aj t6<|aj t33<|t161
def Tryz.F0x:=aj t3<|aj t33<|t161
def Tryz.F0y:=aj t1<|aj t2<|aj t3<|aj t4<|t33
def Tryz.F0z:=aj t1<|aj t2<|aj t3<|aj t33<|t161
def gP(l:List Nat):List Value:=l.map fun(x:Nat)=>.int .i64 x
theorem vb(l:List Nat):l.flatMap cB=gP l:=by
 unfold gP;rw [XY,List.map_eq_flatMap,XY];rfl
theorem qr(l:List Nat):(gP l).length=l.length:=by simp [gP]
theorem natM_at{l:List Nat}{i:Nat}(h:i<l.length):(gP l)[i]? =some (.int .i64 (l.getD i 0:Nat)):=by
 unfold gP;rw [XC,Xa h];simp [zN,h]
theorem yP(l:List Nat)(i x:Nat):(gP l).set i (.int .i64 (x:Nat))=gP (l.set i x):=by unfold gP;rw [List.map_set]
theorem yr{a b:Int}:kw a b<0↔a<b:=by
 unfold kw
 split
 . omega
 . split<;>omega
def CmpF(E:Env)(hq:Hp)(g:FuncId)(post:List Value)(N:Nat)(key:Nat->Int):Prop:= ∀h,Gr hq h-> ∀i j,i<N->j<N->bz E g ([.int .i64 (i:Nat),.int .i64 (j:Nat)]++post) h (.int .i64 (kw (key j) (key i)))
theorem Ay {hq h0:Hp} (z:Gr hq h0) {b N:Nat} {xs:List Nat} {g:FuncId} {post:Array Value} {key:Nat->Int} (p:Row h0 b (gP xs) 1) (Q:hq.n<=b) (R:xs.length<=20) (A: ∀x∈xs,x<N) (F:CmpF zM hq g post.toList N key):
 Ret zM 255 [.slice (some ⟨b,0,some 1⟩) xs.length xs.length,.int .i64 0,.int .i64 (xs.length:Nat),.func (.func g) #[] post] h0 fun _ h'=>Mo (· =b) h0 h'/\Row h' b (gP (iD key (xs.length-1) xs)) 1:=by
 have G:=z.ok
 have S:=St.init1 G (o:=.row _ 1) p
 have T:an .i64 (0+1)=((0+1:Nat):Int):=rfl
 refine ab (n:=53) (rs:=[]) rfl Tryz.e255 rfl rfl rfl (lbt rfl) ?_
 simp only [BS,LB,Nat.reduceLT,Nat.reduceEqDiff,Int.reduceAdd]
 refine bL (fun(i:Nat) a h=>i<=xs.length-1/\St (· =b) h0 h [(b,.row (gP (iD key i xs)) 1)] []/\a 0=.slice (some ⟨b,0,some 1⟩) xs.length xs.length/\a 1=.int .i64 0/\a 2=.int .i64 (xs.length:Nat)/\a 3=.func (.func g) #[] post/\a 8=.int .i64 ((i+1:Nat):Int)) (fun i=>xs.length-i) ?_ 0 _ _ ?_
 . clear S
   intro i B a h ⟨hi,S,r0,r1,r2,r3,r8⟩
   by_cases hlt:i+1<xs.length
   . simp only [BS,LB,Nat.reduceLT,Nat.reduceEqDiff,r2,r8,aK,hlt]
     have r:=pI (key:=key) (l:=xs) i (.inl (by omega))
     refine bL (fun(j:Nat) a h=>j<=i+1/\ ∃l,l.Perm xs/\bub key j l=bub key (i+1) (iD key i xs)/\St (· =b) h0 h [(b,.row (gP l) 1)] []/\a 0=.slice (some ⟨b,0,some 1⟩) xs.length xs.length/\a 1=.int .i64 0/\a 2=.int .i64 (xs.length:Nat)/\a 3=.func (.func g) #[] post/\a 8=.int .i64 ((i+1:Nat):Int)/\a 9=.int .i64 (j:Nat)) (fun j=>j) ?_ (i+1) _ _ ?_
     . clear S r0 r1 r2 r3 r8
       intro j s a h ⟨hj,l,pm,hbub,S,r0,r1,r2,r3,r8,r9⟩
       have U:=pm.length_eq
       have C:an .i64 (((i+1:Nat):Int)+1)=((i+1+1:Nat):Int):=by rw [wrap64]<;>omega
       by_cases H:0<j
       . obtain⟨k,rfl⟩: ∃k,j=k+1:=⟨j-1,by omega⟩
         have D:(0:Int)<((k+1:Nat):Int):=by omega
         have t:an .i64 (((k+1:Nat):Int)-1)=(k:Int):=by rw [wrap64]<;>omega
         have E:k+1<xs.length:=by omega
         have u:k<xs.length:=by omega
         have d:=(S.row (b:=b) m0).load1 (natM_at (i:=k+1) (by omega))
         have f:=(S.row (b:=b) m0).load1 (natM_at (i:=k) (by omega))
         have I:l.getD (k+1) 0<N:=by
          refine A _ (pm.mem_iff.1 ?_)
          rw [zN,Xa (by omega)];exact Xq _
         have J:l.getD k 0<N:=by
          refine A _ (pm.mem_iff.1 ?_)
          rw [zN,Xa (by omega)];exact Xq _
         simp only [BS]
         refine aB (aG rfl) (q:=0) (ps:=[]) (by kernel_rfl) ?_
         simp only [BS,LB,cls,Nat.reduceLT,Nat.reduceEqDiff,Nat.reduceAdd,Nat.reducePow,Nat.reduceDiv,Nat.reduceMod,Nat.reduceLeDiff,FV,r0,r1,r3,r9,D,t,E,u,d,f]
         refine df (F _ (((z.fr (M:=NoM)).trans S.fr (fun c e=>.inr (by omega))).gr) _ _ I J) ?_
         intro h v
         replace S:=S.call v
         by_cases m:key (l.getD k 0)<key (l.getD (k+1) 0)
         . have w:kw (key (l.getD k 0)) (key (l.getD (k+1) 0))<0:=yr.2 m
           replace d:=v.load d
           replace f:=v.load f
           simp only [BS,LB,cls,Nat.reduceLT,Nat.reduceEqDiff,Nat.reduceAdd,Nat.reducePow,Nat.reduceDiv,Nat.reduceMod,Nat.reduceLeDiff,w]
           refine aB (aG rfl) (q:=0) (ps:=[]) (by kernel_rfl) ?_
           simp only [BS,LB,cls,Nat.reduceLT,Nat.reduceEqDiff,Nat.reduceAdd,Nat.reducePow,Nat.reduceDiv,Nat.reduceMod,Nat.reduceLeDiff,FV,r0,r9,t,E,u,d,f]
           refine dS (aC S (i:=0) rfl Tryz.t3.2.2.1 aY (by rw [qr];omega) ono) ?_
           clear S;rintro V ⟨S,K⟩
           simp only [LC]at S
           simp only [BS,LB,cls,Nat.reduceLT,Nat.reduceEqDiff,Nat.reduceAdd,Nat.reducePow,Nat.reduceDiv,Nat.reduceMod,Nat.reduceLeDiff,FV,u]
           refine dS (aC S (i:=0) rfl Tryz.t3.2.2.1 aY (by rw [List.length_set,qr];omega) ono) ?_
           clear S;rintro W ⟨S,L⟩
           simp only [LC]at S
           rw [yP,yP]at S
           simp only [BS,LB,Nat.reduceLT,Nat.reduceEqDiff,Nat.reduceAdd,r9,t]
           have e:bub key (k+1) l=bub key k (swJ l (k+1)):=by
            show(if _ then _ else _)=_
            rw [if_pos m]
           exact s k _ _ (by omega) ⟨by omega,swJ l (k+1),(yK (by omega)).trans pm,by rw [<-e];exact hbub,S,by simp [aa,r0],by simp [aa,r1],by simp [aa,r2],by simp [aa,r3],by simp [aa,r8],by simp [aa]⟩
         . have w: ¬kw (key (l.getD k 0)) (key (l.getD (k+1) 0))<0:=fun h=>m (yr.1 h)
           have e:bub key (k+1) l=l:=by
            show(if _ then _ else _)=_
            rw [if_neg m]
           rw [e]at hbub
           simp only [BS,LB,cls,Nat.reduceLT,Nat.reduceEqDiff,Nat.reduceAdd,Nat.reducePow,Nat.reduceDiv,Nat.reduceMod,Nat.reduceLeDiff,r8,w,C]
           exact B (i+1) _ _ (by omega) ⟨by omega,by rw [pD,<-hbub];exact S,by simp [aa,r0],by simp [aa,r1],by simp [aa,r2],by simp [aa,r3],by simp [aa]⟩
       . have O:j=0:=by omega
         subst O
         have y:l=bub key (i+1) (iD key i xs):=hbub
         have D: ¬(0:Int)<((0:Nat):Int):=by omega
         simp only [BS]
         refine aB (aG rfl) (q:=0) (ps:=[]) (by kernel_rfl) ?_
         simp only [BS,LB,cls,Nat.reduceLT,Nat.reduceEqDiff,Nat.reduceAdd,Nat.reducePow,Nat.reduceDiv,Nat.reduceMod,Nat.reduceLeDiff,Int.reduceLT,Xd,r1,r8,r9,C]
         exact B (i+1) _ _ (by omega) ⟨by omega,by rw [pD,<-y];exact S,by simp [aa,r0],by simp [aa,r1],by simp [aa,r2],by simp [aa,r3],by simp [aa]⟩
     . exact⟨Xh _,_,r,rfl,S,by simp [aa,r0],by simp [aa,r1],by simp [aa,r2],by simp [aa,r3],by simp [aa,r8],by simp [aa]⟩
   . simp only [BS,LB,Nat.reduceLT,Nat.reduceEqDiff,r2,r8,aK,hlt]
     have P:i=xs.length-1:=by omega
     subst P
     exact⟨S.fr,S.row m0⟩
 . exact⟨Xf _,S,by simp [aa,cD],by simp [aa,cD],by simp [aa,cD],by simp [aa,cD],by simp [aa];rfl⟩
theorem stable_ok{hq h0:Hp}(c:Gr hq h0){b N:Nat}{xs:List Nat}{g:FuncId}{post:Array Value}{key:Nat->Int}(a:Row h0 b (gP xs) 1)(d:hq.n<=b)(m:xs.length<20)(e: ∀x∈xs,x<N)(i:CmpF zM hq g post.toList N key):
 Ret zM 222 [.slice (some ⟨b,0,some 1⟩) xs.length xs.length,.int .i64 (xs.length:Nat),.func (.func g) #[] post] h0 fun _ h'=>Mo (· =b) h0 h'/\Row h' b (gP (iD key (xs.length-1) xs)) 1:=by
 have j:=c.ok
 have k: ¬(20:Int)<=(xs.length:Int):=by omega
 have l: ¬(20:Int)<(xs.length:Int):=by omega
 have S:=Si j
 refine ab (n:=63) (rs:=[]) rfl Tryz.e222 rfl rfl rfl (lbt rfl) ?_
 simp only [BS,LB,Nat.reduceLT,Nat.reduceEqDiff]
 rw [bG]
 simp only [BS,LB,Nat.reduceLT,Nat.reduceEqDiff,k]
 refine step_ret (Ay c a d (by omega) e i) ?_
 rintro r h ⟨f,R⟩
 simp only [BS]
 rw [bG]
 simp only [BS,LB,Nat.reduceLT,Nat.reduceEqDiff,l]
 exact⟨f,R⟩
theorem wZ{hq h0:Hp}(c:Gr hq h0){b N:Nat}{xs:List Nat}{g:FuncId}{post:Array Value}{key:Nat->Int}(a:Row h0 b (gP xs) 1)(d:hq.n<=b)(e:xs.length<20)(f: ∀x∈xs,x<N)(i:CmpF zM hq g post.toList N key):
 Ret zM 158 [.slice (some ⟨b,0,some 1⟩) xs.length xs.length,.func (.func g) #[] post] h0 fun _ h'=>Mo (· =b) h0 h'/\Row h' b (gP (iD key (xs.length-1) xs)) 1:=by
 refine ab (n:=9) (rs:=[]) rfl Tryz.e158 rfl rfl rfl (lbt rfl) ?_
 simp only [BS,LB,Nat.reduceLT,Nat.reduceEqDiff,F0x]
 refine step_ret (stable_ok c a d e f i) ?_
 rintro r h q
 simp only [BS]
 exact q
theorem yw{h0:Hp}(j:h0.t.Sized h0.n){v:Value}{xs:List Nat}(k:au h0 1 cB v xs)(u:xs.length<1000000)(d:xs≠ []):Ret zM 55 [v] h0 fun r h'=>Gr h0 h'/\ ∃b,r=.slice (some ⟨b,0,some 1⟩) xs.length xs.length/\Row h' b (gP xs) 1/\h0.n<=b:=by
 have S:=Si j
 rcases k with⟨_,rfl⟩|⟨b,o,s,c,rfl,l,m⟩
 . exact absurd rfl d
 . refine ab (n:=8) (rs:=[.tmp 2]) rfl Tryz.e55 rfl rfl rfl (lbt rfl) ?_
   simp only [BS,LB,Nat.reduceLT,Nat.reduceEqDiff,F0y]
   refine ae (co (by exact Tryz.t33.1) (by exact X6) (by decide) (by rfl)) S ?_;clear S;intro h x S f;simp only [LC,bA,bS,ah,Nat.reduceMul,Nat.reduceAdd,XK,XE,XF,XN]at S
   simp only [BS,LB,Nat.reduceLT,Nat.reduceEqDiff]
   have p:=S.fr.n
   refine eh (S.cloneW (enc:=cB) (ys:=xs) Tryz.t33.1 X6 (by decide) Tryz.t33.2.2.2.2.2 (.inr ⟨b,o,s,c,rfl,l,S.old m (fun h=>h)⟩) fj (by decide) (by omega) (S.row m0)) ?_
   rintro h' v ⟨q,g,y,t,w⟩
   obtain⟨i,rfl,a⟩:=w d
   simp only [BS,LB,ac,Nat.reduceLT,Nat.reduceEqDiff]
   rw [vb]at a
   exact⟨q.gr,i,rfl,a,(t i rfl).elim (fun e=>by omega) (fun e=>Xb p e)⟩
theorem first_ok{hq h0:Hp}(j:Gr hq h0){N:Nat}{v:Value}{xs:List Nat}{g:FuncId}{post:Array Value}{key:Nat->Int}(t:au h0 1 cB v xs)(d:xs≠ [])(u:xs.length<20)(w: ∀x∈xs,x<N)(i:CmpF zM hq g post.toList N key){m:Nat}(C:1<=m):
 Ret zM 82 [v,.int .i64 (m:Nat),.func (.func g) #[] post] h0 fun r h'=>Gr h0 h'/\au h' 1 cB r ((iD key (xs.length-1) xs).take (min m xs.length))/\ ∀c,aq r c->h0.n<=c:=by
 have y:=j.ok
 have z:min (m:Int) (xs.length:Int)=((min m xs.length:Nat):Int):=by omega
 have q:=pI (key:=key) (l:=xs) (xs.length-1) (by cases xs with|nil=>exact absurd rfl d|cons a l=>simp)
 have S:=Si y
 refine ab (n:=18) (rs:=[.tmp 6]) rfl Tryz.e82 rfl rfl rfl (lbt rfl) ?_
 simp only [BS,LB,Nat.reduceLT,Nat.reduceEqDiff]
 refine step_ret (yw S.ok t (by omega) d) ?_
 rintro r h ⟨s,b,rfl,k,A⟩
 have o:hq.n<=b:=Xb j.n A
 simp only [BS,LB,Nat.reduceLT,Nat.reduceEqDiff]
 refine step_ret (wZ (j.trans s) k o u w i) ?_
 rintro r D ⟨f,R⟩
 have B:=xz (kd:=.i64) (b:=b) (len:=xs.length) (n:=min m xs.length) Tryz.t33.1 Tryz.t3.2.2.1 (cap:=xs.length) (Nat.min_le_right _ _)
 simp only [BS,LB,ac,Nat.reduceLT,Nat.reduceEqDiff,XD,XX,F0z,z,B]
 refine⟨((s.fr (M:=NoM)).trans f (fun c e=>.inr (by omega))).gr,?_,fun c i=>by have i:b=c:=i;omega⟩
 have p:((iD key (xs.length-1) xs).take (min m xs.length)).length=min m xs.length:=by rw [XI,q.length_eq];omega
 refine .inr ⟨b,0,some 1,xs.length,by rw [p],by rw [p];exact Nat.min_le_right _ _,?_⟩
 rw [p,R.load (by rw [qr,q.length_eq];omega),vb,Xs,XF]
 unfold gP
 rw [List.map_take]
def Tryz.F06:=aj t1<|aj t2<|aj t3<|aj t33<|aj t51<|aj t59<|Z5
def Tryz.F0A:=aj t1<|aj t2<|aj t3<|aj t4<|t33
def Tryz.F0B:=aj t3<|aj t33<|t161
def Tryz.F0C:=aj t1<|aj t2<|aj t3<|aj t33<|t161
def Tryz.F07:=aj t1<|aj t2<|aj t3<|aj t4<|aj t5<|aj t6<|aj Z3<|aj t33<|aj t51<|aj t59<|aj Z5<|t161
def keyB(N n:Nat)(R Q:Nat->List Int)(s w:Int)(i:Nat):Int:=mW N n R Q i s w
def actL(N n:Nat)(R Q:Nat->List Int)(s w a:Int):List Nat:=(iD (keyB N n R Q s w) (n-1) (Xo n)).take (min (max a 1).toNat n)
theorem Be{hq:Hp}{m N:Nat}{p:Value}{l:List Int}{R Q:Nat->List Int}(t:TabAt hq m p N l R Q)(f: ∀i,i<l.length->(R i).length=N)(k: ∀i,i<l.length->(Q i).length=N)(o:l.length<1000){s w:Int}{b4 b5 b6:Nat}(c:hq.load b4 0 1=some [p])(d:hq.load b5 0 1=some [.int .i64 s])(e:hq.load b6 0 1=some [.int .i64 w]):
 CmpF zM hq 83 [ptrTo b4,ptrTo b5,ptrTo b6] l.length (keyB N l.length R Q s w):=by
 intro h g i j C D
 have E:Fl p:=by obtain⟨b,_,_,_,rfl,_⟩:=t.ex;exact dz
 have S:=Si g.ok
 have r:=bD g.ok (g.load c)
 have u:=bD g.ok (g.load d)
 have v:=bD g.ok (g.load e)
 refine ab (n:=19) (rs:=[.tmp 7]) rfl Tryz.e83 rfl rfl rfl (lbt rfl) ?_
 simp only [BS,LB]
 refine aB (aG rfl) (q:=0) (ps:=[(4,8),(4,7),(4,5)]) (by kernel_rfl) ?_
 simp only [BS,LB,cls,Nat.reduceLT,Nat.reduceEqDiff,Nat.reduceAdd,Nat.reducePow,Nat.reduceDiv,Nat.reduceMod,Nat.reduceLeDiff,F06,g.load c,g.load d,g.load e]
 refine df (uS S.ok ((t.gr g).gr S.gr) f k o) ?_
 intro F a
 have x:=ar a r
 have y:=ar a u
 have z:=ar a v
 replace S:=S.call a
 simp only [BS,LB,cls,Nat.reduceLT,Nat.reduceEqDiff,Nat.reduceAdd,Nat.reducePow,Nat.reduceDiv,Nat.reduceMod,Nat.reduceLeDiff,F06,a.load (g.load c),a.load (g.load d),a.load (g.load e)]
 refine df (uS S.ok ((t.gr g).gr S.gr) f k o) ?_
 intro G A
 replace S:=S.call A
 simp only [BS,LB,cls,Nat.reduceLT,Nat.reduceEqDiff,Nat.reduceAdd,Nat.reducePow,Nat.reduceDiv,Nat.reduceMod,Nat.reduceLeDiff]
 refine df (yY S.ok) ?_
 intro H B
 replace S:=S.call B
 simp only [BS,LB,cls,ac,Nat.reduceLT,Nat.reduceEqDiff,Nat.reduceAdd,Nat.reducePow,Nat.reduceDiv,Nat.reduceMod,Nat.reduceLeDiff]
 refine⟨by simp only [bn,bE,aT,bJ,aV,ne_eq,not_false_eq_true,bK,bZ,bg,aX,cb,cM,aO,Nat.reduceLT,Nat.reduceEqDiff,reduceIte,Xg,ag,cD,aD x,aD y,aD z],?_⟩
 exact⟨rfl,S.gr⟩
theorem insNil_ok{h0:Hp}(a:h0.t.Sized h0.n){v:Value}:bz zM 255 [.slice none 0 0,.int .i64 0,.int .i64 0,v] h0 (.tuple #[]):=by
 have S:=Si a
 have b:an .i64 1=1:=rfl
 have c: ¬(1:Int)<0:=by decide
 refine ab (n:=53) (rs:=[]) rfl Tryz.e255 rfl rfl rfl (lbt rfl) ?_
 simp only [BS,LB,Nat.reduceLT,Nat.reduceEqDiff,Int.reduceAdd,b]
 rw [bG]
 simp only [BS,LB,ac,Nat.reduceLT,Nat.reduceEqDiff,c]
 exact S.gr
theorem Aa{h0:Hp}(c:h0.t.Sized h0.n){m:Nat}{g:FuncId}{post:Array Value}:bz zM 82 [.slice none 0 0,.int .i64 (m:Nat),.func (.func g) #[] post] h0 (.slice none 0 0):=by
 have S:=Si c
 have d:bz zM 55 [.slice none 0 0] h0 (.slice none 0 0):=by
  refine ab (n:=8) (rs:=[.tmp 2]) rfl Tryz.e55 rfl rfl rfl (lbt rfl) ?_
  simp only [BS,LB,ac,Nat.reduceLT,Nat.reduceEqDiff,F0A]
  exact S.gr
 have e:min (m:Int) 0=0:=by omega
 have f: ¬(20:Int)<=0:=by decide
 have i: ¬(20:Int)<0:=by decide
 have j: ∀{h:Hp},h.t.Sized h.n->bz zM 158 [.slice none 0 0,.func (.func g) #[] post] h (.tuple #[]):=fun {h} a=>by
  have S:=Si a
  have k:bz zM 222 [.slice none 0 0,.int .i64 0,.func (.func g) #[] post] h (.tuple #[]):=by
   refine ab (n:=63) (rs:=[]) rfl Tryz.e222 rfl rfl rfl (lbt rfl) ?_
   simp only [BS,LB,Nat.reduceLT,Nat.reduceEqDiff]
   rw [bG]
   simp only [BS,LB,Nat.reduceLT,Nat.reduceEqDiff,f]
   refine am (insNil_ok S.ok) ?_;intro h g;replace S:=S.call g;clear g
   simp only [BS]
   rw [bG]
   simp only [BS,LB,ac,Nat.reduceLT,Nat.reduceEqDiff,i]
   exact S.gr
  refine ab (n:=9) (rs:=[]) rfl Tryz.e158 rfl rfl rfl (lbt rfl) ?_
  simp only [BS,LB,Nat.reduceLT,Nat.reduceEqDiff,Xd,F0B]
  refine am k ?_;intro p l;replace S:=S.call l
  simp only [BS,LB,ac]
  exact S.gr
 have o:dZ zM 33 (.slice none 0 0) none (some (.int .i64 0)) none=some (.slice none 0 0):=by
  simp only [dZ,Tryz.t33.1,Tryz.t3.2.2.1,ez,eC]
  rfl
 refine ab (n:=18) (rs:=[.tmp 6]) rfl Tryz.e82 rfl rfl rfl (lbt rfl) ?_
 simp only [BS,LB,Nat.reduceLT,Nat.reduceEqDiff]
 refine am d ?_;intro h b;replace S:=S.call b
 simp only [BS,LB,Nat.reduceLT,Nat.reduceEqDiff]
 refine am (j S.ok) ?_;intro h b;replace S:=S.call b
 simp only [BS,LB,ac,Nat.reduceLT,Nat.reduceEqDiff,Xd,XD,XX,F0C,e,o]
 exact S.gr
theorem uF{h0:Hp}(J:h0.t.Sized h0.n){m N:Nat}{p:Value}{l:List Int}{R Q:Nat->List Int}(t:TabAt h0 m p N l R Q)(K: ∀i,i<l.length->(R i).length=N)(L: ∀i,i<l.length->(Q i).length=N)(Y:l.length<=16){s w a:Int}:
 Ret zM 29 [p,.int .i64 s,.int .i64 w,.int .i64 a] h0 fun r h'=>Gr h0 h'/\au h' 1 cB r (actL N l.length R Q s w a)/\ ∀c,aq r c->h0.n<=c:=by
 have S:=Si J
 have Z:Fl p:=by obtain⟨b,_,_,_,rfl,_⟩:=t.ex;exact dz
 obtain⟨mk,f⟩: ∃k:Nat,max a 1=(k:Int):=⟨(max a 1).toNat,by omega⟩
 have q:(max a 1).toNat=mk:=by omega
 refine ab (n:=27) (rs:=[.tmp 8]) rfl Tryz.e29 rfl rfl rfl (lbt rfl) ?_
 simp only [BS,Nat.reduceLT]
 refine ae (cK (by assumption)) S ?_;clear S;intro h b4 S D
 simp only [BS,Nat.reduceLT,Nat.reduceEqDiff,if_false]
 refine ae (cK (by exact aY)) S ?_;clear S;intro h b5 S E
 simp only [BS,Nat.reduceLT,Nat.reduceEqDiff,if_false]
 refine ae (cK (by exact aY)) S ?_;clear S;intro h b6 S F
 simp only [BS,LB,Nat.reduceLT,Nat.reduceEqDiff,F07,S.ld (b:=b4) (o:=0) m2 rfl]
 have k0:=S.fr.n
 refine step_ret (mH S.ok (t.gr S.gr) (by omega)) ?_
 rintro r h ⟨g,M,z⟩
 replace S:=S.call g
 simp only [BS,LB,Nat.reduceLT,Nat.reduceEqDiff,F07,M.lenq]
 replace S:=S.nilG (k:=1)
 refine bL (fun(i:Nat) d h=>i<=l.length/\ ∃u,St NoM h0 h [(b6,.row [.int .i64 w] 1),(b5,.row [.int .i64 s] 1),(b4,.row [p] 1)] [(u,1,gP (Xo i))]/\(i=0->u=.slice none 0 0)/\d 3=.int .i64 a/\d 4=ptrTo b4/\d 5=ptrTo b5/\d 6=ptrTo b6/\d 9=u/\d 13=.int .i64 (l.length:Nat)/\d 14=.int .i64 i) (fun i=>l.length-i) ?_ 0 _ _ ?_
 . clear S
   intro i O d h ⟨hi,u,S,hv,r3,r4,r5,r6,r9,r13,r14⟩
   have P:an .i64 ((i:Int)+1)=((i+1:Nat):Int):=by rw [wrap64]<;>omega
   by_cases hlt:i<l.length
   . simp only [BS,LB,Nat.reduceLT,Nat.reduceEqDiff,r9,r13,r14,aK,hlt]
     refine ae (co (by exact Tryz.t33.1) (by exact X6) (by decide) (by rfl)) S ?_;clear S;intro h G S H;simp only [LC,bA,bS,ah,Nat.reduceMul,Nat.reduceAdd,XK,XE,XF,XN]at S
     simp only [BS,LB,Nat.reduceLT,Nat.reduceEqDiff]
     have v:aM h 1 (.slice (some ⟨G,0,none⟩) 1 1)=some (1,[.int .i64 (i:Nat)]):=by simp only [aM];rw [S.lds (b:=G) (o:=0) (n:=1*1) m0 (lbt rfl)];rfl
     replace S:=S.drop1
     refine eh (S.grow (j:=0) (m:=1) (new:=[.int .i64 (i:Nat)]) rfl Tryz.t33.1 X6 (by decide) Tryz.t33.2.2.2.2.2 v rfl (by decide) rfl (by rw [qr];simp;omega)) ?_
     clear S v;rintro h A S
     simp only [LC]at S
     have e:gP (Xo i)++[.int .i64 (i:Nat)]=gP (Xo (i+1)):=by unfold gP;rw [List.range_succ,XW];rfl
     rw [e]at S
     simp only [BS,LB,Nat.reduceLT,Nat.reduceEqDiff,r14,P]
     exact O (i+1) _ _ (by omega) ⟨by omega,A,S,fun h=>(by omega),by simp [aa,r3],by simp [aa,r4,ag],by simp [aa,r5,ag],by simp [aa,r6,ag],by simp [aa],by simp [aa,r13],by simp [aa]⟩
   . have T:i=l.length:=by omega
     subst T
     simp only [BS,LB,Nat.reduceLT,Nat.reduceEqDiff,r3,r4,r5,r6,r9,r13,r14,aK,hlt]
     by_cases B:l.length=0
     . have U:=hv B
       subst U
       have I:=S.fr.n
       rw [f]
       refine am (Aa S.ok) ?_
       intro h' g
       replace S:=S.call g
       simp only [BS,LB,ac,Nat.reduceLT,Nat.reduceEqDiff]
       refine⟨S.gr,.inl ⟨rfl,?_⟩,fun c z=>z.elim⟩
       unfold actL
       rw [B];simp
     . have V:au h 1 cB u (Xo l.length):=(S.gown _ m0).1.sl (vb _).symm fj (by decide)
       have I:=S.fr.n
       have W:=Be (t.gr S.gr) K L (by omega) (s:=s) (w:=w) (b4:=b4) (b5:=b5) (b6:=b6) (S.ld m2 rfl) (S.ld m1 rfl) (S.ld m0 rfl)
       rw [f]
       refine step_ret (first_ok (N:=l.length) (m:=mk) (Gr.refl S.ok) V (by intro e;have:=congrArg List.length e;rw [List.length_range]at this;exact B this) (by simp;omega) (fun x X=>List.mem_range.1 X) W (by omega)) ?_
       rintro r h' ⟨g,y,C⟩
       replace S:=S.call g
       simp only [BS,LB,ac,Nat.reduceLT,Nat.reduceEqDiff]
       rw [List.length_range]at y
       exact⟨S.gr,by unfold actL;rw [q];exact y,fun c z=>Xb I (C c z)⟩
 . exact⟨Xf _,_,S,fun _=>rfl,by simp [aa,cD],by simp [aa,ag],by simp [aa,ag],by simp [aa,ag],by simp [aa],by simp [aa],by simp [aa]⟩

def Tryz.F08:=aj t1<|aj t2<|aj t3<|aj t4<|aj t33<|aj t51<|aj t59<|aj Z5<|aj t137<|t217
theorem ee.keep{h h':Hp}{m n:Nat}{v:Value}{R:Nat->List Int}(e:h.t.Sized h.n)(g:iG h h')(r:ee h m v n R):ee h' m v n R:=by
 obtain⟨j,a,b,c,d⟩:=r
 exact⟨j,a.keep e g,b,c,fun i w f=>⟨(d i w f).1.keep e g,(d i w f).2⟩⟩
theorem TabAt.keep{h h':Hp}{m N:Nat}{p:Value}{l:List Int}{R Q:Nat->List Int}(a:h.t.Sized h.n)(g:iG h h')(t:TabAt h m p N l R Q):TabAt h' m p N l R Q:=by
 obtain⟨b,c,d,f,e,i,j,k,n,o,q⟩:=t.ex
 exact⟨b,c,d,f,e,g.row a i,j.keep a g,k.keep a g,n.keep a g,o,q⟩
theorem bEach_ok{h0:Hp}(g:h0.t.Sized h0.n){e f:Value}(i:Fl e)(j:Fl f):Ret zM 126 [e,f] h0 fun v h'=>Gr h0 h'/\ ∃a b,v=.func (.func 206) #[] #[ptrTo a,ptrTo b]/\h0.n<=a/\h0.n<=b/\h'.load a 0 1=some [e]/\h'.load b 0 1=some [f]:=by
 have S:=Si g
 refine ab (n:=6) (rs:=[.tmp 4]) rfl Tryz.e126 rfl rfl rfl (lbt rfl) ?_
 simp only [BS,Nat.reduceLT]
 refine ae (cK (by assumption)) S ?_;clear S;intro h a S c
 simp only [BS,Nat.reduceLT,Nat.reduceEqDiff,if_false]
 refine ae (cK (by assumption)) S ?_;clear S;intro h b S d
 simp only [BS,LB,ac,Nat.reduceLT,Nat.reduceEqDiff]
 exact⟨S.gr,a,b,rfl,c,d,S.ld m1 rfl,S.ld m0 rfl⟩
def TellF(E:Env)(hq:Hp)(g:FuncId)(post:List Value)(N:Nat)(f:Nat->Int):Prop:= ∀h,h.t.Sized h.n->iG hq h-> ∀v,v<N->bz E g ([.int .i64 (v:Nat)]++post) h (.int .i64 (f v))
theorem bEach_it{hq h0:Hp}(p:hq.t.Sized hq.n)(e:h0.t.Sized h0.n)(y:iG hq h0)(z:hq.n<=h0.n){m N:Nat}{q:Value}{l:List Int}{R Q:Nat->List Int}(t:TabAt hq m q N l R Q)(S:N<=1000){j k:Nat}{g:FuncId}{post:Array Value}{f:Nat->Int}(hf:TellF zM hq g post.toList N f)
 (E:h0.load j 0 1=some [q]) (G:h0.load k 0 1=some [.func (.func g) #[] post]):
 IterN zM 206 [] [ptrTo j,ptrTo k] h0 (fun c=>c=j\/c=k\/c<hq.n) ((Xo N).map fun(v:Nat)=>[.int .i64 (f v)]):=by
 intro H J Z I Y h F s o
 have A:=s.load e E (.inl rfl)
 have T:Fl q:=by obtain⟨b,_,_,_,rfl,_⟩:=t.ex;exact dz
 refine enter (n:=17) (rs:=[]) rfl Tryz.e206 rfl rfl rfl (lbt rfl) ?_
 simp only [BS,LB,Nat.reduceLT,F08,A]
 refine am (pF s.ok (t.keep p (s.keep y z (fun c r=>.inr (.inr r))))) ?_
 intro U u
 have B:=s.gr u
 have C:=Y.gr _ _ _ _ o u
 simp only [BS]
 refine bL (fun(i:Nat) d h=>i<=N/\ ∃F,ItS h0 (fun c=>c=j\/c=k\/c<hq.n) h F/\J i h F/\d 0=.func (.yield H) #[] #[]/\d 1=ptrTo j/\d 2=ptrTo k/\d 6=.int .i64 (N:Nat)/\d 7=.int .i64 i) (fun i=>N-i) ?_ 0 _ _ ?_
 . clear A s o B C F u h
   intro i K d h ⟨hi,F,s,o,r0,r1,r2,r6,r7⟩
   have w:an .i64 ((i:Int)+1)=((i+1:Nat):Int):=by rw [wrap64]<;>omega
   by_cases hlt:i<N
   . have L:=s.load e G (.inr (.inl rfl))
     have M:((Xo N).map fun(v:Nat)=>[Value.int .i64 (f v)])[i]? =some [.int .i64 (f i)]:=by rw [XC,List.getElem?_range hlt];rfl
     simp only [BS,LB,Nat.reduceLT,Nat.reduceEqDiff,F08,r0,r2,r6,r7,aK,hlt,L]
     refine am (hf _ s.ok (s.keep y z (fun c r=>.inr (.inr r))) i hlt) ?_
     intro V D
     simp only [BS,LB,Nat.reduceLT,Nat.reduceEqDiff]
     refine gu Y (s.gr D) (Y.gr _ _ _ _ o D) (i:=i) M ?_ ?_ ?_
     . intro x O a P _ _
       simp only [BS,LB,Nat.reduceLT,Nat.reduceEqDiff,r7,w]
       exact K (i+1) _ _ (by omega) ⟨by omega,O,P,a,by simp [aa,r0],by simp [aa,r1,ag],by simp [aa,r2,ag],by simp [aa,r6],by simp [aa]⟩
     . intro x a _
       simp only [BS,LB,Nat.reduceLT,Nat.reduceEqDiff]
       exact jb rfl ⟨rfl,.inr (.inl ⟨_,rfl,a⟩)⟩
     . intro v x a
       exact absurd a (I v x)
   . simp only [BS,LB,Nat.reduceLT,r6,r7,aK,hlt]
     have:i=N:=by omega
     subst this
     exact dP (c9 ⟨rfl,_,rfl,rfl,.inl ⟨_,F,rfl,by simpa using o⟩⟩)
 . exact⟨Xf _,F,B,C,by simp [aa,cD],by simp [aa,cD,ag],by simp [aa,cD,ag],by simp [aa],by simp [aa]⟩
def TabQ(h:Hp)(b:Value)(a:Nat)(l:List Int)(R Q:Nat->List Int):Prop:=(∃m,TabAt h m b a l R Q/\(∀i,i<l.length->(R i).length=a)/\ ∀i,i<l.length->(Q i).length=a)\/(b=.pointer none/\a=0/\l=[])
theorem TabQ.gr{h h':Hp}{c:Value}{d:Nat}{l:List Int}{R Q:Nat->List Int}(t:TabQ h c d l R Q)(g:Gr h h'):TabQ h' c d l R Q:=t.imp (fun⟨m,a,b⟩=>⟨m,a.gr g,b⟩) (fun h=>h)
def ansV(c:Int)(d:Int)(a b:Value):Value:=.agg ⟨[.int .i64 c,.int .i64 d,a,b]⟩
end Go.Ab
end
section
namespace Go.Ab
end Go.Ab

end
section
namespace Go.Ab
open Go.Proofs
set_option maxRecDepth 10000


def rO(a b:Int):Int:=if wy a<72057594037927936 then(if wy b<72057594037927936 then wy a-wy b else 72057594037927936)else 72057594037927936
def Tryz.F09:=aj t1<|aj t2<|aj t3<|aj t4<|aj t6<|aj Z3<|aj t24<|t213
def Tryz.F0a:=aj t1<|aj t2<|aj t3<|aj t33<|aj t51<|aj t59<|Z5
def Tryz.FW:=aj t1<|aj t2<|aj t3<|aj t4<|aj t24<|aj t33<|aj t51<|aj t59<|aj Z5<|aj t213<|t217
theorem w7{h0:Hp}(Y:h0.t.Sized h0.n){g:FuncId}{post:Array Value}{D W:Nat->Prop}{xs:List Int}(Z:IterW zM g post.toList h0 D W (xs.map fun(x:Int)=>[.int .i64 x]))(I: ∀b,W b->b<h0.n)(hn:xs.length<100000):
 Ret zM 205 [.slice none 0 0,.func (.func g) #[] post] h0 fun r h'=>Mo W h0 h'/\fL h' (r,1,ints xs)/\ ∀c,aq r c->h0.n<=c:=by
 have S:=Si Y
 refine ab (n:=13) (rs:=[.tmp 4]) rfl Tryz.e205 rfl rfl rfl (lbt rfl) ?_
 simp only [BS,Nat.reduceLT]
 refine ae (cK (by exact bq)) S ?_;clear S;intro h l S t
 simp only [BS,Nat.reduceLT,Nat.reduceEqDiff,if_false]
 replace S:=S.nilG (k:=1)
 have J:=S.gr
 replace S:=S.monoM (M:=W)
 have C:=S.fr
 refine kQ S (g:=g) (a:=#[]) (b:=post) (by simp [cb,aa,aZ,cG]) rfl rfl ?_
 intro E u s p ad af K
 obtain⟨X,N,p⟩: ∃X:gW,X=_/\St W h0 E [(s,.loop X),(u,.dfr),(l,.row [.slice none 0 0] 1)] [(.slice none 0 0,1,[])]:=⟨_,rfl,p⟩
 have O: ∀c,h0.n<=c-> ¬W c:=fun c h G=>by have:=I c G;omega
 have hJ:Yld zM s (fun k h' F=> ∃(e:Value),St W h0 h' [(s,.loop X),(u,.dfr),(l,.row [e] 1)] [(e,1,ints (xs.take k))]/\k<=xs.length/\(∀c∈F,h0.n<=c)/\F=keys [(s,.loop X),(u,.dfr),(l,.row [e] 1)] [(e,1,ints (xs.take k))]) (fun _ _=>False) (xs.map fun(x:Int)=>[.int .i64 x]):=by
  refine⟨?_,?_,fun _ _ h=>h.elim,?_⟩
  . rintro i h F ⟨e,S,_,_,rfl⟩;exact⟨S.ok,fun b f=>S.key_lt f⟩
  . rintro i h F h' ⟨e,S,a,b,rfl⟩ B;exact⟨e,S.call B,a,b,rfl⟩
  . rintro i x hR F v ⟨e,S,a,b,rfl⟩
    have w:i<xs.length:=by
     have:=(List.getElem?_eq_some_iff.1 v).1
     simpa using this
    rw [XC,Xa w]at v
    cases v
    have tk:ints (xs.take (i+1))=ints (xs.take i)++[.int .i64 xs[i]]:=by rw [List.take_add_one,Xa w];exact kA _ _
    have tl:(xs.take i).length<=i:=by rw [XI];omega
    subst N
    refine kU (S.get m0) (by rw [Tryz.e205];rfl) rfl ?_
    have P:=S
    replace S:=S.base
    simp only [BS,LB,Nat.reduceLT,Nat.reduceEqDiff]
    refine jQ S (i:=0) rfl rfl rfl rfl rfl ?_
    clear S;intro h S
    simp only [LC]at S
    simp only [BS,LB,Nat.reduceLT,Nat.reduceEqDiff,F09,S.ld (b:=l) (o:=0) m2 rfl]
    refine ae (co (by exact Tryz.t24.1) (by exact Tryz.e2E) (by decide) (by rfl)) S ?_;clear S;intro h Q S R;simp only [LC,bA,bS,ah,Nat.reduceMul,Nat.reduceAdd,XK,XE,XF,XN]at S
    simp only [BS,LB,Nat.reduceLT,Nat.reduceEqDiff]
    have z:aM h 1 (.slice (some ⟨Q,0,none⟩) 1 1)=some (1,[.int .i64 xs[i]]):=by simp only [aM];rw [S.lds (b:=Q) (o:=0) (n:=1*1) m0 (lbt rfl)];rfl
    replace S:=S.drop1
    refine eh (S.grow (j:=0) (m:=1) (new:=[.int .i64 xs[i]]) rfl Tryz.t24.1 Tryz.e2E (by decide) Tryz.t24.2.2.2.2.2 z rfl (by decide) rfl (by rw [cC];simp;omega)) ?_
    clear S z;rintro h A S
    simp only [LC]at S
    have fv:Fl A:=(S.gown _ m0).1.fl
    simp only [BS,LB,Nat.reduceLT,Nat.reduceEqDiff]
    refine az (aC S (i:=2) rfl Tryz.t24.2.2.1 fv (Xc (lbt rfl)) ono) ?_
    clear S;rintro h ⟨S,_⟩
    simp only [LC]at S
    simp only [BS]
    refine gT S (i:=0) rfl ?_
    clear S;intro h S
    simp only [LC]at S
    rw [<-tk]at S
    have H:=P.rebase S
    refine .inl ⟨rfl,_,⟨A,H,by omega,fun c d=>?_,rfl⟩,S.fr,fun c d=>(S.key_own d).symm⟩
    rcases S.key_own d with U|U
    . have:=P.fr.n;omega
    . exact b c U
 have q: ∀c∈keys [(s,Ob.loop X),(u,.dfr),(l,.row [.slice none 0 0] 1)] [(.slice none 0 0,1,[])],h0.n<=c:=fun c d=>by
  have n2:=t
  have:=C.n
  simp [keys,dM]at d
  omega
 refine fk (Z s _ _ (fun _ _ h=>h) hJ ?_ E _ ?_ ?_ (fun c d=>O c (q c d)) ⟨_,p,Xf _,q,rfl⟩) fun o rc h' y=>mS y ?_
 . rintro i h F h' ⟨e,S,a,b,rfl⟩ B
   exact⟨e,S.step B (fun c d=>.inl d) (fun c d G=>O c (b c d) G),a,b,rfl⟩
 . have B:Mo W h0 E:=p.fr
   exact⟨p.ok,p.fr.n,fun b f _=>(J.trans K).get b f,fun b f h=>by have:=q b f;omega,fun b f=>p.key_lt f⟩
 . exact fun b f=>(J.trans K).get b (I b f)
 . rintro F ⟨e,T,a,b,rfl⟩
   rw [XM,XU]at T b
   subst N
   refine⟨_,T.get m0,Nat.zero_ne_one,?_⟩
   replace T:=T.dead
   have S:=T
   show Run _ _ _ _ _ _ _ _
   simp only [BS,LB,Nat.reduceLT,Nat.reduceEqDiff,F09,S.ld (b:=l) (o:=0) m1 rfl]
   refine fD (kK [u] _ (L:=[(l,_)]) T.base fun h3 V=>⟨rfl,_,rfl,?_⟩)
   refine⟨(T.fr.trans V.fr (fun c d=>(T.key_own d).symm):Mo W h0 h3),(V.gown _ m0).1,fun x v=>?_⟩
   refine b x ?_
   have:dM (e,1,ints xs)=some x:=my (T.gown _ m0).1 v
   exact eW m0 this
theorem zR{h0:Hp}(a:h0.t.Sized h0.n){g:FuncId}{post:Array Value}{D W:Nat->Prop}{xs:List Int}(d:IterW zM g post.toList h0 D W (xs.map fun(x:Int)=>[.int .i64 x]))(e: ∀b,W b->b<h0.n)(i:xs.length<100000):
 Ret zM 125 [.func (.func g) #[] post] h0 fun r h'=>Mo W h0 h'/\fL h' (r,1,ints xs)/\ ∀c,aq r c->h0.n<=c:=by
 have S:=Si a
 refine ab (n:=5) (rs:=[.tmp 2]) rfl Tryz.e125 rfl rfl rfl (lbt rfl) ?_
 simp only [BS,LB,Nat.reduceLT,Nat.reduceEqDiff]
 refine step_ret (w7 S.ok d e i) ?_
 rintro r h ⟨f,q⟩
 simp only [BS,LB,ac,Nat.reduceLT,Nat.reduceEqDiff]
 exact⟨f,q⟩
theorem zU{h0:Hp}(c:h0.t.Sized h0.n){v t:Int}:bz zM 128 [.int .i64 v,.int .i64 t] h0 (.int .i64 (rO v t)):=by
 have S:=Si c
 have d:=wy_bd v
 have e:=wy_bd t
 have w:an .i64 (wy v-wy t)=wy v-wy t:=by rw [wrap64]<;>omega
 refine ab (n:=18) (rs:=[.tmp 4]) rfl Tryz.e128 rfl rfl rfl (lbt rfl) ?_
 simp only [BS,LB,Nat.reduceLT,Nat.reduceEqDiff]
 refine am (pd S.ok) ?_;intro h g;replace S:=S.call g;clear g
 unfold rO
 by_cases a:wy v<72057594037927936
 . simp only [BS,LB,Nat.reduceLT,Nat.reduceEqDiff,a]
   refine am (pd S.ok) ?_;intro h g;replace S:=S.call g;clear g
   by_cases b:wy t<72057594037927936
   . simp only [BS,LB,Nat.reduceLT,Nat.reduceEqDiff,b]
     refine am (pO S.ok) ?_;intro h g;replace S:=S.call g;clear g
     simp only [BS,LB,Nat.reduceLT,Nat.reduceEqDiff]
     refine am (pO S.ok) ?_;intro h g;replace S:=S.call g;clear g
     simp only [BS,LB,ac,Nat.reduceLT,Nat.reduceEqDiff,w]
     exact S.gr
   . simp only [BS,LB,ac,Nat.reduceLT,Nat.reduceEqDiff,b]
     exact S.gr
 . simp only [BS,LB,ac,Nat.reduceLT,Nat.reduceEqDiff,a]
   exact S.gr
theorem twin1_ok{hq:Hp}{m N:Nat}{p:Value}{l:List Int}{R Q:Nat->List Int}(a:hq.t.Sized hq.n)(t:TabAt hq m p N l R Q)(x: ∀i,i<l.length->(R i).length=N)(y: ∀i,i<l.length->(Q i).length=N)(z:l.length<1000){A:Value}{d:List Int}(j:au hq 1 (encI .i64) A d)(e:d.length<1000){s w:Int}{b4 b5 b6 o:Nat}(K:hq.load b4 0 1=some [p])(L:hq.load b5 0 1=some [A])(M:hq.load b6 0 1=some [.int .i64 s])(O:hq.load o 0 1=some [.int .i64 w]):
 TellF zM hq 127 [ptrTo b4,ptrTo b5,ptrTo o,ptrTo b6] N (fun v=>rO (j8 N l.length R Q v w d) (j8 N l.length R Q s v d)):=by
 intro h f k v X
 have Y:Fl p:=by obtain⟨b,_,_,_,rfl,_⟩:=t.ex;exact dz
 have Z:=j.fl
 have S:=Si f
 have r:=k.load a K
 have u:=k.load a L
 have B:=k.load a M
 have C:=k.load a O
 have P:=bD f r
 have T:=bD f u
 have U:=bD f B
 have V:=bD f C
 refine ab (n:=18) (rs:=[.tmp 6]) rfl Tryz.e127 rfl rfl rfl (lbt rfl) ?_
 simp only [BS,LB]
 refine aB (aG rfl) (q:=0) (ps:=[(4,7),(4,6),(4,5)]) (by kernel_rfl) ?_
 simp only [BS,LB,cls,Nat.reduceLT,Nat.reduceEqDiff,Nat.reduceAdd,Nat.reducePow,Nat.reduceDiv,Nat.reduceMod,Nat.reduceLeDiff,F0a,r,u,C]
 refine df (xx S.ok (t.keep a k) x y z (j.keep a k) e) ?_
 intro h1 c
 have D:=ar c P
 have e5:=ar c T
 have E:=ar c U
 have F:=ar c V
 replace S:=S.call c
 have n1:=c.n
 simp only [BS,LB,cls,Nat.reduceLT,Nat.reduceEqDiff,Nat.reduceAdd,Nat.reducePow,Nat.reduceDiv,Nat.reduceMod,Nat.reduceLeDiff,F0a,c.load r,c.load u,c.load B]
 refine df (xx S.ok ((t.keep a k).gr c) x y z ((j.keep a k).gr c) e) ?_
 intro h2 g
 have G:=ar g (show b4<_ by omega)
 have H:=ar g (show b5<_ by omega)
 have I:=ar g (show b6<_ by omega)
 have J:=ar g (show o<_ by omega)
 replace S:=S.call g
 simp only [BS,LB,cls,Nat.reduceLT,Nat.reduceEqDiff,Nat.reduceAdd,Nat.reducePow,Nat.reduceDiv,Nat.reduceMod,Nat.reduceLeDiff]
 refine df (zU S.ok) ?_
 intro h3 W
 replace S:=S.call W
 simp only [BS,LB,cls,ac,Nat.reduceLT,Nat.reduceEqDiff,Nat.reduceAdd,Nat.reducePow,Nat.reduceDiv,Nat.reduceMod,Nat.reduceLeDiff]
 refine⟨by simp only [bn,bE,aT,bJ,aV,ne_eq,not_false_eq_true,bK,bZ,bg,aX,cb,cM,aO,Nat.reduceLT,Nat.reduceEqDiff,reduceIte,Xg,ag,aZ,cG,av D,aD D,av e5,aD e5,av E,aD E,av F,aD F,av G,aD G,av H,aD H,av I,aD I,av J,aD J],?_⟩
 exact S.gr
theorem bTwin_ok{h0:Hp}(J:h0.t.Sized h0.n){m N:Nat}{p:Value}{l:List Int}{R Q:Nat->List Int}(t:TabAt h0 m p N l R Q)(K: ∀i,i<l.length->(R i).length=N)(L: ∀i,i<l.length->(Q i).length=N)(M:l.length<1000)(O:N<=1000){A:Value}{a:List Int}(B:au h0 1 (encI .i64) A a)(q:a.length<1000){s w:Nat}(hs:s<N)(hw:w<N):
 Ret zM 51 [p,A,.int .i64 (s:Nat),.int .i64 (w:Nat)] h0 fun r h'=>Gr h0 h'/\au h' 1 (encI .i64) r ((Xo N).map fun(v:Nat)=>rO (j8 N l.length R Q v w a) (j8 N l.length R Q s v a))/\ ∀c,aq r c->h0.n<=c:=by
 have P:Fl p:=by obtain⟨b,_,_,_,rfl,_⟩:=t.ex;exact dz
 have fa:=B.fl
 have S:=Si J
 have T:0<=(w:Int)/\(w:Int)<(N:Int):=by omega
 have U:0<=(s:Int)/\(s:Int)<(N:Int):=by omega
 have V:decide (0<=(w:Int)/\(w:Int)<(N:Int))=true:=decide_eq_true T
 have W:decide (0<=(s:Int)/\(s:Int)<(N:Int))=true:=decide_eq_true U
 refine ab (n:=23) (rs:=[.tmp 8]) rfl Tryz.e51 rfl rfl rfl (lbt rfl) ?_
 simp only [BS,Nat.reduceLT]
 refine ae (cK (by assumption)) S ?_;clear S;intro h X S C
 simp only [BS,Nat.reduceLT,Nat.reduceEqDiff,if_false]
 refine ae (cK (by assumption)) S ?_;clear S;intro h Y S D
 simp only [BS,Nat.reduceLT,Nat.reduceEqDiff,if_false]
 refine ae (cK (by exact aY)) S ?_;clear S;intro h Z S E
 simp only [BS,Nat.reduceLT,Nat.reduceEqDiff,if_false]
 refine ae (cK (by exact aY)) S ?_;clear S;intro h b7 S F
 have d:=S.gr
 have k:=S.ld (b:=X) (o:=0) m3 rfl
 have l5:=S.ld (b:=Y) (o:=0) m2 rfl
 have H:=S.ld (b:=Z) (o:=0) m1 rfl
 have I:=S.ld (b:=b7) (o:=0) m0 rfl
 have e:=S.ok
 clear S
 rename Hp=>hq
 have S:=Si e
 have tf:=twin1_ok e (t.gr d) K L M (B.gr d) q k l5 H I
 simp only [BS,LB,Nat.reduceLT,Nat.reduceEqDiff,FW,k,H]
 refine am (gL S.ok (t.gr d)) ?_
 intro h g;replace S:=S.call g;clear g
 simp only [BS,LB,Nat.reduceLT,Nat.reduceEqDiff,FW,W,S.old k (fun h=>h),S.old I (fun h=>h)]
 refine am (gL S.ok ((t.gr d).gr S.gr)) ?_
 intro h g;replace S:=S.call g;clear g
 simp only [BS,LB,Nat.reduceLT,Nat.reduceEqDiff,FW,V,S.old k (fun h=>h)]
 refine step_ret (bEach_ok S.ok P fO) ?_
 rintro r h ⟨g,u,y,rfl,n1,n2,y1,y2⟩
 replace S:=S.call g;clear g
 have z:=bEach_it e S.ok S.gr.keep S.fr.n (t.gr d) O tf y1 y2
 have kn:=S.fr.n
 have kG:=d.n
 rename Hp=>hE
 simp only [BS,LB,Nat.reduceLT,Nat.reduceEqDiff]
 generalize j:((Xo N).map fun(v:Nat)=>rO (j8 N l.length R Q v w a) (j8 N l.length R Q s v a))=xs
 have ad:xs.length=N:=by rw [<-j];simp
 replace z:IterN zM 206 [] [ptrTo u,ptrTo y] hE (fun c=>c=u\/c=y\/c<hq.n) (xs.map fun x=>[.int .i64 x]):=by rw [<-j,List.map_map];exact z
 refine step_ret (zR S.ok (post:=#[ptrTo u,ptrTo y]) (iter_w z) (fun _ h=>h.elim) (by omega)) ?_
 rintro r h2 ⟨f,G,nr⟩
 have g2:=f.gr
 simp only [BS,LB,ac,Nat.reduceLT,Nat.reduceEqDiff]
 exact⟨d.trans (S.gr.trans g2),G.sl rfl (fun _=>rfl) (by decide),fun c hc=>by have:=nr c hc;omega⟩
end Go.Ab
end
section
namespace Go.Ab
open Go.Proofs
set_option maxRecDepth 10000
def Tryz.F0D:=aj t1<|aj t4<|aj t20<|aj t45<|aj t110<|r110
def Tryz.F0E:=aj t1<|aj t3<|aj t4<|aj Z0<|aj t32<|aj t189<|Z1
def Tryz.F0F:=aj t4<|aj Z0<|aj t32<|aj t45<|aj t189<|Z1
def Tryz.F0G:=aj t1<|aj t3<|aj t4<|aj Z18<|aj t45<|t196
def Tryz.F0H:=aj t2<|aj t3<|aj t4<|aj Z18<|aj t45<|t196
def Tryz.FK:=aj t3<|aj t4<|aj Z0<|aj t32<|aj t33<|aj t45<|aj t51<|aj t59<|aj Z5<|aj t189<|Z1
def Tryz.F0b:=aj t1<|aj t2<|aj t3<|aj t4<|aj t5<|aj t6<|aj Z18<|aj Z0<|aj t32<|aj t33<|aj t51<|aj t59<|aj Z5<|aj t189<|aj Z1<|aj t196<|t197
def Tryz.FX:=aj t1<|aj t2<|aj t3<|aj t4<|aj t5<|aj t20<|aj t33<|aj t45<|aj t47<|aj r47<|aj t110<|r110
def Tryz.F0c:=aj t1<|aj t2<|aj t3<|aj t4<|aj t33<|aj t45<|aj t48<|aj Z8<|Z10
theorem lZ{h0:Hp}(a:h0.t.Sized h0.n){c:Int}:Ret zM 52 [.bool true,.int .i64 c] h0 fun _ h'=>Gr h0 h':=by
 have S:=Si a
 refine ab (n:=9) (rs:=[]) rfl Tryz.e52 rfl rfl rfl (lbt rfl) ?_
 simp only [BS,LB,Nat.reduceLT,Nat.reduceEqDiff]
 exact S.gr
def trouV(c:Int):Value:=.iface 110 (.agg ⟨[.int .i64 c]⟩)
theorem need_no{h0:Hp}(a:h0.t.Sized h0.n){c:Int}:eu zM 52 [.bool false,.int .i64 c] none h0 fun o b h'=>o=.pan (trouV c)/\Gr h0 h':=by
 have S:=Si a
 refine enter (n:=9) (rs:=[]) rfl Tryz.e52 rfl rfl rfl (lbt rfl) ?_
 simp only [BS,LB,Nat.reduceLT,Nat.reduceEqDiff,F0D]
 exact im (c9 ⟨rfl,S.gr⟩)
section
variable{h0:Hp}{bp nb s w:Nat}{γ:Gra}
theorem vz(b:h0.t.Sized h0.n)(c:bI h0 nb (ptrTo bp) γ){a:Nat}(l:h0.load a 0 1=some [ptrTo bp]){v:Nat}(d:v<γ.nodes):bz zM 107 [.int .i64 (v:Nat),ptrTo a] h0 (.bool true):=by
 have S:=Si b
 have e:(0:Int)<=(v:Int):=by omega
 refine ab (n:=12) (rs:=[.tmp 3]) rfl Tryz.e107 rfl rfl rfl (lbt rfl) ?_
 simp only [BS,LB,Nat.reduceLT,Nat.reduceEqDiff,F0E,l,e]
 refine am (dt S.ok (c.gr S.gr)) ?_;intro h g;replace S:=S.call g;clear g
 simp only [BS,LB,ac,Nat.reduceLT,Nat.reduceEqDiff,aK,d]
 exact S.gr
theorem asked2_ok(b:h0.t.Sized h0.n){a:Nat}(l:h0.load a 0 1=some [ptrTo bp]):Ret zM 108 [ptrTo a] h0 fun _ h'=>Gr h0 h':=by
 have S:=Si b
 refine ab (n:=4) (rs:=[]) rfl Tryz.e108 rfl rfl rfl (lbt rfl) ?_
 simp only [BS,LB,Nat.reduceLT,Nat.reduceEqDiff,F0F,l]
 refine step_ret (lZ S.ok) ?_
 intro r h g;replace S:=S.call g;clear g
 simp only [BS]
 exact S.gr
theorem asked3_ok(b:h0.t.Sized h0.n)(c:bI h0 nb (ptrTo bp) γ){a b5 b6:Nat}(d:h0.load a 0 1=some [ptrTo bp])(e:h0.load b6 0 1=some [.func (.func 107) #[] #[ptrTo a]])(f:h0.load b5 1 1=some [.int .i64 (s:Nat)])(i:s<γ.nodes):Ret zM 109 [ptrTo b6,ptrTo b5] h0 fun _ h'=>Gr h0 h':=by
 have S:=Si b
 refine ab (n:=7) (rs:=[]) rfl Tryz.e109 rfl rfl rfl (lbt rfl) ?_
 simp only [BS,LB,Nat.reduceLT,Nat.reduceEqDiff,F0G,e,f]
 refine am (vz S.ok c d i) ?_
 intro h g;replace S:=S.call g;clear g
 simp only [BS,LB,Nat.reduceLT,Nat.reduceEqDiff]
 refine step_ret (lZ S.ok) ?_
 intro r h g;replace S:=S.call g;clear g
 simp only [BS]
 exact S.gr
theorem asked4_ok(b:h0.t.Sized h0.n)(c:bI h0 nb (ptrTo bp) γ){a b5 b6:Nat}(d:h0.load a 0 1=some [ptrTo bp])(e:h0.load b6 0 1=some [.func (.func 107) #[] #[ptrTo a]])(f:h0.load b5 2 1=some [.int .i64 (w:Nat)])(i:w<γ.nodes):Ret zM 110 [ptrTo b6,ptrTo b5] h0 fun _ h'=>Gr h0 h':=by
 have S:=Si b
 refine ab (n:=7) (rs:=[]) rfl Tryz.e110 rfl rfl rfl (lbt rfl) ?_
 simp only [BS,LB,Nat.reduceLT,Nat.reduceEqDiff,F0H,e,f]
 refine am (vz S.ok c d i) ?_
 intro h g;replace S:=S.call g;clear g
 simp only [BS,LB,Nat.reduceLT,Nat.reduceEqDiff]
 refine step_ret (lZ S.ok) ?_
 intro r h g;replace S:=S.call g;clear g
 simp only [BS]
 exact S.gr
theorem asked5_ok(f:h0.t.Sized h0.n)(c:bI h0 nb (ptrTo bp) γ){m:Nat}{g:Value}{l:List Int}{R Q:Nat->List Int}(t:TabAt h0 m g γ.nodes l R Q)(E:l.length<=16)(y:1<=l.length){e b4:Nat}(j:h0.load e 0 1=some [ptrTo bp])(h:h0.load b4 0 1=some [g]):Ret zM 111 [ptrTo b4,ptrTo e] h0 fun _ h'=>Gr h0 h':=by
 have S:=Si f
 have F:Fl g:=by obtain⟨b,_,_,_,rfl,_⟩:=t.ex;exact dz
 have z:=bD f j
 have A:=bD f h
 have B:(0:Int)<(l.length:Int):=by omega
 refine ab (n:=14) (rs:=[]) rfl Tryz.e111 rfl rfl rfl (lbt rfl) ?_
 simp only [BS]
 refine Bc (by kernel_rfl) (aG rfl) (q:=0) (ps:=[(6,7)]) (by kernel_rfl) ?_
 simp only [Xr,List.length_nil,Nat.reduceAdd,Nat.reduceSub,XE,Xl,Xx,List.drop_succ_cons,Xs]
 simp only [BS,LB,cls,Nat.reduceLT,Nat.reduceEqDiff,Nat.reducePow,Nat.reduceDiv,Nat.reduceMod,Nat.reduceLeDiff,FK,h]
 refine cV (mH S.ok (t.gr S.gr) (by omega)) ?_
 rintro r y ⟨a,C,_⟩
 replace S:=S.call a
 have k:=ar a A
 have o:=ar a z
 simp only [BS,LB,cls,Nat.reduceLT,Nat.reduceEqDiff,Nat.reduceAdd,Nat.reducePow,Nat.reduceDiv,Nat.reduceMod,Nat.reduceLeDiff,FK,C.lenq,B,a.load h]
 refine df (pF S.ok (t.gr S.gr)) ?_
 intro G d
 have H:=a.n
 have I:=d.n
 have p:=ar d (show b4<_ by omega)
 have u:=ar d (show e<_ by omega)
 replace S:=S.call d
 simp only [BS,LB,cls,Nat.reduceLT,Nat.reduceEqDiff,Nat.reduceAdd,Nat.reducePow,Nat.reduceDiv,Nat.reduceMod,Nat.reduceLeDiff,FK,d.load (a.load j)]
 refine df (dt S.ok (c.gr S.gr)) ?_
 intro J i
 have v:=ar i (show b4<_ by omega)
 have x:=ar i (show e<_ by omega)
 replace S:=S.call i
 simp only [BS,LB,cls,Nat.reduceLT,Nat.reduceEqDiff,Nat.reduceAdd,Nat.reducePow,Nat.reduceDiv,Nat.reduceMod,Nat.reduceLeDiff]
 refine⟨by simp only [bn,bE,aT,bJ,aV,ne_eq,not_false_eq_true,bK,bZ,bg,aX,cb,cM,aO,Nat.reduceLT,Nat.reduceEqDiff,reduceIte,Xg,ag,cD,av o,aD o,av k,aD k,av u,aD u,av p,aD p,av x,aD x,av v,aD v],?_⟩
 try simp only [BS,LB,RetQ,jy,cv,jx,cls,touch,eH,ah,ac,n_new,Nat.reduceLT,Nat.reduceEqDiff,Nat.reduceAdd,Nat.reduceSub,Nat.reduceBEq,reduceIte,decide_eq_true_eq,Bool.not_eq_true',decide_eq_false_iff_not,List.length_set,Nat.reducePow,Nat.reduceDiv,Nat.reduceMod,Nat.reduceLeDiff,Bool.false_and,Bool.true_and,Int.reduceToNat,Int.reduceLE,Int.reduceLT,Int.reduceAdd,Int.reduceSub,Int.ofNat_eq_natCast,Xd,Nat.reduceMul,Bool.true_eq_false,Bool.false_eq_true,XD,XX,FK,ag]
 refine step_ret (lZ S.ok) ?_
 intro r K D
 replace S:=S.call D
 simp only [BS]
 exact S.gr
theorem build_ask{a b c d:FuncId}{e f g h:Array Value}:iK zM 197 [(0,.func (.func a) #[] e),(1,.func (.func b) #[] f),(2,.func (.func c) #[] g),(3,.func (.func d) #[] h)]=some (.agg ⟨[.func (.func a) #[] e,.func (.func b) #[] f,.func (.func c) #[] g,.func (.func d) #[] h]⟩):=by
 unfold iK
 rw [Tryz.t197.2.2.2.1,Tryz.t197.1]
 simp only [Tryz.t1.2.1]
 rfl
theorem oS{a b c d:FuncId}{e f g h:Array Value}:iP zM 197 (.agg ⟨[.func (.func a) #[] e,.func (.func b) #[] f,.func (.func c) #[] g,.func (.func d) #[] h]⟩) (.int .i64 0)=some (.func (.func a) #[] e)/\
 iP zM 197 (.agg ⟨[.func (.func a) #[] e,.func (.func b) #[] f,.func (.func c) #[] g,.func (.func d) #[] h]⟩) (.int .i64 1)=some (.func (.func b) #[] f)/\
 iP zM 197 (.agg ⟨[.func (.func a) #[] e,.func (.func b) #[] f,.func (.func c) #[] g,.func (.func d) #[] h]⟩) (.int .i64 2)=some (.func (.func c) #[] g)/\
 iP zM 197 (.agg ⟨[.func (.func a) #[] e,.func (.func b) #[] f,.func (.func c) #[] g,.func (.func d) #[] h]⟩) (.int .i64 3)=some (.func (.func d) #[] h):=by
 unfold iP
 rw [Tryz.t197.1]
 simp only [Tryz.t1.2.1]
 refine⟨?_,?_,?_,?_⟩<;>rfl
theorem asked_ok(C:h0.t.Sized h0.n)(c:bI h0 nb (ptrTo bp) γ){m:Nat}{q u:Value}{l:List Int}{R Q:Nat->List Int}(t:TabAt h0 m q γ.nodes l R Q)(D:l.length<=16)(E:1<=l.length){a:Int}(P:Fl u)(F:s<γ.nodes)(G:w<γ.nodes):
 Ret zM 48 [ptrTo bp,q,.agg ⟨[u,.int .i64 (s:Nat),.int .i64 (w:Nat),.int .i64 a]⟩] h0 fun _ h'=>Gr h0 h':=by
 have T:Fl q:=by obtain⟨b,_,_,_,rfl,_⟩:=t.ex;exact dz
 have S:=Si C
 refine ab (n:=21) (rs:=[]) rfl Tryz.e48 rfl rfl rfl (lbt rfl) ?_
 simp only [BS,Nat.reduceLT]
 refine ae (cK (by exact dz)) S ?_;clear S;intro h H S v
 simp only [BS,Nat.reduceLT,Nat.reduceEqDiff,if_false]
 refine ae (cK (by assumption)) S ?_;clear S;intro h I S y
 simp only [BS,Nat.reduceLT,Nat.reduceEqDiff,if_false]
 refine ae (aS (by intro x e;cases e)) S ?_;clear S;intro h z S A;simp only [ah]at S
 simp only [BS,LB,Nat.reduceLT,Nat.reduceEqDiff,F0b]
 refine ae aA S ?_;clear S;intro h J S B
 simp only [BS,LB,Nat.reduceLT,Nat.reduceEqDiff]
 refine az (aC S (i:=0) rfl ?_ ?_ ?_ ono) ?_
 . exact(by simp only [F0b])
 . exact(by exact fO)
 . exact Xc (lbt rfl)
 clear S;rintro h ⟨S,K⟩;clear K;simp only [LC,ah,lay,Xi,Xj,Nat.reduceAdd]at S
 have j:=S.ld (b:=H) (o:=0) m3 rfl
 have p:=S.ld (b:=I) (o:=0) m2 rfl
 have d:=S.ld (b:=z) (o:=1) m1 rfl
 have f:=S.ld (b:=z) (o:=2) m1 rfl
 have k:=S.ld (b:=J) (o:=0) m0 rfl
 have L:an .i64 1=1:=rfl
 have M:an .i64 2=2:=rfl
 have N:an .i64 3=3:=rfl
 have O:an .i64 4=4:=rfl
 simp only [BS,LB,Nat.reduceLT,Nat.reduceEqDiff,build_ask]
 rw [bG]
 simp only [BS,LB,Nat.reduceLT,Nat.reduceEqDiff,Int.reduceLT,oS]
 refine step_ret (asked2_ok S.ok j) ?_
 intro r h g;replace S:=S.call g
 replace j:=g.load j;replace p:=g.load p;replace d:=g.load d;replace f:=g.load f;replace k:=g.load k;clear g
 simp only [BS,LB,Nat.reduceLT,Nat.reduceEqDiff,Int.reduceAdd,L]
 rw [bG]
 simp only [BS,LB,Nat.reduceLT,Nat.reduceEqDiff,Int.reduceLT,oS]
 refine step_ret (asked3_ok S.ok (c.gr S.gr) j k d F) ?_
 intro r h g;replace S:=S.call g
 replace j:=g.load j;replace p:=g.load p;replace d:=g.load d;replace f:=g.load f;replace k:=g.load k;clear g
 simp only [BS,LB,Nat.reduceLT,Nat.reduceEqDiff,Int.reduceAdd,M]
 rw [bG]
 simp only [BS,LB,Nat.reduceLT,Nat.reduceEqDiff,Int.reduceLT,oS]
 refine step_ret (asked4_ok S.ok (c.gr S.gr) j k f G) ?_
 intro r h g;replace S:=S.call g
 replace j:=g.load j;replace p:=g.load p;replace d:=g.load d;replace f:=g.load f;replace k:=g.load k;clear g
 simp only [BS,LB,Nat.reduceLT,Nat.reduceEqDiff,Int.reduceAdd,N]
 rw [bG]
 simp only [BS,LB,Nat.reduceLT,Nat.reduceEqDiff,Int.reduceLT,oS]
 refine step_ret (asked5_ok S.ok (c.gr S.gr) (t.gr S.gr) D E j p) ?_
 intro r h g;replace S:=S.call g;clear g
 simp only [BS,LB,Nat.reduceLT,Nat.reduceEqDiff,Int.reduceAdd,O]
 rw [bG]
 simp only [BS,LB,Nat.reduceLT,Nat.reduceEqDiff,Int.reduceLT]
 exact S.gr
theorem yT(a:h0.t.Sized h0.n){b:Nat}:eu zM 47 [ptrTo b] none h0 fun o c h'=>(∃v,o=.ret v)/\c=none/\Gr h0 h':=by
 have S:=Si a
 refine enter (n:=18) (rs:=[]) rfl Tryz.e47 rfl rfl rfl (lbt rfl) ?_
 simp only [BS,LB,Nat.reduceLT,Nat.reduceEqDiff,FX]
 exact dP (c9 ⟨rfl,_,rfl,⟨_,rfl⟩,rfl,S.gr⟩)
theorem trun1_yes(k:h0.t.Sized h0.n){b:Nat}{a:List Value}(R:Row h0 b a 1)(d:a.length=4){c:Int}:eu zM 47 [ptrTo b] (some (trouV c,false)) h0 fun o l h'=>(∃v,o=.ret v)/\l=some (trouV c,true)/\Mo (· =b) h0 h'/\Row h' b [.int .i64 c,.int .i64 0,.slice none 0 0,.slice none 0 0] 1:=by
 have S:=St.init1 k (o:=.row a 1) R
 refine enter (n:=18) (rs:=[]) rfl Tryz.e47 rfl rfl rfl (lbt rfl) ?_
 simp only [BS,LB,Nat.reduceLT,Nat.reduceEqDiff,FX,trouV]
 refine ae aA S ?_;clear S;intro h m S f
 simp only [BS,LB,Nat.reduceLT,Nat.reduceEqDiff]
 refine az (S.store (i:=0) rfl ?_ ?_ rfl rfl ?_ ono) ?_
 . exact(by exact Tryz.t110.2.1)
 . exact(by intro x e;cases e)
 . exact lbt rfl
 clear S;rintro h ⟨S,g⟩;clear g;simp only [LC,ah,lay,Xi,Xj,Nat.reduceAdd]at S
 simp only [BS,LB,Nat.reduceLT,Nat.reduceEqDiff,Nat.reduceAdd,FX,S.ld (b:=m) (o:=0) m0 rfl]
 refine az (S.store (i:=1) rfl Tryz.t47.2.1 (by intro x e;cases e) rfl rfl (by rw [d];exact Xh _) ono) ?_
 clear S;rintro q ⟨S,g⟩
 simp only [LC]at S
 have j:=S.row (b:=b) m1
 have p:lay a 0 (ah (.agg ⟨[.int .i64 c,.int .i64 0,.slice none 0 0,.slice none 0 0]⟩))=[.int .i64 c,.int .i64 0,.slice none 0 0,.slice none 0 0]:=by
  match a,d with
  | [_,_,_,_],_=>rfl
 rw [p]at j
 simp only [BS]
 exact dP (c9 ⟨rfl,_,rfl,⟨_,rfl⟩,rfl,S.fr,j⟩)
theorem got_ok(j:h0.t.Sized h0.n){d:Int}{a vE:Value}(k:Fl a)(l:Fl vE):Ret zM 49 [.agg ⟨[.int .i64 d,a,vE]⟩,.int .i64 0] h0 fun r h'=>Gr h0 h'/\r=.agg ⟨[.int .i64 d,a,vE]⟩:=by
 have S:=Si j
 refine ab (n:=10) (rs:=[.cell 4 114]) rfl Tryz.e49 rfl rfl rfl (lbt rfl) ?_
 simp only [BS,Nat.reduceLT]
 refine ae (aS (by intro x e;cases e)) S ?_;clear S;intro h m S c;simp only [ah]at S
 simp only [BS,F0c]
 refine ae aA S ?_;clear S;intro h p S f
 simp only [BS,LB,Nat.reduceLT,Nat.reduceEqDiff]
 refine step_ret (lZ S.ok) ?_
 intro r h g;replace S:=S.call g;clear g
 simp only [BS,LB,Nat.reduceLT,Nat.reduceEqDiff,F0c,Xs,Xl,Xx,S.lds (b:=m) (o:=0) (n:=3) m1 (lbt rfl)]
 refine az (S.store (i:=0) rfl Tryz.t114.2.1 (by intro x e;cases e) rfl (by simp only [ah,XG,XL,k.2.1,l.2.1,Xg];rfl) (lbt rfl) ono) ?_
 clear S;rintro q ⟨S,t⟩
 simp only [LC,ah,lay,Xi,Xj,Nat.reduceAdd]at S
 simp only [BS,ac]
 refine(dW (by decide) (by simp only [aO,ag,Nat.reduceEqDiff,reduceIte];exact cP Tryz.t114.1 Tryz.t114.2.1 (S.lds (b:=p) (o:=0) (n:=3) m0 (lbt rfl)))).2 (eE.2 ?_)
 exact⟨S.gr,rfl⟩
end
end Go.Ab

end
section
namespace Go.Ab
open Go.Proofs
set_option maxRecDepth 10000
def Tryz.Fm:=aj t1<|aj t2<|aj t3<|aj t4<|aj t5<|aj t6<|aj Z3<|aj Z4<|aj t9<|aj t24<|aj Z18<|aj Z0<|aj t32<|aj t33<|aj t45<|aj t47<|aj r47<|aj t48<|aj t51<|aj t59<|aj t74<|aj Z8<|aj Z10<|aj Z11<|aj Z5<|aj t189<|Z1
def twL(N:Nat)(l:List Int)(R Q:Nat->List Int)(a:List Int)(s w:Nat):List Int:=(Xo N).map fun(v:Nat)=>rO (j8 N l.length R Q v w a) (j8 N l.length R Q s v a)
def natI(l:List Nat):List Int:=l.map fun(x:Nat)=>(x:Int)
theorem Bh{h0:Hp}(ok:h0.t.Sized h0.n){bp nb m:Nat}{γ:Gra}(F:Good γ)(hn:bI h0 nb (ptrTo bp) γ){W q0:Value}{l:List Int}{R Q:Nat->List Int}(t:TabAt h0 m W γ.nodes l R Q)(lR: ∀i,i<l.length->(R i).length=γ.nodes)(lQ: ∀i,i<l.length->(Q i).length=γ.nodes)(hl:l.length<=16)(h1:1<=l.length)(fq:Fl q0){s w:Nat}(X:s<γ.nodes)(Y:w<γ.nodes){a:Int}:
 Ret zM 11 [ptrTo bp,W,.agg ⟨[q0,.int .i64 (s:Nat),.int .i64 (w:Nat),.int .i64 a]⟩] h0 fun r h'=>Gr h0 h'/\ ∃c d G E vE,r=.tuple #[ansV c d G E,vE]/\(∀x,(aq G x\/aq E x\/aq vE x)->h0.n<=x)/\
  ((s =w/\c=0/\d=0/\G=.slice none 0 0/\E=.slice none 0 0/\vE=.slice none 0 0)\/
   (s ≠w/\ ∃τ,iW γ.arcs (fun _=>true) (fun v=>(twL γ.nodes l R Q (natI (actL γ.nodes l.length R Q s w a)) s w).getD v 0) (jq (fun v=>(twL γ.nodes l R Q (natI (actL γ.nodes l.length R Q s w a)) s w).getD v 0) s w) τ/\
     au h' 4 dB vE τ.ev/\
     ((FAR<=τ.dist/\c=20/\d=0/\G=.slice none 0 0/\E=.slice none 0 0)\/
      (τ.dist<FAR/\c=0/\d=(τ.dist:Nat)/\au h' 1 cB G (nC τ)/\au h' 1 cB E (actL γ.nodes l.length R Q s w a))))):=by
 have S:=Si ok
 have ft:Fl W:=by obtain⟨b,_,_,_,rfl,_⟩:=t.ex;exact dz
 have ay:=jK
 refine ab (n:=59) (rs:=[.cell 6 47,.tmp 7]) rfl Tryz.e11 rfl rfl rfl (lbt rfl) ?_
 simp only [BS,Nat.reduceLT]
 refine ae (aS (by intro x e;cases e)) S ?_;clear S;intro h p S al;simp only [ah]at S
 simp only [BS,Fm]
 refine ae aA S ?_;clear S;intro h u S H
 simp only [BS,LB,Nat.reduceLT,Nat.reduceEqDiff,Fm,Xs,Xl,Xx,S.lds (b:=p) (o:=0) (n:=4) m1 (lbt rfl)]
 refine step_ret (asked_ok S.ok (hn.gr S.gr) (t.gr S.gr) hl h1 fq X Y) ?_
 intro r h g;replace S:=S.call g;clear g
 by_cases y:s=w
 . subst y
   simp only [BS,LB,Nat.reduceLT,Nat.reduceEqDiff,Fm,Xs,Xl,Xx,S.ld (b:=p) (o:=1) m1 rfl,S.ld (b:=p) (o:=2) m1 rfl,S.lds (b:=u) (o:=0) (n:=4) m0 (lbt rfl)]
   refine az (S.store (i:=0) rfl Tryz.t47.2.1 (by intro x e;cases e) rfl rfl (lbt rfl) ono) ?_
   clear S;rintro Z ⟨S,mo⟩
   simp only [LC,ah,lay,Xi,Xj,Nat.reduceAdd]at S
   simp only [BS]
   refine fD (un_fn (fk (yT S.ok) fun o rc h' ⟨a,b,g⟩=>⟨a,b,c9 ⟨rfl,?_⟩⟩))
   replace S:=S.call g
   refine(dW (by decide) (by simp only [aO,ag,Nat.reduceEqDiff,reduceIte];exact cP Tryz.t47.1 Tryz.t47.2.1 (S.lds (b:=u) (o:=0) (n:=4) m0 (lbt rfl)))).2 ?_
   refine(eY (by decide)).2 (eE.2 ?_)
   exact⟨S.gr,_,_,_,_,_,rfl,fun x I=>(by rcases I with h|h|h<;>exact h.elim),.inl ⟨rfl,rfl,rfl,rfl,rfl⟩⟩
 . have ad: ¬((s:Int)=(w:Int)):=by omega
   simp only [BS,LB,Nat.reduceLT,Nat.reduceEqDiff,Fm,ad,S.ld (b:=p) (o:=1) m1 rfl,S.ld (b:=p) (o:=2) m1 rfl,S.ld (b:=p) (o:=3) m1 rfl]
   have k6:=(S.row (b:=u) m0).lt S.ok
   refine step_ret (uF S.ok (t.gr S.gr) lR lQ hl) ?_
   rintro E h ⟨g,O,nB⟩
   replace S:=S.call g;clear g
   have la:(actL γ.nodes l.length R Q s w a).length<=16:=by unfold actL;rw [XI];omega
   have R5:=S.row (b:=p) m1
   have R6:=S.row (b:=u) m0
   have S0:=S
   have gV:=S.gr
   have kV:=gV.n
   have z:=S.ok
   have af:=R5.load1 (o:=1) rfl
   have ai:=R5.load1 (o:=2) rfl
   have p5:=R5.lt z
   have f1:=F.n2
   simp only [BS,LB,Nat.reduceLT,Nat.reduceEqDiff]
   clear S
   have S:=Si z
   rename Hp=>hV
   refine aB (oU (ord:=[17,0,1,2,3,4,5,6,7,8,9,10,11,12,13,14,15,16,18]) rfl rfl (by simp only [dY,reix,eX,List.getElem?_cons_zero,List.getElem?_cons_succ,List.map_toArray,XQ,XV,Nat.reduceBEq,cond_true,cond_false];exact rfl)) (q:=1) (ps:=[(0,17),(0,14),(5,12),(3,12),(0,12)]) (by kernel_rfl) ?_
   simp only [BS,LB,cls,Nat.reducePow,Nat.reduceDiv,Nat.reduceMod,Nat.reduceLeDiff,Fm]
   refine dC aA S ?_;clear S;intro h B S ax J
   have p9:=S.fr.n
   have P:=S.gr
   have K:=S.row (b:=B) m0
   have q9:=K.lt S.ok
   simp only [BS,LB,cls,Nat.reduceLT,Nat.reduceEqDiff,Nat.reduceAdd,Nat.reducePow,Nat.reduceDiv,Nat.reduceMod,Nat.reduceLeDiff,Fm,P.load af,P.load ai]
   refine cV (bTwin_ok S.ok ((t.gr gV).gr P) lR lQ (by omega) (by omega) (sl_nat (O.gr P)) (by rw [XM];omega) X Y) ?_
   rintro vP h ⟨g,sP,nP⟩
   have e1:leaves _ _ p=true:=ar g (Xt p5 p9)
   have e2:leaves _ _ B=true:=ar g q9
   have kq:=g.n
   replace S:=S.call g;clear g
   simp only [BS,LB,cls,Nat.reduceLT,Nat.reduceEqDiff,Nat.reduceAdd,Nat.reducePow,Nat.reduceDiv,Nat.reduceMod,Nat.reduceLeDiff,Fm,sP.fl]
   refine cV (Ba S.ok F ((hn.gr gV).gr S.gr) sP (by simp) X Y y) ?_
   rintro r h ⟨g,xA,xE,τ,rfl,he,T,U,j⟩
   have e3:leaves _ _ p=true:=ar g (Xt p5 (Xb p9 kq))
   have e4:leaves _ _ B=true:=ar g (Xt q9 kq)
   have kr:=g.n
   have V:Fl xA:=U.fl
   have y2:Fl xE:=T.fl
   replace S:=S.call g
   simp only [BS,LB,cls,Nat.reduceLT,Nat.reduceEqDiff,Nat.reduceAdd,Nat.reducePow,Nat.reduceDiv,Nat.reduceMod,Nat.reduceLeDiff]
   refine cV (got_ok S.ok V y2) ?_
   rintro r h ⟨g,rfl⟩
   have e5:leaves _ _ p=true:=ar g (by omega)
   have e6:leaves _ _ B=true:=ar g (by omega)
   have T:=T.gr g
   have U:=U.gr g
   replace S:=S.call g
   simp only [BS,LB,cls,Nat.reduceLT,Nat.reduceEqDiff,Nat.reduceAdd,Nat.reducePow,Nat.reduceDiv,Nat.reduceMod,Nat.reduceLeDiff]
   refine dS (S.store (i:=0) rfl Tryz.t114.2.1 (by intro x e;cases e) rfl (by simp only [ah,XG,XL,V.2.1,y2.2.1,Xg];rfl) (lbt rfl) ono) ?_
   have aL:=S.ok
   have L: ∀c,aq xA c\/aq xE c->c≠B:=fun c k e=>by
    have:=j c k
    omega
   clear S;rintro Z ⟨S,mo⟩
   simp only [LC,ah,lay,Xi,Xj,Nat.reduceAdd]at S
   simp only [BS,LB,Nat.reduceLT,Nat.reduceEqDiff,Nat.reduceAdd,Fm]
   refine⟨by simp only [bn,bE,aT,bJ,aV,ne_eq,not_false_eq_true,bK,bZ,bg,aX,cb,cM,aO,Nat.reduceLT,Nat.reduceEqDiff,reduceIte,Xg,ag,qK,aD e1,av e1,aD e2,av e2,aD e3,av e3,aD e4,av e4,aD e5,av e5,aD e6,av e6,<-J],?_⟩
   have K:=S.row (b:=B) m0
   have j0:=K.load1 (o:=0) rfl
   have j1:=K.load1 (o:=1) rfl
   have j2:=K.load1 (o:=2) rfl
   have n9:u≠B:=fun e=>by have:=(S0.row (b:=u) m0).lt z;omega
   have M:au Z 1 cB xA _:=U.mo mo (fun c k e=>L c (.inl k) e)
   have N:au Z 4 dB xE τ.ev:=T.mo mo (fun c k e=>L c (.inr k) e)
   have ak:=O.gr S.gr
   have k5:=(S0.row (b:=u) m0).lt z
   have S1:=S0.call S.gr
   clear S
   have S:=S1
   clear S1
   simp only [BS,LB,Nat.reduceLT,Nat.reduceEqDiff,Fm,j0,j2]
   by_cases hd:τ.dist<FAR
   . have C:(τ.dist:Int)<72057594037927936:=by omega
     simp only [decide_true,C]
     refine step_ret (lZ S.ok) ?_
     intro r h4 A
     replace S:=S.call A
     simp only [BS,LB,Nat.reduceLT,Nat.reduceEqDiff,Nat.reduceAdd,Fm,V,O.fl,A.load j0,A.load j1]
     refine az (S.store (i:=0) rfl Tryz.t47.2.1 (by intro x e;cases e) rfl (by simp only [ah,XG,XL,V.2.1,O.fl.2.1,Xg];rfl) (lbt rfl) ono) ?_
     clear S;rintro h5 ⟨S,D⟩
     simp only [LC,ah,lay,Xi,Xj,Nat.reduceAdd]at S
     simp only [BS,LB,Nat.reduceLT,Nat.reduceEqDiff]
     refine fD (un_fn (fk (yT S.ok) fun o rc h' ⟨a,b,g⟩=>⟨a,b,c9 ⟨rfl,?_⟩⟩))
     replace S:=S.call g
     refine(dW (by decide) (by simp only [aO,ag,Nat.reduceEqDiff,reduceIte];exact cP Tryz.t47.1 Tryz.t47.2.1 (S.lds (b:=u) (o:=0) (n:=4) m0 (lbt rfl)))).2 ?_
     refine(eY (by decide)).2 (eE.2 ?_)
     rw [if_pos hd]at M
     have zE:=((N.gr A).mo D (fun c k e=>by have:=j c (.inr k);omega)).gr g
     have zA:=((M.gr A).mo D (fun c k e=>by have:=j c (.inl k);omega)).gr g
     have zB:=((ak.gr A).mo D (fun c k e=>by have:=nB c k;omega)).gr g
     exact⟨S.gr,_,_,_,_,_,rfl,fun x I=>(by rcases I with h|h|h;(have:=j x (.inl h);omega);(have:=nB x h;omega);(have:=j x (.inr h);omega)),.inr ⟨y,τ,he,zE,.inr ⟨hd,rfl,rfl,zA,zB⟩⟩⟩
   . have C: ¬(τ.dist:Int)<72057594037927936:=by omega
     simp only [decide_false,C]
     refine wV (need_no S.ok) ?_
     rintro x rc h4 ⟨rfl,A⟩
     replace S:=S.call A
     simp only [BS]
     refine im (un_fn_pan (fk (trun1_yes S.ok (S.row (b:=u) m0) rfl) fun o rc h' ⟨a,e,f,R⟩=>⟨a,_,_,e,c9 ?_⟩))
     have gz:Gr h0 h':=(S.fr.trans f (fun i hi=>.inr (by subst hi;exact H)):Mo NoM h0 h').gr
     simp only [if_true]
     refine(dW (by decide) (by simp only [aO,ag,Nat.reduceEqDiff,reduceIte];exact cP Tryz.t47.1 Tryz.t47.2.1 (R.load (o:=0) (n:=4) (lbt rfl)))).2 ?_
     refine(eY (by decide)).2 (eE.2 ?_)
     have zE:=(N.gr A).mo f (fun c k e=>by have:=j c (.inr k);omega)
     exact⟨gz,_,_,_,_,_,rfl,fun x I=>(by rcases I with h|h|h;exact h.elim;exact h.elim;(have:=j x (.inr h);omega)),.inr ⟨y,τ,he,zE,.inl ⟨by omega,rfl,rfl,rfl,rfl⟩⟩⟩

def Tryz.Fy:=aj t1<|aj t2<|aj t3<|aj t4<|aj t5<|aj t6<|aj Z0<|aj t32<|aj t33<|aj Z2<|aj t189<|aj Z1<|t240
theorem wnode_ok{h0:Hp}(a:h0.t.Sized h0.n){p:Value}{γ:Gra}{b:Nat}(c:bI h0 b p γ){v:Nat}(f:v<γ.nodes):bz zM 74 [p,.int .i64 (v:Nat)] h0 (.bool true):=by
 have S:=Si a
 have d:(0:Int)<=(v:Int):=by omega
 have e:(v:Int)<(γ.nodes:Int):=by omega
 refine ab (n:=13) (rs:=[.tmp 4]) rfl Tryz.e74 rfl rfl rfl (lbt rfl) ?_
 simp only [BS,LB,Nat.reduceLT,Nat.reduceEqDiff,d]
 refine am (dt S.ok c) ?_
 intro h g
 simp only [BS,LB,ac,Nat.reduceLT,Nat.reduceEqDiff,e]
 exact g
theorem wsteps_ok{h0:Hp}(j:h0.t.Sized h0.n){g s:Nat}{f:Value}(k:Fl f):Ret zM 75 [ptrTo g,.int .i64 (s:Nat),f] h0 fun r h'=>Gr h0 h'/\ ∃a b4 b5,r=.func (.func 154) #[] #[ptrTo b5,ptrTo a,ptrTo b4]/\h0.n<=a/\h0.n<=b4/\h0.n<=b5/\b4≠a/\b4≠b5/\h'.load a 0 1=some [ptrTo g]/\Row h' b4 [.int .i64 (s:Nat)] 1/\h'.load b5 0 1=some [f]:=by
 have S:=Si j
 refine ab (n:=8) (rs:=[.tmp 6]) rfl Tryz.e75 rfl rfl rfl (lbt rfl) ?_
 simp only [BS,Nat.reduceLT]
 refine ae (cK (by exact dz)) S ?_;clear S;intro h a S b
 simp only [BS,Nat.reduceLT,Nat.reduceEqDiff,if_false]
 refine ae (cK (by exact aY)) S ?_;clear S;intro h b4 S c
 simp only [BS,Nat.reduceLT,Nat.reduceEqDiff,if_false]
 refine ae (cK (by assumption)) S ?_;clear S;intro h b5 S d
 simp only [BS,LB,ac,Nat.reduceLT,Nat.reduceEqDiff]
 have i:=S.apart
 exact⟨S.gr,a,b4,b5,rfl,b,c,d,fun e=>(by subst e;simp [keys]at i),fun e=>(by subst e;simp [keys]at i),S.ld m2 rfl,S.row m1,S.ld m0 rfl⟩
theorem steps_it{hq h0:Hp}(u:hq.t.Sized hq.n)(I:Gr hq h0){γ:Gra}{nb P:Nat}(hn:bI hq nb (ptrTo P) γ){K:Value}{d:List Nat}{s t w:Nat}(L:au hq 1 cB K d)(hp:jP γ.arcs s d t w)(hl:d.length<=1000){q b4 b5:Nat}
 (e3:h0.load q 0 1=some [ptrTo P]) (e4:Row h0 b4 [.int .i64 (s:Nat)] 1) (e5:h0.load b5 0 1=some [K]) (d3:b4≠q) (d5:b4≠b5) (dq:hq.n<=b4):
 IterW zM 154 [ptrTo b5,ptrTo q,ptrTo b4] h0 (fun c=>c=b5\/c=q\/c<hq.n) (· =b4) (d.map fun(a:Nat)=>[.agg ⟨ct (γ.arcs.getD a default)⟩,.bool true]):=by
 intro lb J Z hz Y hW h F g l y z
 have m:=I.ok
 obtain⟨p1,p2,p3⟩:=hp.at
 have f:Row h b4 [.int .i64 (s:Nat)] 1:=Row.of_get (l b4 rfl) e4
 have q5:=g.load m e5 (.inl rfl)
 have fI:=L.fl
 refine enter (n:=35) (rs:=[]) rfl Tryz.e154 rfl rfl rfl (lbt rfl) ?_
 simp only [BS,LB,Nat.reduceLT,Fy,q5,L.lenq]
 refine bL (fun(i:Nat) p h=>i<=d.length/\ ∃F,ItS h0 (fun c=>c=b5\/c=q\/c<hq.n) h F/\b4∉F/\J i h F/\Row h b4 [.int .i64 (jV γ.arcs s d i:Nat)] 1/\p 0=.func (.yield lb) #[] #[]/\p 2=ptrTo q/\p 3=ptrTo b4/\p 9=K/\p 10=.int .i64 (d.length:Nat)/\p 11=.int .i64 i) (fun i=>d.length-i) ?_ 0 _ _ ?_
 . clear q5 f z y l g F h
   intro i ih p h ⟨hi,F,g,y,z,f,r0,r2,r3,r9,r10,r11⟩
   have wi:an .i64 ((i:Int)+1)=((i+1:Nat):Int):=by rw [wrap64]<;>omega
   by_cases hlt:i<d.length
   . obtain⟨M,j⟩:=p1 i hlt
     have ea:d.getD i 0=d[i]:=by rw [zN,Xa hlt];rfl
     have Q:jV γ.arcs s d (i+1)=(γ.arcs.getD d[i] default).t:=by
      unfold jV
      rw [if_neg (by omega),XP,ea]
     have R:(d.map fun(a:Nat)=>[Value.agg ⟨ct (γ.arcs.getD a default)⟩,.bool true])[i]? =some [.agg ⟨ct (γ.arcs.getD d[i] default)⟩,.bool true]:=by rw [XC,Xa hlt];rfl
     rw [ea]at M j
     obtain⟨a,T⟩: ∃a,d[i]=a:=⟨_,rfl⟩
     have U:au h 1 cB K d:=g.sl m (L.gr I) (fun b h=>.inr (.inr (L.lt u h)))
     obtain⟨c,o,x0,N⟩:=U.ix (kd:=.i64) fj hlt
     rw [T]at N M j Q R
     replace N:h.load c o 1=some [.int .i64 (a:Nat)]:=N
     have q3:=g.load m e3 (.inr (.inl rfl))
     have q4:=f.load1 (o:=0) rfl
     have nt:bI h nb (ptrTo P) γ:=hn.keep u (g.keep (Gr.keep I) I.n (fun c hc=>.inr (.inr hc)))
     have S:=Si g.ok
     have ga:γ.arcs[a]=γ.arcs.getD a default:=by simp [zN,M]
     have al:=f.lt g.ok
     simp only [BS,LB,Nat.reduceLT,Nat.reduceEqDiff,Fy,r2,r9,r10,r11,aK,hlt,x0,N,q3]
     refine step_ret (mZ S.ok nt M) ?_
     rintro rv h ⟨V,rfl⟩
     replace S:=S.call V
     rw [ga]
     generalize hA:γ.arcs.getD a default=A at j Q R
     have B:(A.s:Int)=(jV γ.arcs s d i:Int):=by rw [j]
     have W:(d.map fun(a:Nat)=>[Value.agg ⟨ct (γ.arcs.getD a default)⟩,.bool true])[i]? =some [.agg ⟨[.int .i64 (jV γ.arcs s d i:Nat),.int .i64 A.t,.int .i64 A.w]⟩,.bool true]:=by rw [R,<-j];rfl
     simp only [BS,LB,Nat.reduceLT,Nat.reduceEqDiff,Fy,ct]
     refine ae aA S ?_;clear S;intro h C S ax
     simp only [BS,LB,Nat.reduceLT,Nat.reduceEqDiff]
     refine az (S.store (i:=0) rfl ?_ ?_ rfl rfl ?_ ono) ?_
     . exact(by exact Tryz.t99.2.1)
     . exact(by intro x e;cases e)
     . exact lbt rfl
     clear S;rintro h ⟨S,mo⟩;clear mo;simp only [LC,ah,lay,Xi,Xj,Nat.reduceAdd]at S
     have sA:=g.gr S.gr
     have jA:=Y.gr _ _ _ _ z S.gr
     have k:=f.gr S.gr
     have X:=k.load1 (o:=0) rfl
     have R7:=S.row (b:=C) m0
     have n7:C∉F:=fun D=>by have:=g.lt _ D;have:=V.n;omega
     have k7:=R7.lt S.ok
     have d7:C≠b4:=fun e=>by have:=V.n;omega
     simp only [BS,LB,Nat.reduceLT,Nat.reduceEqDiff,Fy,r0,r3,X,B,Xs,Xl,Xx,S.ld (b:=C) (o:=0) m0 rfl,S.lds (b:=C) (o:=0) (n:=3) m0 (lbt rfl)]
     refine gu Y sA jA (i:=i) W ?_ ?_ ?_
     . intro O F3 E r f3 ad
       have G:Row O b4 [.int .i64 (jV γ.arcs s d i:Nat)] 1:=f3.has (o:=.row _ 1) k y
       have af:=f3.has (o:=.row _ 1) R7 n7
       have ai:b4∉F3:=fun D=>(ad b4 D).elim y (fun h=>by have:=S.fr.n;omega)
       have ak:=Row.load1 (o:=1) af rfl
       have S:=St.init1 r.ok (o:=.row _ 1) G
       simp only [BS,LB,Nat.reduceLT,Nat.reduceEqDiff,Fy,r3,ak]
       refine az (aC S (i:=0) rfl Tryz.t3.2.2.1 aY (Xc (lbt rfl)) ono) ?_
       clear S;rintro h4 ⟨S,_⟩
       simp only [LC]at S
       have H:=S.fr
       simp only [BS,LB,Nat.reduceLT,Nat.reduceEqDiff,r11,wi]
       refine ih (i+1) _ _ (by omega) ⟨by omega,F3,?_,ai,hW _ _ _ _ E H,by rw [Q];exact S.row m0,by simp [aa,r0],by simp [aa,r2,ag],by simp [aa,r3,ag],by simp [aa,r9],by simp [aa,r10],by simp [aa]⟩
       exact⟨H.ok,Xb r.n H.n,fun b l hd=>(H.get b (Xt l r.n) (by rcases hd with h|h|h;exact fun e=>d5 (by omega);exact fun e=>d3 (by omega);exact fun e=>by omega)).trans (r.data b l hd),r.apart,fun b l=>Xt (r.lt b l) H.n⟩
     . intro O E _
       simp only [BS,LB,Nat.reduceLT,Nat.reduceEqDiff]
       exact jb rfl ⟨rfl,.inr (.inl ⟨_,rfl,E⟩)⟩
     . intro v O E
       exact absurd E (hz v O)
   . simp only [BS,LB,Nat.reduceLT,r10,r11,aK,hlt]
     have:i=d.length:=by omega
     subst this
     exact dP (c9 ⟨rfl,_,rfl,rfl,.inl ⟨_,F,rfl,by rw [XM];exact z⟩⟩)
 . exact⟨Xf _,F,g,fun D=>y b4 D rfl,z,f,by simp [aa,cD],by simp [aa,cD,ag],by simp [aa,cD,ag],by simp [aa],by simp [aa],by simp [aa]⟩
def Tryz.Fs:=aj t1<|aj t2<|aj t3<|aj t4<|aj t5<|aj t6<|aj Z3<|aj Z4<|aj t9<|aj t10<|aj t11<|aj t12<|aj Z12<|aj t22<|aj t23<|aj Z0<|aj t32<|aj t33<|aj Z2<|aj t147<|aj t189<|Z1
theorem xX{h0:Hp}(U:h0.t.Sized h0.n){γ:Gra}(G:Good γ){nb V:Nat}(W:bI h0 nb (ptrTo V) γ){Y:Value}{d:List Nat}{s t w:Nat}(hs:s<γ.nodes)(Z:au h0 1 cB Y d)(hl:d.length<=1000){u:Nat}(hp:jP γ.arcs s d u w)(hw:u=t\/(u≠t/\w=0)):
 Ret zM 22 [ptrTo V,.int .i64 (s:Nat),.int .i64 (t:Nat),Y] h0 fun r h'=>Gr h0 h'/\r=.tuple #[.int .i64 (w:Nat),.bool (decide (u=t))]:=by
 have S:=Si U
 have fI:=Z.fl
 obtain⟨p1,p2,p3⟩:=hp.at
 refine ab (n:=40) (rs:=[.cell 8 2,.tmp 9]) rfl Tryz.e22 rfl rfl rfl (lbt rfl) ?_
 simp only [BS,Fs]
 refine ae aA S ?_;clear S;intro h j S ad
 simp only [BS,LB,Nat.reduceLT,Nat.reduceEqDiff]
 refine am (wnode_ok S.ok (W.gr S.gr) hs) ?_
 intro h g;replace S:=S.call g;clear g
 simp only [BS,LB,Nat.reduceLT,Nat.reduceEqDiff,Fs]
 refine ae aA S ?_;clear S;intro h f S H
 simp only [BS,LB,Nat.reduceLT,Nat.reduceEqDiff]
 refine az (aC S (i:=0) rfl Tryz.t3.2.2.1 aY (Xc (lbt rfl)) ono) ?_
 clear S;rintro h ⟨S,_⟩
 simp only [LC]at S
 simp only [BS,LB,Nat.reduceLT,Nat.reduceEqDiff,run_label]
 have k0:=S.fr.n
 refine step_ret (wsteps_ok S.ok fI) ?_
 rintro r hA ⟨g,b3,I,b5,rfl,n3,n4,n5,d3,d5,y3,y4,y5⟩
 have k8:=(S.row (b:=j) m1).lt S.ok
 have ai:=(S.row (b:=f) m0).lt S.ok
 replace S:=S.call g
 have it:=steps_it U S.gr W Z hp hl y3 y4 y5 d3 d5 (by omega)
 simp only [BS]
 refine kQ S (g:=154) (a:=#[]) (b:=#[ptrTo b5,ptrTo b3,ptrTo I]) (by simp [cb,aa,ag]) rfl rfl ?_
 intro h2 v z B ak al J
 have af:f≠I:=by omega
 have ax:j≠I:=by omega
 obtain⟨X,hX,B⟩: ∃X:gW,X=_/\St NoM h0 h2 [(z,.loop X),(v,.dfr),(f,.row [.int .i64 (s:Nat)] 1),(j,.row [.int .i64 0] 1)] []:=⟨_,rfl,B⟩
 have z0:jV γ.arcs s d 0=s:=rfl
 have z1:sumA γ.arcs d 0=0:=rfl
 have K:=y4.lt S.ok
 have hJ:Yld zM z (fun k h' F=>St NoM h0 h' [(z,.loop X),(v,.dfr),(f,.row [.int .i64 (jV γ.arcs s d k:Nat)] 1),(j,.row [.int .i64 (sumA γ.arcs d k:Nat)] 1)] []/\k<=d.length/\sumA γ.arcs d k<=k*2147483647/\F=[z,v,f,j]) (fun _ _=>False) (d.map fun(a:Nat)=>[.agg ⟨ct (γ.arcs.getD a default)⟩,.bool true]):=by
  refine⟨?_,?_,fun _ _ h=>h.elim,?_⟩
  . rintro i h F ⟨S,_,_,rfl⟩;exact⟨S.ok,fun b l=>S.key_lt (by simpa [keys]using l)⟩
  . rintro i h F h' ⟨S,a,b,rfl⟩ gg;exact⟨S.call gg,a,b,rfl⟩
  . rintro i x hR F M ⟨S,a,l,rfl⟩
    have m:i<d.length:=by
     have:=(List.getElem?_eq_some_iff.1 M).1
     simpa using this
    rw [XC,Xa m]at M
    cases M
    obtain⟨N,ay⟩:=p1 i m
    have ea:d.getD i 0=d[i]:=by rw [zN,Xa m];rfl
    have en:jV γ.arcs s d (i+1)=(γ.arcs.getD d[i] default).t:=by
     unfold jV
     rw [if_neg (by omega),XP,ea]
    have p:=sumA_succ (A:=γ.arcs) m
    rw [ea]at p N
    have aL:(γ.arcs.getD d[i] default).w<=2147483647:=by
     have:γ.arcs.getD d[i] default∈γ.arcs:=by rw [zN,Xa N];exact Xq N
     exact(G.arcs _ this).2.2
    have ws:an .i64 ((sumA γ.arcs d i:Int)+((γ.arcs.getD d[i] default).w:Int))=((sumA γ.arcs d (i+1):Nat):Int):=by rw [p,wrap64]<;>omega
    subst hX
    refine kU (S.get m0) (by rw [Tryz.e22];rfl) rfl ?_
    have S0:=S
    replace S:=S.base
    simp only [BS,Fs,ct]
    refine ae aA S ?_;clear S;intro h C S O
    simp only [BS,LB,Nat.reduceLT,Nat.reduceEqDiff]
    refine az (S.store (i:=0) rfl ?_ ?_ rfl rfl ?_ ono) ?_
    . exact(by exact Tryz.t99.2.1)
    . exact(by intro x e;cases e)
    . exact lbt rfl
    clear S;rintro h ⟨S,P⟩;clear P;simp only [LC,ah,lay,Xi,Xj,Nat.reduceAdd]at S
    simp only [BS,LB,Nat.reduceLT,Nat.reduceEqDiff]
    refine jQ S (i:=1) rfl rfl rfl rfl rfl ?_
    clear S;intro h S
    simp only [LC]at S
    simp only [BS,LB,Nat.reduceLT,Nat.reduceEqDiff,Fs,ws,S.ld (b:=j) (o:=0) m4 rfl,S.ld (b:=C) (o:=2) m0 rfl]
    refine az (aC S (i:=4) rfl Tryz.t2.2.2.1 aY (Xc (lbt rfl)) ono) ?_
    clear S;rintro h ⟨S,_⟩
    simp only [LC]at S
    simp only [BS,LB,Nat.reduceLT,Nat.reduceEqDiff,Fs,S.ld (b:=C) (o:=1) m0 rfl]
    refine az (aC S (i:=3) rfl Tryz.t3.2.2.1 aY (Xc (lbt rfl)) ono) ?_
    clear S;rintro h ⟨S,_⟩
    simp only [LC]at S
    simp only [BS]
    refine gT S (i:=1) rfl ?_
    clear S;intro h S
    simp only [LC]at S
    rw [<-en]at S
    refine .inl ⟨rfl,_,⟨S0.rebase S.drop1,by omega,by omega,rfl⟩,?_,fun c D=>.inl D⟩
    have:=S.fr
    simp only [keys,XQ,XV,XB,Xe]at this
    exact this
 refine fk (it z _ _ (fun _ _ h=>h) hJ ?_ h2 [z,v,f,j] ?_ (fun b l=>?_) (fun b l=>?_) ⟨by rw [z0,z1];exact B,Xf _,by rw [z1];exact Xf _,rfl⟩) fun o rc h' y=>mS y ?_
 . rintro i h F h' ⟨T,a,b,rfl⟩ P
   refine⟨T.step P (fun c D=>.inr (by subst D;omega)) (fun c D e=>?_),a,b,rfl⟩
   subst e
   simp only [keys,XQ,XV,XB,Xe,XR,XJ,or_false]at D
   omega
 . refine⟨B.ok,J.n,fun b l _=>J.get b l,fun b l h=>?_,fun b l=>B.key_lt (by simpa [keys]using l)⟩
   simp only [XR,XJ,or_false]at l
   rcases l with rfl|rfl|rfl|rfl
   . omega
   . omega
   . rcases h.2 with e|e|e<;>omega
   . rcases h.2 with e|e|e<;>omega
 . subst l
   exact J.get _ K
 . intro e
   subst e
   simp only [XR,XJ,or_false]at l
   omega
 . rintro F ⟨T,_,_,rfl⟩
   rw [XM]at T
   rw [p2,p3]at T
   subst hX
   refine⟨_,T.get m0,Nat.zero_ne_one,?_⟩
   replace T:=T.dead
   have S:=T
   have c0: ¬(u:Int)<0:=by omega
   have Q: ¬(t:Int)<0:=by omega
   show Run _ _ _ _ _ _ _ _
   by_cases q:u=t
   . have R:(u:Int)=(t:Int):=by omega
     simp only [BS,LB,Nat.reduceLT,Nat.reduceEqDiff,Fs,Q,R,S.ld (b:=f) (o:=0) m1 rfl,S.ld (b:=j) (o:=0) m2 rfl]
     refine az (aC T (i:=2) rfl Tryz.t2.2.2.1 aY (Xc (lbt rfl)) ono) ?_
     clear S;rintro h3 ⟨S,_⟩
     simp only [LC]at S
     simp only [BS]
     refine fD (kK [v] _ (L:=[(f,_),(j,_)]) S.base fun h4 E=>?_)
     refine⟨rfl,(dW (by decide) (by simp only [aO,ag,Nat.reduceEqDiff,reduceIte];exact qk Tryz.t2.2.1 (E.ld (b:=j) (o:=0) m1 rfl))).2 ((eY (by decide)).2 (eE.2 ⟨(S.rebase E).gr,?_⟩))⟩
     rw [decide_eq_true q];rfl
   . have R: ¬(u:Int)=(t:Int):=by omega
     have w0:w=0:=(hw.resolve_left q).2
     subst w0
     simp only [BS,LB,Nat.reduceLT,Nat.reduceEqDiff,Xd,Fs,c0,R,S.ld (b:=f) (o:=0) m1 rfl,S.ld (b:=j) (o:=0) m2 rfl]
     refine az (aC T (i:=2) rfl Tryz.t2.2.2.1 aY (Xc (lbt rfl)) ono) ?_
     clear S;rintro h3 ⟨S,_⟩
     simp only [LC]at S
     simp only [BS]
     refine fD (kK [v] _ (L:=[(f,_),(j,_)]) S.base fun h4 E=>?_)
     refine⟨rfl,(dW (by decide) (by simp only [aO,ag,Nat.reduceEqDiff,reduceIte];exact qk Tryz.t2.2.1 (E.ld (b:=j) (o:=0) m1 rfl))).2 ((eY (by decide)).2 (eE.2 ⟨(S.rebase E).gr,?_⟩))⟩
     rw [decide_eq_false q];rfl
def Tryz.F0d:=aj t1<|aj t2<|aj t3<|aj t4<|aj t5<|aj t22<|aj t23<|aj t24<|aj t26<|aj r26<|aj Z18<|aj t29<|aj Z0<|Z2
def Tryz.FY:=aj t1<|aj t2<|aj t3<|aj t4<|aj Z18<|aj Z0<|aj t32<|aj t33<|aj t45<|aj t47<|aj r47<|aj t189<|Z1
theorem AX{h0:Hp}(a:h0.t.Sized h0.n):bz zM 14 [] h0 (.bool true):=ret_orc rfl ⟨rfl,Gr.refl a⟩
theorem A8{h0:Hp}(y:h0.t.Sized h0.n){j k l m p s:Value}{f t:Nat}{a:Int}{γ:Gra}(E:Fl j)(F:Fl k)(G:Fl l)(H:Fl m)(I:Fl p)(J:Fl s)(hf:f<=255)(K:t<=255)(L:1<=γ.nodes):
 Ret zM 24 [.agg ⟨[j,k,.int .u8 (f:Nat),.int .u8 (t:Nat),.int .i8 a,l]⟩,iF γ m p s] h0 fun r h'=>Gr h0 h'/\r=.agg ⟨[.int .i64 3,.int .i64 ((f%γ.nodes:Nat):Int),.int .i64 ((t%γ.nodes:Nat):Int),.int .i64 (an .i64 a)]⟩:=by
 have S:=Si y
 have z:an .i64 (f:Int)=(f:Int):=by rw [wrap64]<;>omega
 have A:an .i64 (t:Int)=(t:Int):=by rw [wrap64]<;>omega
 have B:(γ.nodes:Int)≠0:=by omega
 have c:(f:Int).tmod (γ.nodes:Int)=((f%γ.nodes:Nat):Int):=by rw [XS (by omega)];exact(Int.natCast_emod _ _).symm
 have d:(t:Int).tmod (γ.nodes:Int)=((t%γ.nodes:Nat):Int):=by rw [XS (by omega)];exact(Int.natCast_emod _ _).symm
 refine ab (n:=21) (rs:=[.cell 4 28]) rfl Tryz.e24 rfl rfl rfl (lbt rfl) ?_
 simp only [BS,Nat.reduceLT,iF]
 refine ae (aS (by intro x e;cases e)) S ?_;clear S;intro h g S u;simp only [ah]at S
 simp only [BS,Nat.reduceLT,Nat.reduceEqDiff,if_false]
 refine ae (aS (by intro x e;cases e)) S ?_;clear S;intro h C S v;simp only [ah]at S
 simp only [BS,F0d]
 refine ae aA S ?_;clear S;intro h D S w
 simp only [BS]
 refine aB (aG rfl) (q:=0) (ps:=[]) (by kernel_rfl) ?_
 simp only [BS,LB,jy,cv,jx,cls,Nat.reduceLT,Nat.reduceEqDiff,Nat.reduceAdd,Nat.reducePow,Nat.reduceDiv,Nat.reduceMod,Nat.reduceLeDiff,F0d,z,A,mO B,c,d,S.ld (b:=g) (o:=2) m2 rfl,S.ld (b:=g) (o:=3) m2 rfl,S.ld (b:=g) (o:=4) m2 rfl,S.ld (b:=C) (o:=0) m1 rfl]
 refine dS (S.store (i:=0) rfl Tryz.t28.2.1 (by intro x e;cases e) rfl rfl (lbt rfl) ono) ?_
 clear S;rintro M ⟨S,N⟩
 simp only [LC,ah,lay,Xi,Xj,Nat.reduceAdd]at S
 simp only [BS,LB,ac,Nat.reduceAdd]
 refine(dW (by decide) (by simp only [aO,ag,Nat.reduceEqDiff,reduceIte];exact cP Tryz.t28.1 Tryz.t28.2.1 (S.lds (b:=D) (o:=0) (n:=4) m0 (lbt rfl)))).2 (eE.2 ?_)
 exact⟨S.gr,rfl⟩
theorem toR_len{γ:Gra}{l:List Int}{i:Nat}:(toR γ l i).length=γ.nodes:=by unfold toR;exact yW _ _ _
theorem frR_len{γ:Gra}{l:List Int}{i:Nat}:(frR γ l i).length=γ.nodes:=by unfold frR;exact yW _ _ _
theorem walksE_ok{h0:Hp}(l:h0.t.Sized h0.n){pn d f g i:Value}(p:Fl d)(q:Fl f)(r:Fl g)(s:Fl i){c:Int}(m:c≠0):bz zM 27 [pn,.agg ⟨[d,f,g,i]⟩,ansV c 0 (.slice none 0 0) (.slice none 0 0)] h0 (.bool true):=by
 have S:=Si l
 refine ab (n:=45) (rs:=[.tmp 6]) rfl Tryz.e27 rfl rfl rfl (lbt rfl) ?_
 simp only [BS,Nat.reduceLT,ansV]
 refine ae (aS (by intro x e;cases e)) S ?_;clear S;intro h t S j;simp only [ah]at S
 simp only [BS,Nat.reduceLT,Nat.reduceEqDiff,if_false]
 refine ae (aS (by intro x e;cases e)) S ?_;clear S;intro h a S k;simp only [ah]at S
 simp only [BS,LB,ac,Nat.reduceLT,Nat.reduceEqDiff,Xd,FY,m,S.ld (b:=a) (o:=0) m0 rfl,S.ld (b:=a) (o:=1) m0 rfl,S.ld (b:=a) (o:=2) m0 rfl,S.ld (b:=a) (o:=3) m0 rfl]
 exact S.gr
theorem wJ{h0:Hp}(v:h0.t.Sized h0.n){γ:Gra}(g:Good γ){w i:Nat}(y:bI h0 w (ptrTo i) γ){j k l m:Value}{a:List Nat}{s t d:Nat}(D:Fl j)(E:Fl k)(z:s<γ.nodes)(p:au h0 1 cB l a)(F:Fl m)(A:a.length<=1000)(B:jP γ.arcs s a t d):bz zM 27 [ptrTo i,.agg ⟨[j,.int .i64 (s:Nat),.int .i64 (t:Nat),k]⟩,ansV 0 (d:Nat) l m] h0 (.bool true):=by
 have S:=Si v
 have G:=p.fl
 refine ab (n:=45) (rs:=[.tmp 6]) rfl Tryz.e27 rfl rfl rfl (lbt rfl) ?_
 simp only [BS,Nat.reduceLT,ansV]
 refine ae (aS (by intro x e;cases e)) S ?_;clear S;intro h f S q;simp only [ah]at S
 simp only [BS,Nat.reduceLT,Nat.reduceEqDiff,if_false]
 refine ae (aS (by intro x e;cases e)) S ?_;clear S;intro h c S u;simp only [ah]at S
 simp only [BS,LB,Nat.reduceLT,Nat.reduceEqDiff,FY,S.ld (b:=f) (o:=1) m1 rfl,S.ld (b:=f) (o:=2) m1 rfl,S.ld (b:=c) (o:=0) m0 rfl,S.ld (b:=c) (o:=1) m0 rfl,S.ld (b:=c) (o:=2) m0 rfl]
 refine step_ret (xX S.ok g (y.gr S.gr) z (p.gr S.gr) A B (t:=t) (.inl rfl)) ?_
 rintro r H ⟨C,rfl⟩
 replace S:=S.call C
 simp only [BS,LB,ac,Nat.reduceLT,Nat.reduceEqDiff,FY,S.ld (b:=f) (o:=1) m1 rfl,S.ld (b:=f) (o:=2) m1 rfl,S.ld (b:=c) (o:=0) m0 rfl,S.ld (b:=c) (o:=1) m0 rfl,S.ld (b:=c) (o:=2) m0 rfl]
 exact S.gr
end Go.Ab
end

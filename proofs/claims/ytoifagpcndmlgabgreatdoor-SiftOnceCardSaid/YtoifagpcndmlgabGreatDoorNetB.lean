/- Nets, cells, flags: what the functions do (part 2). -/
import Derived.Test.YtoifagpcndmlgabGreatDoorNetA
open Go.Ab.Tryz
open Go.Ab.Tryz renaming abEnv->zL,e3E->Xy,e108E->XH,e2E->XR,e260E->XU
open Nat renaming lt_of_succ_le->zM,mul_one->Xe,le_trans->Xf,zero_add->Xg,zero_mul->Xi,one_mul->Xk,le_refl->Xq,ble_eq_true_of_le->Xv,zero_le->XG,sub_self->XK,le_total->XL,le_of_lt->X2
open List renaming take->zO,drop->Xa,replicate->Xb,range->Xc,getD_eq_getElem?_getD->Xl,take_succ_eq_append_getElem->Xm,length_append->Xn,append_nil->Xo,length_set->Xp,getElem?_eq_getElem->Xr,flatMap_append->Xs,take_succ_cons->Xt,take_of_length_le->Xu,flatMap_eq_foldl->Xw,mem_of_getElem?->Xx,getElem_mem->Xz,drop_zero->XE,getElem?_map->XF,take_append_of_le_length->XI,map_cons->XJ,getElem?_cons_zero->XM,getElem?_cons_succ->XN,length_singleton->XP,take_zero->XQ,getElem?_append->XS,map_eq_flatMap->XV,getElem?_range->XW,take_replicate->XX,replicate_zero->XY,map_nil->XZ
open Int renaming cast_ofNat_Int->Xd,toNat_natCast->Xj,ofNat_eq_natCast->XT
open Bool renaming and_true->Xh
open Option renaming getD_none->XA,getD_some->XB,map_some->XC,isSome_none->XD,map_none->XO
set_option maxHeartbeats 4000000
set_option linter.defProp false
set_option linter.unusedVariables false
set_option linter.unusedSimpArgs false
section
namespace Go.Ab
open Go.Proofs
set_option maxRecDepth 10000
def Tryz.F0:=aj t1<|aj t2<|aj t3<|aj t4<|aj t5<|aj t6<|aj Z3<|aj Z4<|aj t9<|aj t10<|aj t11<|aj t12<|aj Z15<|aj Z22<|aj t15<|aj t16<|aj t17<|aj t18<|aj r18<|aj Z21<|aj t20<|aj t21<|aj t22<|aj t23<|aj t28<|aj t29<|aj Z0<|aj t65<|aj t67<|aj r67<|aj t100<|aj Z2<|aj t242<|aj t288<|aj Z19<|aj t300<|aj t302<|aj t304<|aj t305<|aj t306<|aj t307<|Z18
def ints(l:List Int):List Value:=l.flatMap (encI .i64)
theorem cu(l:List Int):(ints l).length=l.length:=by unfold ints;rw [bZ (k:=1) (fun _=>rfl)];omega
theorem ib(l m:List Int):ints (l++m)=ints l++ints m:=by unfold ints;rw [Xs]
theorem raw0_ok {h0:Hp} (ok:h0.t.Sized h0.n) {B:Nat} {V:Value} {xs:List Int} (hr:Row h0 B [V,.int .i64 ((0:Nat):Int)] 1) (P:oq h0 B V xs 0):
 Ret zL 16 [ptrTo B] h0 fun v h'=>Mo (· =B) h0 h'/\ ∃γ vx vy va,v=kB γ vx vy va/\Good γ/\γ.nodes=1+drV xs 12 0/\di h' vx vy va γ/\ ∀c,(aq vx c\/aq vy c\/aq va c)->h0.n<=c:=by
 have S:=St.init1 ok (o:=.row [V,.int .i64 ((0:Nat):Int)] 1) hr
 have b1:=hr.lt ok
 refine ab (n:=117) (rs:=[.cell 2 31]) rfl Tryz.e16 rfl rfl rfl (lbt rfl) ?_
 simp only [BS,F0]
 refine ag aw S ?_;clear S;intro h L S bL
 simp only [BS,LB,Nat.reduceLT,Nat.reduceEqDiff]
 refine step_ret (zH (n:=12) (a:=0) S.ok (S.row m1) (P.mo S.fr (by omega)) (by omega) (by omega)) ?_
 rintro v h ⟨f,r,a0,rfl,b4,b5,R,b6⟩
 replace S:=S.call1 (i:=1) rfl f (o':=.row _ _) R
 simp only [LC]at S
 have w1:an .i64 (1+(r:Int))=((1+r:Nat):Int):=by rw [wrap64]<;>omega
 simp only [BS,LB,Nat.reduceLT,Nat.reduceEqDiff,Nat.reduceAdd,F0,w1]
 refine ag aw S ?_;clear S;intro h s S bP
 simp only [BS,LB,Nat.reduceLT,Nat.reduceEqDiff]
 refine az (S.store (i:=0) rfl ?_ ?_ rfl rfl ?_ ono) ?_
 . exact(by exact Tryz.t7.2.1)
 . exact(by intro x e;cases e)
 . exact lbt rfl
 clear S;rintro h ⟨S,M⟩;clear M;simp only [LC,ah,lay,zO,Xa,Nat.reduceAdd]at S
 simp only [BS]
 replace S:=((S.nilG (k:=3)).nilG (k:=1)).nilG (k:=1)
 generalize hN:1+r=N at S
 refine aO (fun(i:Nat) g h=>i<=N/\ ∃(a:Nat) (D G:Value) (X Y:List Int),a<=1+2*i/\X.length=i/\Y.length=i/\(∀x∈X,-2147483648<=x/\x<=2147483647)/\(∀x∈Y,-2147483648<=x/\x<=2147483647)/\
  St (· =B) h0 h [(s,.row [.int .i64 N,D,G,.slice none 0 0] 1),(L,.row [.int .i64 0,.slice none 0 0,.slice none 0 0,.slice none 0 0] 1),(B,.row [V,.int .i64 a] 1)] [(D,1,ints X),(G,1,ints Y),(.slice none 0 0,3,[])]/\
  g 0=ptrTo B/\g 2=ptrTo L/\g 3=ptrTo s/\g 4=.int .i64 i) (fun i=>N-i) ?_ 0 _ _ ?_
 . clear S
   intro i T g h ⟨hi,a,D,G,X,Y,ha,lX,lY,cX,cY,S,r,y,d,r4⟩
   by_cases hlt:i<N
   . simp only [BS,LB,Nat.reduceLT,Nat.reduceEqDiff,F0,d,r4,aB,hlt,S.ld (b:=s) (o:=0) m0 rfl]
     refine au (aC rfl) (q:=32) (ps:=[(1,3)]) (by kernel_rfl) ?_
     simp only [BS,LB,cls,Nat.reduceLT,Nat.reduceEqDiff,Nat.reduceAdd,Nat.reducePow,Nat.reduceDiv,Nat.reduceMod,Nat.reduceLeDiff,F0,r,d,S.ld (b:=s) (o:=1) m0 rfl]
     refine cM (ig (n:=9) (a:=a) S.ok (S.row m2) (P.mo S.fr (by omega)) (by omega) (by omega)) ?_
     rintro v h ⟨f,r1,a1,rfl,b7,bl,R⟩
     have hl:=S.leaves (c:=s) m0 f (by omega)
     replace S:=S.call1 (i:=2) rfl f (o':=.row _ _) R
     simp only [LC]at S
     have w9:an .i64 ((r1:Int)-3)=(r1:Int)-3:=by rw [wrap64]<;>omega
     simp only [BS,LB,cls,Nat.reduceLT,Nat.reduceEqDiff,Nat.reduceAdd,Nat.reducePow,Nat.reduceDiv,Nat.reduceMod,Nat.reduceLeDiff,w9]
     refine dS (bR (by exact Tryz.t28.1) (by exact XR) (by decide) (by rfl)) S ?_;clear S;intro h W S J ad;simp only [LC,aV,bK,ah,Nat.reduceMul,Nat.reduceAdd,Xi,Xg,Xe,Xk]at S
     simp only [BS,LB,cls,Nat.reduceLT,Nat.reduceEqDiff,Nat.reduceAdd,Nat.reducePow,Nat.reduceDiv,Nat.reduceMod,Nat.reduceLeDiff]
     refine dn_v (S.grow (j:=0) (m:=1) (new:=ints [(r1:Int)-3]) rfl Tryz.t28.1 XR (by decide) Tryz.t28.2.2.2.2.2 (by simp only [aJ];rw [S.lds (b:=W) (o:=0) (n:=1*1) m0 (lbt rfl)];rfl) rfl (by decide) rfl (by rw [cu,cu];simp;omega)) ?_
     clear S
     rintro h ax S
     simp only [LC]at S
     replace S:=S.drop1
     rw [<-ib]at S
     have fX:Fl ax:=(S.gown _ m0).1.fl
     simp only [BS,LB,cls,Nat.reduceLT,Nat.reduceEqDiff,Nat.reduceAdd,Nat.reducePow,Nat.reduceDiv,Nat.reduceMod,Nat.reduceLeDiff,F0,d]
     refine dw (ay S (i:=0) rfl ?_ ?_ ?_ ono) ?_
     . exact(by simp only [F0])
     . exact(by assumption)
     . exact zM (lbt rfl)
     clear S;rintro h ⟨S,M⟩;clear M;simp only [LC,ah,lay,zO,Xa,Nat.reduceAdd]at S
     simp only [BS,Nat.reduceAdd]
     refine⟨by simp only [bg,bF,aW,bI,a9,ne_eq,not_false_eq_true,bN,ce,bA,bn,bQ,c8,aK,Nat.reduceLT,Nat.reduceEqDiff,reduceIte,Xh,d,ac,aI hl],?_⟩
     refine au (aC rfl) (q:=16) (ps:=[(1,3)]) (by kernel_rfl) ?_
     simp only [BS,LB,cls,Nat.reduceLT,Nat.reduceEqDiff,Nat.reduceAdd,Nat.reducePow,Nat.reduceDiv,Nat.reduceMod,Nat.reduceLeDiff,F0,r,d,S.ld (b:=s) (o:=2) m0 rfl]
     clear f hl R
     refine cM (ig (n:=7) (a:=a1) S.ok (S.row m2) (P.mo S.fr (by omega)) (by omega) (by omega)) ?_
     rintro v h ⟨f,H,a2,rfl,bm,bo,R⟩
     have hl:=S.leaves (c:=s) m0 f (by omega)
     replace S:=S.call1 (i:=2) rfl f (o':=.row _ _) R
     simp only [LC]at S
     simp only [BS,LB,cls,Nat.reduceLT,Nat.reduceEqDiff,Nat.reduceAdd,Nat.reducePow,Nat.reduceDiv,Nat.reduceMod,Nat.reduceLeDiff]
     refine dS (bR (by exact Tryz.t28.1) (by exact XR) (by decide) (by rfl)) S ?_;clear S;intro h W S J ad;simp only [LC,aV,bK,ah,Nat.reduceMul,Nat.reduceAdd,Xi,Xg,Xe,Xk]at S
     simp only [BS,LB,cls,Nat.reduceLT,Nat.reduceEqDiff,Nat.reduceAdd,Nat.reducePow,Nat.reduceDiv,Nat.reduceMod,Nat.reduceLeDiff]
     refine dn_v (S.grow (j:=1) (m:=1) (new:=ints [(H:Int)]) rfl Tryz.t28.1 XR (by decide) Tryz.t28.2.2.2.2.2 (by simp only [aJ];rw [S.lds (b:=W) (o:=0) (n:=1*1) m0 (lbt rfl)];rfl) rfl (by decide) rfl (by rw [cu,cu];simp;omega)) ?_
     clear S
     rintro h aL S
     simp only [LC]at S
     replace S:=S.drop1
     rw [<-ib]at S
     have fY:Fl aL:=(S.gown _ m1).1.fl
     simp only [BS,LB,cls,Nat.reduceLT,Nat.reduceEqDiff,Nat.reduceAdd,Nat.reducePow,Nat.reduceDiv,Nat.reduceMod,Nat.reduceLeDiff,F0,d]
     refine dw (ay S (i:=0) rfl ?_ ?_ ?_ ono) ?_
     . exact(by simp only [F0])
     . exact(by assumption)
     . exact zM (lbt rfl)
     clear S;rintro h ⟨S,M⟩;clear M;simp only [LC,ah,lay,zO,Xa,Nat.reduceAdd]at S
     simp only [BS,LB,Nat.reduceLT,Nat.reduceEqDiff,Nat.reduceAdd,r4]
     refine⟨by simp only [bg,bF,aW,bI,a9,ne_eq,not_false_eq_true,bN,ce,bA,bn,bQ,c8,aK,Nat.reduceLT,Nat.reduceEqDiff,reduceIte,Xh,d,ac,aI hl],?_⟩
     have w:an .i64 ((i:Int)+1)=((i+1:Nat):Int):=by rw [wrap64]<;>omega
     simp only [w]
     exact T (i+1) _ _ (by omega) ⟨by omega,a2,ax,aL,_,_,by omega,by simp [lX],by simp [lY],
      fun x F=>(List.mem_append.1 F).elim (cX x) (fun h=>by simp at h;omega),fun x F=>(List.mem_append.1 F).elim (cY x) (fun h=>by simp at h;omega),S,by simp [aa,r,ac],by simp [aa,y,ac],by simp [aa,d,ac],by simp [aa]⟩
   . have bp : i=N:=by omega
     subst bp
     simp only [BS,LB,Nat.reduceLT,Nat.reduceEqDiff,F0,r,d,r4,aB,hlt,S.ld (b:=s) (o:=0) m0 rfl]
     refine step_ret (ig (n:=9) (a:=a) S.ok (S.row m2) (P.mo S.fr (by omega)) (by omega) (by omega)) ?_
     rintro v h ⟨f,H,a1,rfl,bm,bl,R⟩
     replace S:=S.call1 (i:=2) rfl f (o':=.row _ _) R
     simp only [LC]at S
     simp only [BS,LB,Nat.reduceLT,Nat.reduceEqDiff]
     refine uE (fun g h=> ∃(X Y:List Int),X.length=i/\Y.length=i/\(∀x∈X,-2147483648<=x/\x<=2147483647)/\(∀x∈Y,-2147483648<=x/\x<=2147483647)/\
      St (· =B) h0 h [(s,.row [.int .i64 i,D,G,.slice none 0 0] 1),(L,.row [.int .i64 0,.slice none 0 0,.slice none 0 0,.slice none 0 0] 1),(B,.row [V,.int .i64 a1] 1)] [(D,1,ints X),(G,1,ints Y),(.slice none 0 0,3,[])]/\
      g 0=ptrTo B/\g 2=ptrTo L/\g 3=ptrTo s) ?_ ?_ ?_
     . intro _
       obtain⟨bX,ix,ba⟩:=S.gset (E:=zL) (t:=2) (j:=0) (i:=0) (kd:=.i64) rfl (by rw [cu];omega) Tryz.t2.2.2.1
       have bq:mN (some 1) D (.int .i64 0)=_:=ix
       simp only [BS,LB,Nat.reduceLT,Nat.reduceEqDiff,F0,d,bq,S.ld (b:=s) (o:=1) m0 rfl]
       refine az (ba _ aX) ?_
       clear S ba;intro h S
       simp only [LC]at S
       obtain⟨bY,iy,bb⟩:=S.gset (E:=zL) (t:=2) (j:=1) (i:=i-1) (kd:=.i64) rfl (by rw [cu];omega) Tryz.t2.2.2.1
       have w1:an .i64 ((i:Int)-1)=((i-1:Nat):Int):=by rw [wrap64]<;>omega
       simp only [BS,LB,Nat.reduceLT,Nat.reduceEqDiff,F0,d,w1,iy,S.ld (b:=s) (o:=0) m0 rfl,S.ld (b:=s) (o:=2) m0 rfl]
       refine az (bb _ aX) ?_
       clear S bb;intro h S
       simp only [LC]at S
       simp only [BS]
       have af: ∀(l:List Int) (j:Nat) (z:Int),(ints l).set j (.int .i64 z)=ints (l.set j z):=by
        intro l
        induction l with
        |nil=>intro j z;rfl
        | cons x l T=>
          intro j z
          cases j with
          |zero=>rfl
          |succ j=>show _::_=_::_;exact congrArg _ (T j z)
       rw [af,af]at S
       refine eC ⟨_,_,by simp [lX],by simp [lY],fun x F=>?_,fun x F=>?_,S,by simp [aa,r,ac],by simp [aa,y,ac],by simp [aa,d,ac]⟩
       . rcases li F with rfl|⟨j,_,F⟩
         . omega
         . exact cX x (Xx F)
       . rcases li F with rfl|⟨j,_,F⟩
         . omega
         . exact cY x (Xx F)
     . intro _
       simp only [BS]
       exact eC ⟨X,Y,lX,lY,cX,cY,S,by simp [aa,r,ac],by simp [aa,y,ac],by simp [aa,d,ac]⟩
     . clear S r y d r4 lX lY cX cY X Y f R
       rintro g h ⟨X,Y,lX,lY,cX,cY,S,r,y,d⟩
       have w3:an .i64 (3*(i:Int))=((3*i:Nat):Int):=by rw [wrap64]<;>omega
       have w4:an .i64 (((3*i:Nat):Int)+1)=((3*i+1:Nat):Int):=by rw [wrap64]<;>omega
       simp only [BS,LB,Nat.reduceLT,Nat.reduceEqDiff,F0,r,d,w3,w4,S.ld (b:=s) (o:=0) m0 rfl]
       refine step_ret (ig (n:=3*i+1) (a:=a1) S.ok (S.row m2) (P.mo S.fr (by omega)) (by omega) (by omega)) ?_
       rintro v h ⟨f,C,a2,rfl,br,bo,R⟩
       replace S:=S.call1 (i:=2) rfl f (o':=.row _ _) R
       simp only [LC]at S
       simp only [BS,LB,Nat.reduceLT,Nat.reduceEqDiff,r]
       refine step_ret (ig (n:=3) (a:=a2) S.ok (S.row m2) (P.mo S.fr (by omega)) (by omega) (by omega)) ?_
       rintro v h ⟨f,rr,a3,rfl,b8,cb,R⟩
       replace S:=S.call1 (i:=2) rfl f (o':=.row _ _) R
       simp only [LC]at S
       simp only [BS,LB,Nat.reduceLT,Nat.reduceEqDiff]
       generalize decide ((0:Int)<(rr:Int))=ring
       refine mS (fun g h=> ∃(a:Nat) (u:Value) (A:List Arc),a<=a3+2*i/\A.length<=i/\(∀x∈A,x.s<i/\x.t<i/\x.w<=2147483647)/\
        St (· =B) h0 h [(s,.row [.int .i64 i,D,G,u] 1),(L,.row [.int .i64 0,.slice none 0 0,.slice none 0 0,.slice none 0 0] 1),(B,.row [V,.int .i64 a] 1)] [(D,1,ints X),(G,1,ints Y),(u,3,A.flatMap cG)]/\
        g 0=ptrTo B/\g 2=ptrTo L/\g 3=ptrTo s/\g 5=.int .i64 C)
        (fun(j:Nat) g h=>j<=i/\ ∃(a:Nat) (u:Value) (A:List Arc),a<=a3+2*j/\A.length<=j/\(∀x∈A,x.s<i/\x.t<i/\x.w<=2147483647)/\
        St (· =B) h0 h [(s,.row [.int .i64 i,D,G,u] 1),(L,.row [.int .i64 0,.slice none 0 0,.slice none 0 0,.slice none 0 0] 1),(B,.row [V,.int .i64 a] 1)] [(D,1,ints X),(G,1,ints Y),(u,3,A.flatMap cG)]/\
        g 0=ptrTo B/\g 2=ptrTo L/\g 3=ptrTo s/\g 5=.int .i64 C/\g 6=.bool ring/\g 7=.int .i64 j) (fun j=>i-j) ?_ ?_ 0 ⟨by omega,a3,_,[],by omega,by simp,by simp,S,by simp [aa,r,ac],by simp [aa,y,ac],by simp [aa,d,ac],by simp [aa],by simp [aa],by simp [aa]⟩
       . clear S r y d f R T
         intro j T g h ⟨hj,a,u,A,ha,lA,O,S,r,y,d,H,r6,r7⟩
         have K:(A.flatMap cG).length=A.length*3:=bZ iA A
         by_cases hlt:j<i/\ring=true
         . obtain⟨hlt,I⟩:=hlt
           subst I
           have w1:an .i64 ((j:Int)+1)=((j+1:Nat):Int):=by rw [wrap64]<;>omega
           have ci:(i:Int)≠0:=by omega
           have tm:((j+1:Nat):Int).tmod (i:Int)=(((j+1)%i:Nat):Int):=by rw [Int.tmod_eq_emod_of_nonneg (by omega)];exact(Int.natCast_emod _ _).symm
           simp only [BS,LB,Nat.reduceLT,Nat.reduceEqDiff,F0,d,r6,r7,aB,hlt,S.ld (b:=s) (o:=0) m0 rfl]
           refine au (aC rfl) (q:=2048) (ps:=[(6,9),(1,9)]) (by kernel_rfl) ?_
           simp only [BS,LB,cls,Nat.reduceLT,Nat.reduceEqDiff,Nat.reduceAdd,Nat.reducePow,Nat.reduceDiv,Nat.reduceMod,Nat.reduceLeDiff,F0,r,d,r7,w1,kK ci,tm,S.ld (b:=s) (o:=0) m0 rfl,S.ld (b:=s) (o:=3) m0 rfl]
           refine cM (xd (a:=a) S.ok (S.row m2) (P.mo S.fr (by omega)) (by omega)) ?_
           rintro v h ⟨f,U,a4,rfl,Z,bt,R⟩
           have hl:=S.leaves (c:=s) m0 f (by omega)
           replace S:=S.call1 (i:=2) rfl f (o':=.row _ _) R
           simp only [LC]at S
           simp only [BS,LB,cls,Nat.reduceLT,Nat.reduceEqDiff,Nat.reduceAdd,Nat.reducePow,Nat.reduceDiv,Nat.reduceMod,Nat.reduceLeDiff,F0]
           refine dS (bR (by exact Tryz.t29.1) (by exact XH) (by decide) (by rfl)) S ?_;clear S;intro h W S J ad;simp only [LC,aV,bK,ah,Nat.reduceMul,Nat.reduceAdd,Xi,Xg,Xe,Xk]at S
           simp only [BS,LB,cls,Nat.reduceLT,Nat.reduceEqDiff,Nat.reduceAdd,Nat.reducePow,Nat.reduceDiv,Nat.reduceMod,Nat.reduceLeDiff]
           refine dn_v (S.grow (j:=2) (m:=1) (new:=cG ⟨j,(j+1)%i,U⟩) rfl Tryz.t29.1 XH (by decide) Tryz.t29.2.2.2.2.2 (by simp only [aJ];rw [S.lds (b:=W) (o:=0) (n:=1*3) m0 (lbt rfl)];rfl) rfl (by decide) rfl (by rw [K,iA];omega)) ?_
           clear S
           rintro h Q S
           simp only [LC]at S
           replace S:=S.drop1
           have fA:Fl Q:=(S.gown _ m2).1.fl
           simp only [BS,LB,cls,Nat.reduceLT,Nat.reduceEqDiff,Nat.reduceAdd,Nat.reducePow,Nat.reduceDiv,Nat.reduceMod,Nat.reduceLeDiff,F0,d]
           refine dw (ay S (i:=0) rfl ?_ ?_ ?_ ono) ?_
           . exact(by simp only [F0])
           . exact(by assumption)
           . exact zM (lbt rfl)
           clear S;rintro h ⟨S,M⟩;clear M;simp only [LC,ah,lay,zO,Xa,Nat.reduceAdd]at S
           simp only [BS,LB,Nat.reduceLT,Nat.reduceEqDiff,Nat.reduceAdd,r7]
           refine⟨by simp only [bg,bF,aW,bI,a9,ne_eq,not_false_eq_true,bN,ce,bA,bn,bQ,c8,aK,Nat.reduceLT,Nat.reduceEqDiff,reduceIte,Xh,d,ac,aI hl],?_⟩
           simp only [w1]
           have bc:(j+1)%i<i:=Nat.mod_lt _ (by omega)
           exact T (j+1) _ _ (by omega) ⟨by omega,a4,Q,A++[⟨j,(j+1)%i,U⟩],by omega,by simp;omega,
            fun x F=>(List.mem_append.1 F).elim (O x) (fun h=>by simp at h;subst h;exact⟨hlt,bc,Z⟩),by rw [Xs];simpa using S,by simp [aa,r,ac],by simp [aa,y,ac],by simp [aa,d,ac],by simp [aa,H],by simp [aa,r6],by simp [aa]⟩
         . by_cases ai:j<i
           . have I:ring=false:=by cases ring with
              |false=>rfl
              |true=>exact absurd ⟨ai,rfl⟩ hlt
             subst I
             simp only [BS,LB,Nat.reduceLT,Nat.reduceEqDiff,F0,d,r6,r7,aB,ai,S.ld (b:=s) (o:=0) m0 rfl]
             exact eC ⟨a,u,A,by omega,by omega,O,S,by simp [aa,r,ac],by simp [aa,y,ac],by simp [aa,d,ac],by simp [aa,H]⟩
           . simp only [BS,LB,Nat.reduceLT,Nat.reduceEqDiff,F0,d,r7,aB,ai,S.ld (b:=s) (o:=0) m0 rfl]
             exact eC ⟨a,u,A,by omega,by omega,O,S,by simp [aa,r,ac],by simp [aa,y,ac],by simp [aa,d,ac],by simp [aa,H]⟩
       . clear S r y d f R T
         rintro g h ⟨a,u,A,ha,lA,O,S,r,y,d,H⟩
         simp only [BS]
         refine mS (fun g h=> ∃(a:Nat) (u:Value) (A:List Arc),A.length<=100/\(∀x∈A,x.s<i/\x.t<i/\x.w<=2147483647)/\
          St (· =B) h0 h [(s,.row [.int .i64 i,D,G,u] 1),(L,.row [.int .i64 0,.slice none 0 0,.slice none 0 0,.slice none 0 0] 1),(B,.row [V,.int .i64 a] 1)] [(D,1,ints X),(G,1,ints Y),(u,3,A.flatMap cG)]/\
          g 0=ptrTo B/\g 2=ptrTo L/\g 3=ptrTo s)
          (fun(k:Nat) g h=>k<=C/\ ∃(a:Nat) (u:Value) (A:List Arc),a<=a3+2*i+6*k/\A.length<=i+2*k/\(∀x∈A,x.s<i/\x.t<i/\x.w<=2147483647)/\
          St (· =B) h0 h [(s,.row [.int .i64 i,D,G,u] 1),(L,.row [.int .i64 0,.slice none 0 0,.slice none 0 0,.slice none 0 0] 1),(B,.row [V,.int .i64 a] 1)] [(D,1,ints X),(G,1,ints Y),(u,3,A.flatMap cG)]/\
          g 0=ptrTo B/\g 2=ptrTo L/\g 3=ptrTo s/\g 5=.int .i64 C/\g 8=.int .i64 k) (fun k=>C-k) ?_ ?_ 0 ⟨by omega,a,u,A,by omega,by omega,O,S,by simp [aa,r,ac],by simp [aa,y,ac],by simp [aa,d,ac],by simp [aa,H],by simp [aa]⟩
         . clear S r y d H ha lA O a u A
           intro k T g h ⟨hk,a,u,A,ha,lA,O,S,r,y,d,H,r8⟩
           have K:(A.flatMap cG).length=A.length*3:=bZ iA A
           by_cases hlt:k<C
           . simp only [BS,LB,Nat.reduceLT,Nat.reduceEqDiff,H,r8,aB,hlt]
             refine au (lj (ord:=[11,0,1,2,3,4,5,6,7,8,9,10,12]) rfl rfl (by simp only [dI,oE,eo,XM,XN,List.map_toArray,XJ,XZ,Nat.reduceBEq,cond_true,cond_false];exact rfl)) (q:=1) (ps:=[(0,10),(0,8),(4,7),(0,4)]) (by kernel_rfl) ?_
             simp only [BS,LB,cls,Nat.reducePow,Nat.reduceDiv,Nat.reduceMod,Nat.reduceLeDiff,F0]
             refine dS aw S ?_;clear S;intro h b9 S b0 be
             simp only [BS,LB,cls,Nat.reduceLT,Nat.reduceEqDiff,Nat.reduceAdd,Nat.reducePow,Nat.reduceDiv,Nat.reduceMod,Nat.reduceLeDiff,F0,r,d,S.ld (b:=s) (o:=0) m1 rfl]
             refine cM (ig (n:=i) (a:=a) S.ok (S.row m3) (P.mo S.fr (by omega)) (by omega) (by omega)) ?_
             rintro v h ⟨f,s1,a4,rfl,bf,bt,R⟩
             have bu:=S.leaves (c:=b9) m0 f (by omega)
             have bv:=S.leaves (c:=s) m1 f (by omega)
             replace S:=S.call1 (i:=3) rfl f (o':=.row _ _) R
             simp only [LC]at S
             simp only [BS,LB,cls,Nat.reduceLT,Nat.reduceEqDiff,Nat.reduceAdd,Nat.reducePow,Nat.reduceDiv,Nat.reduceMod,Nat.reduceLeDiff,F0,r,d,S.ld (b:=s) (o:=0) m1 rfl]
             refine cM (ig (n:=i) (a:=a4) S.ok (S.row m3) (P.mo S.fr (by omega)) (by omega) (by omega)) ?_
             rintro v h ⟨f,s2,a5,rfl,bh,cc,R⟩
             have bx:=S.leaves (c:=b9) m0 f (by omega)
             have bB:=S.leaves (c:=s) m1 f (by omega)
             replace S:=S.call1 (i:=3) rfl f (o':=.row _ _) R
             simp only [LC]at S
             simp only [BS,LB,cls,Nat.reduceLT,Nat.reduceEqDiff,Nat.reduceAdd,Nat.reducePow,Nat.reduceDiv,Nat.reduceMod,Nat.reduceLeDiff,r]
             refine cM (xd (a:=a5) S.ok (S.row m3) (P.mo S.fr (by omega)) (by omega)) ?_
             rintro v h ⟨f,U,a6,rfl,Z,cf,R⟩
             have bE:=S.leaves (c:=b9) m0 f (by omega)
             replace S:=S.call1 (i:=3) rfl f (o':=.row _ _) R
             simp only [LC]at S
             simp only [BS,LB,cls,Nat.reduceLT,Nat.reduceEqDiff,Nat.reduceAdd,Nat.reducePow,Nat.reduceDiv,Nat.reduceMod,Nat.reduceLeDiff,F0]
             refine dw (S.store (i:=0) rfl ?_ ?_ rfl rfl ?_ ono) ?_
             . exact(by exact Tryz.t108.2.1)
             . exact(by intro x e;cases e)
             . exact lbt rfl
             clear S;rintro h ⟨S,M⟩;clear M;simp only [LC,ah,lay,zO,Xa,Nat.reduceAdd]at S
             simp only [BS,LB,Nat.reduceLT,Nat.reduceEqDiff,Nat.reduceAdd,F0,d]
             refine⟨by simp only [bg,bF,aW,bI,a9,ne_eq,not_false_eq_true,bN,ce,bA,bn,bQ,c8,aK,Nat.reduceLT,Nat.reduceEqDiff,reduceIte,Xh,d,ac,<-be,aI bu,aI bx,aI bB,aI bE,aN bv],?_⟩
             simp only [BS,LB,Nat.reduceLT,Nat.reduceEqDiff,F0,S.ld (b:=s) (o:=3) m1 rfl,S.lds (b:=b9) (o:=0) (n:=3) m0 (lbt rfl)]
             refine ag (bR (by exact Tryz.t29.1) (by exact XH) (by decide) (by rfl)) S ?_;clear S;intro h W S J;simp only [LC,aV,bK,ah,Nat.reduceMul,Nat.reduceAdd,Xi,Xg,Xe,Xk]at S
             simp only [BS,LB,Nat.reduceLT,Nat.reduceEqDiff]
             refine dM (S.grow (j:=2) (m:=1) (new:=cG ⟨s1,s2,U⟩) rfl Tryz.t29.1 XH (by decide) Tryz.t29.2.2.2.2.2 (by simp only [aJ];rw [S.lds (b:=W) (o:=0) (n:=1*3) m0 (lbt rfl)];rfl) rfl (by decide) rfl (by rw [K,iA];omega)) ?_
             clear S
             rintro h Q S
             simp only [LC]at S
             replace S:=S.drop1
             have fA:Fl Q:=(S.gown _ m2).1.fl
             simp only [BS,LB,Nat.reduceLT,Nat.reduceEqDiff,F0,d]
             refine az (ay S (i:=1) rfl ?_ ?_ ?_ ono) ?_
             . exact(by simp only [F0])
             . exact(by assumption)
             . exact zM (lbt rfl)
             clear S;rintro h ⟨S,M⟩;clear M;simp only [LC,ah,lay,zO,Xa,Nat.reduceAdd]at S
             simp only [BS,LB,Nat.reduceLT,Nat.reduceEqDiff,r]
             refine step_ret (ig (n:=4) (a:=a6) S.ok (S.row m3) (P.mo S.fr (by omega)) (by omega) (by omega)) ?_
             rintro v h ⟨f,r9,a7,rfl,ch,cj,R⟩
             replace S:=S.call1 (i:=3) rfl f (o':=.row _ _) R
             simp only [LC]at S
             have w8:an .i64 ((k:Int)+1)=((k+1:Nat):Int):=by rw [wrap64]<;>omega
             have ak:(A.flatMap cG++cG ⟨s1,s2,U⟩).length=A.length*3+3:=by rw [Xn,K,iA]
             have bi: ∀x∈A++[(⟨s1,s2,U⟩:Arc)],x.s<i/\x.t<i/\x.w<=2147483647:=fun x F=>(List.mem_append.1 F).elim (O x) (fun h=>by simp at h;subst h;exact⟨bf,bh,Z⟩)
             by_cases hz:(r9:Int)=0
             . simp only [BS,LB,Nat.reduceLT,Nat.reduceEqDiff,Nat.reduceAdd,F0,d,hz,S.ld (b:=s) (o:=3) m1 rfl,S.ld (b:=b9) (o:=0) m0 rfl,S.ld (b:=b9) (o:=1) m0 rfl,S.ld (b:=b9) (o:=2) m0 rfl]
               refine ag (bR (by exact Tryz.t29.1) (by exact XH) (by decide) (by rfl)) S ?_;clear S;intro h W S J;simp only [LC,aV,bK,ah,Nat.reduceMul,Nat.reduceAdd,Xi,Xg,Xe,Xk]at S
               simp only [BS,LB,Nat.reduceLT,Nat.reduceEqDiff]
               refine dM (S.grow (j:=2) (m:=1) (new:=cG ⟨s2,s1,U⟩) rfl Tryz.t29.1 XH (by decide) Tryz.t29.2.2.2.2.2 (by simp only [aJ];rw [S.lds (b:=W) (o:=0) (n:=1*3) m0 (lbt rfl)];rfl) rfl (by decide) rfl (by rw [ak,iA];omega)) ?_
               clear S
               rintro h bk S
               simp only [LC]at S
               replace S:=S.drop1
               have fA:Fl bk:=(S.gown _ m2).1.fl
               simp only [BS,LB,Nat.reduceLT,Nat.reduceEqDiff,F0,d]
               refine az (ay S (i:=1) rfl ?_ ?_ ?_ ono) ?_
               . exact(by simp only [F0])
               . exact(by assumption)
               . exact zM (lbt rfl)
               clear S;rintro h ⟨S,M⟩;clear M;simp only [LC,ah,lay,zO,Xa,Nat.reduceAdd]at S
               simp only [BS,LB,Nat.reduceLT,Nat.reduceEqDiff,r8,w8]
               replace S:=S.drop1
               exact T (k+1) _ _ (by omega) ⟨by omega,a7,bk,A++[⟨s1,s2,U⟩]++[⟨s2,s1,U⟩],by omega,by simp;omega,
                fun x F=>(List.mem_append.1 F).elim (bi x) (fun h=>by simp at h;subst h;exact⟨bh,bf,Z⟩),by rw [Xs,Xs];simpa using S,by simp [aa,r,ac],by simp [aa,y,ac],by simp [aa,d,ac],by simp [aa,H],by simp [aa]⟩
             . simp only [BS,LB,Nat.reduceLT,Nat.reduceEqDiff,r8,hz,w8]
               replace S:=S.drop1
               exact T (k+1) _ _ (by omega) ⟨by omega,a7,Q,A++[⟨s1,s2,U⟩],by omega,by simp;omega,
                bi,by rw [Xs];simpa using S,by simp [aa,r,ac],by simp [aa,y,ac],by simp [aa,d,ac],by simp [aa,H],by simp [aa]⟩
           . simp only [BS,LB,Nat.reduceLT,Nat.reduceEqDiff,H,r8,aB,hlt]
             exact eC ⟨a,u,A,by omega,O,S,by simp [aa,r,ac],by simp [aa,y,ac],by simp [aa,d,ac]⟩
         . clear S r y d H ha lA O a u A
           rintro g h ⟨a,u,A,lA,O,S,r,y,d⟩
           simp only [BS,LB,Nat.reduceLT,Nat.reduceEqDiff,F0,y,d,S.lds (b:=s) (o:=0) (n:=4) m0 (lbt rfl)]
           have fX:Fl D:=(S.gown _ m0).1.fl
           have fY:Fl G:=(S.gown _ m1).1.fl
           have fA:Fl u:=(S.gown _ m2).1.fl
           refine az (S.store (i:=1) rfl Tryz.t31.2.1 (by intro x e;cases e) rfl (by simp only [ah,zO,Xa,List.all_cons,List.all_nil,fX.2.1,fY.2.1,fA.2.1,Xh];rfl) (lbt rfl) ono) ?_
           clear S;rintro h ⟨S,_⟩
           simp only [LC,ah,lay,zO,Xa,Nat.reduceAdd]at S
           simp only [BS,ae]
           refine⟨_,tA (by decide) (by simp only [aK,y,ac,Nat.reduceEqDiff,reduceIte];exact c9 Tryz.t31.1 Tryz.t31.2.1 (S.lds (b:=L) (o:=0) (n:=4) m1 (lbt rfl))),?_⟩
           have al: ∀p∈[(D,1,ints X),(G,1,ints Y),(u,3,A.flatMap cG)],∀c,aq p.1 c->h0.n<=c:=by
            intro p hp c hc
            obtain⟨h1,h2⟩:=S.gblk hp hc
            rcases h1 with h1|h1
            . exact h1
            . exact absurd (by simp [h1]) h2
           refine⟨S.fr,⟨i,X,Y,A⟩,D,G,u,rfl,⟨show 1<=i by omega,show i<=12 by omega,lX,lY,cX,cY,lA,O⟩,show i=_ by omega,⟨(S.gown _ m0).1.sl rfl (fun _=>rfl) (by decide),(S.gown _ m1).1.sl rfl (fun _=>rfl) (by decide),(S.gown _ m2).1.sl rfl (fun _=>rfl) (by decide)⟩,?_⟩
           rintro c (hc|hc|hc)
           . exact al _ m0 c hc
           . exact al _ m1 c hc
           . exact al _ m2 c hc
 . exact⟨by omega,a0,_,_,[],[],by omega,rfl,rfl,by simp,by simp,S,by simp [aa,bJ,ac],by simp [aa,ac],by simp [aa,ac],by simp [aa]⟩
theorem raw_ok{h0:Hp}(m:h0.t.Sized h0.n){j:Nat}{l:Value}{xs:List Int}(n:Row h0 j [l,.int .i64 ((0:Nat):Int)] 1)(o:oq h0 j l xs 0):
 Ret zL 16 [ptrTo j] h0 fun v k=>Mo (· =j) h0 k/\ ∃e g h i,v=kB e g h i/\Good e/\di k g h i e/\ ∀c,(aq g c\/aq h c\/aq i c)->h0.n<=c:=
 (raw0_ok m n o).mono fun v k ⟨f,e,g,h,i,a,b,_,c,d⟩=>⟨f,e,g,h,i,a,b,c,d⟩
def Tryz.Fc:=aj t1<|aj t2<|aj t3<|aj t28<|aj t29<|aj Z0<|Z2
theorem av{h a:Hp}{b:Nat}(g:Gr h a)(c:b<h.n):leaves h a b=true:=m9 (g.get b c)
theorem own_ok{h0:Hp}(R:h0.t.Sized h0.n){u:Gra}(k:ku u){p r l:Value}(G:di h0 p r l u):
 Ret zL 51 [kB u p r l] h0 fun v E=>Gr h0 E/\ ∃p r l,v=kB u p r l/\di E p r l u/\(∀c,aq p c\/aq r c\/aq l c->h0.n<=c)/\WrK E 3 cG l u.arcs/\ ∀c,aq l c-> ¬aq p c/\ ¬aq r c:=by
 have S:=Si R
 have lX:=k.lX
 have lY:=k.lY
 have n2:=k.n2
 have N:=k.many
 refine ab (n:=16) (rs:=[.cell 2 31]) rfl Tryz.e51 rfl rfl rfl (lbt rfl) ?_
 simp only [BS,Nat.reduceLT,kB]
 refine ag (aZ (by intro x e;cases e)) S ?_;clear S;intro h b S T;simp only [ah]at S
 simp only [BS,Fc]
 refine ag aw S ?_;clear S;intro h s S O
 simp only [BS]
 refine au (aC rfl) (q:=0) (ps:=[(5,7),(2,7),(2,4)]) (by kernel_rfl) ?_
 simp only [BS,LB,cls,Nat.reduceLT,Nat.reduceEqDiff,Nat.reduceAdd,Nat.reducePow,Nat.reduceDiv,Nat.reduceMod,Nat.reduceLeDiff,Fc,S.ld (b:=b) (o:=1) m1 rfl]
 refine cM (vp S.ok (G.X.gr S.gr) (by omega)) ?_
 have U:=S.fr.n
 rintro y h ⟨g,f,H⟩
 have P:=av g ((S.row (b:=b) m1).lt S.ok)
 have I: ∀c,aq y c-> ¬c=b:=fun c d e=>by have:=H c d;have:=(S.row (b:=b) m1).lt S.ok;omega
 have J: ∀c,aq y c-> ¬c=s:=fun c d e=>by have:=H c d;have:=(S.row (b:=s) m0).lt S.ok;omega
 replace S:=S.call g
 simp only [BS,LB,cls,Nat.reduceLT,Nat.reduceEqDiff,Nat.reduceAdd,Nat.reducePow,Nat.reduceDiv,Nat.reduceMod,Nat.reduceLeDiff,Fc,S.ld (b:=b) (o:=2) m1 rfl]
 refine cM (vp S.ok (G.Y.gr S.gr) (by omega)) ?_
 have V:=S.fr.n
 rintro A h ⟨g,j,K⟩
 have Q:=av g ((S.row (b:=b) m1).lt S.ok)
 have L: ∀c,aq A c-> ¬c=b:=fun c d e=>by have:=K c d;have:=(S.row (b:=b) m1).lt S.ok;omega
 have M: ∀c,aq A c-> ¬c=s:=fun c d e=>by have:=K c d;have:=(S.row (b:=s) m0).lt S.ok;omega
 replace S:=S.call g
 replace f:=f.gr g
 simp only [BS,LB,cls,Nat.reduceLT,Nat.reduceEqDiff,Nat.reduceAdd,Nat.reducePow,Nat.reduceDiv,Nat.reduceMod,Nat.reduceLeDiff,Fc,S.ld (b:=b) (o:=3) m1 rfl]
 refine cM (AY S.ok (G.A.gr S.gr) (by omega)) ?_
 have W:=S.fr.n
 rintro B h ⟨g,m,C,t⟩
 have X: ∀c,aq B c-> ¬aq y c/\ ¬aq A c:=fun c d=>⟨fun h=>by have:=C c d;have:=f.lt S.ok h;omega,fun h=>by have:=C c d;have:=j.lt S.ok h;omega⟩
 have e3:=av g ((S.row (b:=b) m1).lt S.ok)
 have w: ∀c,aq B c-> ¬c=b:=fun c d e=>by have:=C c d;have:=(S.row (b:=b) m1).lt S.ok;omega
 have D: ∀c,aq B c-> ¬c=s:=fun c d e=>by have:=C c d;have:=(S.row (b:=s) m0).lt S.ok;omega
 replace S:=S.call g
 replace f:=f.gr g
 replace j:=j.gr g
 have z: ∀c,aq y c\/aq A c\/aq B c->h0.n<=c:=fun c d=>by
  rcases d with h|h|h
  . exact Xf U (H c h)
  . exact Xf V (K c h)
  . exact Xf W (C c h)
 have Y:=f.fl
 have Z:=j.fl
 have f3:=m.fl
 simp only [BS,LB,cls,Nat.reduceLT,Nat.reduceEqDiff,Nat.reduceAdd,Nat.reducePow,Nat.reduceDiv,Nat.reduceMod,Nat.reduceLeDiff,Fc]
 refine dw (ay S (i:=1) rfl ?_ ?_ ?_ ono) ?_
 . exact(by simp only [Fc])
 . exact(by assumption)
 . exact zM (lbt rfl)
 clear S;rintro h ⟨S,a⟩;replace f:=f.mo a I;replace j:=j.mo a L;replace m:=m.mo a w;replace t:=t.mo a w;clear a;simp only [LC,ah,lay,zO,Xa,Nat.reduceAdd]at S
 simp only [BS,LB,cls,Nat.reduceLT,Nat.reduceEqDiff,Nat.reduceAdd,Nat.reducePow,Nat.reduceDiv,Nat.reduceMod,Nat.reduceLeDiff,Fc]
 refine dw (ay S (i:=1) rfl ?_ ?_ ?_ ono) ?_
 . exact(by simp only [Fc])
 . exact(by assumption)
 . exact zM (lbt rfl)
 clear S;rintro h ⟨S,a⟩;replace f:=f.mo a I;replace j:=j.mo a L;replace m:=m.mo a w;replace t:=t.mo a w;clear a;simp only [LC,ah,lay,zO,Xa,Nat.reduceAdd]at S
 simp only [BS,LB,cls,Nat.reduceLT,Nat.reduceEqDiff,Nat.reduceAdd,Nat.reducePow,Nat.reduceDiv,Nat.reduceMod,Nat.reduceLeDiff,Fc]
 refine dw (ay S (i:=1) rfl ?_ ?_ ?_ ono) ?_
 . exact(by simp only [Fc])
 . exact(by assumption)
 . exact zM (lbt rfl)
 clear S;rintro h ⟨S,a⟩;replace f:=f.mo a I;replace j:=j.mo a L;replace m:=m.mo a w;replace t:=t.mo a w;clear a;simp only [LC,ah,lay,zO,Xa,Nat.reduceAdd]at S
 simp only [BS,LB,Nat.reduceLT,Nat.reduceEqDiff,Nat.reduceAdd,Fc]
 refine⟨by simp only [bg,bF,aW,bI,a9,ne_eq,not_false_eq_true,bN,ce,bA,bn,bQ,c8,aK,Nat.reduceLT,Nat.reduceEqDiff,reduceIte,Xh,aR,ac,aI P,aI Q,aI e3,aN P,aN Q,aN e3],?_⟩
 simp only [BS,LB,Nat.reduceLT,Nat.reduceEqDiff,S.lds (b:=b) (o:=0) (n:=4) m1 (lbt rfl)]
 refine az (S.store (i:=0) rfl Tryz.t31.2.1 (by intro x e;cases e) rfl (by simp only [ah,zO,Xa,List.all_cons,List.all_nil,Y.2.1,Z.2.1,f3.2.1,Xh];rfl) (lbt rfl) ono) ?_
 clear S
 rintro E ⟨S,F⟩
 simp only [LC,ah,lay,zO,Xa,Nat.reduceAdd]at S
 simp only [BS,ae]
 refine⟨_,tA (by decide) (by simp only [aK,ac,Nat.reduceEqDiff,reduceIte];exact c9 Tryz.t31.1 Tryz.t31.2.1 (S.lds (b:=s) (o:=0) (n:=4) m0 (lbt rfl))),?_⟩
 exact⟨S.gr,y,A,B,rfl,⟨f.mo F J,j.mo F M,m.mo F D⟩,z,t.mo F D,X⟩
def Tryz.F0Z:=aj t1<|aj t2<|aj t3<|Z2
def Tryz.F10:=aj t1<|aj t2<|aj t3<|Z2
def Tryz.F9:=aj t1<|aj t2<|aj t3<|aj t4<|aj t5<|aj t6<|aj Z3<|aj Z4<|aj t9<|aj t10<|aj t11<|aj t12<|aj Z15<|aj Z22<|aj t15<|aj t16<|aj t17<|aj t18<|aj r18<|aj Z21<|aj t20<|aj t28<|aj t29<|aj Z0<|aj t34<|aj t100<|aj Z2<|aj t164<|aj t172<|aj t242<|aj t288<|aj Z19<|aj t300<|aj t302<|aj t304<|aj t305<|aj t306<|aj t307<|Z18
theorem slice_at{E:Env}{t e:TypeId}{b k len cap l m:Nat}{a c d:IntKind}(i:E.und t=some (.slice e))(j:E.sz e=some k)(f:l<=m)(o:m<=cap):
 fg E t (.slice (some ⟨b,0,none⟩) len cap) (some (.int a (l:Int))) (some (.int c (l:Int))) (some (.int d (m:Int)))=some (.slice (some ⟨b,if m=l then 0 else l*k,none⟩) 0 (m-l)):=by
 have g: ∀n:Nat,ic (n:Int)=some n:=fun n=>rfl
 simp only [fg,i,eW,eQ,g,Xv o,Xv f,Xv (Xq l),cond_true,j,XK,Option.map]
 by_cases h:m=l
 . subst h;rw [Nat.beq_refl];simp
 . have:Nat.beq m l=false:=by
    cases p:Nat.beq m l with
    |false=>rfl
    |true=>exact absurd (Nat.eq_of_beq_eq_true p) h
   rw [this,if_neg h];simp [fN]
theorem St.fill{M:Nat->Prop}{h0 h:Hp}{L:List (Nat×Ob)}{G:List GL}(S:St M h0 h L G){E:Env}{t m e:TypeId}{d i b off len cap md:Nat}{r l:List Value}{s:Option Nat}{x v:Value}(n:L[i]? =some (b,.row l md))(u:E.und t=some (.slice e))(w:dZ E e d 1 r)
 (z:dJ E m=some false) (a:aJ h 1 x=some (1,[v])) (A:Fl v) (H:len<cap) (B:off+len<l.length) (f:md≠0) {ts:List TypeId}:
 ∃g,dg E h (t::m::ts) (.slice (some ⟨b,off,s⟩) len cap) x=some (g,.slice (some ⟨b,off,s⟩) (len+1) cap)/\St M h0 g (L.set i (b,.row (l.set (off+len) v) md)) G/\Mo (· =b) h g:=by
 obtain⟨⟨I,k,rfl,c⟩,J,C⟩:=w
 have D:=S.row (Xx n)
 obtain⟨y,F,p⟩:=D.store S.ok f (o:=off+len) (vs:=[v]) (by simp;omega) (by simp [A.2.1])
 have e:lay l (off+len) [v]=l.set (off+len) v:=by
  refine List.ext_getElem? fun j=>?_
  rw [jn (by simp;omega),List.getElem?_set]
  simp only [List.length_cons,List.length_nil]
  by_cases q:off+len=j
  . subst q;rw [if_pos ⟨Xq _,by omega⟩,if_pos rfl,if_pos B];simp
  . rw [if_neg (by omega),if_neg q]
 rw [e]at p
 refine⟨h.put b y,?_,S.put n p,(Mo.refl (M:=(· =b)) S.ok).put (.inr rfl) y⟩
 simp only [dg,z,jv,u,k,c,a]
 unfold eS
 rw [Xv (by omega:len+1<=cap)]
 simp only [cond_true,c,Xe,F]
theorem xo{ρ:Operand->Value}{f:Operand}{xs:Array Operand}{ts:Array TypeId}{h a:Hp}:cd ρ true (.call ⟨.value f,xs,ts⟩) h a=none:=rfl
theorem rY{i:Nat}:cD i []=none:=rfl
theorem pair_n{x:Option Tch}:jh none x=true:=rfl
def KeyF(E:Env)(g:FuncId)(f:Arc->Nat):Prop:= ∀(h:Hp) (a:Arc),h.t.Sized h.n->aM E g [.agg ⟨cG a⟩] h (.int .i64 (f a))
theorem of2_key:KeyF zL 103 Arc.s:=by
 intro f a c
 have S:=Si c
 refine ab (n:=5) (rs:=[.tmp 2]) rfl Tryz.e103 rfl rfl rfl (lbt rfl) ?_
 simp only [BS,Nat.reduceLT,cG]
 refine ag (aZ (by intro x e;cases e)) S ?_;clear S;intro h b S d;simp only [ah]at S
 simp only [BS,LB,ae,Nat.reduceLT,Nat.reduceEqDiff,F0Z,S.ld (b:=b) (o:=0) m0 rfl]
 exact S.gr
theorem of3_key:KeyF zL 104 Arc.t:=by
 intro f a c
 have S:=Si c
 refine ab (n:=5) (rs:=[.tmp 2]) rfl Tryz.e104 rfl rfl rfl (lbt rfl) ?_
 simp only [BS,Nat.reduceLT,cG]
 refine ag (aZ (by intro x e;cases e)) S ?_;clear S;intro h b S d;simp only [ah]at S
 simp only [BS,LB,ae,Nat.reduceLT,Nat.reduceEqDiff,F10,S.ld (b:=b) (o:=1) m0 rfl]
 exact S.gr
theorem kT(A:List Arc)(f:Arc->Nat)(j v:Nat):(outs A f j v).length<=j:=by
 unfold outs
 exact Xf (List.length_filter_le _ _) (by simp)
theorem qC(z:Value)(N:Nat):aV [z] ((N:Int)).toNat=(Xc N).map fun _=>z:=by
 rw [Xj]
 have: ∀n,aV [z] n=Xb n z:=by
  intro n
  induction n with
  |zero=>rfl
  |succ n a=>simp [aV,a,List.replicate_succ]
 rw [this,List.map_const',List.length_range]
def mM(A:List Arc)(f:Arc->Nat)(i v:Nat):Value:=.int .i64 ((outs A f i v).length:Nat)
def gP(A:List Arc)(f:Arc->Nat)(b v n:Nat):Value:=.slice (some ⟨b,if(outs A f A.length v).length=0 then 0 else start A f v,none⟩) n (outs A f A.length v).length
theorem cnt_set{A:List Arc}{f:Arc->Nat}{N i:Nat}(c:i<A.length):((Xc N).map (mM A f i)).set (f A[i]) (.int .i64 (((outs A f i (f A[i])).length+1:Nat):Int))=(Xc N).map (mM A f (i+1)):=by
 have b:A.getD i default=A[i]:=by simp [Xl,c]
 have e:(.int .i64 (((outs A f i (f A[i])).length+1:Nat):Int):Value)=mM A f (i+1) (f A[i]):=by
  unfold mM;rw [iu,b,if_pos rfl,Xn];rfl
 rw [e]
 refine iX fun v d a=>?_
 unfold mM
 rw [iu,b,if_neg (fun e=>a e.symm),Xo]
def vj(A:List Arc)(f:Arc->Nat)(N i:Nat)(cs:List Value):Prop:=
 cs.length=A.length/\ ∀v r x,v<N->(outs A f i v)[r]? =some x->cs[start A f v+r]? =some (.int .i64 (x:Nat))
theorem fill_zero{A:List Arc}{f:Arc->Nat}{N:Nat}:vj A f N 0 ((Xc A.length).map fun _=>.int .i64 0):=
 ⟨by simp,fun v r x _ h=>by simp [outs]at h⟩
theorem fill_step{A:List Arc}{f:Arc->Nat}{N i:Nat}{cs:List Value}(h:vj A f N i cs)(k:i<A.length):vj A f N (i+1) (cs.set (start A f (f A[i])+(outs A f i (f A[i])).length) (.int .i64 (i:Nat))):=by
 have c:A.getD i default=A[i]:=by simp [Xl,k]
 have g:(outs A f (i+1) (f A[i])).length<=(outs A f A.length (f A[i])).length:=wX A f (by omega) _
 rw [iu,c,if_pos rfl,Xn]at g
 have hlt:(outs A f i (f A[i])).length<(outs A f A.length (f A[i])).length:=by simp at g;omega
 have l:=qd A f (f A[i])
 refine⟨by rw [Xp];exact h.1,fun v r x m a=>?_⟩
 have n:r<(outs A f (i+1) v).length:=(List.getElem?_eq_some_iff.1 a).1
 have d:r<(outs A f A.length v).length:=Nat.lt_of_lt_of_le n (wX A f (by omega) v)
 rw [List.getElem?_set]
 by_cases e:start A f (f A[i])+(outs A f i (f A[i])).length=start A f v+r
 . obtain⟨b,o⟩:=AN A f hlt d e
   subst b
   rw [if_pos e,if_pos (by rw [h.1];omega)]
   rw [iu,c,if_pos rfl,XS,if_neg (by omega),o,XK]at a
   simp at a
   rw [a]
 . rw [if_neg e]
   refine h.2 v r x m ?_
   rw [iu,c]at a
   by_cases b:f A[i]=v
   . rw [if_pos b,XS]at a
     subst b
     by_cases j:r<(outs A f i (f A[i])).length
     . rw [if_pos j]at a;exact a
     . rw [if_neg j]at a
       have:=(List.getElem?_eq_some_iff.1 a).1
       simp at this
       exact absurd (by omega) e
   . rw [if_neg b,Xo]at a;exact a
theorem of1_ok {h0:Hp} (ok:h0.t.Sized h0.n) {u:Gra} (J:ku u) {vx vy K:Value} {b:Nat} (hb:Row h0 b [.int .i64 u.nodes,vx,vy,K] 1) (ga:di h0 vx vy K u) {g:FuncId} {f:Arc->Nat} (hk:KeyF zL g f) (hf: ∀a∈u.arcs,f a<u.nodes):
 Ret zL 102 [.func (.func g) #[] #[],ptrTo b] h0 fun v W=>Gr h0 W/\gb W h0.n v u.nodes (outs u.arcs f u.arcs.length):=by
 have S:=Si ok
 have n2:=J.n2
 have L:=J.many
 obtain⟨N,X,Y,A⟩:=u
 simp only []at hb n2 L hf
 have M:ar h0 3 cG K A:=ga.A
 have l0:=hb.load1 (o:=0) rfl
 have l3:=hb.load1 (o:=3) rfl
 refine ab (n:=85) (rs:=[.tmp 3]) rfl Tryz.e102 rfl rfl rfl (lbt rfl) ?_
 simp only [BS,LB,Nat.reduceLT,Nat.reduceEqDiff,F9,l0]
 refine ag (jW (by exact Tryz.t34.1) (by exact Xy) (by omega) (by omega)) S ?_;clear S;intro h B S al
 rw [qC]at S
 replace S:St NoM h0 h [(B,.row ((Xc N).map (mM A f 0)) 1)] []:=S
 simp only [BS,LB,Nat.reduceLT,Nat.reduceEqDiff,F9,S.old l3 (fun h=>h),M.lenq,Xj]
 refine aO (fun(i:Nat) m h=>i<=A.length/\St NoM h0 h [(B,.row ((Xc N).map (mM A f i)) 1)] []/\m 0=.func (.func g) #[] #[]/\m 1=ptrTo b/\m 4=.slice (some ⟨B,0,none⟩) N N/\m 18=K/\m 19=.int .i64 A.length/\m 20=.int .i64 i) (fun i=>A.length-i) ?_ 0 _ _ ?_
 . clear S
   intro i O m h ⟨hi,S,r0,r1,r4,r18,r19,r20⟩
   by_cases hlt:i<A.length
   . obtain⟨c,o,t,C⟩:=(M.gr S.gr).ix (kd:=.i64) iA hlt
     have p:f A[i]<N:=hf _ (Xz hlt)
     have a3:=kT A f i (f A[i])
     have w:an .i64 ((i:Int)+1)=((i+1:Nat):Int):=by rw [wrap64]<;>omega
     have Z:an .i64 (((outs A f i (f A[i])).length:Int)+1)=(((outs A f i (f A[i])).length+1:Nat):Int):=by rw [wrap64]<;>omega
     simp only [BS,LB,Nat.reduceLT,Nat.reduceEqDiff,F9,r18,r19,r20,aB,hlt,t,C]
     refine ag aw S ?_;clear S;intro h b6 S ax
     simp only [BS,LB,Nat.reduceLT,Nat.reduceEqDiff,cG]
     refine az (S.store (i:=0) rfl ?_ ?_ rfl rfl ?_ ono) ?_
     . exact(by exact Tryz.t108.2.1)
     . exact(by intro x e;cases e)
     . exact lbt rfl
     clear S;rintro h ⟨S,y⟩;clear y;simp only [LC,ah,lay,zO,Xa,Nat.reduceAdd]at S
     simp only [BS,LB,Nat.reduceLT,Nat.reduceEqDiff,F9,r0,r4,S.lds (b:=b6) (o:=0) (n:=3) m0 (lbt rfl)]
     refine am (hk _ A[i] S.ok) ?_;intro h g;replace S:=S.call g;clear g
     have D:=S.ld (b:=B) (o:=f A[i]) m1 (ju (F:=mM A f i) p)
     unfold mM at D
     simp only [BS,LB,Nat.reduceLT,Nat.reduceEqDiff,F9,p,D,Z]
     refine az (ay S (i:=1) rfl Tryz.t3.2.2.1 aX (by simpa using p) ono) ?_
     clear S D;rintro h ⟨S,y⟩;clear y
     simp only [LC]at S
     rw [cnt_set hlt]at S
     replace S:=S.drop1
     simp only [BS,LB,Nat.reduceLT,Nat.reduceEqDiff,r20,w]
     exact O (i+1) _ _ (by omega) ⟨by omega,S,by simp [aa,r0],by simp [aa,r1,ac],by simp [aa,r4],by simp [aa,r18],by simp [aa,r19],by simp [aa]⟩
   . have E : i=A.length:=by omega
     subst E
     simp only [BS,LB,Nat.reduceLT,r19,r20,aB,hlt]
     refine au (aC rfl) (q:=72) (ps:=[]) (by kernel_rfl) ?_
     simp only [BS,LB,cls,Nat.reduceLT,Nat.reduceEqDiff,Nat.reduceAdd,Nat.reducePow,Nat.reduceDiv,Nat.reduceMod,Nat.reduceLeDiff,F9,r1,S.old l3 (fun h=>h),M.lenq]
     refine dS (jW (by exact Tryz.t34.1) (by exact Xy) (by omega) (by omega)) S ?_;clear S;intro h d S Q aL
     rw [qC]at S
     simp only [BS,LB,cls,Nat.reduceLT,Nat.reduceEqDiff,Nat.reduceAdd,Nat.reducePow,Nat.reduceDiv,Nat.reduceMod,Nat.reduceLeDiff,F9,r1,S.old l0 (fun h=>h),Xj]
     refine dS (jW (by exact Tryz.t164.1) (by exact Tryz.e34E) (by omega) (by omega)) S ?_;clear S;intro h H S R a0
     rw [qC]at S
     simp only [BS,LB,cls,Nat.reduceLT,Nat.reduceEqDiff,Nat.reduceAdd,Nat.reducePow,Nat.reduceDiv,Nat.reduceMod,Nat.reduceLeDiff,F9,r4,Xj]
     have e0:(Xc N).map (fun v=>if v<0 then gP A f d v 0 else .slice none 0 0)=(Xc N).map (fun _=>(.slice none 0 0:Value)):=by simp
     rw [<-e0]at S
     refine aO (fun(j:Nat) m h=>j<=N/\St NoM h0 h [(H,.row ((Xc N).map fun v=>if v<j then gP A f d v 0 else .slice none 0 0) 1),(d,.row ((Xc A.length).map fun _=>.int .i64 0) 1),(B,.row ((Xc N).map (mM A f A.length)) 1)] []/\
      m 0=.func (.func g) #[] #[]/\m 1=ptrTo b/\m 7=.slice (some ⟨d,0,none⟩) A.length A.length/\m 8=.slice (some ⟨H,0,none⟩) N N/\m 9=.int .i64 (start A f j)/\m 40=.slice (some ⟨B,0,none⟩) N N/\m 41=.int .i64 N/\m 42=.int .i64 j) (fun j=>N-j) ?_ 0 _ _ ?_
     . clear S r0 r1 r4 r18 r19 r20
       intro j O m h ⟨hj,S,r0,r1,r7,r8,r9,r40,r41,r42⟩
       by_cases z:j<N
       . have D:=S.ld (b:=B) (o:=j) m2 (ju (F:=mM A f A.length) z)
         unfold mM at D
         have ad:=qd A f j
         have w:an .i64 ((j:Int)+1)=((j+1:Nat):Int):=by rw [wrap64]<;>omega
         have Z:an .i64 ((start A f j:Int)+((outs A f A.length j).length:Nat))=((start A f j+(outs A f A.length j).length:Nat):Int):=by rw [wrap64]<;>omega
         have sl:fg zL 34 (.slice (some ⟨d,0,none⟩) A.length A.length) (some (.int .i64 (start A f j))) (some (.int .i64 (start A f j))) (some (.int .i64 ((start A f j+(outs A f A.length j).length:Nat):Int)))=some (gP A f d j 0):=by
          rw [slice_at Tryz.t34.1 Tryz.t3.2.2.1 (by omega) (by omega)]
          unfold gP
          rw [Nat.add_sub_cancel_left,Xe]
          by_cases G:(outs A f A.length j).length=0
          . rw [if_pos (by omega),if_pos G]
          . rw [if_neg (by omega),if_neg G]
         have fr:Fl (gP A f d j 0):=cg
         simp only [BS,LB,Nat.reduceLT,Nat.reduceEqDiff,XC,F9,r7,r8,r9,r40,r41,r42,aB,z,D,Z,sl]
         refine az (ay S (i:=0) rfl Tryz.t34.2.2.1 fr (by simpa using z) ono) ?_
         clear S D;rintro h ⟨S,y⟩;clear y
         simp only [LC]at S
         rw [show((Xc N).map fun v=>if v<j then gP A f d v 0 else .slice none 0 0).set j (gP A f d j 0)=(Xc N).map fun v=>if v<j+1 then gP A f d v 0 else .slice none 0 0 from by
          have:=iX (N:=N) (k:=j) (F:=fun v=>if v<j then gP A f d v 0 else .slice none 0 0) (F':=fun v=>if v<j+1 then gP A f d v 0 else .slice none 0 0) (fun v I T=>by
           show ite _ _ _=ite _ _ _
           by_cases h1:v<j
           . rw [if_pos h1,if_pos (by omega)]
           . rw [if_neg h1,if_neg (by omega)])
          simp only [if_pos (show j<j+1 by omega)]at this
          exact this]at S
         simp only [BS,LB,Nat.reduceLT,Nat.reduceEqDiff,r9,r42,w,Z]
         exact O (j+1) _ _ (by omega) ⟨by omega,S,by simp [aa,r0],by simp [aa,r1,ac],by simp [aa,r7],by simp [aa,r8],by simp [aa,start],by simp [aa,r40],by simp [aa,r41],by simp [aa]⟩
       . have af:j=N:=by omega
         subst af
         simp only [BS,LB,Nat.reduceLT,Nat.reduceEqDiff,F9,r1,r41,r42,aB,z,S.old l3 (fun h=>h),M.lenq]
         have e1:((Xc j).map fun v=>if v<j then gP A f d v 0 else .slice none 0 0)=(Xc j).map fun v=>gP A f d v (outs A f 0 v).length:=by
          refine List.map_congr_left fun v I=>?_
          rw [if_pos (List.mem_range.1 I)];rfl
         rw [e1]at S
         refine aO (fun(i:Nat) m h=>i<=A.length/\(∃cs,vj A f j i cs/\St NoM h0 h [(H,.row ((Xc j).map fun v=>gP A f d v (outs A f i v).length) 1),(d,.row cs 1),(B,.row ((Xc j).map (mM A f A.length)) 1)] [])/\
          m 0=.func (.func g) #[] #[]/\m 1=ptrTo b/\m 8=.slice (some ⟨H,0,none⟩) j j/\m 62=K/\m 63=.int .i64 A.length/\m 64=.int .i64 i) (fun i=>A.length-i) ?_ 0 _ _ ?_
         . clear S r0 r1 r7 r8 r9 r40 r41 r42
           intro i O m h ⟨hi,⟨cs,hcs,S⟩,r0,r1,r8,r62,r63,r64⟩
           by_cases hlt:i<A.length
           . obtain⟨c,o,t,C⟩:=(M.gr S.gr).ix (kd:=.i64) iA hlt
             have p:f A[i]<j:=hf _ (Xz hlt)
             have w:an .i64 ((i:Int)+1)=((i+1:Nat):Int):=by rw [wrap64]<;>omega
             simp only [BS,LB,Nat.reduceLT,Nat.reduceEqDiff,F9,r62,r63,r64,aB,hlt,t,C]
             refine ag aw S ?_;clear S;intro h U S ai
             simp only [BS,LB,Nat.reduceLT,Nat.reduceEqDiff,cG]
             refine az (S.store (i:=0) rfl ?_ ?_ rfl rfl ?_ ono) ?_
             . exact(by exact Tryz.t108.2.1)
             . exact(by intro x e;cases e)
             . exact lbt rfl
             clear S;rintro h ⟨S,y⟩;clear y;simp only [LC,ah,lay,zO,Xa,Nat.reduceAdd]at S
             simp only [BS]
             refine au (aC rfl) (q:=2184) (ps:=[(3,6)]) (by kernel_rfl) ?_
             simp only [BS,LB,cls,Nat.reduceLT,Nat.reduceEqDiff,Nat.reduceAdd,Nat.reducePow,Nat.reduceDiv,Nat.reduceMod,Nat.reduceLeDiff,F9,r0,r8,S.lds (b:=U) (o:=0) (n:=3) m0 (lbt rfl)]
             refine qR (hk _ A[i] S.ok) ?_
             intro h V;replace S:=S.call V;clear V
             simp only [BS,LB,cls,Nat.reduceLT,Nat.reduceEqDiff,Nat.reduceAdd,Nat.reducePow,Nat.reduceDiv,Nat.reduceMod,Nat.reduceLeDiff,F9,r0,r8,S.lds (b:=U) (o:=0) (n:=3) m0 (lbt rfl)]
             refine qR (hk _ A[i] S.ok) ?_
             intro h V;replace S:=S.call V;clear V
             have hd:A.getD i default=A[i]:=by simp [Xl,hlt]
             have hl:(outs A f (i+1) (f A[i])).length<=(outs A f A.length (f A[i])).length:=wX A f (by omega) _
             rw [iu,hd,if_pos rfl,Xn,XP]at hl
             have ad:=qd A f (f A[i])
             have hK:(outs A f A.length (f A[i])).length≠0:=by omega
             have lr:=S.ld (b:=H) (o:=f A[i]) m1 (ju (F:=fun v=>gP A f d v (outs A f i v).length) p)
             simp only [gP,if_neg hK]at lr
             simp only [BS,LB,cls,Nat.reduceLT,Nat.reduceEqDiff,Nat.reduceAdd,Nat.reducePow,Nat.reduceDiv,Nat.reduceMod,Nat.reduceLeDiff,F9,p,lr]
             refine dS (bR (by exact Tryz.t34.1) (by exact Xy) (by decide) (by rfl)) S ?_;clear S;intro h bs S a1 a2;simp only [LC,aV,bK,ah,Nat.reduceMul,Nat.reduceAdd,Xi,Xg,Xe,Xk]at S
             simp only [BS,LB,cls,Nat.reduceLT,Nat.reduceEqDiff,Nat.reduceAdd,Nat.reducePow,Nat.reduceDiv,Nat.reduceMod,Nat.reduceLeDiff]
             obtain⟨h2,e2,S2,ak⟩:=S.fill (i:=3) (x:=.slice (some ⟨bs,0,none⟩) 1 1) (v:=.int .i64 (i:Nat)) (off:=start A f (f A[i])) (len:=(outs A f i (f A[i])).length) (cap:=(outs A f A.length (f A[i])).length) (s:=none) rfl Tryz.t34.1 Xy Tryz.t34.2.2.2.2.2
              (by simp only [aJ];rw [S.lds (b:=bs) (o:=0) (n:=1*1) m0 (lbt rfl)];rfl) aX (by omega) (by have:=hcs.1;omega) ono (ts:=[])
             refine dn_v (P:=fun W v=>W=h2/\v=.slice (some ⟨d,start A f (f A[i]),none⟩) ((outs A f i (f A[i])).length+1) (outs A f A.length (f A[i])).length) ⟨_,_,e2,rfl,rfl⟩ ?_
             rintro h v ⟨rfl,rfl⟩
             clear S e2 ak;have S:=S2;clear S2
             simp only [LC]at S
             simp only [BS,LB,cls,Nat.reduceLT,Nat.reduceEqDiff,Nat.reduceAdd,Nat.reducePow,Nat.reduceDiv,Nat.reduceMod,Nat.reduceLeDiff,F9,p]
             refine dw (ay S (i:=2) rfl Tryz.t34.2.2.1 cg (by simpa using p) ono) ?_
             clear S;rintro h ⟨S,y⟩;clear y
             simp only [LC]at S
             have e3:((Xc j).map fun v=>gP A f d v (outs A f i v).length).set (f A[i]) (.slice (some ⟨d,start A f (f A[i]),none⟩) ((outs A f i (f A[i])).length+1) (outs A f A.length (f A[i])).length)=(Xc j).map fun v=>gP A f d v (outs A f (i+1) v).length:=by
              have:=iX (N:=j) (k:=f A[i]) (F:=fun v=>gP A f d v (outs A f i v).length) (F':=fun v=>gP A f d v (outs A f (i+1) v).length) (fun v I T=>by
               show gP _ _ _ _ _=gP _ _ _ _ _
               rw [iu,hd,if_neg (fun e=>T e.symm),Xo])
              rw [<-this]
              congr 1
              show _=gP _ _ _ _ _
              rw [iu,hd,if_pos rfl,Xn]
              unfold gP
              rw [if_neg hK];rfl
             rw [e3]at S
             replace S:=S.drop1.drop1
             simp only [BS,LB,Nat.reduceLT,Nat.reduceEqDiff,Nat.reduceAdd,r64,w]
             refine⟨by simp only [bg,bF,aW,bI,a9,ne_eq,not_false_eq_true,bN,ce,bA,bn,bQ,c8,aK,Nat.reduceLT,Nat.reduceEqDiff,reduceIte,Xh,r0,r1,r8,ac,xo,oO,rY,pair_n],?_⟩
             exact O (i+1) _ _ (by omega) ⟨by omega,⟨_,fill_step hcs hlt,S⟩,by simp [aa,r0],by simp [aa,r1,ac],by simp [aa,r8],by simp [aa,r62],by simp [aa,r63],by simp [aa]⟩
           . have E:i=A.length:=by omega
             subst E
             simp only [BS,LB,ae,Nat.reduceLT,Nat.reduceEqDiff,r8,r63,r64,aB,hlt]
             refine⟨S.gr,H,_,rfl,R,S.row m0,by simp,fun v I=>⟨_,ju I,.inr ⟨d,_,none,_,rfl,Xq _,?_⟩,fun c (hc:d=c)=>hc▸Q⟩⟩
             have hR:=S.row (b:=d) (l:=cs) (md:=1) m1
             have ht:=qd A f v
             have hl:=hcs.1
             rw [Xe]
             by_cases G:(outs A f A.length v).length=0
             . rw [if_pos G,G,hR.load (by omega)]
               rw [List.length_eq_zero_iff.1 G];rfl
             . rw [if_neg G,hR.load (by omega)]
               congr 1
               refine List.ext_getElem? fun r=>?_
               have e4:(outs A f A.length v).flatMap bM=(outs A f A.length v).map fun x=>.int .i64 (x:Nat):=by
                rw [Xw,XV,Xw];rfl
               rw [e4,XF,List.getElem?_take,List.getElem?_drop]
               by_cases hr:r<(outs A f A.length v).length
               . rw [if_pos hr,hcs.2 v r _ I (Xr hr),Xr hr];rfl
               . rw [if_neg hr,List.getElem?_eq_none (by omega)];rfl
         . exact⟨XG _,⟨_,fill_zero,S⟩,by simp [aa,r0],by simp [aa,r1,ac],by simp [aa,r8],by simp [aa],by simp [aa],by simp [aa]⟩
     . exact⟨XG _,S,by simp [aa,r0],by simp [aa,r1,ac],by simp [aa],by simp [aa],by simp [aa,start],by simp [aa,r4],by simp [aa],by simp [aa]⟩
 . exact⟨XG _,S,by simp [aa,aR],by simp [aa,aR,bU,ac],by simp [aa],by simp [aa],by simp [aa],by simp [aa]⟩
def Tryz.FB:=aj t1<|aj t2<|aj t3<|aj t4<|aj t28<|aj t29<|aj Z0<|aj t32<|aj t34<|aj Z2<|aj t164<|aj Z1<|aj t172<|t179
def Tryz.F0i:=aj t1<|aj t2<|aj t3<|aj t4<|aj t5<|aj t28<|aj t29<|aj Z0<|aj t32<|aj t47<|aj t70<|aj Z2<|aj t121<|aj r121<|aj t123<|aj t125<|aj r125<|aj t164<|Z1
theorem of_ok{h0:Hp}(F:h0.t.Sized h0.n){q:Gra}(d:ku q){r s t:Value}(u:di h0 r s t q){m:Nat}(w:m<=h0.n)(G: ∀c,aq r c\/aq s c\/aq t c->m<=c):
 Ret zL 50 [kB q r s t] h0 fun v B=>Gr h0 B/\aS B m v q:=by
 have S:=Si F
 refine ab (n:=20) (rs:=[.tmp 2]) rfl Tryz.e50 rfl rfl rfl (lbt rfl) ?_
 simp only [BS,Nat.reduceLT,kB]
 refine ag (aZ (by intro x e;cases e)) S ?_;clear S;intro h b S H;simp only [ah]at S
 simp only [BS,LB,Nat.reduceLT,Nat.reduceEqDiff,Nat.reduceAdd,Nat.reduceLeDiff,FB,XE,Xt,XQ,S.lds (b:=b) (o:=0) (n:=4) m0 (lbt rfl)]
 refine ag (aZ (by intro x e;cases e)) S ?_;clear S;intro h l S p;simp only [ah]at S
 simp only [BS,LB,Nat.reduceLT,Nat.reduceEqDiff]
 have I:=S.fr.n
 have y:=(S.row (b:=l) m0).lt S.ok
 refine step_ret (of1_ok S.ok d (S.row m1) (u.gr S.gr) of2_key (fun a z=>(d.arcs a z).1)) ?_;intro C h ⟨g,f⟩;replace S:=S.call g;clear g
 simp only [BS,LB,Nat.reduceLT,Nat.reduceEqDiff]
 have J:=S.fr.n
 have A:=(S.row (b:=l) m0).lt S.ok
 refine step_ret (of1_ok S.ok d (S.row m1) (u.gr S.gr) of3_key (fun a z=>(d.arcs a z).2.1)) ?_;intro v h ⟨g,k⟩;replace S:=S.call g;replace f:=f.gr g;clear g
 have K:Fl v:=by obtain⟨_,_,rfl,_⟩:=k;exact cg
 have L:Fl C:=by obtain⟨_,_,rfl,_⟩:=f;exact cg
 simp only [BS,LB,Nat.reduceLT,Nat.reduceEqDiff,FB]
 have D: ∀c,c=l->c<_:=fun c e=>e▸y
 have E: ∀c,c=l->c<_:=fun c e=>e▸A
 refine az (ay S (i:=0) rfl ?_ ?_ ?_ ono) ?_
 . exact(by simp only [FB])
 . exact(by assumption)
 . exact zM (lbt rfl)
 clear S;rintro h ⟨S,j⟩;replace f:=f.mo j D;replace k:=k.mo j E;clear j;simp only [LC,ah,lay,zO,Xa,Nat.reduceAdd]at S
 simp only [BS,LB,Nat.reduceLT,Nat.reduceEqDiff,FB]
 refine az (ay S (i:=0) rfl ?_ ?_ ?_ ono) ?_
 . exact(by simp only [FB])
 . exact(by assumption)
 . exact zM (lbt rfl)
 clear S;rintro h ⟨S,j⟩;replace f:=f.mo j D;replace k:=k.mo j E;clear j;simp only [LC,ah,lay,zO,Xa,Nat.reduceAdd]at S
 simp only [BS,LB,ae,Nat.reduceLT,Nat.reduceEqDiff]
 exact⟨S.gr,l,r,s,t,C,v,rfl,S.row m0,u.gr S.gr,f.low (Xf w I),k.low (Xf w J),Xf w p,G⟩
theorem netNew_ok{h0:Hp}(p:h0.t.Sized h0.n){d:Gra}(a:ku d){f i j:Value}(k:di h0 f i j d):
 Ret zL 17 [kB d f i j] h0 fun r l=> ∃v,r=.tuple #[v,.nilIface]/\Gr h0 l/\aS l h0.n v d:=by
 have S:=Si p
 refine ab (n:=17) (rs:=[.tmp 2,.tmp 3]) rfl Tryz.e17 rfl rfl rfl (lbt rfl) ?_
 simp only [BS,Nat.reduceLT,kB]
 refine ag (aZ (by intro x e;cases e)) S ?_;clear S;intro h b S q;simp only [ah]at S
 simp only [BS,LB,Nat.reduceLT,Nat.reduceEqDiff,F0i,XE,Xt,XQ,S.lds (b:=b) (o:=0) (n:=4) m0 (lbt rfl)]
 refine am (check_ok S.ok a (k.gr S.gr)) ?_;intro h g;replace S:=S.call g;clear g
 simp only [BS,LB,Nat.reduceLT,Nat.reduceEqDiff,F0i,XE,Xt,XQ,S.lds (b:=b) (o:=0) (n:=4) m0 (lbt rfl)]
 have s:=S.fr.n
 refine step_ret (own_ok S.ok a (k.gr S.gr)) ?_;intro v h ⟨g,vx',vy',va',t,ga',hz,_⟩;replace S:=S.call g;clear g
 subst t
 simp only [BS,LB,Nat.reduceLT,Nat.reduceEqDiff]
 refine step_ret (of_ok S.ok a ga' (m:=h0.n) S.fr.n (fun c u=>Xf s (hz c u))) ?_;intro v h ⟨g,R⟩;replace S:=S.call g;clear g
 simp only [BS,LB,ae,Nat.reduceLT,Nat.reduceEqDiff]
 exact⟨_,rfl,S.gr,R⟩
def Tryz.F0j:=aj t1<|aj t2<|aj t3<|aj t4<|aj t5<|t162
def Tryz.F0k:=aj t1<|aj t2<|aj t3<|aj t55<|t162
def Tryz.F0l:=aj t1<|aj t2<|aj t3<|aj t4<|aj t5<|aj t6<|aj t34<|t55
def pos:List Int->Int->Option Nat
 | [],_=>none
 |y::a,x=>if x=y then some 0 else(pos a x).map (· +1)
def iY:Nat->List Int->List (Value×Value×Nat)
 |_,[]=>[]
 |o,x::a=>(.int .i64 x,.int .i64 (o:Nat),o)::iY (o+1) a
theorem ents_app(o:Nat)(l:List Int)(x:Int):iY o (l++[x])=iY o l++[(.int .i64 x,.int .i64 ((o+l.length:Nat):Int),o+l.length)]:=by
 induction l generalizing o with
 |nil=>rfl
 | cons y a b=>
   show _::iY (o+1) (a++[x])=_::(iY (o+1) a++_)
   rw [b,List.length_cons,show o+1+a.length=o+(a.length+1) by omega]
theorem ents_len(o:Nat)(l:List Int):(iY o l).length=l.length:=by
 induction l generalizing o with
 |nil=>rfl
 |cons y a b=>show(iY (o+1) a).length+1=_;rw [b];rfl
theorem keq_int{x y:Int}:bD (.int .i64 x) (.int .i64 y)=some (decide (x=y)):=by
 show some (gL x y)=_
 congr 1
 rw [mG]
theorem vG(o:Nat)(l:List Int)(x:Int):aQ (.int .i64 x) (iY o l)=some ((pos l x).map fun i=>(.int .i64 ((o+i:Nat):Int),o+i)):=by
 induction l generalizing o with
 |nil=>rfl
 | cons y a b=>
   show(match bD (.int .i64 x) (.int .i64 y)with|none=>none|some true=>some (some (Value.int .i64 (o:Nat),o))|some false=>aQ (.int .i64 x) (iY (o+1) a))=_
   rw [keq_int,pos]
   by_cases h:x=y
   . rw [if_pos h,decide_eq_true h];rfl
   . rw [if_neg h,decide_eq_false h]
     show aQ (.int .i64 x) (iY (o+1) a)=_
     rw [b]
     cases pos a x with
     |none=>rfl
     |some i=>simp;omega
theorem St.mput{M:Nat->Prop}{h0 h:Hp}{L:List (Nat×Ob)}{G:List GL}(S:St M h0 h L G){E:Env}{t kt el:TypeId}{i b c:Nat}{a:List (Value×Value×Nat)}{k v:Value}(d:L[i]? =some (b,.map a c))(g:E.und t=some (.map kt el))(hf:aT E kt k=true)(j:aQ k a=some none):
 ∃e,dD E h t (.map (some b)) k v=some e/\St M h0 e (L.set i (b,.map (a++[(k,v,c)]) (c+1))) G:=by
 have f:h.get b=some (.map a c):=(S.own _ (Xx d)).2
 refine⟨h.put b (.map (a++[(k,v,c)]) (c+1)),?_,S.put d ?_⟩
 . simp only [dD,iG,g,hf,cond_true,f,j]
 . show(h.put b _).get b=_
   rw [Hp.get_put,if_pos ⟨rfl,by rw [f];rfl⟩]
theorem AH{E:Env}{h:Hp}{t kt el:TypeId}{b c:Nat}{l:List Int}{x:Int}(a:E.und t=some (.map kt el))(d:E.und kt=some (.int .i64))(e:E.zeroV el=some (.int .i64 0))(f:h.get b=some (.map (iY 0 l) c)):
 cm E h t (.map (some b)) (.int .i64 x) true=some (match pos l x with|some i=>.tuple #[.int .i64 (i:Nat),.bool true]|none=>.tuple #[.int .i64 0,.bool false]):=by
 have hf:aT E kt (.int .i64 x)=true:=by simp only [aT,d];rfl
 simp only [cm,a,hf,cond_true,f,vG,e]
 cases pos l x with
 |none=>rfl
 |some i=>simp
def nw(ks:List Int)(x:Int):Nat:=match pos ks x with|some i=>i|none=>ks.length
def nj(ks:List Int)(x:Int):List Int:=match pos ks x with|some _=>ks|none=>ks++[x]
def norm:List Int->List Int->List Int
 |_,[]=>[]
 |a,x::b=>(nw a x:Int)::norm (nj a x) b
theorem name_ok{h0:Hp}(k:h0.t.Sized h0.n){e a:Nat}{ks:List Int}{x:Int}(l:Row h0 e [.map (some a)] 1)(b:h0.get a=some (.map (iY 0 ks) ks.length)):
 Ret zL 163 [.int .i64 x,ptrTo e] h0 fun v f=>Mo (· =a) h0 f/\v=.int .i64 (nw ks x)/\f.get a=some (.map (iY 0 (nj ks x)) (nj ks x).length):=by
 have S:=St.init1 k (o:=.map (iY 0 ks) ks.length) b
 have g:=l.load1 (o:=0) rfl
 have c:=AH (x:=x) Tryz.t162.1 Tryz.t3.1 (by kernel_rfl) b
 have j:oD (some (.map 3 3)) h0 (.map (some a))=some (.val (.int .i64 (iY 0 ks).length),h0):=lenq_map b
 rw [ents_len]at j
 unfold nw nj
 cases d:pos ks x with
 | some i=>
   rw [d]at c
   refine ab (n:=20) (rs:=[.tmp 3]) rfl Tryz.e163 rfl rfl rfl (lbt rfl) ?_
   simp only [BS,LB,ae,Nat.reduceLT,Nat.reduceEqDiff,F0j,g,c]
   exact⟨S.fr,b⟩
 | none=>
   rw [d]at c
   refine ab (n:=20) (rs:=[.tmp 3]) rfl Tryz.e163 rfl rfl rfl (lbt rfl) ?_
   simp only [BS,LB,Nat.reduceLT,Nat.reduceEqDiff,F0j,g,c,j]
   refine az (S.mput (i:=0) rfl Tryz.t162.1 (by simp only [aT,Tryz.t3.1];rfl) (by rw [vG,d];rfl)) ?_
   clear S;intro h S
   simp only [LC]at S
   simp only [BS,LB,ae,Nat.reduceLT,Nat.reduceEqDiff]
   have m:h.get a=some (.map (iY 0 ks++[(.int .i64 x,.int .i64 ks.length,ks.length)]) (ks.length+1)):=(S.own _ m0).2
   refine⟨S.fr,?_⟩
   rw [ents_app,Xn,Xg];exact m
theorem namer_ok{h0:Hp}(f:h0.t.Sized h0.n):Ret zL 108 [] h0 fun v e=>Gr h0 e/\ ∃a b,v=.func (.func 163) #[] #[ptrTo a]/\h0.n<=a/\h0.n<=b/\Row e a [.map (some b)] 1/\e.get b=some (.map [] 0):=by
 have S:=Si f
 refine ab (n:=4) (rs:=[.tmp 0]) rfl Tryz.e108 rfl rfl rfl (lbt rfl) ?_
 simp only [BS]
 refine ag mI S ?_;clear S;intro h b S c
 simp only [BS,F0k]
 refine ag aw S ?_;clear S;intro h a S d
 simp only [BS,LB,Nat.reduceLT,Nat.reduceEqDiff]
 refine az (ay S (i:=0) rfl ?_ ?_ ?_ ono) ?_
 . exact(by simp only [F0k])
 . exact(by exact wj)
 . exact zM (lbt rfl)
 clear S;rintro h ⟨S,g⟩;clear g;simp only [LC,ah,lay,zO,Xa,Nat.reduceAdd]at S
 simp only [BS,LB,ae,Nat.reduceLT,Nat.reduceEqDiff]
 exact⟨S.gr,a,b,rfl,d,c,S.row m0,(S.own _ m1).2⟩
theorem each_ok{h0:Hp}(I:h0.t.Sized h0.n){x d:Nat}{ks l:List Int}{v:Value}(E:Row h0 x [.map (some d)] 1)(y:h0.get d=some (.map (iY 0 ks) ks.length))(z:ar h0 1 (encI .i64) v l)(N:l.length<1000):
 Ret zL 107 [v,.func (.func 163) #[] #[ptrTo x]] h0 fun r F=>Mo (· =d) h0 F/\ar F 1 (encI .i64) r (norm ks l)/\ ∀c,aq r c->h0.n<=c:=by
 have S:=St.init1 I (o:=.map (iY 0 ks) ks.length) y
 have A: ∀c,aq v c-> ¬c=d:=by
  rintro c p rfl
  rcases z with⟨rfl,_⟩|⟨b,o,s,O,rfl,_,J⟩
  . exact p.elim
  . have:b=c:=p
    subst this
    simp [Hp.load,y]at J
 have B: ¬x=d:=by
  rintro rfl
  obtain⟨t,el,e,_⟩:=E
  rw [y]at e;cases e
 refine ab (n:=21) (rs:=[.tmp 4]) rfl Tryz.e107 rfl rfl rfl (lbt rfl) ?_
 simp only [BS,LB,Nat.reduceLT,Nat.reduceEqDiff,F0l,z.lenq]
 replace S:=S.nilG (k:=1)
 refine aO (fun(i:Nat) g h=>i<=l.length/\ ∃(a done:List Int) (C:Value),norm ks l=done++norm a (l.drop i)/\done.length=i/\St (· =d) h0 h [(d,.map (iY 0 a) a.length)] [(C,1,ints done)]/\
  g 1=.func (.func 163) #[] #[ptrTo x]/\g 4=C/\g 7=v/\g 8=.int .i64 l.length/\g 9=.int .i64 i) (fun i=>l.length-i) ?_ 0 _ _ ?_
 . clear S
   intro i K g h ⟨hi,a,done,C,hn,hd,S,r1,r4,r7,r8,r9⟩
   by_cases hlt:i<l.length
   . obtain⟨c,o,q,u⟩:=(z.mo S.fr A).ix (kd:=.i64) (bO .i64) hlt
     have w:an .i64 ((i:Int)+1)=((i+1:Nat):Int):=by rw [wrap64]<;>omega
     simp only [BS,LB,Nat.reduceLT,Nat.reduceEqDiff,F0l,r1,r4,r7,r8,r9,aB,hlt,q,u,encI]
     refine step_ret (name_ok S.ok (S.fr.has (o:=.row _ 1) E B) (S.own _ m0).2) ?_
     rintro r h ⟨f,rfl,G⟩
     replace S:=S.call1 (i:=0) rfl f (o':=.map _ _) G
     simp only [LC]at S
     simp only [BS,LB,Nat.reduceLT,Nat.reduceEqDiff]
     refine ag (bR (by exact Tryz.t34.1) (by exact Xy) (by decide) (by rfl)) S ?_;clear S;intro h L S H;simp only [LC,aV,bK,ah,Nat.reduceMul,Nat.reduceAdd,Xi,Xg,Xe,Xk]at S
     simp only [BS,LB,Nat.reduceLT,Nat.reduceEqDiff]
     refine dM (S.grow (j:=0) (m:=1) (new:=ints [(nw a l[i]:Int)]) rfl Tryz.t34.1 Xy (by decide) Tryz.t34.2.2.2.2.2 (by simp only [aJ];rw [S.lds (b:=L) (o:=0) (n:=1*1) m0 (lbt rfl)];rfl) rfl (by decide) rfl (by rw [cu,cu];simp;omega)) ?_
     clear S f G u
     rintro h M S
     simp only [LC]at S
     replace S:=S.drop1
     rw [<-ib]at S
     simp only [BS,LB,Nat.reduceLT,Nat.reduceEqDiff,r9,w]
     refine K (i+1) _ _ (by omega) ⟨by omega,_,_,_,?_,?_,S,by simp [aa,r1,ac],by simp [aa],by simp [aa,r7],by simp [aa,r8],by simp [aa]⟩
     . rw [hn,List.drop_eq_getElem_cons hlt,norm,List.append_assoc];rfl
     . simp [hd]
   . have D:i=l.length:=by omega
     simp only [BS,LB,ae,Nat.reduceLT,Nat.reduceEqDiff,r4,r8,r9,aB,hlt]
     have e:norm ks l=done:=by rw [hn,D,List.drop_length,norm,Xo]
     rw [e]
     exact⟨S.fr,(S.gown _ m0).1.sl rfl (bO .i64) (by decide),fun c p=>((S.gblk m0 p).1).elim (fun h=>h) (fun h=>((S.gblk m0 p).2 (by simp [h])).elim)⟩
 . exact⟨XG _,ks,[],_,rfl,rfl,S,by simp [aa,aR,bU,ac],by simp [aa],by simp [aa,aR],by simp [aa],by simp [aa]⟩
def Tryz.FD:=aj t1<|aj t2<|aj t3<|aj t4<|aj t5<|aj t6<|aj Z3<|aj Z4<|t34
def Tryz.F0m:=aj t1<|aj t2<|aj t3<|aj t4<|aj t34<|aj t162<|aj t250<|aj Z7<|aj Z14<|t294
def Tryz.F02:=aj t1<|aj t2<|aj t3<|aj t162<|aj t250<|aj Z7<|aj Z14<|t294
def kV(a b:Int):Int:=if a<b then-1 else if b<a then 1 else 0
theorem ze{h0:Hp}(b:h0.t.Sized h0.n){a:Int}:aM zL 83 [.int .i64 a] h0 (.bool false):=by
 have S:=Si b
 refine ab (n:=6) (rs:=[.tmp 2]) rfl Tryz.e83 rfl rfl rfl (lbt rfl) ?_
 simp only [BS,LB,ae,Nat.reduceLT,Nat.reduceEqDiff]
 exact S.gr
theorem nanI_ok{h0:Hp}(b:h0.t.Sized h0.n){a:Int}:aM zL 211 [.int .i64 a] h0 (.bool false):=by
 have S:=Si b
 refine ab (n:=6) (rs:=[.tmp 2]) rfl Tryz.e211 rfl rfl rfl (lbt rfl) ?_
 simp only [BS,LB,ae,Nat.reduceLT,Nat.reduceEqDiff]
 exact S.gr
theorem Ah{h0:Hp}(e:h0.t.Sized h0.n){a b:Int}:aM zL 37 [.int .i64 a,.int .i64 b] h0 (.int .i64 (kV a b)):=by
 have S:=Si e
 unfold kV
 refine ab (n:=20) (rs:=[.tmp 4]) rfl Tryz.e37 rfl rfl rfl (lbt rfl) ?_
 simp only [BS,LB,Nat.reduceLT,Nat.reduceEqDiff]
 refine am (ze S.ok) ?_;intro h g;replace S:=S.call g;clear g
 simp only [BS,LB,Nat.reduceLT,Nat.reduceEqDiff]
 refine am (ze S.ok) ?_;intro h g;replace S:=S.call g;clear g
 by_cases c:a<b
 . simp only [BS,LB,ae,Nat.reduceLT,Nat.reduceEqDiff,c]
   exact S.gr
 . by_cases d:b<a
   . simp only [BS,LB,ae,Nat.reduceLT,Nat.reduceEqDiff,c,d]
     exact S.gr
   . simp only [BS,LB,ae,Nat.reduceLT,Nat.reduceEqDiff,c,d]
     exact S.gr
theorem cmpInt_ok{h0:Hp}(e:h0.t.Sized h0.n){a b:Int}:aM zL 207 [.int .i64 a,.int .i64 b] h0 (.int .i64 (kV a b)):=by
 have S:=Si e
 unfold kV
 refine ab (n:=20) (rs:=[.tmp 4]) rfl Tryz.e207 rfl rfl rfl (lbt rfl) ?_
 simp only [BS,LB,Nat.reduceLT,Nat.reduceEqDiff]
 refine am (nanI_ok S.ok) ?_;intro h g;replace S:=S.call g;clear g
 simp only [BS,LB,Nat.reduceLT,Nat.reduceEqDiff]
 refine am (nanI_ok S.ok) ?_;intro h g;replace S:=S.call g;clear g
 by_cases c:a<b
 . simp only [BS,LB,ae,Nat.reduceLT,Nat.reduceEqDiff,c]
   exact S.gr
 . by_cases d:b<a
   . simp only [BS,LB,ae,Nat.reduceLT,Nat.reduceEqDiff,c,d]
     exact S.gr
   . simp only [BS,LB,ae,Nat.reduceLT,Nat.reduceEqDiff,c,d]
     exact S.gr
theorem or2_ok{h0:Hp}(p:h0.t.Sized h0.n){v:Value}{a b:Int}(g:ar h0 1 (encI .i64) v [a,b]):aM zL 206 [v] h0 (.int .i64 (if a=0 then b else a)):=by
 have S:=Si p
 obtain⟨h,j,q,e⟩:=g.ix (kd:=.i64) (bO .i64) (i:=0) (by simp)
 obtain⟨k,l,r,f⟩:=g.ix (kd:=.i64) (bO .i64) (i:=1) (by simp)
 have c:mN (some 1) v (.int .i64 0)=some (.pointer (some ⟨h,j,none⟩)):=q
 have d:mN (some 1) v (.int .i64 1)=some (.pointer (some ⟨k,l,none⟩)):=r
 replace e:h0.load h j 1=some [.int .i64 a]:=e
 replace f:h0.load k l 1=some [.int .i64 b]:=f
 have s:an .i64 1=1:=rfl
 have t:an .i64 2=2:=rfl
 refine ab (n:=18) (rs:=[.tmp 2]) rfl Tryz.e206 rfl rfl rfl (lbt rfl) ?_
 simp only [BS,LB,Nat.reduceLT,Nat.reduceEqDiff,Nat.reduceAdd,Xd,FD,g.lenq]
 rw [ct]
 by_cases m:a=0
 . simp only [BS,LB,Nat.reduceLT,Nat.reduceEqDiff,Int.reduceLT,Int.reduceAdd,FD,c,e,m,s]
   rw [ct]
   by_cases o:b=0
   . simp only [BS,LB,Nat.reduceLT,Nat.reduceEqDiff,Int.reduceLT,Int.reduceAdd,FD,d,f,o,t]
     rw [ct]
     simp only [BS,LB,ae,Nat.reduceLT,Nat.reduceEqDiff,Int.reduceLT]
     exact S.gr
   . simp only [BS,LB,ae,Nat.reduceLT,Nat.reduceEqDiff,Int.reduceLT,FD,d,f,o]
     exact S.gr
 . simp only [BS,LB,ae,Nat.reduceLT,Nat.reduceEqDiff,Int.reduceLT,FD,c,e,m]
   exact S.gr
theorem yU{h0:Hp}(t:h0.t.Sized h0.n){u w B cap:Nat}{n:Int}{l:List Hd}(R:eY h0 u w B cap n l){i k:Nat}(r:i<l.length)(s:k<l.length):
 aM zL 198 [ptrTo u,.int .i64 i,.int .i64 k] h0 (.bool (decide (hlt (l.getD i default) (l.getD k default)))):=by
 have S:=Si t
 obtain⟨E,F,c,f,d,G,C,H,I⟩:=R.ex
 have a:=R.row.load1 (o:=0) rfl
 have e:=C.ld0 d r
 have j:=C.ld1 d r
 have m:=C.ld0 d s
 have p:=C.ld1 d s
 refine ab (n:=44) (rs:=[.tmp 6]) rfl Tryz.e198 rfl rfl rfl (lbt rfl) ?_
 simp only [BS]
 refine au (aC rfl) (q:=17179869184) (ps:=[(16,32),(16,28),(16,24),(16,20)]) (by kernel_rfl) ?_
 simp only [BS,LB,cls,Nat.reduceLT,Nat.reduceEqDiff,Nat.reduceAdd,Nat.reducePow,Nat.reduceDiv,Nat.reduceMod,Nat.reduceLeDiff,F0m,a,r,s,j,p]
 refine cy (Ah S.ok) ?_
 intro h g;replace S:=S.call g
 replace a:=g.load a;replace e:=g.load e;replace j:=g.load j;replace m:=g.load m;replace p:=g.load p
 have x:leaves _ _ w=true:=av g (d.lt t)
 have y:leaves _ _ u=true:=av g (R.row.lt t)
 clear g
 simp only [BS,LB,cls,Nat.reduceLT,Nat.reduceEqDiff,Nat.reduceAdd,Nat.reducePow,Nat.reduceDiv,Nat.reduceMod,Nat.reduceLeDiff,F0m,a,r,s,e,m]
 refine cy (cmpInt_ok S.ok) ?_
 intro J g;replace S:=S.call g
 replace a:=g.load a;replace e:=g.load e;replace j:=g.load j;replace m:=g.load m;replace p:=g.load p
 clear g
 simp only [BS,LB,cls,Nat.reduceLT,Nat.reduceEqDiff,Nat.reduceAdd,Nat.reducePow,Nat.reduceDiv,Nat.reduceMod,Nat.reduceLeDiff]
 refine dS (bR (by exact Tryz.t34.1) (by exact Xy) (by decide) (by rfl)) S ?_;clear S;intro h v S z A;simp only [LC,aV,bK,ah,Nat.reduceMul,Nat.reduceAdd,Xi,Xg,Xe,Xk]at S
 simp only [BS,LB,cls,Nat.reduceLT,Nat.reduceEqDiff,Nat.reduceAdd,Nat.reducePow,Nat.reduceDiv,Nat.reduceMod,Nat.reduceLeDiff]
 have D:ar h 1 (encI .i64) (.slice (some ⟨v,0,none⟩) 2 2) [kV (l.getD i default).key (l.getD k default).key,kV (l.getD i default).id (l.getD k default).id]:=.inr ⟨v,0,none,2,rfl,Xq _,S.lds (b:=v) (o:=0) (n:=2*1) m0 (lbt rfl)⟩
 refine cy (or2_ok S.ok D) ?_
 intro K g;replace S:=S.call g;clear g
 simp only [BS,LB,cls,ae,Nat.reduceLT,Nat.reduceEqDiff,Nat.reduceAdd,Nat.reducePow,Nat.reduceDiv,Nat.reduceMod,Nat.reduceLeDiff]
 refine⟨by simp only [bg,bF,aW,bI,a9,ne_eq,not_false_eq_true,bN,ce,bA,bn,bQ,c8,aK,Nat.reduceLT,Nat.reduceEqDiff,reduceIte,Xh,ac,aN x,aN y,aI x,aI y],?_⟩
 have e3:decide ((if kV (l.getD i default).key (l.getD k default).key=0 then kV (l.getD i default).id (l.getD k default).id else kV (l.getD i default).key (l.getD k default).key)<0)=decide (hlt (l.getD i default) (l.getD k default)):=by
  congr 1
  rw [eq_iff_iff]
  unfold kV hlt
  repeat' split
  all_goals omega
 exact⟨by rw [e3],S.gr⟩
theorem tt{h0:Hp}(ok:h0.t.Sized h0.n){y g j cap:Nat}{n:Int}{l:List Hd}(R:eY h0 y g j cap n l){i k:Nat}(u:i<l.length)(r:k<l.length):
 Ret zL 174 [ptrTo y,.int .i64 i,.int .i64 k] h0 fun v d=>Mo (fun c=>c=g\/c=j) h0 d/\eY d y g j cap n (sw l i k):=by
 obtain⟨X,es,c,f,G,hm,C,MI,IF⟩:=R.ex
 have S:=St.init2 (M:=fun c=>c=g\/c=j) ok (o1:=.row X 1) (o2:=.map es c) G hm R.ne.2.2 (.inl rfl) (.inr rfl)
 have F: ¬(y=g\/y=j):=fun h=>h.elim R.ne.1 R.ne.2.1
 have H:=R.row.load1 (o:=0) rfl
 have r1:=R.row.load1 (o:=1) rfl
 have i2:=C.ld2 G u
 have k2:=C.ld2 G r
 have Y:=C.len
 have ad:=C.le
 refine ab (n:=62) (rs:=[]) rfl Tryz.e174 rfl rfl rfl (lbt rfl) ?_
 simp only [BS]
 refine au (aC rfl) (q:=0) (ps:=[]) (by kernel_rfl) ?_
 simp only [BS,LB,cls,Nat.reduceLT,Nat.reduceEqDiff,Nat.reduceAdd,Nat.reducePow,Nat.reduceDiv,Nat.reduceMod,Nat.reduceLeDiff,F02,H,u,r,i2,k2]
 refine dw (S.store (i:=0) rfl Tryz.t260.2.1 (by intro x e;cases e) rfl rfl (by omega) ono) ?_
 clear S;rintro h ⟨S,s⟩;clear s
 have I:=C.set u (l.getD k default)
 simp only [LC,ah]at S
 have m:=S.old H F
 simp only [BS,LB,cls,Nat.reduceLT,Nat.reduceEqDiff,Nat.reduceAdd,Nat.reducePow,Nat.reduceDiv,Nat.reduceMod,Nat.reduceLeDiff,F02,r]
 generalize lay X (i*2) _=J at S I
 have af:=I.len
 refine dw (S.store (i:=0) (off:=k*2) rfl Tryz.t260.2.1 (by intro x e;cases e) rfl rfl (by omega) ono) ?_
 clear S;rintro h ⟨S,s⟩;clear s
 have A:=I.set (i:=k) (by rw [Xp];exact r) (l.getD i default)
 simp only [LC,ah]at S
 generalize lay J (k*2) _=t at S A
 rw [set_sw]at A
 clear m
 have m:=S.old H F
 have B:=S.old r1 F
 have K:i<(sw l i k).length:=by rw [gK];exact u
 have L:k<(sw l i k).length:=by rw [gK];exact r
 have Z:=A.ld0 (S.row m0) K
 have ak:=A.ld0 (S.row m0) L
 simp only [BS,LB,Nat.reduceAdd]
 refine au (aC rfl) (q:=0) (ps:=[]) (by kernel_rfl) ?_
 simp only [BS,LB,cls,Nat.reduceLT,Nat.reduceEqDiff,Nat.reduceAdd,Nat.reducePow,Nat.reduceDiv,Nat.reduceMod,Nat.reduceLeDiff,F02,m,B,u,r,Z,ak]
 refine dn_v (P:=fun d v=> ∃n a p,v=.tuple #[(f ((sw l i k).getD i default).id).getD (.int .i64 0),.int .i64 (Int.ofNat n)]/\St (fun c=>c=g\/c=j) h0 d [(g,.row t 1),(j,.map a p)] []/\ ∀w,∃b,fD n w a=some b/\dG b p (dR f ((sw l i k).getD i default).id (some w))) ?_ ?_
 . obtain⟨d,n,N,_,a,p,_,O,e5⟩:=S.mentI (i:=1) (x:=(((sw l i k).getD i default).id:Int)) rfl Tryz.t162.1 Tryz.t3.1 (z:=.int .i64 0) (by kernel_rfl) MI
   exact⟨d,_,N,n,a,p,rfl,O,e5⟩
 clear S Z ak m B
 rintro h v ⟨s1,al,c1,rfl,S,Q⟩
 obtain⟨b,T,U⟩:=Q (.int .i64 i)
 simp only [BS,LB,cls,Nat.reduceLT,Nat.reduceEqDiff,Nat.reduceAdd,Nat.reducePow,Nat.reduceDiv,Nat.reduceMod,Nat.reduceLeDiff,XT]
 refine dw (S.mstoreI (i:=1) rfl T) ?_
 clear S;rintro h ⟨s,S⟩;clear s
 simp only [LC]at S
 simp only [BS,LB,cls,Nat.reduceLT,Nat.reduceEqDiff,Nat.reduceAdd,Nat.reducePow,Nat.reduceDiv,Nat.reduceMod,Nat.reduceLeDiff]
 refine dn_v (P:=fun d v=> ∃n a p,v=.tuple #[(dR f ((sw l i k).getD i default).id (some (.int .i64 i)) ((sw l i k).getD k default).id).getD (.int .i64 0),.int .i64 (Int.ofNat n)]/\St (fun c=>c=g\/c=j) h0 d [(g,.row t 1),(j,.map a p)] []/\ ∀w,∃b,fD n w a=some b/\dG b p (dR (dR f ((sw l i k).getD i default).id (some (.int .i64 i))) ((sw l i k).getD k default).id (some w))) ?_ ?_
 . obtain⟨d,n,N,_,a,p,_,O,e5⟩:=S.mentI (i:=1) (x:=(((sw l i k).getD k default).id:Int)) rfl Tryz.t162.1 Tryz.t3.1 (z:=.int .i64 0) (by kernel_rfl) U
   exact⟨d,_,N,n,a,p,rfl,O,e5⟩
 clear S
 rintro h v ⟨s2,ax,c3,rfl,S,D⟩
 obtain⟨V,E,W⟩:=D (.int .i64 k)
 simp only [BS,LB,cls,Nat.reduceLT,Nat.reduceEqDiff,Nat.reduceAdd,Nat.reducePow,Nat.reduceDiv,Nat.reduceMod,Nat.reduceLeDiff,XT]
 refine dw (S.mstoreI (i:=1) rfl E) ?_
 clear S;rintro h ⟨s,S⟩;clear s
 simp only [LC]at S
 simp only [BS,LB,Nat.reduceAdd]
 refine⟨S.fr,?_,⟨t,V,c3,_,S.row m0,(S.own _ m1).2,A,W,IF.swap u r⟩,R.ne⟩
 rw [gK]
 exact S.fr.has (o:=.row _ 1) R.row F
theorem up_ok{h0:Hp}(u:h0.t.Sized h0.n){b d e cap:Nat}{n:Int}{l:List Hd}(R:eY h0 b d e cap n l){i:Nat}(r:i<l.length)(y:l.length<1000000)(U:qY l i):
 Ret zL 183 [ptrTo b,.int .i64 i] h0 fun v s=>Mo (fun c=>c=d\/c=e) h0 s/\ ∃l',eY s b d e cap n l'/\l'.Perm l/\lG l':=by
 refine ab (n:=23) (rs:=[]) rfl Tryz.e183 rfl rfl rfl (lbt rfl) ?_
 simp only [BS]
 refine aO (fun(i:Nat) m h=>i<l.length/\Mo (fun c=>c=d\/c=e) h0 h/\ ∃l',eY h b d e cap n l'/\l'.Perm l/\qY l' i/\m 0=ptrTo b/\m 1=.int .i64 i) (fun i=>i) ?_ i _ _ ?_
 . intro i w m h ⟨r,a,l',R,pm,U,r0,r1⟩
   have t:=pm.length_eq
   by_cases o:i=0
   . subst o
     simp only [BS,LB,Nat.reduceLT,Nat.reduceEqDiff,Int.reduceLT,Xd,r1]
     exact⟨a,l',R,pm,up_done U (.inl rfl)⟩
   . have x:(0:Int)<(i:Int):=by omega
     have p:an .i64 ((i:Int)-1)=((i-1:Nat):Int):=by rw [wrap64]<;>omega
     have q:an .i64 (((i-1:Nat):Int).tdiv 4)=(((i-1)/4:Nat):Int):=by
      rw [Int.tdiv_eq_ediv_of_nonneg (by omega),show(((i-1:Nat):Int)/4)=(((i-1)/4:Nat):Int) by omega,wrap64]<;>omega
     simp only [BS,LB,Nat.reduceLT,Nat.reduceEqDiff,r0,r1,x,p,q,kJ (n:=4) (by decide)]
     refine am (yU a.ok R (i:=i) (k:=(i-1)/4) (by omega) (by omega)) ?_
     intro h g;replace R:=R.gr g;replace a:=a.trans (M':=NoM) g.fr (fun _ h=>h.elim);clear g
     by_cases j:hlt (l'.getD i default) (l'.getD ((i-1)/4) default)
     . simp only [BS,LB,Nat.reduceLT,Nat.reduceEqDiff,r0,r1,p,q,kJ (n:=4) (by decide),j]
       refine step_ret (tt a.ok R (i:=i) (k:=(i-1)/4) (by omega) (by omega)) ?_
       rintro v h ⟨f,R⟩
       replace a:=a.trans f (fun _ h=>.inl h)
       simp only [BS,LB,Nat.reduceLT,Nat.reduceEqDiff,r1,p,q,kJ (n:=4) (by decide)]
       exact w ((i-1)/4) _ _ (by omega) ⟨by omega,a,_,R,(sJ l' (by omega) (by omega)).trans pm,up_step (by omega) U (by omega) j,by simp [aa,r0,ac],by simp [aa]⟩
     . simp only [BS,LB,Nat.reduceLT,Nat.reduceEqDiff,kJ (n:=4) (by decide),j]
       exact⟨a,l',R,pm,up_done U (.inr (we j))⟩
 . exact⟨r,Mo.refl u,l,R,.refl _,U,by simp [aR,ac],by simp [aR,bU]⟩
def Tryz.FO:=aj t1<|aj t2<|aj t3<|aj t4<|aj t137<|aj t162<|aj t250<|aj Z7<|aj Z14<|t294
def Tryz.Fj:=aj t1<|aj t2<|aj t3<|aj t4<|aj t5<|aj t6<|aj Z3<|aj Z4<|aj t9<|aj t12<|aj Z15<|aj t58<|aj t132<|aj t162<|aj t250<|aj Z7<|t294
theorem St.monoM{M:Nat->Prop}{h0 h:Hp}{L:List (Nat×Ob)}{G:List GL}(S:St NoM h0 h L G):St M h0 h L G:=
 ⟨S.fr.mono (fun _ h=>h.elim),fun p a=>⟨(S.own p a).1.imp (fun h=>h) (fun h=>h.elim),(S.own p a).2⟩,fun p a=>⟨(S.gown p a).1,fun b c=>((S.gown p a).2 b c).imp (fun h=>h) (fun h=>h.elim)⟩,S.apart⟩
theorem below_ok{h0:Hp}(f:h0.t.Sized h0.n){e i:Nat}:Ret zL 199 [ptrTo e,.int .i64 i] h0 fun v d=>Gr h0 d/\ ∃b1 a,v=.func (.func 208) #[] #[ptrTo b1,ptrTo a]/\h0.n<=b1/\h0.n<=a/\d.load b1 0 1=some [.int .i64 i]/\d.load a 0 1=some [ptrTo e]:=by
 have S:=Si f
 refine ab (n:=6) (rs:=[.tmp 4]) rfl Tryz.e199 rfl rfl rfl (lbt rfl) ?_
 simp only [BS,Nat.reduceLT]
 refine ag (bC (by exact cq)) S ?_;clear S;intro h a S b
 simp only [BS,Nat.reduceLT,Nat.reduceEqDiff,if_false]
 refine ag (bC (by exact aX)) S ?_;clear S;intro h b1 S c
 simp only [BS,LB,ae,Nat.reduceLT,Nat.reduceEqDiff]
 exact⟨S.gr,b1,a,rfl,c,b,S.ld m0 rfl,S.ld m1 rfl⟩
theorem Bb{h0:Hp}(b:h0.t.Sized h0.n){b1 e l i n cap:Nat}{q:Addr}(f:h0.load b1 0 1=some [.int .i64 i])(r:h0.load e 0 1=some [ptrTo l])(A:h0.load l 0 1=some [.slice (some q) n cap])(I:n<1000000)(K:i<1000000):
 Iter zL 208 [] [ptrTo b1,ptrTo e] h0 (fun c=>c=b1\/c=e\/c=l) ((Xc (min 4 (n-(4*i+1)))).map fun j=>[.int .i64 ((4*i+1+j:Nat):Int)]):=by
 refine te fun B J Z Y h F s m=>?_
 refine enter (n:=28) (rs:=[]) rfl Tryz.e208 rfl rfl rfl (lbt rfl) ?_
 have d:=s.load b f (.inl rfl)
 have o:an .i64 (4*(i:Int))=((4*i:Nat):Int):=by rw [wrap64]<;>omega
 have C:an .i64 (((4*i:Nat):Int)+1)=((4*i+1:Nat):Int):=by rw [wrap64]<;>omega
 have t:an .i64 (((4*i:Nat):Int)+4)=((4*i+4:Nat):Int):=by rw [wrap64]<;>omega
 simp only [BS,LB,Nat.reduceLT,Nat.reduceEqDiff,FO,d,o,C]
 refine aO (fun(j:Nat) g h=>j<=min 4 (n-(4*i+1))/\ ∃F,ItS h0 (fun c=>c=b1\/c=e\/c=l) h F/\J j h F/\g 0=.func (.yield B) #[] #[]/\g 1=ptrTo b1/\g 2=ptrTo e/\g 4=.int .i64 ((4*i+1+j:Nat):Int)) (fun j=>min 4 (n-(4*i+1))-j) ?_ 0 _ _ ?_
 . clear d
   intro j D g h ⟨hjm,F,s,m,r0,r1,r2,r4⟩
   have d:=s.load b f (.inl rfl)
   have x:=s.load b r (.inr (.inl rfl))
   have y:=s.load b A (.inr (.inr rfl))
   by_cases hlt:j<min 4 (n-(4*i+1))
   . have p:((4*i+1+j:Nat):Int)<=((4*i+4:Nat):Int):=by omega
     have u:4*i+1+j<n:=by omega
     have w:an .i64 (((4*i+1+j:Nat):Int)+1)=((4*i+1+(j+1):Nat):Int):=by rw [wrap64]<;>omega
     simp only [BS,LB,Nat.reduceLT,Nat.reduceEqDiff,FO,r0,r1,r2,r4,d,x,y,o,t,p,u,aB]
     refine cI Y s m (i:=j) (by rw [XF,XW hlt];rfl) ?_ ?_ ?_
     . intro z E a G _ _
       simp only [BS,LB,Nat.reduceLT,Nat.reduceEqDiff,r4,w]
       exact D (j+1) _ _ (by omega) ⟨by omega,E,G,a,by simp [aa,r0],by simp [aa,r1,ac],by simp [aa,r2,ac],by simp [aa]⟩
     . intro z a _
       simp only [BS,LB,Nat.reduceLT,Nat.reduceEqDiff]
       exact fi rfl ⟨rfl,.inr (.inl ⟨_,rfl,a⟩)⟩
     . intro v z a
       simp only [BS]
       exact jK (cJ ⟨rfl,.inr (.inr ⟨_,rfl,a⟩)⟩)
   . have H:j=min 4 (n-(4*i+1)):=by omega
     have k:YQ J Z (min 4 (n-(4*i+1))) (.ret (ae [])) none h:=⟨rfl,.inl ⟨_,F,rfl,by rw [<-H];exact m⟩⟩
     by_cases p:((4*i+1+j:Nat):Int)<=((4*i+4:Nat):Int)
     . have u: ¬4*i+1+j<n:=by omega
       simp only [BS,LB,Nat.reduceLT,Nat.reduceEqDiff,FO,r1,r2,r4,d,x,y,o,t,p,u,aB]
       exact bS (cJ ⟨rfl,_,rfl,by simpa using k⟩)
     . simp only [BS,LB,Nat.reduceLT,Nat.reduceEqDiff,FO,r1,r4,d,o,t,p]
       exact bS (cJ ⟨rfl,_,rfl,by simpa using k⟩)
 . exact⟨by omega,F,s,m,by simp [aa,bJ],by simp [aa,bJ,ac],by simp [aa,bJ,ac],by simp [aa]⟩
theorem down_ok {h0:Hp} (ok:h0.t.Sized h0.n) {u z A cap:Nat} {n:Int} {l:List Hd} (R:eY h0 u z A cap n l) {i:Nat} (C:i<l.length\/(l=[]/\i=0)) (hl:l.length<100000) (D:sH l i):
 Ret zL 175 [ptrTo u,.int .i64 i] h0 fun v J=>Mo (fun c=>c=z\/c=A) h0 J/\ ∃l',eY J u z A cap n l'/\l'.Perm l/\lG l':=by
 have lt:=R.lt ok
 have S:=Si ok
 have N: ∀{L:List (Nat×Ob)},(∀c∈keys L [],h0.n<=c)-> ∀c,c=u\/c=z\/c=A-> ¬c∈keys L []:=fun H c s hm=>by have:=lt c s;have:=H c hm;omega
 refine ab (n:=27) (rs:=[]) rfl Tryz.e175 rfl rfl rfl (lbt rfl) ?_
 simp only [BS,LB,Nat.reduceLT,Fj]
 refine ag aw S ?_;clear S;intro h I S Q
 simp only [BS,LB,Nat.reduceLT,Nat.reduceEqDiff]
 refine az (ay S (i:=0) rfl ?_ ?_ ?_ ono) ?_
 . exact(by simp only [Fj])
 . exact(by exact fQ)
 . exact zM (lbt rfl)
 clear S;rintro h ⟨S,U⟩;clear U;simp only [LC,ah,lay,zO,Xa,Nat.reduceAdd]at S
 simp only [BS]
 have RR:=R.gr S.gr
 replace S:=S.monoM (M:=fun c=>c=z\/c=A)
 refine pS (fun(i:Nat) ρ d h=> ∃(r:List Nat) (l':List Hd),d=r.map qk/\St (fun c=>c=z\/c=A) h0 h (dh r++[(I,.row [.func (.func 198) #[ptrTo u] #[]] 1)]) []/\(∀c∈keys (dh r++[(I,Ob.row [.func (.func 198) #[ptrTo u] #[]] 1)]) [],h0.n<=c)/\
  eY h u z A cap n l'/\l'.Perm l/\sH l' i/\(i<l.length\/(l=[]/\i=0))/\ρ 0=ptrTo u/\ρ 1=.int .i64 i/\ρ 4=ptrTo I) (fun i=>l.length-i) ?_ i _ _ _ ?_
 . clear S RR R D C i
   intro i ih ρ d hS ⟨r,l',hd,S0,H,R,pm,D,C,r0,r1,r4⟩
   have a1:=pm.length_eq
   have ai:i<1000000:=by rcases C with C|⟨_,C⟩<;>omega
   have S:=S0.base
   have Rs:=R
   have n0:h0.n<=hS.n:=S0.fr.n
   simp only [BS,Nat.reduceLT,Fj,r1]
   refine ag aw S ?_;clear S;intro h w S V
   simp only [BS,LB,Nat.reduceLT,Nat.reduceEqDiff]
   refine az (ay S (i:=0) rfl ?_ ?_ ?_ ono) ?_
   . exact(by simp only [Fj])
   . exact(by exact aX)
   . exact zM (lbt rfl)
   clear S;rintro h ⟨S,U⟩;clear U;simp only [LC,ah,lay,zO,Xa,Nat.reduceAdd]at S
   simp only [BS,LB,Nat.reduceLT,Nat.reduceEqDiff,r0,r1]
   have gq:=S.fr.n
   have a2:=S.key_lt (b:=w) (by simp [keys])
   refine step_ret (below_ok S.ok) ?_;intro v h ⟨g,b1,b2,e,n1,n2,q1,q2⟩;replace S:=S.call g;clear g
   subst e
   simp only [BS]
   replace R:=R.mo1 S.fr (N H)
   have gh:=S.fr.n
   refine fq S (g:=208) (a:=#[]) (b:=#[ptrTo b1,ptrTo b2]) (by simp [bQ,aa,ac]) rfl rfl ?_
   intro h2 E O W a3 a4 g2
   have kb: ∀c∈keys (dh r++[(I,Ob.row [.func (.func 198) #[ptrTo u] #[]] 1)]) [],c<b1/\c<b2:=fun c s=>by have:=S0.key_lt s;have:=V;omega
   generalize hB:dh r++[(I,Ob.row [.func (.func 198) #[ptrTo u] #[]] 1)]=B at S W S0 H kb
   have mf:(I,Ob.row [.func (.func 198) #[ptrTo u] #[]] 1)∈B:=by rw [<-hB];exact List.mem_append_right _ m0
   obtain⟨X,hX,W⟩: ∃X:eu,X=_/\St (· ∈keys B []) hS h2 ((O,.loop X)::(E,.dfr)::(w,.row [.int .i64 (i:Nat)] 1)::B) []:=⟨_,rfl,W⟩
   have R2:=R.gr g2
   have ch: ∀j,j<min 4 (l'.length-(4*i+1))->4*i+1+j<l'.length/\(4*i+1+j-1)/4=i:=fun j hj=>⟨by omega,by omega⟩
   have hY:Yld zL O (fun j J F=> ∃m:Nat,St (· ∈keys B []) hS J ((O,.loop X)::(E,.dfr)::(w,.row [.int .i64 (m:Nat)] 1)::B) []/\F=keys ((O,.loop X)::(E,.dfr)::(w,.row [.int .i64 (m:Nat)] 1)::B) []/\
    (m<l'.length\/(l'=[]/\m=i))/\hle (l'.getD m default) (l'.getD i default)/\(∀q,q<j->hle (l'.getD m default) (l'.getD (4*i+1+q) default))/\(m=i\/(0<m/\(m-1)/4=i/\hlt (l'.getD m default) (l'.getD i default)))) (fun _ _=>False) ((Xc (min 4 (l'.length-(4*i+1)))).map fun j=>[.int .i64 ((4*i+1+j:Nat):Int)]):=by
    refine⟨?_,?_,fun _ _ h=>h.elim,?_⟩
    . rintro j h F ⟨m,S,rfl,_⟩;exact⟨S.ok,fun b t=>S.key_lt t⟩
    . rintro j h F J ⟨m,S,rfl,k⟩ g;exact⟨m,S.call g,rfl,k⟩
    . rintro j x h F hx ⟨m,S,rfl,G,k2,Y,Z⟩
      have ad:j<min 4 (l'.length-(4*i+1)):=by
       have:=(List.getElem?_eq_some_iff.1 hx).1
       simpa using this
      rw [XF,XW ad]at hx
      cases hx
      obtain⟨c1,c2⟩:=ch j ad
      replace G:=G.resolve_right (by intro e;rw [e.1]at c1;simp at c1)
      obtain⟨X0,ak⟩: ∃x,x=X:=⟨_,rfl⟩
      subst hX
      refine fG (S.get m0) (by rw [Tryz.e175];rfl) rfl ?_
      have S1:=S
      replace S:=S.base
      simp only [BS,LB,Nat.reduceLT,Nat.reduceEqDiff]
      refine eH S (i:=0) rfl rfl rfl rfl rfl ?_
      clear S;intro h S
      simp only [LC]at S
      have lf:h.load I 0 1=some [.func (.func 198) #[ptrTo u] #[]]:=S.ld (o:=0) (.tail _ (.tail _ (.tail _ mf))) rfl
      simp only [BS,LB,Nat.reduceLT,Nat.reduceEqDiff,Fj,r4,lf,S.ld (b:=w) (o:=0) m2 rfl]
      have al: ∀c∈keys ((O,Ob.loop X0)::(E,.dfr)::(w,.row [.int .i64 (m:Nat)] 1)::B) [],h0.n<=c:=fun c s=>(S1.key_own s).elim (fun h=>by omega) (fun h=>H c h)
      clear ak
      have Rc:eY h u z A cap n l':=(Rs.mo1 S1.fr (N H)).mo1 S.fr (N al)
      refine am (yU S.ok Rc c1 G) ?_
      intro h g;replace S:=S.call g;clear g Rc lf
      by_cases P:hlt (l'.getD (4*i+1+j) default) (l'.getD m default)
      . simp only [BS,LB,Nat.reduceLT,Nat.reduceEqDiff,P]
        refine az (ay S (i:=2) rfl ?_ ?_ ?_ ono) ?_
        . exact(by simp only [Fj])
        . exact(by exact aX)
        . exact zM (lbt rfl)
        clear S;rintro h ⟨S,U⟩;clear U;simp only [LC,ah,lay,zO,Xa,Nat.reduceAdd]at S
        simp only [BS]
        refine dy S (i:=0) rfl ?_
        clear S;intro h S
        simp only [LC]at S
        refine .inl ⟨rfl,_,⟨4*i+1+j,S1.rebase S,rfl,.inl c1,jO (rS P) k2,fun q hq=>?_,.inr ⟨by omega,c2,?_⟩⟩,S.fr,S.key_new⟩
        . by_cases e:q=j
          . subst e;exact uh _
          . exact jO (rS P) (Y q (by omega))
        . rcases Z with rfl|⟨_,_,Z⟩
          . exact P
          . unfold hlt at*;omega
      . simp only [BS,LB,Nat.reduceLT,Nat.reduceEqDiff,P]
        refine dy S (i:=0) rfl ?_
        clear S;intro h S
        simp only [LC]at S
        refine .inl ⟨rfl,_,⟨m,S1.rebase S,rfl,.inl G,k2,fun q hq=>?_,Z⟩,S.fr,S.key_new⟩
        by_cases e:q=j
        . subst e;exact we P
        . exact Y q (by omega)
   refine eg (yX (Bb S.ok q1 q2 (R.row.load1 (o:=0) rfl) (by omega) ai) hY (h:=h2) (F:=keys ((O,.loop X)::(E,.dfr)::(w,.row [.int .i64 (i:Nat)] 1)::B) []) g2.fr (fun b t hlt=>?_) ⟨i,W,rfl,?_,uh _,fun q hq=>by omega,.inl rfl⟩) fun o rc J y=>iq y ?_
   . have e1:=W.key_own t
     rintro(rfl|rfl|rfl)
     . rcases List.mem_cons.1 t with e|t
       . omega
       . rcases List.mem_cons.1 t with e|t
         . omega
         . rcases List.mem_cons.1 t with e|t
           . simp only []at e;omega
           . have:=(kb _ t).1;omega
     . rcases List.mem_cons.1 t with e|t
       . omega
       . rcases List.mem_cons.1 t with e|t
         . omega
         . rcases List.mem_cons.1 t with e|t
           . simp only []at e;omega
           . have:=(kb _ t).2;omega
     . have:=lt b (.inl rfl)
       rcases e1 with e1|e1
       . omega
       . have:=H b e1;omega
   . rcases C with C|⟨C,_⟩
     . exact .inl (by omega)
     . right;rw [C]at pm;exact⟨pm.eq_nil,rfl⟩
   . rintro F ⟨m,T,rfl,G,k2,Y,Z⟩
     rw [List.length_map,List.length_range]at Y
     subst hX
     refine⟨_,T.get m0,Nat.zero_ne_one,?_⟩
     replace T:=T.dead
     show Run _ _ _ _ _ _ _ _
     have p:=T.ld (b:=w) (o:=0) m1 rfl
     have Rc:eY _ u z A cap n l':=Rs.mo1 T.fr (N H)
     have km: ∀q,0<q->q<l'.length->(q-1)/4=i->hle (l'.getD m default) (l'.getD q default):=fun q q0 ql qe=>by
      have:=Y (q-(4*i+1)) (by omega)
      rwa [show 4*i+1+(q-(4*i+1))=q by omega]at this
     have T0:=S0.rebase T
     have af: ∀c∈keys ((E,Ob.dfr)::(w,.row [.int .i64 (m:Nat)] 1)::B) [],h0.n<=c:=fun c s=>(T.key_own s).elim (fun h=>by omega) (fun h=>H c h)
     subst hd hB
     have T2:=T0.sub (L':=dh (E::r)++[(I,Ob.row [.func (.func 198) #[ptrTo u] #[]] 1)]) (G':=[]) (List.Sublist.cons_cons _ (List.sublist_cons_self _ _)) (List.Sublist.refl _)
     have K: ∀c∈keys (dh (E::r)++[(I,Ob.row [.func (.func 198) #[ptrTo u] #[]] 1)]) [],h0.n<=c:=fun c s=>af c (by simp only [keys,List.filterMap_nil,Xo,dh,XJ,List.cons_append,List.mem_cons]at s⊢;rcases s with h|h;exact .inl h;exact .inr (.inr h))
     by_cases e:m=i
     . subst e
       simp only [BS,LB,Nat.reduceLT,Nat.reduceEqDiff,Fj,r1,p]
       have T3:=T2.base
       refine dp (eR (E::r) _ T3 fun J T4=>⟨rfl,_,rfl,?_⟩)
       refine⟨(T2.fr.trans T4.fr fun c s=>(T2.key_own s).symm),l',Rc.mo1 T4.fr (N K),pm,dn_done D km⟩
     . have e': ¬((m:Int)=(i:Int)):=by omega
       obtain⟨b0,be,ax⟩:=Z.resolve_left e
       replace G:=G.resolve_right (fun h=>e h.2)
       simp only [BS,LB,Nat.reduceLT,Nat.reduceEqDiff,Fj,r0,r1,p,e']
       refine step_ret (tt T2.ok Rc (i:=i) (k:=m) (by omega) G) ?_
       rintro v h ⟨f,Rn⟩
       have aL:=N K
       have T3:=T2.step f (fun c s=>.inl s) (fun c s hM=>aL c (.inr hM) s)
       have f2:Mo (fun c=>c=z\/c=A) _ h:=f
       have a0:h.load w 0 1=some [.int .i64 (m:Nat)]:=by
        have a5:h0.n<=w:=af w (.tail _ m0)
        have:=f.get w (a8 f.ok0 p) (fun hM=>by have:=lt w (.inr hM);omega)
        unfold Hp.load at p⊢
        rw [this];exact p
       simp only [BS,LB,Nat.reduceLT,Nat.reduceEqDiff,Fj,a0]
       exact ih m _ _ _ (by omega) ⟨E::r,_,rfl,T3,K,Rn,(sJ l' (by omega) G).trans pm,dn_step D b0 G be ax km,.inl (by omega),by simp [aa,r0,ac],by simp [aa],by simp [aa,r4,ac]⟩
 . exact⟨[],l,rfl,S,fun c s=>by simp [keys,dh]at s;subst s;exact Q,RR,.refl _,D,C,by simp [aa,aR,ac],by simp [aa,aR,bU],by simp [aa,ac]⟩
end Go.Ab
end
section
namespace Go.Ab
open Go.Proofs
set_option maxRecDepth 10000
def Tryz.F11:=aj t1<|aj t3<|aj t162<|aj t194<|aj t250<|aj Z7<|aj Z11<|Z14
def Tryz.F12:=aj t1<|aj t2<|aj t3<|aj t4<|aj t162<|aj t194<|aj t250<|aj Z7<|aj Z11<|Z14
def Tryz.F0n:=aj t1<|aj t2<|aj t3<|aj t4<|aj t5<|aj t6<|aj t162<|aj t194<|aj t250<|aj Z7<|aj Z11<|Z14
def Tryz.Fb:=aj t1<|aj t2<|aj t3<|aj t4<|aj t5<|aj t6<|aj Z3<|aj Z4<|aj t9<|aj t47<|aj t162<|aj t194<|aj t250<|aj Z7<|aj Z11<|Z14
def Tryz.F0o:=aj t1<|aj t2<|aj t3<|aj t4<|aj t5<|aj t6<|aj Z3<|aj Z4<|aj t9<|aj t10<|aj t11<|aj t12<|aj t47<|aj t162<|aj t194<|aj t250<|aj Z7<|aj Z11<|Z14
theorem wo{h0:Hp}(l:h0.t.Sized h0.n){N:Nat}:Ret zL 122 [.int .i64 N] h0 fun v f=>Gr h0 f/\ ∃F,c6 f F v N (fun _=>none)/\ ∀b∈F,h0.n<=b:=by
 have S:=Si l
 have m:max (N:Int) 0=(N:Int):=by omega
 refine ab (n:=9) (rs:=[.tmp 2]) rfl Tryz.e122 rfl rfl rfl (lbt rfl) ?_
 simp only [BS]
 refine ag mI S ?_;clear S;intro h g S a
 simp only [BS,LB,Nat.reduceLT,Nat.reduceEqDiff,Nat.reduceAdd,Nat.reduceLeDiff,F11,m]
 refine ag (aZ (by intro x e;cases e)) S ?_;clear S;intro h b S d;simp only [ah]at S
 simp only [BS,LB,ae,Nat.reduceLT,Nat.reduceEqDiff]
 have i:=S.apart
 simp only [keys,XJ,XZ,List.filterMap_nil,Xo,List.nodup_cons,List.mem_cons,List.not_mem_nil,or_false]at i
 refine⟨S.gr,[b,g],⟨b,g,[],rfl,fun j _ o=>(by simp at o),cont_nil,fun x p=>(by cases p),.inl ⟨rfl,rfl,i.1,S.row m0,[],0,(S.own _ m1).2,qS⟩⟩,fun c k=>?_⟩
 simp at k
 rcases k with rfl|rfl
 . exact d
 . exact a
section
variable{h0:Hp}{F:List Nat}{p:Value}{N:Nat}{K:Nat->Option Int}
theorem uR(f:h0.t.Sized h0.n)(H:c6 h0 F p N K): ∃m:Nat,aM zL 173 [p] h0 (.int .i64 m)/\(m=0↔ ∀v,K v=none):=by
 obtain⟨g,q,l,rfl,r,d,s,h⟩:=H.ex
 refine⟨l.length,?_,?_⟩
 . have S:=Si f
   obtain⟨a,n,c,m1,m2,b,i⟩: ∃a n c m1 m2,Row h0 g [.slice a n c,m1,m2] 1/\n=l.length:=by
    rcases h with⟨rfl,_,_,b,_⟩|⟨t,j,_,b⟩
    . exact⟨_,_,_,_,_,b,rfl⟩
    . exact⟨_,_,_,_,_,b.row,rfl⟩
   subst i
   have k:=b.load1 (o:=0) rfl
   refine ab (n:=11) (rs:=[.tmp 2]) rfl Tryz.e173 rfl rfl rfl (lbt rfl) ?_
   simp only [BS,LB,ae,Nat.reduceLT,Nat.reduceEqDiff,F12,k]
   exact S.gr
 . constructor
   . intro e
     rw [List.length_eq_zero_iff.1 e]at d
     exact d.nil
   . intro e
     cases l with
     |nil=>rfl
     | cons x l=>
       have:=(d.2 x.id x.key).2 (by simp)
       rw [e]at this;cases this
theorem vg (y:h0.t.Sized h0.n) (H:c6 h0 F p N K) {v:Nat}:aM zL 171 [p,.int .i64 v] h0 (.tuple #[.int .i64 ((K v).getD 0),.bool (K v).isSome]):=by
 have S:=Si y
 obtain⟨m,a,A⟩:=uR y H
 obtain⟨O,P,l,rfl,Q,r,T,I⟩:=H.ex
 by_cases b:m=0
 . subst b
   have e:=A.1 rfl v
   rw [e]
   refine ab (n:=32) (rs:=[.tmp 4,.tmp 5]) rfl Tryz.e171 rfl rfl rfl (lbt rfl) ?_
   simp only [BS,LB,Nat.reduceLT,Nat.reduceEqDiff]
   refine am (a) ?_;intro h g;replace S:=S.call g;clear g
   simp only [BS,LB,ae,Nat.reduceLT,Nat.reduceEqDiff,Xd]
   exact⟨rfl,S.gr⟩
 . have d: ¬((m:Int)=0):=by omega
   rcases I with⟨rfl,_⟩|⟨U,J,_,R⟩
   . exact absurd (A.2 r.nil) b
   . refine ab (n:=32) (rs:=[.tmp 4,.tmp 5]) rfl Tryz.e171 rfl rfl rfl (lbt rfl) ?_
     simp only [BS,LB,Nat.reduceLT,Nat.reduceEqDiff]
     refine am (a) ?_;intro h g;replace S:=S.call g;replace R:=R.gr g;clear g
     obtain⟨V,W,c,f,s,t,C,L,B⟩:=R.ex
     have M:=R.row.load1 (o:=0) rfl
     have D:=R.row.load1 (o:=1) rfl
     have q:=rF (x:=(v:Int)) Tryz.t162.1 Tryz.t3.1 (z:=.int .i64 0) (by kernel_rfl) t L
     cases E:K v with
     | none=>
       have u:f v=none:=by
        cases hf:f v with
        |none=>rfl
        | some w=>
          obtain⟨i,j,e⟩:=B.2 v w hf
          have:=r.at j
          rw [show(l.getD i default).id=v by omega,E]at this;cases this
       rw [u]at q
       simp only [BS,LB,ae,Nat.reduceLT,Nat.reduceEqDiff,F0n,d,D,q,XA,XD]
       exact S.gr
     | some k=>
       obtain⟨i,j,e⟩:=r.idx E
       have u:f v=some (.int .i64 i):=by have:=B.1 i j;rwa [e]at this
       rw [u]at q
       have G:=C.ld1 s j
       rw [e]at G
       simp only [BS,LB,ae,Nat.reduceLT,Nat.reduceEqDiff,F0n,d,M,D,q,XB,j,G]
       exact S.gr
theorem qu(ok:h0.t.Sized h0.n)(H:c6 h0 F p N K){v:Nat}(hv:v<N)(hN:N<=1000)(P:K v=none){k:Int}:
 Ret zL 146 [p,.int .i64 v,.int .i64 k] h0 fun r h'=>Mo (· ∈F) h0 h'/\ ∃F',c6 h' F' p N (cK K v (some k))/\ ∀b∈F',b∈F\/h0.n<=b:=by
 obtain⟨a,s,l,rfl,ho,m,hlt,D⟩:=H.ex
 have af:=uu m hlt
 have c1: ¬((v:Int)<0):=by omega
 have c2: ¬((N:Int)<=(v:Int)):=by omega
 have hn:=m.free P
 rcases D with⟨rfl,rfl,T,hr,U,c,g,E⟩|⟨G,u,rfl,R⟩
 . have S:=St.init2 (M:=(· ∈[a,s])) ok (o1:=.row _ 1) (o2:=.map U c) hr g T (by simp) (by simp)
   have Q:=rF (x:=(v:Int)) Tryz.t162.1 Tryz.t3.1 (z:=.int .i64 0) (by kernel_rfl) g E
   refine ab (n:=71) (rs:=[.tmp 6]) rfl Tryz.e146 rfl rfl rfl (lbt rfl) ?_
   simp only [BS,LB,Nat.reduceLT,Nat.reduceEqDiff,Fb,Q,c1,c2,XA,XD,S.ld (b:=a) (o:=1) m0 rfl,S.ld (b:=a) (o:=2) m0 rfl]
   refine au (aC rfl) (q:=0) (ps:=[]) (by kernel_rfl) ?_
   simp only [BS,LB,cls,Nat.reduceLT,Nat.reduceEqDiff,Nat.reduceAdd,Nat.reducePow,Nat.reduceDiv,Nat.reduceMod,Nat.reduceLeDiff,Xd,Fb,S.ld (b:=a) (o:=0) m0 rfl,S.ld (b:=a) (o:=1) m0 rfl]
   refine dw (S.mputI (i:=1) rfl Tryz.t162.1 Tryz.t3.1 E _) ?_
   clear S;rintro h ⟨_,V,c',y,S⟩
   simp only [LC]at S
   simp only [BS,LB,Nat.reduceLT,Nat.reduceEqDiff,Nat.reduceAdd,Fb,S.ld (b:=a) (o:=0) m0 rfl,S.ld (b:=a) (o:=1) m0 rfl]
   refine ag (bR (by exact Tryz.t250.1) (by exact XU) (by decide) (by rfl)) S ?_;clear S;intro h I S J;simp only [LC,aV,bK,ah,Nat.reduceMul,Nat.reduceAdd,Xi,Xg,Xe,Xk]at S
   simp only [BS,LB,Nat.reduceLT,Nat.reduceEqDiff,S.ld (b:=a) (o:=0) m1 rfl,S.ld (b:=a) (o:=1) m1 rfl]
   have j:aJ h 2 (.slice (some ⟨I,0,none⟩) 1 1)=some (1,kX ⟨v,k⟩):=by simp only [aJ];rw [S.lds (b:=I) (o:=0) (n:=1*2) m0 (lbt rfl)];rfl
   replace S:=S.drop1
   refine dM (S.appH0 Tryz.t250.1 XU (by decide) (by decide) Tryz.t250.2.2.2.2.2 j) ?_
   clear S j;rintro h w ⟨G,u,cs,rfl,S,C,W⟩
   simp only [BS,LB,Nat.reduceLT,Nat.reduceEqDiff,Fb]
   refine az (ay S (i:=1) rfl ?_ ?_ ?_ ono) ?_
   . exact(by simp only [Fb])
   . exact(by exact cg)
   . exact zM (lbt rfl)
   clear S;rintro h ⟨S,X⟩;clear X;simp only [LC,ah,lay,zO,Xa,Nat.reduceAdd]at S
   simp only [BS]
   refine au (aC rfl) (q:=0) (ps:=[]) (by kernel_rfl) ?_
   simp only [BS,LB,cls,Nat.reduceLT,Nat.reduceEqDiff,Nat.reduceAdd,Nat.reducePow,Nat.reduceDiv,Nat.reduceMod,Nat.reduceLeDiff,Int.reduceSub,Xd,Fb,S.ld (b:=a) (o:=0) m1 rfl,S.ld (b:=a) (o:=1) m1 rfl]
   have R:eY h a G s u N ([]++[⟨v,k⟩]):=S.rowS C rfl y (idxF_nil.push hn)
   have Y:an .i64 0=((0:Nat):Int):=rfl
   rw [Y]
   refine cM (up_ok S.ok R (i:=0) (by simp) (by simp) (xF ho ⟨v,k⟩)) ?_
   have d:=(S.own _ m0).1
   rintro r h ⟨f,Z,R',L,A⟩
   simp only [BS,LB,Nat.reduceLT,Nat.reduceAdd,Xd]
   refine⟨S.fr.trans f (fun c m=>?_),[a,G,s],⟨a,s,Z,rfl,A,(m.push P k).perm L,fun x D=>?_,.inr ⟨G,u,rfl,R'⟩⟩,fun b O=>?_⟩
   . rcases m with rfl|rfl
     . exact d.symm
     . exact .inl (by simp)
   . have:=L.mem_iff.1 D
     simp at this;subst this;exact hv
   . simp at O
     rcases O with rfl|rfl|rfl
     . exact .inl (by simp)
     . exact d.symm
     . exact .inl (by simp)
 . obtain⟨cs,U,c,f,ad,g,C,E,IF⟩:=R.ex
   have S:=St.init3 (M:=(· ∈[a,G,s])) ok (o1:=.row cs 1) (o2:=.row _ 1) (o3:=.map U c) ad R.row g R.ne.1.symm R.ne.2.2 R.ne.2.1 (by simp) (by simp) (by simp)
   have Q:=rF (x:=(v:Int)) Tryz.t162.1 Tryz.t3.1 (z:=.int .i64 0) (by kernel_rfl) g E
   have fv:f v=none:=by
    cases hf:f v with
    |none=>rfl
    | some w=>
      obtain⟨i,hi,e⟩:=IF.2 v w hf
      have:=m.at hi
      rw [show(l.getD i default).id=v by omega,P]at this;cases this
   rw [fv]at Q
   refine ab (n:=71) (rs:=[.tmp 6]) rfl Tryz.e146 rfl rfl rfl (lbt rfl) ?_
   simp only [BS,LB,Nat.reduceLT,Nat.reduceEqDiff,Fb,Q,c1,c2,XA,XD,S.ld (b:=a) (o:=1) m1 rfl,S.ld (b:=a) (o:=2) m1 rfl]
   refine au (aC rfl) (q:=0) (ps:=[]) (by kernel_rfl) ?_
   simp only [BS,LB,cls,Nat.reduceLT,Nat.reduceEqDiff,Nat.reduceAdd,Nat.reducePow,Nat.reduceDiv,Nat.reduceMod,Nat.reduceLeDiff,Fb,S.ld (b:=a) (o:=0) m1 rfl,S.ld (b:=a) (o:=1) m1 rfl]
   refine dw (S.mputI (i:=2) rfl Tryz.t162.1 Tryz.t3.1 E _) ?_
   clear S;rintro h ⟨_,V,c',y,S⟩
   simp only [LC]at S
   simp only [BS,LB,Nat.reduceLT,Nat.reduceEqDiff,Nat.reduceAdd,Fb,S.ld (b:=a) (o:=0) m1 rfl,S.ld (b:=a) (o:=1) m1 rfl]
   refine ag (bR (by exact Tryz.t250.1) (by exact XU) (by decide) (by rfl)) S ?_;clear S;intro h I S J;simp only [LC,aV,bK,ah,Nat.reduceMul,Nat.reduceAdd,Xi,Xg,Xe,Xk]at S
   simp only [BS,LB,Nat.reduceLT,Nat.reduceEqDiff,S.ld (b:=a) (o:=0) m2 rfl,S.ld (b:=a) (o:=1) m2 rfl]
   have j:aJ h 2 (.slice (some ⟨I,0,none⟩) 1 1)=some (1,kX ⟨v,k⟩):=by simp only [aJ];rw [S.lds (b:=I) (o:=0) (n:=1*2) m0 (lbt rfl)];rfl
   replace S:=S.drop1
   refine dM (S.appH C Tryz.t250.1 XU (by decide) (by decide) Tryz.t250.2.2.2.2.2 j (by omega)) ?_
   clear S j;rintro h w ⟨B,t,ai,rfl,S,C',W⟩
   simp only [BS,LB,Nat.reduceLT,Nat.reduceEqDiff,Fb]
   refine az (ay S (i:=1) rfl ?_ ?_ ?_ ono) ?_
   . exact(by simp only [Fb])
   . exact(by exact cg)
   . exact zM (lbt rfl)
   clear S;rintro h ⟨S,X⟩;clear X;simp only [LC,ah,lay,zO,Xa,Nat.reduceAdd]at S
   simp only [BS]
   refine au (aC rfl) (q:=0) (ps:=[]) (by kernel_rfl) ?_
   have Y:an .i64 (((l.length+1:Nat):Int)-1)=((l.length:Nat):Int):=by rw [wrap64]<;>omega
   simp only [BS,LB,cls,Nat.reduceLT,Nat.reduceEqDiff,Nat.reduceAdd,Nat.reducePow,Nat.reduceDiv,Nat.reduceMod,Nat.reduceLeDiff,Fb,Y,S.ld (b:=a) (o:=0) m1 rfl,S.ld (b:=a) (o:=1) m1 rfl]
   have R:eY h a B s t N (l++[⟨v,k⟩]):=S.rowS C' (by simp) y (IF.push hn)
   refine cM (up_ok S.ok R (i:=l.length) (by simp) (by simp;omega) (xF ho ⟨v,k⟩)) ?_
   have d:=(S.own _ m0).1
   rintro r h ⟨f,Z,R',L,A⟩
   simp only [BS,LB,Nat.reduceLT,Nat.reduceAdd]
   refine⟨S.fr.trans f (fun c m=>?_),[a,B,s],⟨a,s,Z,rfl,A,(m.push P k).perm L,fun x D=>?_,.inr ⟨B,t,rfl,R'⟩⟩,fun b O=>?_⟩
   . rcases m with rfl|rfl
     . exact d.symm
     . exact .inl (by simp)
   . have:=L.mem_iff.1 D
     simp at this
     rcases this with h|rfl
     . exact hlt x h
     . exact hv
   . simp at O
     rcases O with rfl|rfl|rfl
     . exact .inl (by simp)
     . exact d.symm
     . exact .inl (by simp)
theorem sC(U:h0.t.Sized h0.n)(H:c6 h0 F p N K){v:Nat}(hN:N<=1000){t k:Int}(V:K v=some t)(hle:k<=t):
 Ret zL 172 [p,.int .i64 v,.int .i64 k] h0 fun r G=>Mo (· ∈F) h0 G/\c6 G F p N (cK K v (some k)):=by
 obtain⟨d,w,l,rfl,W,g,hlt,y⟩:=H.ex
 have X:=uu g hlt
 obtain⟨i,a,u⟩:=g.idx V
 have Y:v<N:=by
  have:=hlt (l.getD i default) (by rw [Xl,Xr a];exact Xz a)
  rwa [u]at this
 have Z: ¬((v:Int)<0):=by omega
 have c2: ¬((N:Int)<=(v:Int)):=by omega
 have c3: ¬(t<k):=by omega
 rcases y with⟨rfl,_⟩|⟨A,j,rfl,R⟩
 . simp at a
 . obtain⟨I,es,c,f,m,q,C,J,L⟩:=R.ex
   have S:=St.init3 (M:=(· ∈[d,A,w])) U (o1:=.row I 1) (o2:=.row _ 1) (o3:=.map es c) m R.row q R.ne.1.symm R.ne.2.2 R.ne.2.1 (by simp) (by simp) (by simp)
   have O:=rF (x:=(v:Int)) Tryz.t162.1 Tryz.t3.1 (z:=.int .i64 0) (by kernel_rfl) q J
   have fv:f v=some (.int .i64 i):=by have:=L.1 i a;rwa [u]at this
   rw [fv]at O
   have P:=C.ld1 m a
   have Q:=C.len
   have ad:=C.le
   have ek:(l.getD i default).key=t:=by rw [u]
   have B:(l.getD i default).id=v:=by rw [u]
   rw [ek]at P
   refine ab (n:=61) (rs:=[.tmp 6]) rfl Tryz.e172 rfl rfl rfl (lbt rfl) ?_
   simp only [BS,LB,Nat.reduceLT,Nat.reduceEqDiff,F0o,O,Z,c2,c3,a,P,XB,S.ld (b:=d) (o:=0) m1 rfl,S.ld (b:=d) (o:=1) m1 rfl,S.ld (b:=d) (o:=2) m1 rfl]
   refine az (S.store (i:=0) (off:=i*2+1) rfl Tryz.t2.2.2.1 (by intro x e;cases e) rfl rfl (by omega) ono) ?_
   clear S;rintro h ⟨S,_⟩
   simp only [LC,ah]at S
   have T:=C.setKey a k
   generalize lay I (i*2+1) _=af at S T
   simp only [BS,LB,Nat.reduceLT,Nat.reduceEqDiff,F0o,S.ld (b:=d) (o:=0) m1 rfl,S.ld (b:=d) (o:=1) m1 rfl]
   have R1:eY h d A w j N (l.set i ⟨(l.getD i default).id,k⟩):=S.rowS T (by rw [Xp]) J (L.setKey k)
   refine step_ret (up_ok S.ok R1 (i:=i) (by rw [Xp];exact a) (by rw [Xp];omega) (Cf W (by unfold Ab.hle;simp only [];omega))) ?_
   rintro r h ⟨f,l',R',D,E⟩
   simp only [BS,Nat.reduceLT]
   have s:=g.lower a k
   rw [B]at s
   refine⟨S.fr.trans f (fun c g=>?_),⟨d,w,l',rfl,E,(by rw [B]at D;exact s.perm D),fun x y=>?_,.inr ⟨A,j,rfl,R'⟩⟩⟩
   . rcases g with rfl|rfl<;>exact .inl (by simp)
   . have:=D.mem_iff.1 y
     rcases List.mem_or_eq_of_mem_set this with h|rfl
     . exact hlt x h
     . rw [B];exact Y
end
end Go.Ab

end
section
namespace Go.Ab
open Go.Proofs
set_option maxRecDepth 10000
def Tryz.Fk:=aj t1<|aj t2<|aj t3<|aj t4<|aj t5<|aj t6<|aj Z3<|aj Z4<|aj t162<|aj t194<|aj t250<|aj Z7<|aj Z11<|Z14
section
variable{h0:Hp}{F:List Nat}{p:Value}{N:Nat}{K:Nat->Option Int}
theorem vq(ok:h0.t.Sized h0.n)(H:c6 h0 F p N K)(hN:N<=1000):
 Ret zL 127 [p] h0 fun r h'=>(r=.tuple #[.int .i64 0,.int .i64 0,.bool false]/\(∀v,K v=none)/\Gr h0 h')\/ ∃v k,r=.tuple #[.int .i64 (v:Nat),.int .i64 k,.bool true]/\K v=some k/\(∀u k',K u=some k'->k<k'\/(k=k'/\v<=u))/\Mo (· ∈F) h0 h'/\c6 h' F p N (cK K v none):=by
 obtain⟨m,B,O⟩:=uR ok H
 obtain⟨d,D,l,rfl,ho,t,hlt,hx⟩:=H.ex
 have a0:=uu t hlt
 by_cases E:m=0
 . subst E
   have S:=Si ok
   refine ab (n:=55) (rs:=[.tmp 2,.tmp 3,.tmp 4]) rfl Tryz.e127 rfl rfl rfl (lbt rfl) ?_
   simp only [BS,LB,Nat.reduceLT,Nat.reduceEqDiff]
   refine am (B) ?_;intro h g;replace S:=S.call g;clear g
   simp only [BS,LB,ae,Nat.reduceLT,Nat.reduceEqDiff,Xd]
   exact .inl ⟨O.1 rfl,S.gr⟩
 . have ad: ¬((m:Int)=0):=by omega
   rcases hx with⟨rfl,_⟩|⟨y,cap,rfl,R⟩
   . exact absurd (O.2 t.nil) E
   . have a:0<l.length:=by
      cases l with
      |nil=>exact absurd (O.2 t.nil) E
      |cons x l=>simp
     have S:=Si ok
     refine ab (n:=55) (rs:=[.tmp 2,.tmp 3,.tmp 4]) rfl Tryz.e127 rfl rfl rfl (lbt rfl) ?_
     simp only [BS,LB,Nat.reduceLT,Nat.reduceEqDiff]
     refine am (B) ?_;intro h g;replace S:=S.call g;replace R:=R.gr g;clear g
     have g0:=S.gr
     clear S
     obtain⟨cs,es,c,f,z,G,C,MI,IF⟩:=R.ex
     have r0:=R.row.load1 (o:=0) rfl
     have l2:=C.ld2 z a
     have S:=Si g0.ok
     have i0:iM (.int .i64 0) l.length=some 0:=pz (i:=0) a
     have w1:an .i64 ((l.length:Int)-1)=((l.length-1:Nat):Int):=by rw [wrap64]<;>omega
     simp only [BS,LB,Nat.reduceLT,Nat.reduceEqDiff,ad]
     refine au (lj (ord:=[14,0,1,2,3,4,5,6,7,8,9,10,11,12,13,15,16]) rfl rfl (by simp only [dI,oE,eo,XM,XN,List.map_toArray,XJ,XZ,Nat.reduceBEq,cond_true,cond_false];exact rfl)) (q:=1) (ps:=[(13,15),(12,15)]) (by kernel_rfl) ?_
     simp only [BS,LB,cls,Nat.reducePow,Nat.reduceDiv,Nat.reduceMod,Nat.reduceLeDiff,Fk]
     refine dS aw S ?_;clear S;intro h s S ax aL
     simp only [BS,LB,cls,Nat.reduceLT,Nat.reduceEqDiff,Nat.reduceAdd,Nat.reducePow,Nat.reduceDiv,Nat.reduceMod,Nat.reduceLeDiff,Fk,S.old r0 (fun h=>h),S.old l2 (fun h=>h),i0,w1]
     refine dw (S.store (i:=0) rfl ?_ ?_ rfl rfl ?_ ono) ?_
     . exact(by exact Tryz.t252.2.1)
     . exact(by intro x e;cases e)
     . exact lbt rfl
     clear S;rintro h ⟨S,mo⟩;clear mo;simp only [LC,ah,lay,zO,Xa,Nat.reduceAdd]at S
     simp only [BS,LB,cls,Nat.reduceLT,Nat.reduceEqDiff,Nat.reduceAdd,Nat.reducePow,Nat.reduceDiv,Nat.reduceMod,Nat.reduceLeDiff,Fk,S.old r0 (fun h=>h),S.old l2 (fun h=>h)]
     have g1:=S.gr
     have R1:=R.gr g1
     have Y:=S.lds (b:=s) (o:=0) (n:=2) m0 (lbt rfl)
     have A:=R.lt g0.ok
     have nb:s≠d:=fun e=>by have:=A d (.inl rfl);omega
     have P:s≠y:=fun e=>by have:=A y (.inr (.inl rfl));omega
     refine⟨by simp only [bg,bF,aW,bI,a9,ne_eq,not_false_eq_true,bN,ce,bA,bn,bQ,c8,aK,Nat.reduceLT,Nat.reduceEqDiff,reduceIte,Xh,ac,jY,yW,dr nb,dr nb.symm,dr P,dr P.symm],?_⟩
     have sw:Ret zL 174 [ptrTo d,.int .i64 0,.int .i64 ((l.length-1:Nat):Int)] _ _:=tt S.ok R1 (i:=0) (k:=l.length-1) a (by omega)
     refine step_ret sw ?_
     --refine step_ret (tt S.ok R1 (i := 0) (k := l.length - 1) a (by omega)) ?_
     rintro r I ⟨Z,L⟩
     have gg:Gr h0 h:=g0.trans g1
     have mA:Mo (· ∈[d,y,D]) h0 I:=(gg.fr (M:=(· ∈[d,y,D]))).trans Z (fun c t=>.inl (by rcases t with rfl|rfl<;>simp))
     have J:I.load s 0 2=some [.int .i64 (l.getD 0 default).id,.int .i64 (l.getD 0 default).key]:=by
      have:=Z.get s (a8 Z.ok0 Y) (fun hM=>by have:=A s (.inr hM);omega)
      unfold Hp.load at Y⊢
      rw [this];exact Y
     have a1:=L.lt mA.ok
     have af:=mA.ok
     have Q:=a8 mA.ok J
     clear S R R1 Z sw z G C MI IF Y l2 r0
     obtain⟨cs,es,c,f,z,G,C,MI,IF⟩:=L.ex
     have S:=St.init3 (M:=(· ∈[d,y,D])) (h:=I) af (o1:=.row cs 1) (o2:=.row _ 1) (o3:=.map es c) z L.row G L.ne.1.symm L.ne.2.2 L.ne.2.1 (by simp) (by simp) (by simp)
     have sl:=An (kd:=.i64) (b:=y) (len:=(sw l 0 (l.length-1)).length) (n:=l.length-1) Tryz.t250.1 Tryz.t260.2.1 (cap:=cap) (by have:=C.le;rw [gK]at this;omega)
     simp only [BS,LB,Nat.reduceLT,Nat.reduceEqDiff,XC,XO,Fk,sl,S.ld (b:=d) (o:=0) m1 rfl,S.ld (b:=d) (o:=1) m1 rfl]
     refine az (ay S (i:=1) rfl ?_ ?_ ?_ ono) ?_
     . exact(by simp only [Fk])
     . exact(by exact cg)
     . exact zM (lbt rfl)
     clear S;rintro h ⟨S,mo⟩;clear mo;simp only [LC,ah,lay,zO,Xa,Nat.reduceAdd]at S
     simp only [BS,S.ld (b:=d) (o:=0) m1 rfl,S.ld (b:=d) (o:=1) m1 rfl]
     refine au (aC rfl) (q:=0) (ps:=[]) (by kernel_rfl) ?_
     have T: ¬s∈[d,y,D]:=fun O=>by
      have:=A s (by simpa using O)
      omega
     have U:I.load s 0 1=some [.int .i64 (l.getD 0 default).id]:=by have:=mi J (i:=0) (m:=1) (by omega);simpa using this
     have ai:I.load s 1 1=some [.int .i64 (l.getD 0 default).key]:=by have:=mi J (i:=1) (m:=1) (by omega);simpa using this
     simp only [BS,LB,cls,Nat.reduceLT,Nat.reduceEqDiff,Nat.reduceAdd,Nat.reducePow,Nat.reduceDiv,Nat.reduceMod,Nat.reduceLeDiff,Fk,S.old U T,S.ld (b:=d) (o:=1) m1 rfl]
     refine dn_del (S.mdelI (i:=2) rfl Tryz.t162.1 Tryz.t3.1 MI) ?_
     clear S;rintro h ⟨_,a2,c',ak,S⟩
     simp only [LC]at S
     simp only [BS,LB,Nat.reduceLT,Nat.reduceEqDiff,Nat.reduceAdd,Fk]
     have V:(sw l 0 (l.length-1)).length=l.length:=gK _ _ _
     have w:=iD l (i:=0) (k:=l.length-1) a (by omega) (l.length-1)
     rw [if_pos rfl]at w
     have W:=IF.cut (m:=l.length-1) (by omega)
     rw [w]at W
     have tl:((sw l 0 (l.length-1)).take (l.length-1)).length=l.length-1:=by rw [List.length_take,V];omega
     have R3:eY h d y D cap N ((sw l 0 (l.length-1)).take (l.length-1)):=S.rowS (C.take _) tl.symm ak W
     have dn:Ret zL 175 [ptrTo d,.int .i64 0] h _:=down_ok S.ok R3 (i:=0) (by
      by_cases e:l.length-1=0
      . exact .inr ⟨List.length_eq_zero_iff.1 (by rw [tl,e]),rfl⟩
      . exact .inl (by omega)) (by omega) (heap_pop ho a)
     refine step_ret dn ?_
     rintro r h ⟨fB,l',R',pm,al⟩
     have mB:Mo (· ∈[d,y,D]) I h:=S.fr.trans fB (fun c t=>.inl (by rcases t with rfl|rfl<;>simp))
     have X: ∀{o x},I.load s o 1=some x->h.load s o 1=some x:=fun e=>by
      have:=mB.get s Q T
      unfold Hp.load at e⊢
      rw [this];exact e
     simp only [BS]
     refine au (aC rfl) (q:=0) (ps:=[]) (by kernel_rfl) ?_
     simp only [BS,LB,cls,ae,Nat.reduceLT,Nat.reduceEqDiff,Nat.reduceAdd,Nat.reducePow,Nat.reduceDiv,Nat.reduceMod,Nat.reduceLeDiff,Fk,X U,X ai]
     refine .inr ⟨(l.getD 0 default).id,(l.getD 0 default).key,rfl,t.at a,fun u k' hu=>?_,mA.trans mB (fun c t=>.inl t),⟨d,D,l',rfl,al,(t.pop a).perm pm,fun x hx=>?_,.inr ⟨y,cap,rfl,R'⟩⟩⟩
     . obtain⟨j,hj,e⟩:=t.idx hu
       have:=heap_min ho j hj
       rw [e]at this
       unfold Ab.hle at this
       simp only []at this
       omega
     . exact hlt x ((sJ l a (by omega)).mem_iff.1 (List.mem_of_mem_take (pm.mem_iff.1 hx)))
end
end Go.Ab

end
section
namespace Go.Ab
open Go.Proofs
set_option maxRecDepth 10000
def Tryz.F0p:=aj t1<|aj t2<|aj t3<|aj t4<|t34
def Tryz.F13:=aj t1<|aj t2<|aj t3<|aj t4<|aj t28<|aj t29<|aj Z0<|aj t32<|aj t34<|aj Z2<|aj t164<|Z1
def Tryz.F0q:=aj t1<|aj t2<|aj t3<|aj t4<|aj t29<|Z2
def Tryz.F14:=aj t1<|aj t2<|aj t3<|aj t4<|aj t34<|t164
def Tryz.F0r:=aj t1<|aj t2<|aj t3<|aj t4<|aj t28<|aj t29<|aj Z0<|aj t32<|aj t34<|aj Z2<|aj t164<|Z1
def Tryz.F15:=aj t1<|aj t2<|aj t3<|aj t4<|aj t28<|aj t29<|aj Z0<|aj t32<|aj t34<|aj t164<|Z1
def Tryz.F16:=aj t1<|aj t2<|aj t3<|aj t4<|aj t28<|aj t29<|aj Z0<|aj t32<|aj t34<|aj t164<|Z1
theorem jm{h0:Hp}(j:h0.t.Sized h0.n){f:Type}{enc:f->List Value}(k: ∀x,(enc x).length=1){v:Value}{xs:List f}(l:ar h0 1 enc v xs)(u:xs.length<1000000):Ret zL 41 [v] h0 fun r a=>Gr h0 a/\ar a 1 enc r xs/\ ∀c,aq r c->h0.n<=c:=by
 have S:=Si j
 rcases l with⟨rfl,rfl⟩|⟨b,o,s,c,rfl,m,p⟩
 . refine ab (n:=8) (rs:=[.tmp 2]) rfl Tryz.e41 rfl rfl rfl (lbt rfl) ?_
   simp only [BS,LB,ae,Nat.reduceLT,Nat.reduceEqDiff,F0p]
   exact⟨S.gr,.inl ⟨rfl,rfl⟩,fun c d=>d.elim⟩
 . refine ab (n:=8) (rs:=[.tmp 2]) rfl Tryz.e41 rfl rfl rfl (lbt rfl) ?_
   simp only [BS,LB,Nat.reduceLT,Nat.reduceEqDiff,F0p]
   refine ag (bR (by exact Tryz.t34.1) (by exact Xy) (by decide) (by rfl)) S ?_;clear S;intro h w S i;simp only [LC,aV,bK,ah,Nat.reduceMul,Nat.reduceAdd,Xi,Xg,Xe,Xk]at S
   simp only [BS,LB,Nat.reduceLT,Nat.reduceEqDiff]
   refine dM (S.cloneSl (enc:=enc) (xs:=[]) Tryz.t34.1 Xy (by decide) Tryz.t34.2.2.2.2.2 (.inr ⟨b,o,s,c,rfl,m,S.old p (fun h=>h)⟩) k (by decide) (by simp only [List.length_nil,Xg];omega) (S.row m0)) ?_
   rintro a v ⟨q,g,t,d⟩
   simp only [BS,LB,ae,Nat.reduceLT,Nat.reduceEqDiff]
   refine⟨q.gr,by simpa using t,fun c h=>(d c h).elim (fun e=>by omega) (fun e=>Xf S.fr.n e)⟩
theorem ca{h0:Hp}(d:h0.t.Sized h0.n){p:Value}{a:Gra}{e:Nat}(c:aS h0 e p a):aM zL 40 [p] h0 (.int .i64 a.nodes):=by
 have S:=Si d
 obtain⟨b,g,h,i,j,k,rfl,r,_⟩:=c.ex
 have f:=r.load1 (o:=0) rfl
 refine ab (n:=10) (rs:=[.tmp 2]) rfl Tryz.e40 rfl rfl rfl (lbt rfl) ?_
 simp only [BS,LB,ae,Nat.reduceLT,Nat.reduceEqDiff,F13,f]
 exact S.gr
theorem oneArc_ok{h0:Hp}(j:h0.t.Sized h0.n){v:Value}{A:List Arc}(f:ar h0 3 cG v A){i:Nat}(k:i<A.length):Ret zL 179 [v,.int .i64 i] h0 fun r l=>Gr h0 l/\r=.tuple #[.agg ⟨cG A[i]⟩,.bool true]:=by
 have S:=Si j
 have m: ¬((i:Int)<0):=by omega
 have p: ¬((A.length:Int)<=(i:Int)):=by omega
 refine ab (n:=19) (rs:=[.cell 4 108,.tmp 5]) rfl Tryz.e179 rfl rfl rfl (lbt rfl) ?_
 simp only [BS,F0q]
 refine ag aw S ?_;clear S;intro h q S g
 obtain⟨c,o,a,d⟩:=(f.gr S.gr).ix (kd:=.i64) iA k
 simp only [BS,LB,Nat.reduceLT,Nat.reduceEqDiff,F0q,f.lenq,m,p,a,d]
 refine az (S.store (i:=0) rfl ?_ ?_ rfl rfl ?_ ono) ?_
 . exact(by exact Tryz.t108.2.1)
 . exact(by intro x e;cases e)
 . exact lbt rfl
 clear S;rintro h ⟨S,s⟩;clear s;simp only [LC,ah,lay,zO,Xa,Nat.reduceAdd]at S
 simp only [BS,ae,cG]
 refine(cU (by decide) (by simp only [aK,ac,Nat.reduceEqDiff,reduceIte];exact c9 Tryz.t108.1 Tryz.t108.2.1 (S.lds (b:=q) (o:=0) (n:=3) m0 (lbt rfl)))).2 ?_
 refine(jw (by decide)).2 (dH.2 ?_)
 exact⟨S.gr,rfl⟩
theorem xY{h0:Hp}(d:h0.t.Sized h0.n){m:Nat}{v:Value}{N:Nat}{R:Nat->List Nat}(f:gb h0 m v N R){i:Nat}(a:i<N):Ret zL 149 [v,.int .i64 i] h0 fun r b=>Gr h0 b/\ ∃w,r=.tuple #[w,.bool true]/\ar b 1 bM w (R i):=by
 have S:=Si d
 obtain⟨p,q,rfl,_,g,c,h⟩:=f
 obtain⟨w,e,j,_⟩:=h i a
 have k:=g.load1 e
 have l: ¬((i:Int)<0):=by omega
 have o: ¬((N:Int)<=(i:Int)):=by omega
 refine ab (n:=19) (rs:=[.tmp 4,.tmp 5]) rfl Tryz.e149 rfl rfl rfl (lbt rfl) ?_
 simp only [BS,LB,ae,Nat.reduceLT,Nat.reduceEqDiff,F14,l,o,a,k]
 exact⟨S.gr,_,rfl,j⟩
theorem iU{h0:Hp}(f:h0.t.Sized h0.n){p:Value}{a:Gra}{j:Nat}(c:aS h0 j p a){i:Nat}(k:i<a.arcs.length):Ret zL 135 [p,.int .i64 i] h0 fun r l=>Gr h0 l/\r=.tuple #[.agg ⟨cG a.arcs[i]⟩,.bool true]:=by
 have S:=Si f
 obtain⟨b,u,w,y,z,A,rfl,r,m,_⟩:=c.ex
 have q:=r.load1 (o:=3) rfl
 refine ab (n:=18) (rs:=[.cell 4 108,.tmp 5]) rfl Tryz.e135 rfl rfl rfl (lbt rfl) ?_
 simp only [BS,F0r]
 refine ag aw S ?_;clear S;intro h s S d
 simp only [BS,LB,Nat.reduceLT,Nat.reduceEqDiff,F0r,S.old q (fun h=>h)]
 refine step_ret (oneArc_ok S.ok (m.A.gr S.gr) k) ?_
 rintro v h ⟨g,rfl⟩
 replace S:=S.call g;clear g
 simp only [BS,LB,Nat.reduceLT,Nat.reduceEqDiff,cG]
 refine az (S.store (i:=0) rfl ?_ ?_ rfl rfl ?_ ono) ?_
 . exact(by exact Tryz.t108.2.1)
 . exact(by intro x e;cases e)
 . exact lbt rfl
 clear S;rintro h ⟨S,t⟩;clear t;simp only [LC,ah,lay,zO,Xa,Nat.reduceAdd]at S
 simp only [BS,LB,ae,Nat.reduceLT,Nat.reduceEqDiff]
 refine(cU (by decide) (by simp only [aK,ac,Nat.reduceEqDiff,reduceIte];exact c9 Tryz.t108.1 Tryz.t108.2.1 (S.lds (b:=s) (o:=0) (n:=3) m0 (lbt rfl)))).2 ?_
 refine(jw (by decide)).2 (dH.2 ?_)
 exact⟨S.gr,rfl⟩
theorem xe{h0:Hp}(f:h0.t.Sized h0.n){p:Value}{a:Gra}{j:Nat}(c:aS h0 j p a)(k:a.arcs.length<1000){i:Nat}(l:i<a.nodes):Ret zL 97 [p,.int .i64 i] h0 fun r e=>Gr h0 e/\ar e 1 bM r (outs a.arcs Arc.s a.arcs.length i)/\ ∀c,aq r c->h0.n<=c:=by
 have S:=Si f
 obtain⟨b,u,x,y,z,A,rfl,r,B,m,C,_⟩:=c.ex
 have q:=r.load1 (o:=4) rfl
 refine ab (n:=20) (rs:=[.tmp 4]) rfl Tryz.e97 rfl rfl rfl (lbt rfl) ?_
 simp only [BS,LB,Nat.reduceLT,Nat.reduceEqDiff,F15,q]
 refine step_ret (xY S.ok m l) ?_
 rintro v h ⟨g,w,rfl,d⟩
 replace S:=S.call g;clear g
 simp only [BS,LB,Nat.reduceLT,Nat.reduceEqDiff]
 have s:=S.fr.n
 have t:=kT a.arcs Arc.s a.arcs.length i
 refine step_ret (jm S.ok cZ d (by omega)) ?_;intro v h ⟨g,d,hc⟩;replace S:=S.call g;clear g
 simp only [BS,LB,ae,Nat.reduceLT,Nat.reduceEqDiff]
 exact⟨S.gr,d,fun c h=>Xf s (hc c h)⟩
theorem zJ{h0:Hp}(f:h0.t.Sized h0.n){p:Value}{a:Gra}{j:Nat}(c:aS h0 j p a)(k:a.arcs.length<1000){i:Nat}(l:i<a.nodes):Ret zL 95 [p,.int .i64 i] h0 fun r e=>Gr h0 e/\ar e 1 bM r (outs a.arcs Arc.t a.arcs.length i)/\ ∀c,aq r c->h0.n<=c:=by
 have S:=Si f
 obtain⟨b,u,x,y,z,A,rfl,r,B,C,m,_⟩:=c.ex
 have q:=r.load1 (o:=5) rfl
 refine ab (n:=20) (rs:=[.tmp 4]) rfl Tryz.e95 rfl rfl rfl (lbt rfl) ?_
 simp only [BS,LB,Nat.reduceLT,Nat.reduceEqDiff,F16,q]
 refine step_ret (xY S.ok m l) ?_
 rintro v h ⟨g,w,rfl,d⟩
 replace S:=S.call g;clear g
 simp only [BS,LB,Nat.reduceLT,Nat.reduceEqDiff]
 have s:=S.fr.n
 have t:=kT a.arcs Arc.t a.arcs.length i
 refine step_ret (jm S.ok cZ d (by omega)) ?_;intro v h ⟨g,d,hc⟩;replace S:=S.call g;clear g
 simp only [BS,LB,ae,Nat.reduceLT,Nat.reduceEqDiff]
 exact⟨S.gr,d,fun c h=>Xf s (hc c h)⟩
theorem mul64_ok{h0:Hp}(b:h0.t.Sized h0.n){N:Nat}(i:N<1000):aM zL 197 [.int .u64 1,.int .u64 N] h0 (.tuple #[.int .u64 0,.int .u64 N]):=by
 have S:=Si b
 have c: ∀{t x y},bH zL .and t x y (.int .u64 1) (.int .u64 4294967295)=some (.int .u64 1):=b_andU (N:=1) (by decide)
 have d: ∀{t x y},bH zL .and t x y (.int .u64 0) (.int .u64 4294967295)=some (.int .u64 0):=b_andU (N:=0) (by decide)
 have e: ∀{t x y a},bH zL .shr t x y (.int .u64 1) (.int a 32)=some (.int .u64 0):=b_shrU (N:=1) (by decide)
 have f: ∀{t x y a},bH zL .shr t x y (.int .u64 0) (.int a 32)=some (.int .u64 0):=b_shrU (N:=0) (by decide)
 have g:an .u64 (N:Int)=(N:Int):=vk (by omega) (by omega)
 have h:an .u64 0=0:=rfl
 refine ab (n:=51) (rs:=[.tmp 4,.tmp 5]) rfl Tryz.e197 rfl rfl rfl (lbt rfl) ?_
 simp only [BS,LB,ae,Nat.reduceLT,Nat.reduceEqDiff,c,d,e,f,b_andU (N:=N) (by omega),b_shrU (N:=N) (by omega),Int.one_mul,Int.zero_mul,Int.mul_zero,Int.add_zero,g,h]
 exact S.gr
theorem mul_ok{h0:Hp}(a:h0.t.Sized h0.n){N:Nat}(b:N<1000):aM zL 170 [.int .u64 1,.int .u64 N] h0 (.tuple #[.int .u64 0,.int .u64 N]):=by
 have S:=Si a
 refine ab (n:=30) (rs:=[.tmp 4,.tmp 5]) rfl Tryz.e170 rfl rfl rfl (lbt rfl) ?_
 simp only [BS,LB,Nat.reduceLT,Nat.reduceEqDiff]
 refine am (mul64_ok S.ok b) ?_;intro h g;replace S:=S.call g;clear g
 simp only [BS,LB,ae,Nat.reduceLT,Nat.reduceEqDiff]
 exact S.gr
def Tryz.FP:=aj t1<|aj t2<|aj t3<|aj t4<|aj t5<|aj t6<|aj Z3<|aj Z4<|aj t9<|t34
def Tryz.F03:=aj t1<|aj t2<|aj t3<|aj t4<|aj t5<|aj t6<|aj Z3<|aj Z4<|aj t9<|aj t20<|t34
def Tryz.FE:=aj t1<|aj t2<|aj t3<|aj t4<|aj t5<|aj t6<|aj t34<|aj t35<|Z6
theorem norm_ok{h0:Hp}(d:h0.t.Sized h0.n){l:List Int}{v:Value}(a:ar h0 1 (encI .i64) v l)(j:l.length<1000):
 Ret zL 53 [v] h0 fun r b=>Gr h0 b/\ar b 1 (encI .i64) r (norm [] l)/\ ∀c,aq r c->h0.n<=c:=by
 have S:=Si d
 refine ab (n:=6) (rs:=[.tmp 2]) rfl Tryz.e53 rfl rfl rfl (lbt rfl) ?_
 simp only [BS,LB,Nat.reduceLT,Nat.reduceEqDiff]
 refine step_ret (namer_ok S.ok) ?_;intro v h ⟨g,bx,bm,k,n1,n2,R,hg⟩;replace S:=S.call g;replace a:=a.gr g;clear g
 subst k
 simp only [BS,LB,Nat.reduceLT,Nat.reduceEqDiff]
 refine step_ret (each_ok (ks:=[]) S.ok R hg a j) ?_
 rintro r h ⟨f,m,o⟩
 simp only [BS,LB,ae,Nat.reduceLT,Nat.reduceEqDiff]
 exact⟨(S.fr.trans f (fun i e=>.inr (by subst e;exact n2))).gr,m,fun c h=>Xf S.fr.n (o c h)⟩
theorem z8 {h0:Hp} (s:h0.t.Sized h0.n) {u v:Value} {l m:List Int} (p:ar h0 1 (encI .i64) u l) (r:ar h0 1 (encI .i64) v m) (A:l.length<1000000):aM zL 52 [u,v] h0 (.bool (decide (l=m))):=by
 have S:=Si s
 by_cases a:l.length=m.length
 . have hle:((l.length:Int)=(m.length:Int)):=by omega
   refine ab (n:=26) (rs:=[.tmp 4]) rfl Tryz.e52 rfl rfl rfl (lbt rfl) ?_
   simp only [BS,LB,Nat.reduceLT,Nat.reduceEqDiff,FP,p.lenq,r.lenq,hle]
   refine aO (fun(i:Nat) g h=>i<=l.length/\l.take i=m.take i/\Gr h0 h/\g 0=u/\g 1=v/\g 12=.int .i64 l.length/\g 13=.int .i64 i) (fun i=>l.length-i) ?_ 0 _ _ ?_
   . clear S
     intro i t g h ⟨hi,ht,S,r0,r1,r12,r13⟩
     by_cases hlt:i<l.length
     . obtain⟨c,o,d,j⟩:=(p.gr S).ix (kd:=.i64) (bO .i64) hlt
       obtain⟨B,C,b,e⟩:=(r.gr S).ix (kd:=.i64) (bO .i64) (a▸hlt)
       have w:an .i64 ((i:Int)+1)=((i+1:Nat):Int):=by rw [wrap64]<;>omega
       by_cases k:l[i]=m[i]
       . simp only [BS,LB,Nat.reduceLT,Nat.reduceEqDiff,r12,r13,aB,hlt]
         refine au (aC rfl) (q:=0) (ps:=[]) (by kernel_rfl) ?_
         simp only [BS,LB,cls,Nat.reduceLT,Nat.reduceEqDiff,Nat.reduceAdd,Nat.reducePow,Nat.reduceDiv,Nat.reduceMod,Nat.reduceLeDiff,FP,r0,r1,r13,d,j,b,e,encI,k,w]
         refine t (i+1) _ _ (by omega) ⟨by omega,?_,S,by simp [aa,r0],by simp [aa,r1],by simp [aa,r12],by simp [aa]⟩
         rw [Xm hlt,Xm (a▸hlt),ht,k]
       . have f:l≠m:=by rintro rfl;exact k rfl
         simp only [BS,LB,Nat.reduceLT,Nat.reduceEqDiff,r12,r13,aB,hlt]
         refine au (aC rfl) (q:=0) (ps:=[]) (by kernel_rfl) ?_
         simp only [BS,LB,cls,ae,Nat.reduceLT,Nat.reduceEqDiff,Nat.reduceAdd,Nat.reducePow,Nat.reduceDiv,Nat.reduceMod,Nat.reduceLeDiff,FP,r0,r1,d,j,b,e,encI,k,f]
         exact S
     . have x:l=m:=by
        have y:l.take i=l:=Xu (by omega)
        have z:m.take i=m:=Xu (by omega)
        rw [y,z]at ht;exact ht
       subst x
       simp only [BS,LB,ae,Nat.reduceLT,Nat.reduceEqDiff,r12,r13,aB,hlt]
       exact S
   . exact⟨XG _,rfl,Gr.refl s,by simp [aa,aR],by simp [aa,aR,bU],by simp [aa,a],by simp [aa]⟩
 . have f:l≠m:=by rintro rfl;exact a rfl
   have hle: ¬((l.length:Int)=(m.length:Int)):=by omega
   refine ab (n:=26) (rs:=[.tmp 4]) rfl Tryz.e52 rfl rfl rfl (lbt rfl) ?_
   simp only [BS,LB,ae,Nat.reduceLT,Nat.reduceEqDiff,FP,p.lenq,r.lenq,hle,f]
   exact S.gr
def fh:List Int->Int
 | []=>0
 |x::a=>a.foldl max x
theorem lmax_succ{l:List Int}{i:Nat}(a:1<=i)(hlt:i<l.length):fh (l.take (i+1))=max (fh (l.take i)) l[i]:=by
 cases l with
 |nil=>cases hlt
 | cons x b=>
   obtain⟨j,rfl⟩: ∃j,i=j+1:=⟨i-1,by omega⟩
   rw [Xt,Xt,fh,fh,List.getElem_cons_succ,Xm (by simpa using hlt),List.foldl_append]
   rfl
theorem lmax_one{l:List Int}(a:0<l.length):fh (l.take 1)=l[0]:=by
 cases l with
 |nil=>cases a
 |cons x b=>rfl
theorem maxInt_ok{h0:Hp}(m:h0.t.Sized h0.n){v:Value}{l:List Int}(f:ar h0 1 (encI .i64) v l)(j:1<=l.length)(s:l.length<1000000):aM zL 54 [v] h0 (.int .i64 (fh l)):=by
 have S:=Si m
 have k: ¬((l.length:Int)<1):=by omega
 obtain⟨c,o,a,b⟩:=f.ix (kd:=.i64) (bO .i64) (i:=0) (by omega)
 have d:mN (some 1) v (.int .i64 0)=_:=a
 have p:=lmax_one (l:=l) (by omega)
 generalize l[0]=x at b p
 refine ab (n:=25) (rs:=[.tmp 2]) rfl Tryz.e54 rfl rfl rfl (lbt rfl) ?_
 simp only [BS,LB,Nat.reduceLT,Nat.reduceEqDiff,F03,f.lenq,k,d,b,encI]
 refine aO (fun(i:Nat) g h=>1<=i/\i<=l.length/\Gr h0 h/\g 0=v/\g 3=.int .i64 (fh (l.take i))/\g 4=.int .i64 i) (fun i=>l.length-i) ?_ 1 _ _ ?_
 . clear S
   intro i r g h ⟨j,hi,S,r0,r3,r4⟩
   by_cases hlt:i<l.length
   . obtain⟨c,o,a,b⟩:=(f.gr S).ix (kd:=.i64) (bO .i64) hlt
     have w:an .i64 ((i:Int)+1)=((i+1:Nat):Int):=by rw [wrap64]<;>omega
     have q:=lmax_succ j hlt
     generalize l[i]=y at b q
     simp only [BS,LB,Nat.reduceLT,Nat.reduceEqDiff,F03,r0,r3,r4,(f.gr S).lenq,aB,hlt,a,b,encI,w]
     refine r (i+1) _ _ (by omega) ⟨by omega,by omega,S,by simp [aa,r0],?_,by simp [aa]⟩
     simp only [aK,Nat.reduceEqDiff,reduceIte]
     rw [q]
   . simp only [BS,LB,ae,Nat.reduceLT,Nat.reduceEqDiff,F03,r0,r3,r4,(f.gr S).lenq,aB,hlt]
     have e:l.take i=l:=Xu (by omega)
     rw [e]
     exact⟨rfl,S⟩
 . exact⟨Xq _,j,Gr.refl m,by simp [aa,aR],by simp [aa,p],by simp [aa]⟩
theorem zo(ks l:List Int):(norm ks l).length=l.length:=by
 induction l generalizing ks with
 |nil=>rfl
 |cons x a b=>show(norm _ a).length+1=_;rw [b];rfl
def kj(h:Hp)(n:Nat)(p:Value)(m:List Int):Prop:= ∃b v,p=ptrTo b/\Row h b [v,.int .i64 (fh m+1)] 1/\ar h 1 (encI .i64) v m/\n<=b/\ ∀c,aq v c->n<=c
theorem kj.mo{M:Nat->Prop}{h a:Hp}{n:Nat}{p:Value}{m:List Int}(c:kj h n p m)(g:Mo M h a)(d: ∀b,M b->b<n):kj a n p m:=by
 obtain⟨b,v,e,r,s,i,f⟩:=c
 exact⟨b,v,e,g.has (o:=.row _ 1) r (fun h=>by have:=d _ h;omega),s.mo g (fun c j k=>by have:=d _ k;have:=f c j;omega),i,f⟩
theorem kj.gr{h a:Hp}{n:Nat}{p:Value}{m:List Int}(c:kj h n p m)(g:Gr h a):kj a n p m:=c.mo (M:=NoM) g.fr (fun _ h=>h.elim)
def cellNo(m:List Int):Prop:=m=[]\/norm [] m≠m\/256<fh m+1
theorem Bh{h0:Hp}(z:h0.t.Sized h0.n){v:Value}{m:List Int}(d:ar h0 1 (encI .i64) v m)(A:m.length<1000)(G:0<=fh m/\fh m<=1000000):
 Ret zL 19 [v] h0 fun r s=>Gr h0 s/\((cellNo m/\r=.pointer none)\/(¬cellNo m/\kj s h0.n r m)):=by
 have S:=Si z
 have H:=zo [] m
 by_cases t:m=[]
 . subst t
   refine ab (n:=27) (rs:=[.tmp 2]) rfl Tryz.e19 rfl rfl rfl (lbt rfl) ?_
   simp only [BS,LB,ae,Nat.reduceLT,Nat.reduceEqDiff,Xd,FE,d.lenq]
   exact⟨S.gr,.inl (.inl rfl)⟩
 . have B:1<=m.length:=by cases m with
    |nil=>exact absurd rfl t
    |cons a l=>simp
   have C: ¬((m.length:Int)=0):=by omega
   refine ab (n:=27) (rs:=[.tmp 2]) rfl Tryz.e19 rfl rfl rfl (lbt rfl) ?_
   simp only [BS,LB,Nat.reduceLT,Nat.reduceEqDiff,FE,d.lenq,C]
   refine step_ret (norm_ok S.ok d A) ?_;intro v h ⟨g,sl,fr⟩;replace S:=S.call g;replace d:=d.gr g;clear g
   by_cases k:norm [] m=m
   . simp only [BS,LB,Nat.reduceLT,Nat.reduceEqDiff]
     refine am (z8 S.ok sl d (by omega)) ?_;intro h g;replace S:=S.call g;replace d:=d.gr g;clear g
     simp only [BS,LB,Nat.reduceLT,Nat.reduceEqDiff,k]
     have D:=S.fr.n
     refine step_ret (jm S.ok (bO .i64) d (by omega)) ?_
     intro u h ⟨g,i,p⟩;replace S:=S.call g;replace d:=d.gr g;clear g
     have E:Fl u:=i.fl
     simp only [BS,LB,Nat.reduceLT,Nat.reduceEqDiff]
     refine am (maxInt_ok S.ok d B (by omega)) ?_;intro h g;replace S:=S.call g;replace d:=d.gr g;replace i:=i.gr g;clear g
     have w:an .i64 (fh m+1)=fh m+1:=by rw [wrap64]<;>omega
     have j:=S.gr
     clear S;have S:=Si j.ok
     simp only [BS,LB,Nat.reduceLT,Nat.reduceEqDiff,Nat.reduceAdd,FE,w,E]
     refine ag (aZ (by intro x e;cases e)) S ?_;clear S;intro h b S q;simp only [ah]at S
     have y:=S.ld (b:=b) (o:=1) m0 rfl
     by_cases f:256<fh m+1
     . simp only [BS,LB,ae,Nat.reduceLT,Nat.reduceEqDiff,FE,f,y]
       exact⟨j.trans S.gr,.inl (.inr (.inr f))⟩
     . simp only [BS,LB,ae,Nat.reduceLT,Nat.reduceEqDiff,FE,f,y]
       exact⟨j.trans S.gr,.inr ⟨by rintro(h|h|h)<;>contradiction,b,u,rfl,S.row m0,i.gr S.gr,Xf j.n q,fun c F=>Xf D (p c F)⟩⟩
   . simp only [BS,LB,Nat.reduceLT,Nat.reduceEqDiff]
     refine am (z8 S.ok sl d (by omega)) ?_;intro h g;replace S:=S.call g;replace d:=d.gr g;clear g
     simp only [BS,LB,ae,Nat.reduceLT,Nat.reduceEqDiff,k]
     exact⟨S.gr,.inl (.inr (.inl k))⟩
def Tryz.F17:=aj t1<|aj t2<|aj t3<|aj t4<|aj t28<|aj t29<|aj Z0<|aj t32<|aj t34<|aj Z2<|aj t164<|Z1
theorem j8{h0:Hp}(d:h0.t.Sized h0.n){p:Value}{a:Gra}{e:Nat}(c:aS h0 e p a):aM zL 56 [p] h0 (.int .i64 a.arcs.length):=by
 have S:=Si d
 obtain⟨b,h,i,j,k,l,rfl,r,f,_⟩:=c.ex
 have g:=r.load1 (o:=3) rfl
 refine ab (n:=11) (rs:=[.tmp 2]) rfl Tryz.e56 rfl rfl rfl (lbt rfl) ?_
 simp only [BS,LB,ae,Nat.reduceLT,Nat.reduceEqDiff,F17,g,f.A.lenq]
 exact S.gr
def Tryz.F0s:=aj t1<|aj t2<|aj t3<|aj t4<|aj t34<|aj t35<|Z6
def Tryz.F0t:=aj t1<|aj t2<|aj t3<|aj t4<|aj t34<|aj t35<|Z6
def Tryz.F0u:=aj t1<|aj t2<|aj t3<|aj t4<|aj t5<|aj t22<|aj t36<|Z8
def Tryz.F0v:=aj t1<|aj t2<|aj t3<|aj t4<|aj t5<|aj t22<|aj t36<|Z8
def Tryz.F04:=aj t1<|aj t2<|aj t3<|aj t4<|aj t5<|aj t6<|aj Z3<|t24
def Tryz.F18:=aj t1<|aj t3<|aj t4<|aj Z0<|aj t32<|aj t34<|aj t35<|aj Z6<|aj t164<|Z1
def jo(h:Hp)(p:Value)(m:List Int)(n:Int):Prop:=(p=.pointer none/\m=[]/\n=0)\/((∃k,kj h k p m)/\n=fh m+1)
theorem jo.gr{h a:Hp}{p:Value}{m:List Int}{n:Int}(g:Gr h a)(c:jo h p m n):jo a p m n:=c.imp (fun h=>h) (fun⟨⟨k,h⟩,e⟩=>⟨⟨k,h.gr g⟩,e⟩)
theorem map_ok{h0:Hp}(d:h0.t.Sized h0.n){p:Value}{m:List Int}{n:Int}(c:jo h0 p m n)(e:m.length<1000000):Ret zL 109 [p] h0 fun r a=>Gr h0 a/\ar a 1 (encI .i64) r m:=by
 have S:=Si d
 rcases c with⟨rfl,rfl,rfl⟩|⟨⟨_,b,v,rfl,r,s,_,_⟩,rfl⟩
 . refine ab (n:=10) (rs:=[.tmp 2]) rfl Tryz.e109 rfl rfl rfl (lbt rfl) ?_
   simp only [BS,LB,ae,Nat.reduceLT,Nat.reduceEqDiff,F0s]
   exact⟨S.gr,.inl ⟨rfl,rfl⟩⟩
 . have f:=r.load1 (o:=0) rfl
   refine ab (n:=10) (rs:=[.tmp 2]) rfl Tryz.e109 rfl rfl rfl (lbt rfl) ?_
   simp only [BS,LB,Nat.reduceLT,Nat.reduceEqDiff,F0s,f]
   refine step_ret (jm S.ok (bO .i64) s e) ?_;intro v h ⟨g,sl,_⟩;replace S:=S.call g;clear g
   simp only [BS,LB,ae,Nat.reduceLT,Nat.reduceEqDiff]
   exact⟨S.gr,sl⟩
theorem th{h0:Hp}(a:h0.t.Sized h0.n){p:Value}{m:List Int}{n:Int}(c:jo h0 p m n):aM zL 21 [p] h0 (.int .i64 n):=by
 have S:=Si a
 rcases c with⟨rfl,rfl,rfl⟩|⟨⟨_,b,v,rfl,r,s,_,_⟩,rfl⟩
 . refine ab (n:=9) (rs:=[.tmp 2]) rfl Tryz.e21 rfl rfl rfl (lbt rfl) ?_
   simp only [BS,LB,ae,Nat.reduceLT,Nat.reduceEqDiff,F0t]
   exact S.gr
 . have d:=r.load1 (o:=1) rfl
   refine ab (n:=9) (rs:=[.tmp 2]) rfl Tryz.e21 rfl rfl rfl (lbt rfl) ?_
   simp only [BS,LB,ae,Nat.reduceLT,Nat.reduceEqDiff,F0t,d]
   exact S.gr
def pH(h:Hp)(p:Value)(a w:Int)(c:Bool):Prop:=(p=.pointer none/\a=0/\w=0/\c=false)\/ ∃b x y,p=ptrTo b/\Row h b [.int .i64 a,.int .i64 w,x,y] 1/\c=true
theorem pH.gr{h d:Hp}{p:Value}{a w:Int}{f:Bool}(g:Gr h d)(c:pH h p a w f):pH d p a w f:=c.imp (fun h=>h) (fun⟨b,x,y,e,r,n⟩=>⟨b,x,y,e,r.gr g,n⟩)
theorem kD{h0:Hp}(d:h0.t.Sized h0.n){p:Value}{a w:Int}{e:Bool}(c:pH h0 p a w e):aM zL 72 [p] h0 (.int .i64 a):=by
 have S:=Si d
 rcases c with⟨rfl,rfl,rfl,rfl⟩|⟨b,x,y,rfl,r,rfl⟩
 . refine ab (n:=9) (rs:=[.tmp 2]) rfl Tryz.e72 rfl rfl rfl (lbt rfl) ?_
   simp only [BS,LB,ae,Nat.reduceLT,Nat.reduceEqDiff,F0u]
   exact S.gr
 . have f:=r.load1 (o:=0) rfl
   refine ab (n:=9) (rs:=[.tmp 2]) rfl Tryz.e72 rfl rfl rfl (lbt rfl) ?_
   simp only [BS,LB,ae,Nat.reduceLT,Nat.reduceEqDiff,F0u,f]
   exact S.gr
theorem jq{h0:Hp}(d:h0.t.Sized h0.n){p:Value}{a w:Int}{e:Bool}(c:pH h0 p a w e):aM zL 73 [p] h0 (.int .i64 w):=by
 have S:=Si d
 rcases c with⟨rfl,rfl,rfl,rfl⟩|⟨b,x,y,rfl,r,rfl⟩
 . refine ab (n:=9) (rs:=[.tmp 2]) rfl Tryz.e73 rfl rfl rfl (lbt rfl) ?_
   simp only [BS,LB,ae,Nat.reduceLT,Nat.reduceEqDiff,F0v]
   exact S.gr
 . have f:=r.load1 (o:=1) rfl
   refine ab (n:=9) (rs:=[.tmp 2]) rfl Tryz.e73 rfl rfl rfl (lbt rfl) ?_
   simp only [BS,LB,ae,Nat.reduceLT,Nat.reduceEqDiff,F0v,f]
   exact S.gr
theorem allB_ok{h0:Hp}(g:h0.t.Sized h0.n){v:Value}{l:List Bool}(j:ar h0 1 kP v l)(m:l.length<1000):aM zL 168 [v] h0 (.bool (l.all id)):=by
 have S:=Si g
 refine ab (n:=14) (rs:=[.tmp 2]) rfl Tryz.e168 rfl rfl rfl (lbt rfl) ?_
 simp only [BS,LB,Nat.reduceLT,Nat.reduceEqDiff,F04,j.lenq]
 refine aO (fun(i:Nat) d h=>i<=l.length/\(l.take i).all id=true/\Gr h0 h/\d 5=v/\d 6=.int .i64 l.length/\d 7=.int .i64 i) (fun i=>l.length-i) ?_ 0 _ _ ?_
 . clear S
   intro i k d h ⟨hi,ht,S,r5,r6,r7⟩
   by_cases hlt:i<l.length
   . obtain⟨c,o,a,b⟩:=(j.gr S).ix (kd:=.i64) zZ hlt
     have w:an .i64 ((i:Int)+1)=((i+1:Nat):Int):=by rw [wrap64]<;>omega
     cases f:l[i]with
     | true=>
       simp only [BS,LB,Nat.reduceLT,Nat.reduceEqDiff,F04,r5,r6,r7,aB,hlt,a,b,kP,f,w]
       refine k (i+1) _ _ (by omega) ⟨by omega,?_,S,by simp [aa,r5],by simp [aa,r6],by simp [aa]⟩
       rw [Xm hlt,List.all_append,ht,f];rfl
     | false=>
       have e:l.all id=false:=by rw [List.all_eq_false];exact⟨_,Xz hlt,by simp [f]⟩
       simp only [BS,LB,ae,Nat.reduceLT,Nat.reduceEqDiff,F04,r5,r6,r7,aB,hlt,a,b,kP,f]
       rw [e]
       exact⟨rfl,S⟩
   . simp only [BS,LB,ae,Nat.reduceLT,Nat.reduceEqDiff,r6,r7,aB,hlt]
     rw [Xu (by omega)]at ht
     rw [ht]
     exact⟨rfl,S⟩
 . exact⟨XG _,rfl,Gr.refl g,by simp [aa,aR],by simp [aa],by simp [aa]⟩
theorem Ae{h0:Hp}(f:h0.t.Sized h0.n){p q:Value}{b:Gra}{m:List Int}{n:Int}{i:Nat}(c:aS h0 i p b)(d:jo h0 q m n)(k:1<=b.nodes)(j:m.length<1000000):aM zL 55 [p,q] h0 (.bool (decide (m.length=b.nodes))):=by
 have S:=Si f
 have a:(0:Int)<(b.nodes:Int):=by omega
 have e:(b.nodes:Int)>0:=a
 refine ab (n:=16) (rs:=[.tmp 4]) rfl Tryz.e55 rfl rfl rfl (lbt rfl) ?_
 simp only [BS,LB,Nat.reduceLT,Nat.reduceEqDiff]
 refine am (ca S.ok c) ?_;intro h g;replace S:=S.call g;replace c:=c.gr g;replace d:=d.gr g;clear g
 simp only [BS,LB,Nat.reduceLT,Nat.reduceEqDiff,a]
 refine step_ret (map_ok S.ok d j) ?_;intro v h ⟨g,sl⟩;replace S:=S.call g;replace c:=c.gr g;replace d:=d.gr g;clear g
 simp only [BS,LB,Nat.reduceLT,Nat.reduceEqDiff,F18,sl.lenq]
 refine am (ca S.ok c) ?_;intro h g;replace S:=S.call g;replace c:=c.gr g;replace d:=d.gr g;clear g
 simp only [BS,LB,ae,Nat.reduceLT,Nat.reduceEqDiff]
 refine⟨?_,S.gr⟩
 congr 1
 by_cases h:m.length=b.nodes
 . simp [h]
 . have: ¬((m.length:Int)=(b.nodes:Int)):=by omega
   simp [h,this]
theorem AM{h0:Hp}(s:h0.t.Sized h0.n){p q r:Value}{f:Gra}{m:List Int}{n a w:Int}{i:Bool}{t:Nat}(c:aS h0 t p f)(d:jo h0 q m n)(e:pH h0 r a w i)(u:1<=f.nodes)(v:m.length<1000000):
 aM zL 117 [p,q,r] h0 (.bool (decide (m.length=f.nodes)&&i&&decide (a=n)&&decide (w=f.arcs.length))):=by
 have S:=Si s
 have z: ∀E:Env,oX E 36=true-> ∀x y,bH E .neq 36 x y r (.pointer none)=some (.bool i):=by
  intro E j x y
  rcases e with⟨rfl,_,_,rfl⟩|⟨b,_,_,rfl,_,rfl⟩
  . exact n_pnil j
  . exact n_ptr j
 refine ab (n:=24) (rs:=[.tmp 6]) rfl Tryz.e117 rfl rfl rfl (lbt rfl) ?_
 simp only [BS,LB,Nat.reduceLT,Nat.reduceEqDiff]
 refine am (Ae S.ok c d u v) ?_;intro h g;replace S:=S.call g;replace c:=c.gr g;replace d:=d.gr g;replace e:=e.gr g;clear g
 simp only [BS,LB,Nat.reduceLT,Nat.reduceEqDiff,z zL Tryz.t36.2.2.2.2.1]
 refine am (kD S.ok e) ?_;intro h g;replace S:=S.call g;replace c:=c.gr g;replace d:=d.gr g;replace e:=e.gr g;clear g
 simp only [BS,LB,Nat.reduceLT,Nat.reduceEqDiff]
 refine am (th S.ok d) ?_;intro h g;replace S:=S.call g;replace c:=c.gr g;replace d:=d.gr g;replace e:=e.gr g;clear g
 simp only [BS,LB,Nat.reduceLT,Nat.reduceEqDiff]
 refine am (jq S.ok e) ?_;intro h g;replace S:=S.call g;replace c:=c.gr g;replace d:=d.gr g;replace e:=e.gr g;clear g
 simp only [BS,LB,Nat.reduceLT,Nat.reduceEqDiff]
 refine am (j8 S.ok c) ?_;intro h g;replace S:=S.call g;replace c:=c.gr g;replace d:=d.gr g;replace e:=e.gr g;clear g
 simp only [BS,LB,Nat.reduceLT,Nat.reduceEqDiff]
 refine ag (bR (by exact Tryz.t24.1) (by exact Tryz.e4E) (by decide) (by rfl)) S ?_;clear S;intro h A S k;simp only [LC,aV,bK,ah,Nat.reduceMul,Nat.reduceAdd,Xi,Xg,Xe,Xk]at S
 simp only [BS,LB,Nat.reduceLT,Nat.reduceEqDiff]
 refine am (allB_ok (l:=[decide (m.length=f.nodes),i,decide (a=n),decide (w=f.arcs.length)]) S.ok (.inr ⟨A,0,none,4,rfl,Xq _,S.lds (o:=0) (n:=4) m0 (lbt rfl)⟩) (by simp)) ?_;intro h g;replace S:=S.call g;clear g
 simp only [BS,LB,ae,Nat.reduceLT,Nat.reduceEqDiff]
 exact⟨by simp [Bool.and_assoc],S.gr⟩
def iota(k:Nat):List Int:=(Xc k).map fun(i:Nat)=>(i:Int)
theorem yP(k:Nat):(iota k).length=k:=by simp [iota]
theorem xL(k:Nat):iota (k+1)=iota k++[(k:Int)]:=by simp [iota,List.range_succ]
theorem pos_app(l:List Int)(x y:Int):pos (l++[y]) x=match pos l x with|some i=>some i|none=>if x=y then some l.length else none:=by
 induction l with
 |nil=>simp [pos]
 | cons z a b=>
   rw [List.cons_append,pos,pos]
   by_cases h:x=z
   . rw [if_pos h,if_pos h]
   . rw [if_neg h,if_neg h,b]
     cases pos a x with
     |some i=>rfl
     |none=>by_cases c:x=y<;>simp [c]
theorem zT(k j:Nat):pos (iota k) (j:Int)=if j<k then some j else none:=by
 induction k with
 |zero=>rfl
 | succ k a=>
   rw [xL,pos_app,a,yP]
   by_cases h:j<k
   . rw [if_pos h,if_pos (show j<k+1 by omega)]
   . rw [if_neg h]
     by_cases b:j=k
     . subst b;simp
     . have: ¬((j:Int)=(k:Int)):=by omega
       simp only [this,if_false];rw [if_neg (by omega)]
theorem pos_lt{l:List Int}{x:Int}{i:Nat}(h:pos l x=some i):i<l.length:=by
 induction l generalizing i with
 |nil=>cases h
 | cons y b c=>
   rw [pos]at h
   by_cases e:x=y
   . rw [if_pos e]at h;cases h;simp
   . rw [if_neg e]at h
     cases a:pos b x with
     |none=>rw [a]at h;cases h
     |some j=>rw [a]at h;cases h;have:=c a;simp;omega
theorem norm_idem(ks l:List Int):norm (iota ks.length) (norm ks l)=norm ks l:=by
 induction l generalizing ks with
 |nil=>rfl
 | cons x c a=>
   rw [norm,norm]
   unfold nw nj
   cases b:pos ks x with
   | some i=>
     simp only []
     rw [zT,if_pos (pos_lt b)]
     simp only []
     rw [a]
   | none=>
     simp only []
     rw [zT,if_neg (by omega)]
     simp only []
     rw [yP,<-xL]
     have:=a (ks++[x])
     rw [Xn,XP]at this
     rw [this]
theorem norm_bd(ks l:List Int): ∀x∈norm ks l,0<=x/\x<=((ks.length+l.length:Nat):Int):=by
 induction l generalizing ks with
 |nil=>intro x a;cases a
 | cons y e b=>
   intro x a
   rw [norm]at a
   rcases List.mem_cons.1 a with rfl|a
   . have:nw ks y<=ks.length:=by
      unfold nw
      cases c:pos ks y with
      |some i=>exact X2 (pos_lt c)
      |none=>exact Xq _
     simp;omega
   . have d:=b _ x a
     have:(nj ks y).length<=ks.length+1:=by
      unfold nj
      cases pos ks y<;>simp
     simp at d⊢;omega
theorem fold_bd(K:Int)(l:List Int)(a:Int)(b:0<=a/\a<=K)(h: ∀x∈l,0<=x/\x<=K):0<=l.foldl max a/\l.foldl max a<=K:=by
 induction l generalizing a with
 |nil=>exact b
 | cons x e c=>
   have f:=h x (by simp)
   exact c (max a x) (by omega) (fun y d=>h y (by simp [d]))
theorem lmax_bd{K:Int}(a:0<=K){l:List Int}(h: ∀x∈l,0<=x/\x<=K):0<=fh l/\fh l<=K:=by
 cases l with
 |nil=>exact⟨Int.le_refl _,a⟩
 |cons x b=>exact fold_bd K b x (h x (by simp)) (fun y c=>h y (by simp [c]))
theorem ar.blt{a:Type}{h:Hp}{k:Nat}{enc:a->List Value}{v:Value}{xs:List a}(f:h.t.Sized h.n)(s:ar h k enc v xs){c:Nat}(d:aq v c):c<h.n:=by
 rcases s with⟨rfl,_⟩|⟨b,o,_,_,rfl,_,g⟩
 . exact d.elim
 . have:b=c:=d
   subst this
   cases e:h.get b with
   |none=>simp [Hp.load,e]at g
   |some x=>exact gy f e
def Tryz.FQ:=aj t1<|aj t2<|aj t3<|aj t4<|aj t5<|aj t6<|aj Z3<|aj Z4<|aj t9<|aj t10<|aj t20<|aj t28<|t255
def Tryz.FR:=aj t1<|aj t2<|aj t3<|aj t4<|aj t5<|aj t6<|aj Z3<|aj Z4<|aj t9<|aj t10<|aj t20<|aj t34<|t255
theorem rep64_ok{h0:Hp}(u:h0.t.Sized h0.n){v:Value}{x:Int}{N:Nat}(y:ar h0 1 (encI .i64) v [x])(a:1<=N)(z:N<1000):Ret zL 145 [v,.int .i64 N] h0 fun r p=>Gr h0 p/\ ∃b,r=.slice (some ⟨b,0,none⟩) N N/\h0.n<=b/\Row p b (Xb N (.int .i64 x)) 1:=by
 have S:=Si u
 have A: ¬((N:Int)<0):=by omega
 have B: ¬((9223372036854775807:Int)<(N:Int)):=by omega
 have C:an .u64 (N:Int)=(N:Int):=vk (by omega) (by omega)
 have D:an .u64 1=1:=rfl
 have E:an .i64 (N:Int)=(N:Int):=by rw [wrap64]<;>omega
 obtain⟨K,L,M,O,rfl,F,G⟩: ∃b o s c,v=.slice (some ⟨b,o,s⟩) 1 c/\1<=c/\h0.load b o 1=some [.int .i64 x]:=by
  rcases y with⟨_,h⟩|⟨b,o,s,c,rfl,H,I⟩
  . cases h
  . exact⟨b,o,s,c,rfl,H,I⟩
 refine ab (n:=48) (rs:=[.tmp 4]) rfl Tryz.e145 rfl rfl rfl (lbt rfl) ?_
 simp only [BS,LB,ja,cE,i9,Nat.reduceLT,Nat.reduceEqDiff,Xd,FQ,A,C,D]
 refine am (mul_ok S.ok z) ?_;intro h g;replace S:=S.call g;clear g
 simp only [BS,LB,ja,cE,i9,Nat.reduceLT,Nat.reduceEqDiff,Int.reduceLT,FQ,B,E]
 refine ag (jW (by exact Tryz.t28.1) (by exact XR) (by omega) (by omega)) S ?_;clear S;intro h j S d
 rw [Xj,mQ]at S
 simp only [BS,LB,Nat.reduceLT,Nat.reduceEqDiff,Xj]
 refine dM (S.copyO (i:=0) (l:=Xb 1 (.int .i64 x)) rfl Tryz.t28.1 Tryz.t2.2.2.1 (by rw [jt a];decide) (by rw [jt a];exact S.old G (fun h=>h)) (by simp;omega) rfl) ?_
 clear S;rintro h w ⟨rfl,S⟩
 simp only [LC]at S
 rw [show Xb N (Value.int .i64 0)=Xb 0 (.int .i64 x)++Xb N (.int .i64 0) by simp,tD a]at S
 rw [jt a]
 simp only [BS,LB,Nat.reduceLT,Nat.reduceEqDiff,Xd]
 refine aO (fun(n:Nat) m h=>1<=n/\n<=N/\St NoM h0 h [(j,.row (Xb n (.int .i64 x)++Xb (N-n) (.int .i64 0)) 1)] []/\m 7=.slice (some ⟨j,0,none⟩) N N/\m 8=.int .i64 n) (fun n=>N-n) ?_ 1 _ _ ?_
 . clear S
   intro n J m h ⟨hn1,hn,S,r7,r8⟩
   by_cases hlt:n<N
   . simp only [BS,LB,Nat.reduceLT,Nat.reduceEqDiff,FQ,r7,r8,aB,hlt]
     refine au (aC rfl) (q:=0) (ps:=[]) (by kernel_rfl) ?_
     simp only [BS,LB,cls,Nat.reduceLT,Nat.reduceEqDiff,Nat.reduceAdd,Nat.reducePow,Nat.reduceDiv,Nat.reduceMod,Nat.reduceLeDiff,XC,XO,r7,r8,yn Tryz.t28.1 Tryz.t2.2.2.1 hlt,xj Tryz.t28.1 Tryz.t2.2.2.1 (X2 hlt)]
     have t:0<df n (N-n):=by
      rcases XL n (N-n)with h|h
      . rw [jt h];omega
      . rw [sY h];omega
     have f:df n (N-n)<=N-n/\df n (N-n)<=n:=by
      rcases XL n (N-n)with h|h
      . rw [jt h];omega
      . rw [sY h];omega
     refine dn_v (S.copyO (i:=0) (l:=Xb (df n (N-n)) (.int .i64 x)) rfl Tryz.t28.1 Tryz.t2.2.2.1 t ?_ (by simp;omega) (by simp;right;rfl)) ?_
     . rw [(S.row m0).load (by simp;omega),Xe,XE]
       congr 1
       rw [XI (by simp;omega),XX]
       congr 1
       omega
     clear S;rintro h w ⟨rfl,S⟩
     simp only [LC]at S
     rw [tD f.1]at S
     generalize df n (N-n)=k at S t f
     have w:an .i64 ((n:Int)+(k:Int))=((n+k:Nat):Int):=by rw [wrap64]<;>omega
     simp only [BS,LB,cls,Nat.reduceLT,Nat.reduceEqDiff,Nat.reduceAdd,Nat.reducePow,Nat.reduceDiv,Nat.reduceMod,Nat.reduceLeDiff,w]
     exact J (n+k) _ _ (by omega) ⟨by omega,by omega,by rw [show N-(n+k)=N-n-k by omega];exact S,by simp [aa,r7],by simp [aa]⟩
   . simp only [BS,LB,ae,Nat.reduceLT,Nat.reduceEqDiff,FQ,r7,r8,aB,hlt]
     have e:n=N:=by omega
     subst e
     have R:=S.row (b:=j) m0
     rw [XK,XY,Xo]at R
     exact⟨S.gr,j,rfl,d,R⟩
 . exact⟨Xq _,a,by simpa using S,by simp [aa],by simp [aa]⟩
theorem repI_ok{h0:Hp}(u:h0.t.Sized h0.n){v:Value}{x:Int}{N:Nat}(y:ar h0 1 (encI .i64) v [x])(a:1<=N)(z:N<1000):Ret zL 123 [v,.int .i64 N] h0 fun r p=>Gr h0 p/\ ∃b,r=.slice (some ⟨b,0,none⟩) N N/\h0.n<=b/\Row p b (Xb N (.int .i64 x)) 1:=by
 have S:=Si u
 have A: ¬((N:Int)<0):=by omega
 have B: ¬((9223372036854775807:Int)<(N:Int)):=by omega
 have C:an .u64 (N:Int)=(N:Int):=vk (by omega) (by omega)
 have D:an .u64 1=1:=rfl
 have E:an .i64 (N:Int)=(N:Int):=by rw [wrap64]<;>omega
 obtain⟨K,L,M,O,rfl,F,G⟩: ∃b o s c,v=.slice (some ⟨b,o,s⟩) 1 c/\1<=c/\h0.load b o 1=some [.int .i64 x]:=by
  rcases y with⟨_,h⟩|⟨b,o,s,c,rfl,H,I⟩
  . cases h
  . exact⟨b,o,s,c,rfl,H,I⟩
 refine ab (n:=48) (rs:=[.tmp 4]) rfl Tryz.e123 rfl rfl rfl (lbt rfl) ?_
 simp only [BS,LB,ja,cE,i9,Nat.reduceLT,Nat.reduceEqDiff,Xd,FR,A,C,D]
 refine am (mul_ok S.ok z) ?_;intro h g;replace S:=S.call g;clear g
 simp only [BS,LB,ja,cE,i9,Nat.reduceLT,Nat.reduceEqDiff,Int.reduceLT,FR,B,E]
 refine ag (jW (by exact Tryz.t34.1) (by exact Xy) (by omega) (by omega)) S ?_;clear S;intro h j S d
 rw [Xj,mQ]at S
 simp only [BS,LB,Nat.reduceLT,Nat.reduceEqDiff,Xj]
 refine dM (S.copyO (i:=0) (l:=Xb 1 (.int .i64 x)) rfl Tryz.t34.1 Tryz.t3.2.2.1 (by rw [jt a];decide) (by rw [jt a];exact S.old G (fun h=>h)) (by simp;omega) rfl) ?_
 clear S;rintro h w ⟨rfl,S⟩
 simp only [LC]at S
 rw [show Xb N (Value.int .i64 0)=Xb 0 (.int .i64 x)++Xb N (.int .i64 0) by simp,tD a]at S
 rw [jt a]
 simp only [BS,LB,Nat.reduceLT,Nat.reduceEqDiff,Xd]
 refine aO (fun(n:Nat) m h=>1<=n/\n<=N/\St NoM h0 h [(j,.row (Xb n (.int .i64 x)++Xb (N-n) (.int .i64 0)) 1)] []/\m 7=.slice (some ⟨j,0,none⟩) N N/\m 8=.int .i64 n) (fun n=>N-n) ?_ 1 _ _ ?_
 . clear S
   intro n J m h ⟨hn1,hn,S,r7,r8⟩
   by_cases hlt:n<N
   . simp only [BS,LB,Nat.reduceLT,Nat.reduceEqDiff,FR,r7,r8,aB,hlt]
     refine au (aC rfl) (q:=0) (ps:=[]) (by kernel_rfl) ?_
     simp only [BS,LB,cls,Nat.reduceLT,Nat.reduceEqDiff,Nat.reduceAdd,Nat.reducePow,Nat.reduceDiv,Nat.reduceMod,Nat.reduceLeDiff,XC,XO,r7,r8,yn Tryz.t34.1 Tryz.t3.2.2.1 hlt,xj Tryz.t34.1 Tryz.t3.2.2.1 (X2 hlt)]
     have t:0<df n (N-n):=by
      rcases XL n (N-n)with h|h
      . rw [jt h];omega
      . rw [sY h];omega
     have f:df n (N-n)<=N-n/\df n (N-n)<=n:=by
      rcases XL n (N-n)with h|h
      . rw [jt h];omega
      . rw [sY h];omega
     refine dn_v (S.copyO (i:=0) (l:=Xb (df n (N-n)) (.int .i64 x)) rfl Tryz.t34.1 Tryz.t3.2.2.1 t ?_ (by simp;omega) (by simp;right;rfl)) ?_
     . rw [(S.row m0).load (by simp;omega),Xe,XE]
       congr 1
       rw [XI (by simp;omega),XX]
       congr 1
       omega
     clear S;rintro h w ⟨rfl,S⟩
     simp only [LC]at S
     rw [tD f.1]at S
     generalize df n (N-n)=k at S t f
     have w:an .i64 ((n:Int)+(k:Int))=((n+k:Nat):Int):=by rw [wrap64]<;>omega
     simp only [BS,LB,cls,Nat.reduceLT,Nat.reduceEqDiff,Nat.reduceAdd,Nat.reducePow,Nat.reduceDiv,Nat.reduceMod,Nat.reduceLeDiff,w]
     exact J (n+k) _ _ (by omega) ⟨by omega,by omega,by rw [show N-(n+k)=N-n-k by omega];exact S,by simp [aa,r7],by simp [aa]⟩
   . simp only [BS,LB,ae,Nat.reduceLT,Nat.reduceEqDiff,FR,r7,r8,aB,hlt]
     have e:n=N:=by omega
     subst e
     have R:=S.row (b:=j) m0
     rw [XK,XY,Xo]at R
     exact⟨S.gr,j,rfl,d,R⟩
 . exact⟨Xq _,a,by simpa using S,by simp [aa],by simp [aa]⟩
def Tryz.FF:=aj t1<|aj t2<|aj t3<|aj t4<|aj t5<|aj Z0<|aj t32<|aj t34<|aj Z2<|aj t164<|aj Z1<|aj t172<|t267
def oK(A:List Arc)(f:Arc->Nat)(a:List Nat):List (List Value):=a.map fun(id:Nat)=>[.int .i64 id,.agg ⟨cG ⟨0,f (A.getD id default),(A.getD id default).w⟩⟩]
theorem arcs_ok'{h0:Hp}(j:h0.t.Sized h0.n){p g i:Value}(k:Fl p)(l:Fl g)(m:Fl i):Ret zL 147 [p,g,i] h0 fun v f=>Gr h0 f/\ ∃b1 a b,v=.func (.func 184) #[] #[ptrTo b1,ptrTo a,ptrTo b]/\h0.n<=b1/\h0.n<=a/\h0.n<=b/\f.load b1 0 1=some [g]/\f.load a 0 1=some [p]/\f.load b 0 1=some [i]:=by
 have S:=Si j
 refine ab (n:=8) (rs:=[.tmp 6]) rfl Tryz.e147 rfl rfl rfl (lbt rfl) ?_
 simp only [BS,Nat.reduceLT]
 refine ag (bC (by assumption)) S ?_;clear S;intro h a S c
 simp only [BS,Nat.reduceLT,Nat.reduceEqDiff,if_false]
 refine ag (bC (by assumption)) S ?_;clear S;intro h b1 S d
 simp only [BS,Nat.reduceLT,Nat.reduceEqDiff,if_false]
 refine ag (bC (by assumption)) S ?_;clear S;intro h b S e
 simp only [BS,LB,ae,Nat.reduceLT,Nat.reduceEqDiff]
 exact⟨S.gr,b1,a,b,rfl,d,c,e,S.ld m1 rfl,S.ld m2 rfl,S.ld m0 rfl⟩
theorem arcs_it{hq h0:Hp}(G:hq.t.Sized hq.n)(l:h0.t.Sized h0.n)(Q:dW hq h0)(R:hq.n<=h0.n){p t:Value}{k:Gra}{K b1 u y:Nat}(T:aS hq K p k){d:List Nat}(L:ar h0 1 bM t d)(z: ∀id∈d,id<k.arcs.length)(M:d.length<1000){g:FuncId}{f:Arc->Nat}(U:KeyF zL g f)
 (V:h0.load b1 0 1=some [t]) (W:h0.load u 0 1=some [p]) (e3:h0.load y 0 1=some [.func (.func g) #[] #[]]):
 lS zL 184 [] [ptrTo b1,ptrTo u,ptrTo y] h0 (fun c=>c=b1\/c=u\/c=y\/aq t c\/c<hq.n) (oK k.arcs f d):=by
 intro X J Z hz Y h F s D
 refine enter (n:=32) (rs:=[]) rfl Tryz.e184 rfl rfl rfl (lbt rfl) ?_
 have N:=s.load l V (.inl rfl)
 simp only [BS,LB,Nat.reduceLT,FF,N,L.lenq]
 refine aO (fun(i:Nat) m h=>i<=d.length/\ ∃F,ItS h0 (fun c=>c=b1\/c=u\/c=y\/aq t c\/c<hq.n) h F/\J i h F/\m 0=.func (.yield X) #[] #[]/\m 1=ptrTo b1/\m 2=ptrTo u/\m 3=ptrTo y/\m 9=t/\m 10=.int .i64 d.length/\m 11=.int .i64 i) (fun i=>d.length-i) ?_ 0 _ _ ?_
 . clear N
   intro i ih m h ⟨hi,F,s,D,r0,r1,r2,r3,r9,r10,r11⟩
   by_cases hlt:i<d.length
   . obtain⟨c,o,A,H⟩:=(s.sl l L (fun b h=>.inr (.inr (.inr (.inl h))))).ix (kd:=.i64) cZ hlt
     have l2:=s.load l W (.inr (.inl rfl))
     have l3:=s.load l e3 (.inr (.inr (.inl rfl)))
     have B:=z _ (Xz hlt)
     have nt:aS h K p k:=T.keep G (s.keep Q R (fun c hc=>.inr (.inr (.inr (.inr hc)))))
     have w:an .i64 ((i:Int)+1)=((i+1:Nat):Int):=by rw [wrap64]<;>omega
     have S:=Si s.ok
     simp only [BS,LB,Nat.reduceLT,Nat.reduceEqDiff,FF,r2,r9,r10,r11,aB,hlt,A,H,bM,l2]
     refine step_ret (iU S.ok nt B) ?_
     rintro v h2 ⟨r,rfl⟩
     replace S:=S.call r;clear r
     simp only [BS,LB,Nat.reduceLT,Nat.reduceEqDiff,FF]
     refine ag aw S ?_;clear S;intro h I S O
     simp only [BS,LB,Nat.reduceLT,Nat.reduceEqDiff,cG]
     refine az (S.store (i:=0) rfl ?_ ?_ rfl rfl ?_ ono) ?_
     . exact(by exact Tryz.t108.2.1)
     . exact(by intro x e;cases e)
     . exact lbt rfl
     clear S;rintro h ⟨S,mo⟩;clear mo;simp only [LC,ah,lay,zO,Xa,Nat.reduceAdd]at S
     simp only [BS,LB,Nat.reduceLT,Nat.reduceEqDiff]
     refine au (aC rfl) (q:=0) (ps:=[(4,6)]) (by kernel_rfl) ?_
     simp only [BS,LB,cls,Nat.reduceLT,Nat.reduceEqDiff,Nat.reduceAdd,Nat.reducePow,Nat.reduceDiv,Nat.reduceMod,Nat.reduceLeDiff,FF,r0,r3,S.old l3 (fun h=>h),S.lds (b:=I) (o:=0) (n:=3) m0 (lbt rfl)]
     have C:=(S.row (b:=I) m0).lt S.ok
     refine cy (U _ k.arcs[d[i]] S.ok) ?_
     intro P r
     have E:=av r C
     replace S:=S.call r;clear r
     simp only [BS,LB,cls,Nat.reduceLT,Nat.reduceEqDiff,Nat.reduceAdd,Nat.reducePow,Nat.reduceDiv,Nat.reduceMod,Nat.reduceLeDiff,FF,S.ld (b:=I) (o:=2) m0 rfl]
     have gd:k.arcs.getD d[i] default=k.arcs[d[i]]:=by simp [Xl,B]
     have hx:(oK k.arcs f d)[i]? =some [.int .i64 (d[i]:Nat),.agg ⟨[.int .i64 0,.int .i64 (f k.arcs[d[i]]:Nat),.int .i64 (k.arcs[d[i]].w:Nat)]⟩]:=by
      unfold oK
      rw [XF,Xr hlt]
      simp only [XC,gd]
      rfl
     refine dn_yield hz Y (s.gr S.gr) (Y.gr _ _ _ _ D S.gr) (j:=i) hx ?_ ?_
     . intro P F' a s' _ _
       simp only [BS,LB,cls,Nat.reduceLT,Nat.reduceEqDiff,Nat.reduceAdd,Nat.reducePow,Nat.reduceDiv,Nat.reduceMod,Nat.reduceLeDiff,r11,w]
       refine⟨by simp only [bg,bF,aW,bI,a9,ne_eq,not_false_eq_true,bN,ce,bA,bn,bQ,c8,aK,Nat.reduceLT,Nat.reduceEqDiff,reduceIte,Xh,r0,r1,r2,r3,ac,aN E,aI E],?_⟩
       exact ih (i+1) _ _ (by omega) ⟨by omega,F',s',a,by simp [aa,r0],by simp [aa,r1,ac],by simp [aa,r2,ac],by simp [aa,r3,ac],by simp [aa,r9],by simp [aa,r10],by simp [aa]⟩
     . intro P a _
       simp only [BS,LB,cls,Nat.reduceLT,Nat.reduceEqDiff,Nat.reduceAdd,Nat.reducePow,Nat.reduceDiv,Nat.reduceMod,Nat.reduceLeDiff]
       refine⟨by simp only [bg,bF,aW,bI,a9,ne_eq,not_false_eq_true,bN,ce,bA,bn,bQ,c8,aK,Nat.reduceLT,Nat.reduceEqDiff,reduceIte,Xh,r0,r1,r2,r3,ac,aN E,aI E],?_⟩
       exact fi rfl ⟨rfl,.inr (.inl ⟨_,rfl,a⟩)⟩
   . simp only [BS,LB,Nat.reduceLT,r10,r11,aB,hlt]
     have:i=d.length:=by omega
     subst this
     exact bS (cJ ⟨rfl,_,rfl,rfl,.inl ⟨_,F,rfl,by simpa [oK]using D⟩⟩)
 . exact⟨by omega,F,s,D,by simp [aa,bJ],by simp [aa,bJ,ac],by simp [aa,bJ,ac],by simp [aa,bJ,ac],by simp [aa],by simp [aa],by simp [aa]⟩
def Tryz.Fo:=aj t1<|aj t2<|aj t3<|aj t4<|aj t5<|aj t28<|aj t34<|aj t47<|aj t162<|aj Z16<|aj t194<|aj t215<|aj t218<|aj r218<|aj Z7<|Z11
theorem ints_set(l:List Int)(i:Nat)(x:Int):(ints l).set i (.int .i64 x)=ints (l.set i x):=by
 have a: ∀l:List Int,ints l=l.map fun x=>Value.int .i64 x:=fun l=>by
  unfold ints;rw [Xw,XV,Xw];rfl
 rw [a,a,List.map_set]
theorem reach_ok{h0:Hp}(ok:h0.t.Sized h0.n){D d I c N v arc far:Nat}{p V vO:Value}{F:List Nat}{K:Nat->Option Int}{O:List Nat}{W:List (Value×Value×Nat)}{f:Int->Option Value}{j:List Int}
 (R:Row h0 D [p,V,.slice (some ⟨d,0,none⟩) N N,vO,.map (some I)] 1) (H:c6 h0 F p N K) (hN:N<=1000) (a:h0.get I=some (.map W c)) (MI:dG W c f) (CF:ClF O f) (t:Row h0 d (ints j) 1) (E:j.length=N) (J:v<N)
 (T:d∉F) (d2:D∉F) (d3:D≠d):
 Ret zL 148 [ptrTo D,.int .i64 v,.int .i64 arc,.int .i64 far] h0 fun _ X=>Mo (fun c=>c∈F\/c=d) h0 X/\ ∃F' m,c6 X F' p N (iT O K v far)/\(∀b∈F',b∈F\/h0.n<=b)/\Row X d (ints m) 1/\m.length=N/\((iT O K v far=K/\m=j)\/(v∉O/\iT O K v far=cK K v (some (far:Int))/\m=j.set v arc)):=by
 have S:=Si ok
 have ad:=t.lt ok
 have L:=R.load1 (o:=0) rfl
 have G:=R.load1 (o:=4) rfl
 have l2:=R.load1 (o:=2) rfl
 have pp: ∃b,p=ptrTo b:=by obtain⟨b,_,_,e,_⟩:=H.ex;exact⟨b,e⟩
 obtain⟨bp,rfl⟩:=pp
 refine ab (n:=59) (rs:=[]) rfl Tryz.e148 rfl rfl rfl (lbt rfl) ?_
 simp only [BS,LB,Nat.reduceLT,Nat.reduceEqDiff,Fo,L]
 refine am (vg S.ok H) ?_
 intro h g;replace S:=S.call g;clear g
 replace a:h.get I=some (.map W c):=S.gr.at a
 have U:=H.gr S.gr
 have y:=qI (x:=(v:Int)) Tryz.t162.1 Tryz.t3.1 (z:=.int .i64 0) (by kernel_rfl) a MI
 rw [CF v]at y
 replace L:=S.old L (fun h=>h)
 replace G:=S.old G (fun h=>h)
 replace l2:=S.old l2 (fun h=>h)
 replace t:Row h d (ints j) 1:=t.gr S.gr
 have R1:=R.gr S.gr
 have u:=S.gr
 by_cases q:v∈O
 . rw [if_pos q,XB]at y
   simp only [BS,LB,Nat.reduceLT,Nat.reduceEqDiff,Int.reduceLT,Fo,G,y]
   exact⟨u.fr,F,j,by unfold iT;rw [if_pos q];exact U,fun b l=>.inl l,t,E,.inl ⟨by unfold iT;rw [if_pos q],rfl⟩⟩
 . rw [if_neg q,XA]at y
   have af:=t.lt u.ok
   cases M:K v with
   | none=>
     have w:iT O K v far=cK K v (some (far:Int)):=by unfold iT;rw [if_neg q,M]
     simp only [BS,LB,Nat.reduceLT,Nat.reduceEqDiff,Int.reduceLT,Fo,L,G,y,XA,XD]
     refine step_ret (qu u.ok U J hN M) ?_
     rintro r A ⟨s,F',Y,P⟩
     have B:Row A d (ints j) 1:=s.has (o:=.row _ 1) t T
     have Z:Row A D [ptrTo bp,V,.slice (some ⟨d,0,none⟩) N N,vO,.map (some I)] 1:=s.has (o:=.row _ 1) R1 d2
     have C:=Z.load1 (o:=2) rfl
     have S:=St.init1 s.ok (o:=.row _ 1) B
     simp only [BS,LB,Nat.reduceLT,Nat.reduceEqDiff,Nat.reduceAdd,Fo,C,J]
     refine az (ay S (i:=0) rfl Tryz.t3.2.2.1 aX (by rw [cu,E];exact J) ono) ?_
     clear S;rintro h3 ⟨S,Q⟩
     simp only [LC]at S
     rw [ints_set]at S
     simp only [BS]
     refine⟨(u.fr.trans (s.mono (fun c a=>.inl a)) (fun c a=>.inl a):Mo (fun c=>c∈F\/c=d) h0 A).trans Q (fun c a=>.inl (.inr a)),F',j.set v arc,by rw [w];exact Y.mo Q (fun b l e=>by subst e;rcases P b l with h|h;exact T h;omega),fun b l=>(P b l).imp (fun h=>h) (fun h=>Xf u.n h),S.row m0,by rw [Xp];exact E,.inr ⟨q,w,rfl⟩⟩
   | some k=>
     by_cases hle:k<=(far:Int)
     . have w:iT O K v far=K:=by unfold iT;rw [if_neg q,M];simp only [];rw [if_pos hle]
       simp only [BS,LB,Nat.reduceLT,Nat.reduceEqDiff,Int.reduceLT,Fo,G,y,hle,XB]
       exact⟨u.fr,F,j,by rw [w];exact U,fun b l=>.inl l,t,E,.inl ⟨w,rfl⟩⟩
     . have w:iT O K v far=cK K v (some (far:Int)):=by unfold iT;rw [if_neg q,M];simp only [];rw [if_neg hle]
       simp only [BS,LB,Nat.reduceLT,Nat.reduceEqDiff,Int.reduceLT,Fo,L,G,y,hle,XB]
       refine step_ret (sC u.ok U hN M (by omega)) ?_
       rintro r A ⟨s,Y⟩
       have B:Row A d (ints j) 1:=s.has (o:=.row _ 1) t T
       have Z:Row A D [ptrTo bp,V,.slice (some ⟨d,0,none⟩) N N,vO,.map (some I)] 1:=s.has (o:=.row _ 1) R1 d2
       have C:=Z.load1 (o:=2) rfl
       have S:=St.init1 s.ok (o:=.row _ 1) B
       simp only [BS,LB,Nat.reduceLT,Nat.reduceEqDiff,Nat.reduceAdd,Fo,C,J]
       refine az (ay S (i:=0) rfl Tryz.t3.2.2.1 aX (by rw [cu,E];exact J) ono) ?_
       clear S;rintro h3 ⟨S,Q⟩
       simp only [LC]at S
       rw [ints_set]at S
       simp only [BS]
       refine⟨(u.fr.trans (s.mono (fun c a=>.inl a)) (fun c a=>.inl a):Mo (fun c=>c∈F\/c=d) h0 A).trans Q (fun c a=>.inl (.inr a)),F,j.set v arc,by rw [w];exact Y.mo Q (fun b l e=>by subst e;exact T l),fun b l=>.inl l,S.row m0,by rw [Xp];exact E,.inr ⟨q,w,rfl⟩⟩
end Go.Ab
end

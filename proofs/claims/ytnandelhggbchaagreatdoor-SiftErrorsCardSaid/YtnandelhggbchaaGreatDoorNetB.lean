/- Nets, cells, flags: what the functions do (part 2). -/
import Derived.Test.YtnandelhggbchaaGreatDoorNetA
open Go.Ab.Tryz
open Go.Ab.Tryz renaming abEnv->zM,e3E->Xx,e99E->XG,e344E->XQ,e2E->XT
open Nat renaming lt_of_succ_le->zO,le_trans->Xd,zero_add->Xe,mul_one->Xf,zero_mul->Xk,one_mul->Xn,ble_eq_true_of_le->Xt,zero_le->Xv,le_refl->XF
open List renaming take->Xa,drop->Xb,range->Xc,mem_append_right->Xg,length_append->Xh,mem_append_left->Xj,getD_eq_getElem?_getD->Xm,getElem?_eq_getElem->Xo,take_succ_eq_append_getElem->Xp,flatMap_append->Xq,take_succ_cons->Xr,append_nil->Xs,mem_of_getElem?->Xu,length_set->Xw,take_of_length_le->XA,getElem_mem->XB,length_singleton->XE,map_cons->XH,getElem?_map->XI,getElem?_cons_zero->XJ,getElem?_cons_succ->XK,flatMap_eq_foldl->XL,drop_zero->XM,take_zero->XN,getElem?_append->XO,getElem?_range->XR,map_nil->XS
open Int renaming cast_ofNat_Int->Xi,toNat_natCast->Xz,ofNat_eq_natCast->XP
open Bool renaming and_true->Xl
open Option renaming isSome_none->Xy,getD_none->XC,getD_some->XD
set_option maxHeartbeats 4000000
set_option linter.defProp false
set_option linter.unusedVariables false
set_option linter.unusedSimpArgs false
section
namespace Go.Ab
open Go.Proofs
set_option maxRecDepth 10000
def Tryz.F0:=aj t1<|aj t2<|aj t3<|aj t4<|aj t5<|aj t6<|aj Z3<|aj Z4<|aj t9<|aj t10<|aj t11<|aj t12<|aj Z15<|aj Z22<|aj t15<|aj t16<|aj t17<|aj t18<|aj r18<|aj Z21<|aj t20<|aj t21<|aj t22<|aj t23<|aj t24<|aj t29<|aj Z0<|aj t36<|aj t38<|aj r38<|aj Z2<|aj t181<|aj t271<|aj t358<|aj Z19<|aj t372<|aj t374<|aj t376<|aj t377<|aj t378<|aj t379<|Z18
def ints(l:List Int):List Value:=l.flatMap (encI .i64)
theorem cq(l:List Int):(ints l).length=l.length:=by unfold ints;rw [bC (k:=1) (fun _=>rfl)];omega
theorem gy(l m:List Int):ints (l++m)=ints l++ints m:=by unfold ints;rw [Xq]
theorem raw0_ok {h0:Hp} (ok:h0.t.Sized h0.n) {B:Nat} {V:Value} {xs:List Int} (hr:Row h0 B [V,.int .i64 ((0:Nat):Int)] 1) (P:nj h0 B V xs 0):
 Ret zM 9 [ptrTo B] h0 fun v h'=>Mo (· =B) h0 h'/\ ∃γ vx vy va,v=jL γ vx vy va/\Good γ/\γ.nodes=1+drV xs 12 0/\df h' vx vy va γ/\ ∀c,(ar vx c\/ar vy c\/ar va c)->h0.n<=c:=by
 have S:=St.init1 ok (o:=.row [V,.int .i64 ((0:Nat):Int)] 1) hr
 have b1:=hr.lt ok
 refine ac (n:=117) (rs:=[.cell 2 31]) rfl Tryz.e9 rfl rfl rfl (lbt rfl) ?_
 simp only [BS,F0]
 refine ag ax S ?_;clear S;intro h L S bL
 simp only [BS,LB,Nat.reduceLT,Nat.reduceEqDiff]
 refine step_ret (zj (n:=12) (a:=0) S.ok (S.row m1) (P.mo S.fr (by omega)) (by omega) (by omega)) ?_
 rintro v h ⟨f,r,a0,rfl,b4,b5,R,b6⟩
 replace S:=S.call1 (i:=1) rfl f (o':=.row _ _) R
 simp only [LC]at S
 have w1:an .i64 (1+(r:Int))=((1+r:Nat):Int):=by rw [wrap64]<;>omega
 simp only [BS,LB,Nat.reduceLT,Nat.reduceEqDiff,Nat.reduceAdd,F0,w1]
 refine ag ax S ?_;clear S;intro h s S bP
 simp only [BS,LB,Nat.reduceLT,Nat.reduceEqDiff]
 refine ay (S.store (i:=0) rfl ?_ ?_ rfl rfl ?_ ono) ?_
 . exact(by exact Tryz.t7.2.1)
 . exact(by intro x e;cases e)
 . exact lbt rfl
 clear S;rintro h ⟨S,M⟩;clear M;simp only [LC,ah,lay,Xa,Xb,Nat.reduceAdd]at S
 simp only [BS]
 replace S:=((S.nilG (k:=3)).nilG (k:=1)).nilG (k:=1)
 generalize hN:1+r=N at S
 refine aQ (fun(i:Nat) g h=>i<=N/\ ∃(a:Nat) (D G:Value) (X Y:List Int),a<=1+2*i/\X.length=i/\Y.length=i/\(∀x∈X,-2147483648<=x/\x<=2147483647)/\(∀x∈Y,-2147483648<=x/\x<=2147483647)/\
  St (· =B) h0 h [(s,.row [.int .i64 N,D,G,.slice none 0 0] 1),(L,.row [.int .i64 0,.slice none 0 0,.slice none 0 0,.slice none 0 0] 1),(B,.row [V,.int .i64 a] 1)] [(D,1,ints X),(G,1,ints Y),(.slice none 0 0,3,[])]/\
  g 0=ptrTo B/\g 2=ptrTo L/\g 3=ptrTo s/\g 4=.int .i64 i) (fun i=>N-i) ?_ 0 _ _ ?_
 . clear S
   intro i T g h ⟨hi,a,D,G,X,Y,ha,lX,lY,cX,cY,S,r,y,d,r4⟩
   by_cases hlt:i<N
   . simp only [BS,LB,Nat.reduceLT,Nat.reduceEqDiff,F0,d,r4,aA,hlt,S.ld (b:=s) (o:=0) m0 rfl]
     refine aw (aB rfl) (q:=32) (ps:=[(1,3)]) (by kernel_rfl) ?_
     simp only [BS,LB,cls,Nat.reduceLT,Nat.reduceEqDiff,Nat.reduceAdd,Nat.reducePow,Nat.reduceDiv,Nat.reduceMod,Nat.reduceLeDiff,F0,r,d,S.ld (b:=s) (o:=1) m0 rfl]
     refine da (g9 (n:=9) (a:=a) S.ok (S.row m2) (P.mo S.fr (by omega)) (by omega) (by omega)) ?_
     rintro v h ⟨f,r1,a1,rfl,b7,bm,R⟩
     have hl:=S.leaves (c:=s) m0 f (by omega)
     replace S:=S.call1 (i:=2) rfl f (o':=.row _ _) R
     simp only [LC]at S
     have w9:an .i64 ((r1:Int)-3)=(r1:Int)-3:=by rw [wrap64]<;>omega
     simp only [BS,LB,cls,Nat.reduceLT,Nat.reduceEqDiff,Nat.reduceAdd,Nat.reducePow,Nat.reduceDiv,Nat.reduceMod,Nat.reduceLeDiff,w9]
     refine dK (bI (by exact Tryz.t24.1) (by exact XT) (by decide) (by rfl)) S ?_;clear S;intro h W S J ad;simp only [LC,aT,bA,ah,Nat.reduceMul,Nat.reduceAdd,Xk,Xe,Xf,Xn]at S
     simp only [BS,LB,cls,Nat.reduceLT,Nat.reduceEqDiff,Nat.reduceAdd,Nat.reducePow,Nat.reduceDiv,Nat.reduceMod,Nat.reduceLeDiff]
     refine dn_v (S.grow (j:=0) (m:=1) (new:=ints [(r1:Int)-3]) rfl Tryz.t24.1 XT (by decide) Tryz.t24.2.2.2.2.2 (by simp only [aJ];rw [S.lds (b:=W) (o:=0) (n:=1*1) m0 (lbt rfl)];rfl) rfl (by decide) rfl (by rw [cq,cq];simp;omega)) ?_
     clear S
     rintro h aL S
     simp only [LC]at S
     replace S:=S.drop1
     rw [<-gy]at S
     have fX:Fl aL:=(S.gown _ m0).1.fl
     simp only [BS,LB,cls,Nat.reduceLT,Nat.reduceEqDiff,Nat.reduceAdd,Nat.reducePow,Nat.reduceDiv,Nat.reduceMod,Nat.reduceLeDiff,F0,d]
     refine dw (az S (i:=0) rfl ?_ ?_ ?_ ono) ?_
     . exact(by simp only [F0])
     . exact(by assumption)
     . exact zO (lbt rfl)
     clear S;rintro h ⟨S,M⟩;clear M;simp only [LC,ah,lay,Xa,Xb,Nat.reduceAdd]at S
     simp only [BS,Nat.reduceAdd]
     refine⟨by simp only [bz,bG,aW,bM,a8,ne_eq,not_false_eq_true,bS,cD,bD,bw,ca,c9,aO,Nat.reduceLT,Nat.reduceEqDiff,reduceIte,Xl,d,ae,aE hl],?_⟩
     refine aw (aB rfl) (q:=16) (ps:=[(1,3)]) (by kernel_rfl) ?_
     simp only [BS,LB,cls,Nat.reduceLT,Nat.reduceEqDiff,Nat.reduceAdd,Nat.reducePow,Nat.reduceDiv,Nat.reduceMod,Nat.reduceLeDiff,F0,r,d,S.ld (b:=s) (o:=2) m0 rfl]
     clear f hl R
     refine da (g9 (n:=7) (a:=a1) S.ok (S.row m2) (P.mo S.fr (by omega)) (by omega) (by omega)) ?_
     rintro v h ⟨f,H,a2,rfl,bo,bp,R⟩
     have hl:=S.leaves (c:=s) m0 f (by omega)
     replace S:=S.call1 (i:=2) rfl f (o':=.row _ _) R
     simp only [LC]at S
     simp only [BS,LB,cls,Nat.reduceLT,Nat.reduceEqDiff,Nat.reduceAdd,Nat.reducePow,Nat.reduceDiv,Nat.reduceMod,Nat.reduceLeDiff]
     refine dK (bI (by exact Tryz.t24.1) (by exact XT) (by decide) (by rfl)) S ?_;clear S;intro h W S J ad;simp only [LC,aT,bA,ah,Nat.reduceMul,Nat.reduceAdd,Xk,Xe,Xf,Xn]at S
     simp only [BS,LB,cls,Nat.reduceLT,Nat.reduceEqDiff,Nat.reduceAdd,Nat.reducePow,Nat.reduceDiv,Nat.reduceMod,Nat.reduceLeDiff]
     refine dn_v (S.grow (j:=1) (m:=1) (new:=ints [(H:Int)]) rfl Tryz.t24.1 XT (by decide) Tryz.t24.2.2.2.2.2 (by simp only [aJ];rw [S.lds (b:=W) (o:=0) (n:=1*1) m0 (lbt rfl)];rfl) rfl (by decide) rfl (by rw [cq,cq];simp;omega)) ?_
     clear S
     rintro h ba S
     simp only [LC]at S
     replace S:=S.drop1
     rw [<-gy]at S
     have fY:Fl ba:=(S.gown _ m1).1.fl
     simp only [BS,LB,cls,Nat.reduceLT,Nat.reduceEqDiff,Nat.reduceAdd,Nat.reducePow,Nat.reduceDiv,Nat.reduceMod,Nat.reduceLeDiff,F0,d]
     refine dw (az S (i:=0) rfl ?_ ?_ ?_ ono) ?_
     . exact(by simp only [F0])
     . exact(by assumption)
     . exact zO (lbt rfl)
     clear S;rintro h ⟨S,M⟩;clear M;simp only [LC,ah,lay,Xa,Xb,Nat.reduceAdd]at S
     simp only [BS,LB,Nat.reduceLT,Nat.reduceEqDiff,Nat.reduceAdd,r4]
     refine⟨by simp only [bz,bG,aW,bM,a8,ne_eq,not_false_eq_true,bS,cD,bD,bw,ca,c9,aO,Nat.reduceLT,Nat.reduceEqDiff,reduceIte,Xl,d,ae,aE hl],?_⟩
     have w:an .i64 ((i:Int)+1)=((i+1:Nat):Int):=by rw [wrap64]<;>omega
     simp only [w]
     exact T (i+1) _ _ (by omega) ⟨by omega,a2,aL,ba,_,_,by omega,by simp [lX],by simp [lY],
      fun x F=>(List.mem_append.1 F).elim (cX x) (fun h=>by simp at h;omega),fun x F=>(List.mem_append.1 F).elim (cY x) (fun h=>by simp at h;omega),S,by simp [aa,r,ae],by simp [aa,y,ae],by simp [aa,d,ae],by simp [aa]⟩
   . have bq : i=N:=by omega
     subst bq
     simp only [BS,LB,Nat.reduceLT,Nat.reduceEqDiff,F0,r,d,r4,aA,hlt,S.ld (b:=s) (o:=0) m0 rfl]
     refine step_ret (g9 (n:=9) (a:=a) S.ok (S.row m2) (P.mo S.fr (by omega)) (by omega) (by omega)) ?_
     rintro v h ⟨f,H,a1,rfl,bo,bm,R⟩
     replace S:=S.call1 (i:=2) rfl f (o':=.row _ _) R
     simp only [LC]at S
     simp only [BS,LB,Nat.reduceLT,Nat.reduceEqDiff]
     refine us (fun g h=> ∃(X Y:List Int),X.length=i/\Y.length=i/\(∀x∈X,-2147483648<=x/\x<=2147483647)/\(∀x∈Y,-2147483648<=x/\x<=2147483647)/\
      St (· =B) h0 h [(s,.row [.int .i64 i,D,G,.slice none 0 0] 1),(L,.row [.int .i64 0,.slice none 0 0,.slice none 0 0,.slice none 0 0] 1),(B,.row [V,.int .i64 a1] 1)] [(D,1,ints X),(G,1,ints Y),(.slice none 0 0,3,[])]/\
      g 0=ptrTo B/\g 2=ptrTo L/\g 3=ptrTo s) ?_ ?_ ?_
     . intro _
       obtain⟨bX,ix,bb⟩:=S.gset (E:=zM) (t:=2) (j:=0) (i:=0) (kd:=.i64) rfl (by rw [cq];omega) Tryz.t2.2.2.1
       have br:kW (some 1) D (.int .i64 0)=_:=ix
       simp only [BS,LB,Nat.reduceLT,Nat.reduceEqDiff,F0,d,br,S.ld (b:=s) (o:=1) m0 rfl]
       refine ay (bb _ bU) ?_
       clear S bb;intro h S
       simp only [LC]at S
       obtain⟨bY,iy,bc⟩:=S.gset (E:=zM) (t:=2) (j:=1) (i:=i-1) (kd:=.i64) rfl (by rw [cq];omega) Tryz.t2.2.2.1
       have w1:an .i64 ((i:Int)-1)=((i-1:Nat):Int):=by rw [wrap64]<;>omega
       simp only [BS,LB,Nat.reduceLT,Nat.reduceEqDiff,F0,d,w1,iy,S.ld (b:=s) (o:=0) m0 rfl,S.ld (b:=s) (o:=2) m0 rfl]
       refine ay (bc _ bU) ?_
       clear S bc;intro h S
       simp only [LC]at S
       simp only [BS]
       have af: ∀(l:List Int) (j:Nat) (z:Int),(ints l).set j (.int .i64 z)=ints (l.set j z):=by
        intro l
        induction l with
        |nil=>intro j z;rfl
        | cons x l T=>
          intro j z
          cases j with
          |zero=>rfl
          |succ j=>show _::_=_::_;exact congrArg _ (T j z)
       rw [af,af]at S
       refine iK ⟨_,_,by simp [lX],by simp [lY],fun x F=>?_,fun x F=>?_,S,by simp [aa,r,ae],by simp [aa,y,ae],by simp [aa,d,ae]⟩
       . rcases kK F with rfl|⟨j,_,F⟩
         . omega
         . exact cX x (Xu F)
       . rcases kK F with rfl|⟨j,_,F⟩
         . omega
         . exact cY x (Xu F)
     . intro _
       simp only [BS]
       exact iK ⟨X,Y,lX,lY,cX,cY,S,by simp [aa,r,ae],by simp [aa,y,ae],by simp [aa,d,ae]⟩
     . clear S r y d r4 lX lY cX cY X Y f R
       rintro g h ⟨X,Y,lX,lY,cX,cY,S,r,y,d⟩
       have w3:an .i64 (3*(i:Int))=((3*i:Nat):Int):=by rw [wrap64]<;>omega
       have w4:an .i64 (((3*i:Nat):Int)+1)=((3*i+1:Nat):Int):=by rw [wrap64]<;>omega
       simp only [BS,LB,Nat.reduceLT,Nat.reduceEqDiff,F0,r,d,w3,w4,S.ld (b:=s) (o:=0) m0 rfl]
       refine step_ret (g9 (n:=3*i+1) (a:=a1) S.ok (S.row m2) (P.mo S.fr (by omega)) (by omega) (by omega)) ?_
       rintro v h ⟨f,C,a2,rfl,bt,bp,R⟩
       replace S:=S.call1 (i:=2) rfl f (o':=.row _ _) R
       simp only [LC]at S
       simp only [BS,LB,Nat.reduceLT,Nat.reduceEqDiff,r]
       refine step_ret (g9 (n:=3) (a:=a2) S.ok (S.row m2) (P.mo S.fr (by omega)) (by omega) (by omega)) ?_
       rintro v h ⟨f,rr,a3,rfl,b8,cb,R⟩
       replace S:=S.call1 (i:=2) rfl f (o':=.row _ _) R
       simp only [LC]at S
       simp only [BS,LB,Nat.reduceLT,Nat.reduceEqDiff]
       generalize decide ((0:Int)<(rr:Int))=ring
       refine tq (fun g h=> ∃(a:Nat) (u:Value) (A:List Arc),a<=a3+2*i/\A.length<=i/\(∀x∈A,x.s<i/\x.t<i/\x.w<=2147483647)/\
        St (· =B) h0 h [(s,.row [.int .i64 i,D,G,u] 1),(L,.row [.int .i64 0,.slice none 0 0,.slice none 0 0,.slice none 0 0] 1),(B,.row [V,.int .i64 a] 1)] [(D,1,ints X),(G,1,ints Y),(u,3,A.flatMap cP)]/\
        g 0=ptrTo B/\g 2=ptrTo L/\g 3=ptrTo s/\g 5=.int .i64 C)
        (fun(j:Nat) g h=>j<=i/\ ∃(a:Nat) (u:Value) (A:List Arc),a<=a3+2*j/\A.length<=j/\(∀x∈A,x.s<i/\x.t<i/\x.w<=2147483647)/\
        St (· =B) h0 h [(s,.row [.int .i64 i,D,G,u] 1),(L,.row [.int .i64 0,.slice none 0 0,.slice none 0 0,.slice none 0 0] 1),(B,.row [V,.int .i64 a] 1)] [(D,1,ints X),(G,1,ints Y),(u,3,A.flatMap cP)]/\
        g 0=ptrTo B/\g 2=ptrTo L/\g 3=ptrTo s/\g 5=.int .i64 C/\g 6=.bool ring/\g 7=.int .i64 j) (fun j=>i-j) ?_ ?_ 0 ⟨by omega,a3,_,[],by omega,by simp,by simp,S,by simp [aa,r,ae],by simp [aa,y,ae],by simp [aa,d,ae],by simp [aa],by simp [aa],by simp [aa]⟩
       . clear S r y d f R T
         intro j T g h ⟨hj,a,u,A,ha,lA,O,S,r,y,d,H,r6,r7⟩
         have K:(A.flatMap cP).length=A.length*3:=bC im A
         by_cases hlt:j<i/\ring=true
         . obtain⟨hlt,I⟩:=hlt
           subst I
           have w1:an .i64 ((j:Int)+1)=((j+1:Nat):Int):=by rw [wrap64]<;>omega
           have ci:(i:Int)≠0:=by omega
           have tm:((j+1:Nat):Int).tmod (i:Int)=(((j+1)%i:Nat):Int):=by rw [Int.tmod_eq_emod_of_nonneg (by omega)];exact(Int.natCast_emod _ _).symm
           simp only [BS,LB,Nat.reduceLT,Nat.reduceEqDiff,F0,d,r6,r7,aA,hlt,S.ld (b:=s) (o:=0) m0 rfl]
           refine aw (aB rfl) (q:=2048) (ps:=[(6,9),(1,9)]) (by kernel_rfl) ?_
           simp only [BS,LB,cls,Nat.reduceLT,Nat.reduceEqDiff,Nat.reduceAdd,Nat.reducePow,Nat.reduceDiv,Nat.reduceMod,Nat.reduceLeDiff,F0,r,d,r7,w1,lc ci,tm,S.ld (b:=s) (o:=0) m0 rfl,S.ld (b:=s) (o:=3) m0 rfl]
           refine da (wY (a:=a) S.ok (S.row m2) (P.mo S.fr (by omega)) (by omega)) ?_
           rintro v h ⟨f,U,a4,rfl,Z,bu,R⟩
           have hl:=S.leaves (c:=s) m0 f (by omega)
           replace S:=S.call1 (i:=2) rfl f (o':=.row _ _) R
           simp only [LC]at S
           simp only [BS,LB,cls,Nat.reduceLT,Nat.reduceEqDiff,Nat.reduceAdd,Nat.reducePow,Nat.reduceDiv,Nat.reduceMod,Nat.reduceLeDiff,F0]
           refine dK (bI (by exact Tryz.t29.1) (by exact XG) (by decide) (by rfl)) S ?_;clear S;intro h W S J ad;simp only [LC,aT,bA,ah,Nat.reduceMul,Nat.reduceAdd,Xk,Xe,Xf,Xn]at S
           simp only [BS,LB,cls,Nat.reduceLT,Nat.reduceEqDiff,Nat.reduceAdd,Nat.reducePow,Nat.reduceDiv,Nat.reduceMod,Nat.reduceLeDiff]
           refine dn_v (S.grow (j:=2) (m:=1) (new:=cP ⟨j,(j+1)%i,U⟩) rfl Tryz.t29.1 XG (by decide) Tryz.t29.2.2.2.2.2 (by simp only [aJ];rw [S.lds (b:=W) (o:=0) (n:=1*3) m0 (lbt rfl)];rfl) rfl (by decide) rfl (by rw [K,im];omega)) ?_
           clear S
           rintro h Q S
           simp only [LC]at S
           replace S:=S.drop1
           have fA:Fl Q:=(S.gown _ m2).1.fl
           simp only [BS,LB,cls,Nat.reduceLT,Nat.reduceEqDiff,Nat.reduceAdd,Nat.reducePow,Nat.reduceDiv,Nat.reduceMod,Nat.reduceLeDiff,F0,d]
           refine dw (az S (i:=0) rfl ?_ ?_ ?_ ono) ?_
           . exact(by simp only [F0])
           . exact(by assumption)
           . exact zO (lbt rfl)
           clear S;rintro h ⟨S,M⟩;clear M;simp only [LC,ah,lay,Xa,Xb,Nat.reduceAdd]at S
           simp only [BS,LB,Nat.reduceLT,Nat.reduceEqDiff,Nat.reduceAdd,r7]
           refine⟨by simp only [bz,bG,aW,bM,a8,ne_eq,not_false_eq_true,bS,cD,bD,bw,ca,c9,aO,Nat.reduceLT,Nat.reduceEqDiff,reduceIte,Xl,d,ae,aE hl],?_⟩
           simp only [w1]
           have be:(j+1)%i<i:=Nat.mod_lt _ (by omega)
           exact T (j+1) _ _ (by omega) ⟨by omega,a4,Q,A++[⟨j,(j+1)%i,U⟩],by omega,by simp;omega,
            fun x F=>(List.mem_append.1 F).elim (O x) (fun h=>by simp at h;subst h;exact⟨hlt,be,Z⟩),by rw [Xq];simpa using S,by simp [aa,r,ae],by simp [aa,y,ae],by simp [aa,d,ae],by simp [aa,H],by simp [aa,r6],by simp [aa]⟩
         . by_cases ai:j<i
           . have I:ring=false:=by cases ring with
              |false=>rfl
              |true=>exact absurd ⟨ai,rfl⟩ hlt
             subst I
             simp only [BS,LB,Nat.reduceLT,Nat.reduceEqDiff,F0,d,r6,r7,aA,ai,S.ld (b:=s) (o:=0) m0 rfl]
             exact iK ⟨a,u,A,by omega,by omega,O,S,by simp [aa,r,ae],by simp [aa,y,ae],by simp [aa,d,ae],by simp [aa,H]⟩
           . simp only [BS,LB,Nat.reduceLT,Nat.reduceEqDiff,F0,d,r7,aA,ai,S.ld (b:=s) (o:=0) m0 rfl]
             exact iK ⟨a,u,A,by omega,by omega,O,S,by simp [aa,r,ae],by simp [aa,y,ae],by simp [aa,d,ae],by simp [aa,H]⟩
       . clear S r y d f R T
         rintro g h ⟨a,u,A,ha,lA,O,S,r,y,d,H⟩
         simp only [BS]
         refine tq (fun g h=> ∃(a:Nat) (u:Value) (A:List Arc),A.length<=100/\(∀x∈A,x.s<i/\x.t<i/\x.w<=2147483647)/\
          St (· =B) h0 h [(s,.row [.int .i64 i,D,G,u] 1),(L,.row [.int .i64 0,.slice none 0 0,.slice none 0 0,.slice none 0 0] 1),(B,.row [V,.int .i64 a] 1)] [(D,1,ints X),(G,1,ints Y),(u,3,A.flatMap cP)]/\
          g 0=ptrTo B/\g 2=ptrTo L/\g 3=ptrTo s)
          (fun(k:Nat) g h=>k<=C/\ ∃(a:Nat) (u:Value) (A:List Arc),a<=a3+2*i+6*k/\A.length<=i+2*k/\(∀x∈A,x.s<i/\x.t<i/\x.w<=2147483647)/\
          St (· =B) h0 h [(s,.row [.int .i64 i,D,G,u] 1),(L,.row [.int .i64 0,.slice none 0 0,.slice none 0 0,.slice none 0 0] 1),(B,.row [V,.int .i64 a] 1)] [(D,1,ints X),(G,1,ints Y),(u,3,A.flatMap cP)]/\
          g 0=ptrTo B/\g 2=ptrTo L/\g 3=ptrTo s/\g 5=.int .i64 C/\g 8=.int .i64 k) (fun k=>C-k) ?_ ?_ 0 ⟨by omega,a,u,A,by omega,by omega,O,S,by simp [aa,r,ae],by simp [aa,y,ae],by simp [aa,d,ae],by simp [aa,H],by simp [aa]⟩
         . clear S r y d H ha lA O a u A
           intro k T g h ⟨hk,a,u,A,ha,lA,O,S,r,y,d,H,r8⟩
           have K:(A.flatMap cP).length=A.length*3:=bC im A
           by_cases hlt:k<C
           . simp only [BS,LB,Nat.reduceLT,Nat.reduceEqDiff,H,r8,aA,hlt]
             refine aw (mY (ord:=[11,0,1,2,3,4,5,6,7,8,9,10,12]) rfl rfl (by simp only [dM,ns,ep,XJ,XK,List.map_toArray,XH,XS,Nat.reduceBEq,cond_true,cond_false];exact rfl)) (q:=1) (ps:=[(0,10),(0,8),(4,7),(0,4)]) (by kernel_rfl) ?_
             simp only [BS,LB,cls,Nat.reducePow,Nat.reduceDiv,Nat.reduceMod,Nat.reduceLeDiff,F0]
             refine dK ax S ?_;clear S;intro h b9 S b0 bf
             simp only [BS,LB,cls,Nat.reduceLT,Nat.reduceEqDiff,Nat.reduceAdd,Nat.reducePow,Nat.reduceDiv,Nat.reduceMod,Nat.reduceLeDiff,F0,r,d,S.ld (b:=s) (o:=0) m1 rfl]
             refine da (g9 (n:=i) (a:=a) S.ok (S.row m3) (P.mo S.fr (by omega)) (by omega) (by omega)) ?_
             rintro v h ⟨f,s1,a4,rfl,bh,bu,R⟩
             have bv:=S.leaves (c:=b9) m0 f (by omega)
             have bx:=S.leaves (c:=s) m1 f (by omega)
             replace S:=S.call1 (i:=3) rfl f (o':=.row _ _) R
             simp only [LC]at S
             simp only [BS,LB,cls,Nat.reduceLT,Nat.reduceEqDiff,Nat.reduceAdd,Nat.reducePow,Nat.reduceDiv,Nat.reduceMod,Nat.reduceLeDiff,F0,r,d,S.ld (b:=s) (o:=0) m1 rfl]
             refine da (g9 (n:=i) (a:=a4) S.ok (S.row m3) (P.mo S.fr (by omega)) (by omega) (by omega)) ?_
             rintro v h ⟨f,s2,a5,rfl,bi,cc,R⟩
             have bB:=S.leaves (c:=b9) m0 f (by omega)
             have bE:=S.leaves (c:=s) m1 f (by omega)
             replace S:=S.call1 (i:=3) rfl f (o':=.row _ _) R
             simp only [LC]at S
             simp only [BS,LB,cls,Nat.reduceLT,Nat.reduceEqDiff,Nat.reduceAdd,Nat.reducePow,Nat.reduceDiv,Nat.reduceMod,Nat.reduceLeDiff,r]
             refine da (wY (a:=a5) S.ok (S.row m3) (P.mo S.fr (by omega)) (by omega)) ?_
             rintro v h ⟨f,U,a6,rfl,Z,cf,R⟩
             have bH:=S.leaves (c:=b9) m0 f (by omega)
             replace S:=S.call1 (i:=3) rfl f (o':=.row _ _) R
             simp only [LC]at S
             simp only [BS,LB,cls,Nat.reduceLT,Nat.reduceEqDiff,Nat.reduceAdd,Nat.reducePow,Nat.reduceDiv,Nat.reduceMod,Nat.reduceLeDiff,F0]
             refine dw (S.store (i:=0) rfl ?_ ?_ rfl rfl ?_ ono) ?_
             . exact(by exact Tryz.t99.2.1)
             . exact(by intro x e;cases e)
             . exact lbt rfl
             clear S;rintro h ⟨S,M⟩;clear M;simp only [LC,ah,lay,Xa,Xb,Nat.reduceAdd]at S
             simp only [BS,LB,Nat.reduceLT,Nat.reduceEqDiff,Nat.reduceAdd,F0,d]
             refine⟨by simp only [bz,bG,aW,bM,a8,ne_eq,not_false_eq_true,bS,cD,bD,bw,ca,c9,aO,Nat.reduceLT,Nat.reduceEqDiff,reduceIte,Xl,d,ae,<-bf,aE bv,aE bB,aE bE,aE bH,aI bx],?_⟩
             simp only [BS,LB,Nat.reduceLT,Nat.reduceEqDiff,F0,S.ld (b:=s) (o:=3) m1 rfl,S.lds (b:=b9) (o:=0) (n:=3) m0 (lbt rfl)]
             refine ag (bI (by exact Tryz.t29.1) (by exact XG) (by decide) (by rfl)) S ?_;clear S;intro h W S J;simp only [LC,aT,bA,ah,Nat.reduceMul,Nat.reduceAdd,Xk,Xe,Xf,Xn]at S
             simp only [BS,LB,Nat.reduceLT,Nat.reduceEqDiff]
             refine dA (S.grow (j:=2) (m:=1) (new:=cP ⟨s1,s2,U⟩) rfl Tryz.t29.1 XG (by decide) Tryz.t29.2.2.2.2.2 (by simp only [aJ];rw [S.lds (b:=W) (o:=0) (n:=1*3) m0 (lbt rfl)];rfl) rfl (by decide) rfl (by rw [K,im];omega)) ?_
             clear S
             rintro h Q S
             simp only [LC]at S
             replace S:=S.drop1
             have fA:Fl Q:=(S.gown _ m2).1.fl
             simp only [BS,LB,Nat.reduceLT,Nat.reduceEqDiff,F0,d]
             refine ay (az S (i:=1) rfl ?_ ?_ ?_ ono) ?_
             . exact(by simp only [F0])
             . exact(by assumption)
             . exact zO (lbt rfl)
             clear S;rintro h ⟨S,M⟩;clear M;simp only [LC,ah,lay,Xa,Xb,Nat.reduceAdd]at S
             simp only [BS,LB,Nat.reduceLT,Nat.reduceEqDiff,r]
             refine step_ret (g9 (n:=4) (a:=a6) S.ok (S.row m3) (P.mo S.fr (by omega)) (by omega) (by omega)) ?_
             rintro v h ⟨f,r9,a7,rfl,ch,cj,R⟩
             replace S:=S.call1 (i:=3) rfl f (o':=.row _ _) R
             simp only [LC]at S
             have w8:an .i64 ((k:Int)+1)=((k+1:Nat):Int):=by rw [wrap64]<;>omega
             have ak:(A.flatMap cP++cP ⟨s1,s2,U⟩).length=A.length*3+3:=by rw [Xh,K,im]
             have bk: ∀x∈A++[(⟨s1,s2,U⟩:Arc)],x.s<i/\x.t<i/\x.w<=2147483647:=fun x F=>(List.mem_append.1 F).elim (O x) (fun h=>by simp at h;subst h;exact⟨bh,bi,Z⟩)
             by_cases hz:(r9:Int)=0
             . simp only [BS,LB,Nat.reduceLT,Nat.reduceEqDiff,Nat.reduceAdd,F0,d,hz,S.ld (b:=s) (o:=3) m1 rfl,S.ld (b:=b9) (o:=0) m0 rfl,S.ld (b:=b9) (o:=1) m0 rfl,S.ld (b:=b9) (o:=2) m0 rfl]
               refine ag (bI (by exact Tryz.t29.1) (by exact XG) (by decide) (by rfl)) S ?_;clear S;intro h W S J;simp only [LC,aT,bA,ah,Nat.reduceMul,Nat.reduceAdd,Xk,Xe,Xf,Xn]at S
               simp only [BS,LB,Nat.reduceLT,Nat.reduceEqDiff]
               refine dA (S.grow (j:=2) (m:=1) (new:=cP ⟨s2,s1,U⟩) rfl Tryz.t29.1 XG (by decide) Tryz.t29.2.2.2.2.2 (by simp only [aJ];rw [S.lds (b:=W) (o:=0) (n:=1*3) m0 (lbt rfl)];rfl) rfl (by decide) rfl (by rw [ak,im];omega)) ?_
               clear S
               rintro h bl S
               simp only [LC]at S
               replace S:=S.drop1
               have fA:Fl bl:=(S.gown _ m2).1.fl
               simp only [BS,LB,Nat.reduceLT,Nat.reduceEqDiff,F0,d]
               refine ay (az S (i:=1) rfl ?_ ?_ ?_ ono) ?_
               . exact(by simp only [F0])
               . exact(by assumption)
               . exact zO (lbt rfl)
               clear S;rintro h ⟨S,M⟩;clear M;simp only [LC,ah,lay,Xa,Xb,Nat.reduceAdd]at S
               simp only [BS,LB,Nat.reduceLT,Nat.reduceEqDiff,r8,w8]
               replace S:=S.drop1
               exact T (k+1) _ _ (by omega) ⟨by omega,a7,bl,A++[⟨s1,s2,U⟩]++[⟨s2,s1,U⟩],by omega,by simp;omega,
                fun x F=>(List.mem_append.1 F).elim (bk x) (fun h=>by simp at h;subst h;exact⟨bi,bh,Z⟩),by rw [Xq,Xq];simpa using S,by simp [aa,r,ae],by simp [aa,y,ae],by simp [aa,d,ae],by simp [aa,H],by simp [aa]⟩
             . simp only [BS,LB,Nat.reduceLT,Nat.reduceEqDiff,r8,hz,w8]
               replace S:=S.drop1
               exact T (k+1) _ _ (by omega) ⟨by omega,a7,Q,A++[⟨s1,s2,U⟩],by omega,by simp;omega,
                bk,by rw [Xq];simpa using S,by simp [aa,r,ae],by simp [aa,y,ae],by simp [aa,d,ae],by simp [aa,H],by simp [aa]⟩
           . simp only [BS,LB,Nat.reduceLT,Nat.reduceEqDiff,H,r8,aA,hlt]
             exact iK ⟨a,u,A,by omega,O,S,by simp [aa,r,ae],by simp [aa,y,ae],by simp [aa,d,ae]⟩
         . clear S r y d H ha lA O a u A
           rintro g h ⟨a,u,A,lA,O,S,r,y,d⟩
           simp only [BS,LB,Nat.reduceLT,Nat.reduceEqDiff,F0,y,d,S.lds (b:=s) (o:=0) (n:=4) m0 (lbt rfl)]
           have fX:Fl D:=(S.gown _ m0).1.fl
           have fY:Fl G:=(S.gown _ m1).1.fl
           have fA:Fl u:=(S.gown _ m2).1.fl
           refine ay (S.store (i:=1) rfl Tryz.t31.2.1 (by intro x e;cases e) rfl (by simp only [ah,Xa,Xb,List.all_cons,List.all_nil,fX.2.1,fY.2.1,fA.2.1,Xl];rfl) (lbt rfl) ono) ?_
           clear S;rintro h ⟨S,_⟩
           simp only [LC,ah,lay,Xa,Xb,Nat.reduceAdd]at S
           simp only [BS,ab]
           refine⟨_,rR (by decide) (by simp only [aO,y,ae,Nat.reduceEqDiff,reduceIte];exact cQ Tryz.t31.1 Tryz.t31.2.1 (S.lds (b:=L) (o:=0) (n:=4) m1 (lbt rfl))),?_⟩
           have al: ∀p∈[(D,1,ints X),(G,1,ints Y),(u,3,A.flatMap cP)],∀c,ar p.1 c->h0.n<=c:=by
            intro p hp c hc
            obtain⟨h1,h2⟩:=S.gblk hp hc
            rcases h1 with h1|h1
            . exact h1
            . exact absurd (by simp [h1]) h2
           refine⟨S.fr,⟨i,X,Y,A⟩,D,G,u,rfl,⟨show 1<=i by omega,show i<=12 by omega,lX,lY,cX,cY,lA,O⟩,show i=_ by omega,⟨(S.gown _ m0).1.sl rfl (fun _=>rfl) (by decide),(S.gown _ m1).1.sl rfl (fun _=>rfl) (by decide),(S.gown _ m2).1.sl rfl (fun _=>rfl) (by decide)⟩,?_⟩
           rintro c (hc|hc|hc)
           . exact al _ m0 c hc
           . exact al _ m1 c hc
           . exact al _ m2 c hc
 . exact⟨by omega,a0,_,_,[],[],by omega,rfl,rfl,by simp,by simp,S,by simp [aa,bV,ae],by simp [aa,ae],by simp [aa,ae],by simp [aa]⟩
theorem raw_ok{h0:Hp}(m:h0.t.Sized h0.n){j:Nat}{l:Value}{xs:List Int}(n:Row h0 j [l,.int .i64 ((0:Nat):Int)] 1)(o:nj h0 j l xs 0):
 Ret zM 9 [ptrTo j] h0 fun v k=>Mo (· =j) h0 k/\ ∃e g h i,v=jL e g h i/\Good e/\df k g h i e/\ ∀c,(ar g c\/ar h c\/ar i c)->h0.n<=c:=
 (raw0_ok m n o).mono fun v k ⟨f,e,g,h,i,a,b,_,c,d⟩=>⟨f,e,g,h,i,a,b,c,d⟩
def Tryz.Fg:=aj t1<|aj t2<|aj t3<|aj t24<|aj t29<|aj Z0<|Z2
theorem aq{h a:Hp}{b:Nat}(g:Gr h a)(c:b<h.n):leaves h a b=true:=pN (g.get b c)
theorem own_ok{h0:Hp}(T:h0.t.Sized h0.n){u:Gra}(k:Good u){p r l:Value}(G:df h0 p r l u):
 Ret zM 46 [jL u p r l] h0 fun v E=>Gr h0 E/\ ∃p r l,v=jL u p r l/\df E p r l u/\(∀c,ar p c\/ar r c\/ar l c->h0.n<=c)/\WrK E 3 cP l u.arcs/\ ∀c,ar l c-> ¬ar p c/\ ¬ar r c:=by
 have S:=Si T
 have lX:=k.lX
 have lY:=k.lY
 have n2:=k.n2
 have N:=k.many
 refine ac (n:=16) (rs:=[.cell 2 31]) rfl Tryz.e46 rfl rfl rfl (lbt rfl) ?_
 simp only [BS,Nat.reduceLT,jL]
 refine ag (bg (by intro x e;cases e)) S ?_;clear S;intro h b S U;simp only [ah]at S
 simp only [BS,Fg]
 refine ag ax S ?_;clear S;intro h s S O
 simp only [BS]
 refine aw (aB rfl) (q:=0) (ps:=[(5,7),(2,7),(2,4)]) (by kernel_rfl) ?_
 simp only [BS,LB,cls,Nat.reduceLT,Nat.reduceEqDiff,Nat.reduceAdd,Nat.reducePow,Nat.reduceDiv,Nat.reduceMod,Nat.reduceLeDiff,Fg,S.ld (b:=b) (o:=1) m1 rfl]
 refine da (u7 S.ok (G.X.gr S.gr) (by omega)) ?_
 have V:=S.fr.n
 rintro y h ⟨g,f,H⟩
 have P:=aq g ((S.row (b:=b) m1).lt S.ok)
 have I: ∀c,ar y c-> ¬c=b:=fun c d e=>by have:=H c d;have:=(S.row (b:=b) m1).lt S.ok;omega
 have J: ∀c,ar y c-> ¬c=s:=fun c d e=>by have:=H c d;have:=(S.row (b:=s) m0).lt S.ok;omega
 replace S:=S.call g
 simp only [BS,LB,cls,Nat.reduceLT,Nat.reduceEqDiff,Nat.reduceAdd,Nat.reducePow,Nat.reduceDiv,Nat.reduceMod,Nat.reduceLeDiff,Fg,S.ld (b:=b) (o:=2) m1 rfl]
 refine da (u7 S.ok (G.Y.gr S.gr) (by omega)) ?_
 have W:=S.fr.n
 rintro A h ⟨g,j,K⟩
 have Q:=aq g ((S.row (b:=b) m1).lt S.ok)
 have L: ∀c,ar A c-> ¬c=b:=fun c d e=>by have:=K c d;have:=(S.row (b:=b) m1).lt S.ok;omega
 have M: ∀c,ar A c-> ¬c=s:=fun c d e=>by have:=K c d;have:=(S.row (b:=s) m0).lt S.ok;omega
 replace S:=S.call g
 replace f:=f.gr g
 simp only [BS,LB,cls,Nat.reduceLT,Nat.reduceEqDiff,Nat.reduceAdd,Nat.reducePow,Nat.reduceDiv,Nat.reduceMod,Nat.reduceLeDiff,Fg,S.ld (b:=b) (o:=3) m1 rfl]
 refine da (Ac S.ok (G.A.gr S.gr) (by omega)) ?_
 have X:=S.fr.n
 rintro B h ⟨g,m,C,t⟩
 have Y: ∀c,ar B c-> ¬ar y c/\ ¬ar A c:=fun c d=>⟨fun h=>by have:=C c d;have:=f.lt S.ok h;omega,fun h=>by have:=C c d;have:=j.lt S.ok h;omega⟩
 have R:=aq g ((S.row (b:=b) m1).lt S.ok)
 have w: ∀c,ar B c-> ¬c=b:=fun c d e=>by have:=C c d;have:=(S.row (b:=b) m1).lt S.ok;omega
 have D: ∀c,ar B c-> ¬c=s:=fun c d e=>by have:=C c d;have:=(S.row (b:=s) m0).lt S.ok;omega
 replace S:=S.call g
 replace f:=f.gr g
 replace j:=j.gr g
 have z: ∀c,ar y c\/ar A c\/ar B c->h0.n<=c:=fun c d=>by
  rcases d with h|h|h
  . exact Xd V (H c h)
  . exact Xd W (K c h)
  . exact Xd X (C c h)
 have Z:=f.fl
 have f2:=j.fl
 have f3:=m.fl
 simp only [BS,LB,cls,Nat.reduceLT,Nat.reduceEqDiff,Nat.reduceAdd,Nat.reducePow,Nat.reduceDiv,Nat.reduceMod,Nat.reduceLeDiff,Fg]
 refine dw (az S (i:=1) rfl ?_ ?_ ?_ ono) ?_
 . exact(by simp only [Fg])
 . exact(by assumption)
 . exact zO (lbt rfl)
 clear S;rintro h ⟨S,a⟩;replace f:=f.mo a I;replace j:=j.mo a L;replace m:=m.mo a w;replace t:=t.mo a w;clear a;simp only [LC,ah,lay,Xa,Xb,Nat.reduceAdd]at S
 simp only [BS,LB,cls,Nat.reduceLT,Nat.reduceEqDiff,Nat.reduceAdd,Nat.reducePow,Nat.reduceDiv,Nat.reduceMod,Nat.reduceLeDiff,Fg]
 refine dw (az S (i:=1) rfl ?_ ?_ ?_ ono) ?_
 . exact(by simp only [Fg])
 . exact(by assumption)
 . exact zO (lbt rfl)
 clear S;rintro h ⟨S,a⟩;replace f:=f.mo a I;replace j:=j.mo a L;replace m:=m.mo a w;replace t:=t.mo a w;clear a;simp only [LC,ah,lay,Xa,Xb,Nat.reduceAdd]at S
 simp only [BS,LB,cls,Nat.reduceLT,Nat.reduceEqDiff,Nat.reduceAdd,Nat.reducePow,Nat.reduceDiv,Nat.reduceMod,Nat.reduceLeDiff,Fg]
 refine dw (az S (i:=1) rfl ?_ ?_ ?_ ono) ?_
 . exact(by simp only [Fg])
 . exact(by assumption)
 . exact zO (lbt rfl)
 clear S;rintro h ⟨S,a⟩;replace f:=f.mo a I;replace j:=j.mo a L;replace m:=m.mo a w;replace t:=t.mo a w;clear a;simp only [LC,ah,lay,Xa,Xb,Nat.reduceAdd]at S
 simp only [BS,LB,Nat.reduceLT,Nat.reduceEqDiff,Nat.reduceAdd,Fg]
 refine⟨by simp only [bz,bG,aW,bM,a8,ne_eq,not_false_eq_true,bS,cD,bD,bw,ca,c9,aO,Nat.reduceLT,Nat.reduceEqDiff,reduceIte,Xl,aP,ae,aE P,aE Q,aE R,aI P,aI Q,aI R],?_⟩
 simp only [BS,LB,Nat.reduceLT,Nat.reduceEqDiff,S.lds (b:=b) (o:=0) (n:=4) m1 (lbt rfl)]
 refine ay (S.store (i:=0) rfl Tryz.t31.2.1 (by intro x e;cases e) rfl (by simp only [ah,Xa,Xb,List.all_cons,List.all_nil,Z.2.1,f2.2.1,f3.2.1,Xl];rfl) (lbt rfl) ono) ?_
 clear S
 rintro E ⟨S,F⟩
 simp only [LC,ah,lay,Xa,Xb,Nat.reduceAdd]at S
 simp only [BS,ab]
 refine⟨_,rR (by decide) (by simp only [aO,ae,Nat.reduceEqDiff,reduceIte];exact cQ Tryz.t31.1 Tryz.t31.2.1 (S.lds (b:=s) (o:=0) (n:=4) m0 (lbt rfl))),?_⟩
 exact⟨S.gr,y,A,B,rfl,⟨f.mo F J,j.mo F M,m.mo F D⟩,z,t.mo F D,Y⟩
def Tryz.F1g:=aj t1<|aj t2<|aj t3<|Z2
def Tryz.F1h:=aj t1<|aj t2<|aj t3<|Z2
def Tryz.F9:=aj t1<|aj t2<|aj t3<|aj t4<|aj t5<|aj t6<|aj Z3<|aj Z4<|aj t9<|aj t10<|aj t11<|aj t12<|aj Z15<|aj Z22<|aj t15<|aj t16<|aj t17<|aj t18<|aj r18<|aj Z21<|aj t20<|aj t24<|aj t29<|aj Z0<|aj t33<|aj Z2<|aj t181<|aj t189<|aj t192<|aj t271<|aj t358<|aj Z19<|aj t372<|aj t374<|aj t376<|aj t377<|aj t378<|aj t379<|Z18
theorem slice_at{E:Env}{t e:TypeId}{b k len cap l m:Nat}{a c d:IntKind}(i:E.und t=some (.slice e))(j:E.sz e=some k)(f:l<=m)(o:m<=cap):
 eW E t (.slice (some ⟨b,0,none⟩) len cap) (some (.int a (l:Int))) (some (.int c (l:Int))) (some (.int d (m:Int)))=some (.slice (some ⟨b,if m=l then 0 else l*k,none⟩) 0 (m-l)):=by
 have g: ∀n:Nat,gJ (n:Int)=some n:=fun n=>rfl
 simp only [eW,i,eI,eC,g,Xt o,Xt f,Xt (XF l),cond_true,j,Nat.sub_self,Option.map]
 by_cases h:m=l
 . subst h;rw [Nat.beq_refl];simp
 . have:Nat.beq m l=false:=by
    cases p:Nat.beq m l with
    |false=>rfl
    |true=>exact absurd (Nat.eq_of_beq_eq_true p) h
   rw [this,if_neg h];simp [eH]
theorem St.fill{M:Nat->Prop}{h0 h:Hp}{L:List (Nat×Ob)}{G:List GL}(S:St M h0 h L G){E:Env}{t m e:TypeId}{d i b off len cap md:Nat}{r l:List Value}{s:Option Nat}{x v:Value}(n:L[i]? =some (b,.row l md))(u:E.und t=some (.slice e))(w:d9 E e d 1 r)
 (z:dz E m=some false) (a:aJ h 1 x=some (1,[v])) (A:Fl v) (H:len<cap) (B:off+len<l.length) (f:md≠0) {ts:List TypeId}:
 ∃g,cU E h (t::m::ts) (.slice (some ⟨b,off,s⟩) len cap) x=some (g,.slice (some ⟨b,off,s⟩) (len+1) cap)/\St M h0 g (L.set i (b,.row (l.set (off+len) v) md)) G/\Mo (· =b) h g:=by
 obtain⟨⟨I,k,rfl,c⟩,J,C⟩:=w
 have D:=S.row (Xu n)
 obtain⟨y,F,p⟩:=D.store S.ok f (o:=off+len) (vs:=[v]) (by simp;omega) (by simp [A.2.1])
 have e:lay l (off+len) [v]=l.set (off+len) v:=by
  refine List.ext_getElem? fun j=>?_
  rw [jg (by simp;omega),List.getElem?_set]
  simp only [List.length_cons,List.length_nil]
  by_cases q:off+len=j
  . subst q;rw [if_pos ⟨XF _,by omega⟩,if_pos rfl,if_pos B];simp
  . rw [if_neg (by omega),if_neg q]
 rw [e]at p
 refine⟨h.put b y,?_,S.put n p,(Mo.refl (M:=(· =b)) S.ok).put (.inr rfl) y⟩
 simp only [cU,z,jm,u,k,c,a]
 unfold eG
 rw [Xt (by omega:len+1<=cap)]
 simp only [cond_true,c,Xf,F]
theorem note_runq{ρ:Operand->Value}{f:Operand}{xs:Array Operand}{ts:Array TypeId}{h a:Hp}:cy ρ true (.call ⟨.value f,xs,ts⟩) h a=none:=rfl
theorem rE{i:Nat}:cB i []=none:=rfl
theorem pair_n{x:Option Tch}:jd none x=true:=rfl
def KeyF(E:Env)(g:FuncId)(f:Arc->Nat):Prop:= ∀(h:Hp) (a:Arc),h.t.Sized h.n->aK E g [.agg ⟨cP a⟩] h (.int .i64 (f a))
theorem of2_key:KeyF zM 103 Arc.s:=by
 intro f a c
 have S:=Si c
 refine ac (n:=5) (rs:=[.tmp 2]) rfl Tryz.e103 rfl rfl rfl (lbt rfl) ?_
 simp only [BS,Nat.reduceLT,cP]
 refine ag (bg (by intro x e;cases e)) S ?_;clear S;intro h b S d;simp only [ah]at S
 simp only [BS,LB,ab,Nat.reduceLT,Nat.reduceEqDiff,F1g,S.ld (b:=b) (o:=0) m0 rfl]
 exact S.gr
theorem of3_key:KeyF zM 104 Arc.t:=by
 intro f a c
 have S:=Si c
 refine ac (n:=5) (rs:=[.tmp 2]) rfl Tryz.e104 rfl rfl rfl (lbt rfl) ?_
 simp only [BS,Nat.reduceLT,cP]
 refine ag (bg (by intro x e;cases e)) S ?_;clear S;intro h b S d;simp only [ah]at S
 simp only [BS,LB,ab,Nat.reduceLT,Nat.reduceEqDiff,F1h,S.ld (b:=b) (o:=1) m0 rfl]
 exact S.gr
theorem kD(A:List Arc)(f:Arc->Nat)(j v:Nat):(outs A f j v).length<=j:=by
 unfold outs
 exact Xd (List.length_filter_le _ _) (by simp)
theorem pW(z:Value)(N:Nat):aT [z] ((N:Int)).toNat=(Xc N).map fun _=>z:=by
 rw [Xz]
 have: ∀n,aT [z] n=List.replicate n z:=by
  intro n
  induction n with
  |zero=>rfl
  |succ n a=>simp [aT,a,List.replicate_succ]
 rw [this,List.map_const',List.length_range]
def lM(A:List Arc)(f:Arc->Nat)(i v:Nat):Value:=.int .i64 ((outs A f i v).length:Nat)
def gG(A:List Arc)(f:Arc->Nat)(b v n:Nat):Value:=.slice (some ⟨b,if(outs A f A.length v).length=0 then 0 else start A f v,none⟩) n (outs A f A.length v).length
theorem cnt_set{A:List Arc}{f:Arc->Nat}{N i:Nat}(c:i<A.length):((Xc N).map (lM A f i)).set (f A[i]) (.int .i64 (((outs A f i (f A[i])).length+1:Nat):Int))=(Xc N).map (lM A f (i+1)):=by
 have b:A.getD i default=A[i]:=by simp [Xm,c]
 have e:(.int .i64 (((outs A f i (f A[i])).length+1:Nat):Int):Value)=lM A f (i+1) (f A[i]):=by
  unfold lM;rw [ii,b,if_pos rfl,Xh];rfl
 rw [e]
 refine iT fun v d a=>?_
 unfold lM
 rw [ii,b,if_neg (fun e=>a e.symm),Xs]
def ua(A:List Arc)(f:Arc->Nat)(N i:Nat)(cs:List Value):Prop:=
 cs.length=A.length/\ ∀v r x,v<N->(outs A f i v)[r]? =some x->cs[start A f v+r]? =some (.int .i64 (x:Nat))
theorem fill_zero{A:List Arc}{f:Arc->Nat}{N:Nat}:ua A f N 0 ((Xc A.length).map fun _=>.int .i64 0):=
 ⟨by simp,fun v r x _ h=>by simp [outs]at h⟩
theorem fill_step{A:List Arc}{f:Arc->Nat}{N i:Nat}{cs:List Value}(h:ua A f N i cs)(k:i<A.length):ua A f N (i+1) (cs.set (start A f (f A[i])+(outs A f i (f A[i])).length) (.int .i64 (i:Nat))):=by
 have c:A.getD i default=A[i]:=by simp [Xm,k]
 have g:(outs A f (i+1) (f A[i])).length<=(outs A f A.length (f A[i])).length:=vC A f (by omega) _
 rw [ii,c,if_pos rfl,Xh]at g
 have hlt:(outs A f i (f A[i])).length<(outs A f A.length (f A[i])).length:=by simp at g;omega
 have l:=pE A f (f A[i])
 refine⟨by rw [Xw];exact h.1,fun v r x m a=>?_⟩
 have n:r<(outs A f (i+1) v).length:=(List.getElem?_eq_some_iff.1 a).1
 have d:r<(outs A f A.length v).length:=Nat.lt_of_lt_of_le n (vC A f (by omega) v)
 rw [List.getElem?_set]
 by_cases e:start A f (f A[i])+(outs A f i (f A[i])).length=start A f v+r
 . obtain⟨b,o⟩:=Ak A f hlt d e
   subst b
   rw [if_pos e,if_pos (by rw [h.1];omega)]
   rw [ii,c,if_pos rfl,XO,if_neg (by omega),o,Nat.sub_self]at a
   simp at a
   rw [a]
 . rw [if_neg e]
   refine h.2 v r x m ?_
   rw [ii,c]at a
   by_cases b:f A[i]=v
   . rw [if_pos b,XO]at a
     subst b
     by_cases j:r<(outs A f i (f A[i])).length
     . rw [if_pos j]at a;exact a
     . rw [if_neg j]at a
       have:=(List.getElem?_eq_some_iff.1 a).1
       simp at this
       exact absurd (by omega) e
   . rw [if_neg b,Xs]at a;exact a
theorem of1_ok {h0:Hp} (ok:h0.t.Sized h0.n) {u:Gra} (J:Good u) {vx vy K:Value} {b:Nat} (hb:Row h0 b [.int .i64 u.nodes,vx,vy,K] 1) (ga:df h0 vx vy K u) {g:FuncId} {f:Arc->Nat} (hk:KeyF zM g f) (hf: ∀a∈u.arcs,f a<u.nodes):
 Ret zM 102 [.func (.func g) #[] #[],ptrTo b] h0 fun v W=>Gr h0 W/\fE W h0.n v u.nodes (outs u.arcs f u.arcs.length):=by
 have S:=Si ok
 have n2:=J.n2
 have L:=J.many
 obtain⟨N,X,Y,A⟩:=u
 simp only []at hb n2 L hf
 have M:av h0 3 cP K A:=ga.A
 have l0:=hb.load1 (o:=0) rfl
 have l3:=hb.load1 (o:=3) rfl
 refine ac (n:=85) (rs:=[.tmp 3]) rfl Tryz.e102 rfl rfl rfl (lbt rfl) ?_
 simp only [BS,LB,Nat.reduceLT,Nat.reduceEqDiff,F9,l0]
 refine ag (jF (by exact Tryz.t33.1) (by exact Xx) (by omega) (by omega)) S ?_;clear S;intro h B S al
 rw [pW]at S
 replace S:St NoM h0 h [(B,.row ((Xc N).map (lM A f 0)) 1)] []:=S
 simp only [BS,LB,Nat.reduceLT,Nat.reduceEqDiff,F9,S.old l3 (fun h=>h),M.lenq,Xz]
 refine aQ (fun(i:Nat) m h=>i<=A.length/\St NoM h0 h [(B,.row ((Xc N).map (lM A f i)) 1)] []/\m 0=.func (.func g) #[] #[]/\m 1=ptrTo b/\m 4=.slice (some ⟨B,0,none⟩) N N/\m 18=K/\m 19=.int .i64 A.length/\m 20=.int .i64 i) (fun i=>A.length-i) ?_ 0 _ _ ?_
 . clear S
   intro i O m h ⟨hi,S,r0,r1,r4,r18,r19,r20⟩
   by_cases hlt:i<A.length
   . obtain⟨c,o,t,C⟩:=(M.gr S.gr).ix (kd:=.i64) im hlt
     have p:f A[i]<N:=hf _ (XB hlt)
     have a4:=kD A f i (f A[i])
     have w:an .i64 ((i:Int)+1)=((i+1:Nat):Int):=by rw [wrap64]<;>omega
     have Z:an .i64 (((outs A f i (f A[i])).length:Int)+1)=(((outs A f i (f A[i])).length+1:Nat):Int):=by rw [wrap64]<;>omega
     simp only [BS,LB,Nat.reduceLT,Nat.reduceEqDiff,F9,r18,r19,r20,aA,hlt,t,C]
     refine ag ax S ?_;clear S;intro h b6 S aL
     simp only [BS,LB,Nat.reduceLT,Nat.reduceEqDiff,cP]
     refine ay (S.store (i:=0) rfl ?_ ?_ rfl rfl ?_ ono) ?_
     . exact(by exact Tryz.t99.2.1)
     . exact(by intro x e;cases e)
     . exact lbt rfl
     clear S;rintro h ⟨S,y⟩;clear y;simp only [LC,ah,lay,Xa,Xb,Nat.reduceAdd]at S
     simp only [BS,LB,Nat.reduceLT,Nat.reduceEqDiff,F9,r0,r4,S.lds (b:=b6) (o:=0) (n:=3) m0 (lbt rfl)]
     refine am (hk _ A[i] S.ok) ?_;intro h g;replace S:=S.call g;clear g
     have D:=S.ld (b:=B) (o:=f A[i]) m1 (jj (F:=lM A f i) p)
     unfold lM at D
     simp only [BS,LB,Nat.reduceLT,Nat.reduceEqDiff,F9,p,D,Z]
     refine ay (az S (i:=1) rfl Tryz.t3.2.2.1 bU (by simpa using p) ono) ?_
     clear S D;rintro h ⟨S,y⟩;clear y
     simp only [LC]at S
     rw [cnt_set hlt]at S
     replace S:=S.drop1
     simp only [BS,LB,Nat.reduceLT,Nat.reduceEqDiff,r20,w]
     exact O (i+1) _ _ (by omega) ⟨by omega,S,by simp [aa,r0],by simp [aa,r1,ae],by simp [aa,r4],by simp [aa,r18],by simp [aa,r19],by simp [aa]⟩
   . have E : i=A.length:=by omega
     subst E
     simp only [BS,LB,Nat.reduceLT,r19,r20,aA,hlt]
     refine aw (aB rfl) (q:=72) (ps:=[]) (by kernel_rfl) ?_
     simp only [BS,LB,cls,Nat.reduceLT,Nat.reduceEqDiff,Nat.reduceAdd,Nat.reducePow,Nat.reduceDiv,Nat.reduceMod,Nat.reduceLeDiff,F9,r1,S.old l3 (fun h=>h),M.lenq]
     refine dK (jF (by exact Tryz.t33.1) (by exact Xx) (by omega) (by omega)) S ?_;clear S;intro h d S Q a0
     rw [pW]at S
     simp only [BS,LB,cls,Nat.reduceLT,Nat.reduceEqDiff,Nat.reduceAdd,Nat.reducePow,Nat.reduceDiv,Nat.reduceMod,Nat.reduceLeDiff,F9,r1,S.old l0 (fun h=>h),Xz]
     refine dK (jF (by exact Tryz.t189.1) (by exact Tryz.e33E) (by omega) (by omega)) S ?_;clear S;intro h H S R a1
     rw [pW]at S
     simp only [BS,LB,cls,Nat.reduceLT,Nat.reduceEqDiff,Nat.reduceAdd,Nat.reducePow,Nat.reduceDiv,Nat.reduceMod,Nat.reduceLeDiff,F9,r4,Xz]
     have e0:(Xc N).map (fun v=>if v<0 then gG A f d v 0 else .slice none 0 0)=(Xc N).map (fun _=>(.slice none 0 0:Value)):=by simp
     rw [<-e0]at S
     refine aQ (fun(j:Nat) m h=>j<=N/\St NoM h0 h [(H,.row ((Xc N).map fun v=>if v<j then gG A f d v 0 else .slice none 0 0) 1),(d,.row ((Xc A.length).map fun _=>.int .i64 0) 1),(B,.row ((Xc N).map (lM A f A.length)) 1)] []/\
      m 0=.func (.func g) #[] #[]/\m 1=ptrTo b/\m 7=.slice (some ⟨d,0,none⟩) A.length A.length/\m 8=.slice (some ⟨H,0,none⟩) N N/\m 9=.int .i64 (start A f j)/\m 40=.slice (some ⟨B,0,none⟩) N N/\m 41=.int .i64 N/\m 42=.int .i64 j) (fun j=>N-j) ?_ 0 _ _ ?_
     . clear S r0 r1 r4 r18 r19 r20
       intro j O m h ⟨hj,S,r0,r1,r7,r8,r9,r40,r41,r42⟩
       by_cases z:j<N
       . have D:=S.ld (b:=B) (o:=j) m2 (jj (F:=lM A f A.length) z)
         unfold lM at D
         have ad:=pE A f j
         have w:an .i64 ((j:Int)+1)=((j+1:Nat):Int):=by rw [wrap64]<;>omega
         have Z:an .i64 ((start A f j:Int)+((outs A f A.length j).length:Nat))=((start A f j+(outs A f A.length j).length:Nat):Int):=by rw [wrap64]<;>omega
         have sl:eW zM 33 (.slice (some ⟨d,0,none⟩) A.length A.length) (some (.int .i64 (start A f j))) (some (.int .i64 (start A f j))) (some (.int .i64 ((start A f j+(outs A f A.length j).length:Nat):Int)))=some (gG A f d j 0):=by
          rw [slice_at Tryz.t33.1 Tryz.t3.2.2.1 (by omega) (by omega)]
          unfold gG
          rw [Nat.add_sub_cancel_left,Xf]
          by_cases G:(outs A f A.length j).length=0
          . rw [if_pos (by omega),if_pos G]
          . rw [if_neg (by omega),if_neg G]
         have fr:Fl (gG A f d j 0):=bj
         simp only [BS,LB,Nat.reduceLT,Nat.reduceEqDiff,Option.map_some,F9,r7,r8,r9,r40,r41,r42,aA,z,D,Z,sl]
         refine ay (az S (i:=0) rfl Tryz.t33.2.2.1 fr (by simpa using z) ono) ?_
         clear S D;rintro h ⟨S,y⟩;clear y
         simp only [LC]at S
         rw [show((Xc N).map fun v=>if v<j then gG A f d v 0 else .slice none 0 0).set j (gG A f d j 0)=(Xc N).map fun v=>if v<j+1 then gG A f d v 0 else .slice none 0 0 from by
          have:=iT (N:=N) (k:=j) (F:=fun v=>if v<j then gG A f d v 0 else .slice none 0 0) (F':=fun v=>if v<j+1 then gG A f d v 0 else .slice none 0 0) (fun v I T=>by
           show ite _ _ _=ite _ _ _
           by_cases h1:v<j
           . rw [if_pos h1,if_pos (by omega)]
           . rw [if_neg h1,if_neg (by omega)])
          simp only [if_pos (show j<j+1 by omega)]at this
          exact this]at S
         simp only [BS,LB,Nat.reduceLT,Nat.reduceEqDiff,r9,r42,w,Z]
         exact O (j+1) _ _ (by omega) ⟨by omega,S,by simp [aa,r0],by simp [aa,r1,ae],by simp [aa,r7],by simp [aa,r8],by simp [aa,start],by simp [aa,r40],by simp [aa,r41],by simp [aa]⟩
       . have af:j=N:=by omega
         subst af
         simp only [BS,LB,Nat.reduceLT,Nat.reduceEqDiff,F9,r1,r41,r42,aA,z,S.old l3 (fun h=>h),M.lenq]
         have e1:((Xc j).map fun v=>if v<j then gG A f d v 0 else .slice none 0 0)=(Xc j).map fun v=>gG A f d v (outs A f 0 v).length:=by
          refine List.map_congr_left fun v I=>?_
          rw [if_pos (List.mem_range.1 I)];rfl
         rw [e1]at S
         refine aQ (fun(i:Nat) m h=>i<=A.length/\(∃cs,ua A f j i cs/\St NoM h0 h [(H,.row ((Xc j).map fun v=>gG A f d v (outs A f i v).length) 1),(d,.row cs 1),(B,.row ((Xc j).map (lM A f A.length)) 1)] [])/\
          m 0=.func (.func g) #[] #[]/\m 1=ptrTo b/\m 8=.slice (some ⟨H,0,none⟩) j j/\m 62=K/\m 63=.int .i64 A.length/\m 64=.int .i64 i) (fun i=>A.length-i) ?_ 0 _ _ ?_
         . clear S r0 r1 r7 r8 r9 r40 r41 r42
           intro i O m h ⟨hi,⟨cs,hcs,S⟩,r0,r1,r8,r62,r63,r64⟩
           by_cases hlt:i<A.length
           . obtain⟨c,o,t,C⟩:=(M.gr S.gr).ix (kd:=.i64) im hlt
             have p:f A[i]<j:=hf _ (XB hlt)
             have w:an .i64 ((i:Int)+1)=((i+1:Nat):Int):=by rw [wrap64]<;>omega
             simp only [BS,LB,Nat.reduceLT,Nat.reduceEqDiff,F9,r62,r63,r64,aA,hlt,t,C]
             refine ag ax S ?_;clear S;intro h U S ai
             simp only [BS,LB,Nat.reduceLT,Nat.reduceEqDiff,cP]
             refine ay (S.store (i:=0) rfl ?_ ?_ rfl rfl ?_ ono) ?_
             . exact(by exact Tryz.t99.2.1)
             . exact(by intro x e;cases e)
             . exact lbt rfl
             clear S;rintro h ⟨S,y⟩;clear y;simp only [LC,ah,lay,Xa,Xb,Nat.reduceAdd]at S
             simp only [BS]
             refine aw (aB rfl) (q:=2184) (ps:=[(3,6)]) (by kernel_rfl) ?_
             simp only [BS,LB,cls,Nat.reduceLT,Nat.reduceEqDiff,Nat.reduceAdd,Nat.reducePow,Nat.reduceDiv,Nat.reduceMod,Nat.reduceLeDiff,F9,r0,r8,S.lds (b:=U) (o:=0) (n:=3) m0 (lbt rfl)]
             refine vr (hk _ A[i] S.ok) ?_
             intro h V;replace S:=S.call V;clear V
             simp only [BS,LB,cls,Nat.reduceLT,Nat.reduceEqDiff,Nat.reduceAdd,Nat.reducePow,Nat.reduceDiv,Nat.reduceMod,Nat.reduceLeDiff,F9,r0,r8,S.lds (b:=U) (o:=0) (n:=3) m0 (lbt rfl)]
             refine vr (hk _ A[i] S.ok) ?_
             intro h V;replace S:=S.call V;clear V
             have hd:A.getD i default=A[i]:=by simp [Xm,hlt]
             have hl:(outs A f (i+1) (f A[i])).length<=(outs A f A.length (f A[i])).length:=vC A f (by omega) _
             rw [ii,hd,if_pos rfl,Xh,XE]at hl
             have ad:=pE A f (f A[i])
             have hK:(outs A f A.length (f A[i])).length≠0:=by omega
             have lr:=S.ld (b:=H) (o:=f A[i]) m1 (jj (F:=fun v=>gG A f d v (outs A f i v).length) p)
             simp only [gG,if_neg hK]at lr
             simp only [BS,LB,cls,Nat.reduceLT,Nat.reduceEqDiff,Nat.reduceAdd,Nat.reducePow,Nat.reduceDiv,Nat.reduceMod,Nat.reduceLeDiff,F9,p,lr]
             refine dK (bI (by exact Tryz.t33.1) (by exact Xx) (by decide) (by rfl)) S ?_;clear S;intro h bs S a2 a3;simp only [LC,aT,bA,ah,Nat.reduceMul,Nat.reduceAdd,Xk,Xe,Xf,Xn]at S
             simp only [BS,LB,cls,Nat.reduceLT,Nat.reduceEqDiff,Nat.reduceAdd,Nat.reducePow,Nat.reduceDiv,Nat.reduceMod,Nat.reduceLeDiff]
             obtain⟨h2,e2,S2,ak⟩:=S.fill (i:=3) (x:=.slice (some ⟨bs,0,none⟩) 1 1) (v:=.int .i64 (i:Nat)) (off:=start A f (f A[i])) (len:=(outs A f i (f A[i])).length) (cap:=(outs A f A.length (f A[i])).length) (s:=none) rfl Tryz.t33.1 Xx Tryz.t33.2.2.2.2.2
              (by simp only [aJ];rw [S.lds (b:=bs) (o:=0) (n:=1*1) m0 (lbt rfl)];rfl) bU (by omega) (by have:=hcs.1;omega) ono (ts:=[])
             refine dn_v (P:=fun W v=>W=h2/\v=.slice (some ⟨d,start A f (f A[i]),none⟩) ((outs A f i (f A[i])).length+1) (outs A f A.length (f A[i])).length) ⟨_,_,e2,rfl,rfl⟩ ?_
             rintro h v ⟨rfl,rfl⟩
             clear S e2 ak;have S:=S2;clear S2
             simp only [LC]at S
             simp only [BS,LB,cls,Nat.reduceLT,Nat.reduceEqDiff,Nat.reduceAdd,Nat.reducePow,Nat.reduceDiv,Nat.reduceMod,Nat.reduceLeDiff,F9,p]
             refine dw (az S (i:=2) rfl Tryz.t33.2.2.1 bj (by simpa using p) ono) ?_
             clear S;rintro h ⟨S,y⟩;clear y
             simp only [LC]at S
             have e3:((Xc j).map fun v=>gG A f d v (outs A f i v).length).set (f A[i]) (.slice (some ⟨d,start A f (f A[i]),none⟩) ((outs A f i (f A[i])).length+1) (outs A f A.length (f A[i])).length)=(Xc j).map fun v=>gG A f d v (outs A f (i+1) v).length:=by
              have:=iT (N:=j) (k:=f A[i]) (F:=fun v=>gG A f d v (outs A f i v).length) (F':=fun v=>gG A f d v (outs A f (i+1) v).length) (fun v I T=>by
               show gG _ _ _ _ _=gG _ _ _ _ _
               rw [ii,hd,if_neg (fun e=>T e.symm),Xs])
              rw [<-this]
              congr 1
              show _=gG _ _ _ _ _
              rw [ii,hd,if_pos rfl,Xh]
              unfold gG
              rw [if_neg hK];rfl
             rw [e3]at S
             replace S:=S.drop1.drop1
             simp only [BS,LB,Nat.reduceLT,Nat.reduceEqDiff,Nat.reduceAdd,r64,w]
             refine⟨by simp only [bz,bG,aW,bM,a8,ne_eq,not_false_eq_true,bS,cD,bD,bw,ca,c9,aO,Nat.reduceLT,Nat.reduceEqDiff,reduceIte,Xl,r0,r1,r8,ae,note_runq,qg,rE,pair_n],?_⟩
             exact O (i+1) _ _ (by omega) ⟨by omega,⟨_,fill_step hcs hlt,S⟩,by simp [aa,r0],by simp [aa,r1,ae],by simp [aa,r8],by simp [aa,r62],by simp [aa,r63],by simp [aa]⟩
           . have E:i=A.length:=by omega
             subst E
             simp only [BS,LB,ab,Nat.reduceLT,Nat.reduceEqDiff,r8,r63,r64,aA,hlt]
             refine⟨S.gr,H,_,rfl,R,S.row m0,by simp,fun v I=>⟨_,jj I,.inr ⟨d,_,none,_,rfl,XF _,?_⟩,fun c (hc:d=c)=>hc▸Q⟩⟩
             have hR:=S.row (b:=d) (l:=cs) (md:=1) m1
             have ht:=pE A f v
             have hl:=hcs.1
             rw [Xf]
             by_cases G:(outs A f A.length v).length=0
             . rw [if_pos G,G,hR.load (by omega)]
               rw [List.length_eq_zero_iff.1 G];rfl
             . rw [if_neg G,hR.load (by omega)]
               congr 1
               refine List.ext_getElem? fun r=>?_
               have e4:(outs A f A.length v).flatMap ce=(outs A f A.length v).map fun x=>.int .i64 (x:Nat):=by
                rw [XL,List.map_eq_flatMap,XL];rfl
               rw [e4,XI,List.getElem?_take,List.getElem?_drop]
               by_cases hr:r<(outs A f A.length v).length
               . rw [if_pos hr,hcs.2 v r _ I (Xo hr),Xo hr];rfl
               . rw [if_neg hr,List.getElem?_eq_none (by omega)];rfl
         . exact⟨Xv _,⟨_,fill_zero,S⟩,by simp [aa,r0],by simp [aa,r1,ae],by simp [aa,r8],by simp [aa],by simp [aa],by simp [aa]⟩
     . exact⟨Xv _,S,by simp [aa,r0],by simp [aa,r1,ae],by simp [aa],by simp [aa],by simp [aa,start],by simp [aa,r4],by simp [aa],by simp [aa]⟩
 . exact⟨Xv _,S,by simp [aa,aP],by simp [aa,aP,bW,ae],by simp [aa],by simp [aa],by simp [aa],by simp [aa]⟩
def Tryz.FE:=aj t1<|aj t2<|aj t3<|aj t4<|aj t24<|aj t29<|aj Z0<|aj t32<|aj t33<|aj Z2<|aj t189<|aj Z1<|aj t192<|t193
def Tryz.F0B:=aj t1<|aj t2<|aj t3<|aj t4<|aj t5<|aj t24<|aj t29<|aj Z0<|aj t32<|aj t41<|aj t45<|aj Z2<|aj Z24<|aj t104<|aj t106<|aj r106<|aj t189<|Z1
theorem of_ok{h0:Hp}(F:h0.t.Sized h0.n){q:Gra}(d:Good q){r s t:Value}(u:df h0 r s t q){m:Nat}(w:m<=h0.n)(G: ∀c,ar r c\/ar s c\/ar t c->m<=c):
 Ret zM 45 [jL q r s t] h0 fun v B=>Gr h0 B/\aV B m v q:=by
 have S:=Si F
 refine ac (n:=20) (rs:=[.tmp 2]) rfl Tryz.e45 rfl rfl rfl (lbt rfl) ?_
 simp only [BS,Nat.reduceLT,jL]
 refine ag (bg (by intro x e;cases e)) S ?_;clear S;intro h b S H;simp only [ah]at S
 simp only [BS,LB,Nat.reduceLT,Nat.reduceEqDiff,Nat.reduceAdd,Nat.reduceLeDiff,FE,XM,Xr,XN,S.lds (b:=b) (o:=0) (n:=4) m0 (lbt rfl)]
 refine ag (bg (by intro x e;cases e)) S ?_;clear S;intro h l S p;simp only [ah]at S
 simp only [BS,LB,Nat.reduceLT,Nat.reduceEqDiff]
 have I:=S.fr.n
 have y:=(S.row (b:=l) m0).lt S.ok
 refine step_ret (of1_ok S.ok d (S.row m1) (u.gr S.gr) of2_key (fun a z=>(d.arcs a z).1)) ?_;intro C h ⟨g,f⟩;replace S:=S.call g;clear g
 simp only [BS,LB,Nat.reduceLT,Nat.reduceEqDiff]
 have J:=S.fr.n
 have A:=(S.row (b:=l) m0).lt S.ok
 refine step_ret (of1_ok S.ok d (S.row m1) (u.gr S.gr) of3_key (fun a z=>(d.arcs a z).2.1)) ?_;intro v h ⟨g,k⟩;replace S:=S.call g;replace f:=f.gr g;clear g
 have K:Fl v:=by obtain⟨_,_,rfl,_⟩:=k;exact bj
 have L:Fl C:=by obtain⟨_,_,rfl,_⟩:=f;exact bj
 simp only [BS,LB,Nat.reduceLT,Nat.reduceEqDiff,FE]
 have D: ∀c,c=l->c<_:=fun c e=>e▸y
 have E: ∀c,c=l->c<_:=fun c e=>e▸A
 refine ay (az S (i:=0) rfl ?_ ?_ ?_ ono) ?_
 . exact(by simp only [FE])
 . exact(by assumption)
 . exact zO (lbt rfl)
 clear S;rintro h ⟨S,j⟩;replace f:=f.mo j D;replace k:=k.mo j E;clear j;simp only [LC,ah,lay,Xa,Xb,Nat.reduceAdd]at S
 simp only [BS,LB,Nat.reduceLT,Nat.reduceEqDiff,FE]
 refine ay (az S (i:=0) rfl ?_ ?_ ?_ ono) ?_
 . exact(by simp only [FE])
 . exact(by assumption)
 . exact zO (lbt rfl)
 clear S;rintro h ⟨S,j⟩;replace f:=f.mo j D;replace k:=k.mo j E;clear j;simp only [LC,ah,lay,Xa,Xb,Nat.reduceAdd]at S
 simp only [BS,LB,ab,Nat.reduceLT,Nat.reduceEqDiff]
 exact⟨S.gr,l,r,s,t,C,v,rfl,S.row m0,u.gr S.gr,f.low (Xd w I),k.low (Xd w J),Xd w p,G⟩
theorem wN{h0:Hp}(p:h0.t.Sized h0.n){d:Gra}(a:Good d){f i j:Value}(k:df h0 f i j d):
 Ret zM 10 [jL d f i j] h0 fun r l=> ∃v,r=.tuple #[v,.nilIface]/\Gr h0 l/\aV l h0.n v d:=by
 have S:=Si p
 refine ac (n:=17) (rs:=[.tmp 2,.tmp 3]) rfl Tryz.e10 rfl rfl rfl (lbt rfl) ?_
 simp only [BS,Nat.reduceLT,jL]
 refine ag (bg (by intro x e;cases e)) S ?_;clear S;intro h b S q;simp only [ah]at S
 simp only [BS,LB,Nat.reduceLT,Nat.reduceEqDiff,F0B,XM,Xr,XN,S.lds (b:=b) (o:=0) (n:=4) m0 (lbt rfl)]
 refine am (check_ok S.ok a (k.gr S.gr)) ?_;intro h g;replace S:=S.call g;clear g
 simp only [BS,LB,Nat.reduceLT,Nat.reduceEqDiff,F0B,XM,Xr,XN,S.lds (b:=b) (o:=0) (n:=4) m0 (lbt rfl)]
 have s:=S.fr.n
 refine step_ret (own_ok S.ok a (k.gr S.gr)) ?_;intro v h ⟨g,vx',vy',va',t,ga',hz,_⟩;replace S:=S.call g;clear g
 subst t
 simp only [BS,LB,Nat.reduceLT,Nat.reduceEqDiff]
 refine step_ret (of_ok S.ok a ga' (m:=h0.n) S.fr.n (fun c u=>Xd s (hz c u))) ?_;intro v h ⟨g,R⟩;replace S:=S.call g;clear g
 simp only [BS,LB,ab,Nat.reduceLT,Nat.reduceEqDiff]
 exact⟨_,rfl,S.gr,R⟩
def Tryz.F0C:=aj t1<|aj t2<|aj t3<|aj t4<|aj t5<|t218
def Tryz.F0D:=aj t1<|aj t2<|aj t3<|aj t92<|t218
def Tryz.F0E:=aj t1<|aj t2<|aj t3<|aj t4<|aj t5<|aj t6<|aj t33<|t92
def pos:List Int->Int->Option Nat
 | [],_=>none
 |y::a,x=>if x=y then some 0 else(pos a x).map (· +1)
def iO:Nat->List Int->List (Value×Value×Nat)
 |_,[]=>[]
 |o,x::a=>(.int .i64 x,.int .i64 (o:Nat),o)::iO (o+1) a
theorem ents_app(o:Nat)(l:List Int)(x:Int):iO o (l++[x])=iO o l++[(.int .i64 x,.int .i64 ((o+l.length:Nat):Int),o+l.length)]:=by
 induction l generalizing o with
 |nil=>rfl
 | cons y a b=>
   show _::iO (o+1) (a++[x])=_::(iO (o+1) a++_)
   rw [b,List.length_cons,show o+1+a.length=o+(a.length+1) by omega]
theorem ents_len(o:Nat)(l:List Int):(iO o l).length=l.length:=by
 induction l generalizing o with
 |nil=>rfl
 |cons y a b=>show(iO (o+1) a).length+1=_;rw [b];rfl
theorem keq_int{x y:Int}:bn (.int .i64 x) (.int .i64 y)=some (decide (x=y)):=by
 show some (gV x y)=_
 congr 1
 rw [lS]
theorem ul(o:Nat)(l:List Int)(x:Int):aM (.int .i64 x) (iO o l)=some ((pos l x).map fun i=>(.int .i64 ((o+i:Nat):Int),o+i)):=by
 induction l generalizing o with
 |nil=>rfl
 | cons y a b=>
   show(match bn (.int .i64 x) (.int .i64 y)with|none=>none|some true=>some (some (Value.int .i64 (o:Nat),o))|some false=>aM (.int .i64 x) (iO (o+1) a))=_
   rw [keq_int,pos]
   by_cases h:x=y
   . rw [if_pos h,decide_eq_true h];rfl
   . rw [if_neg h,decide_eq_false h]
     show aM (.int .i64 x) (iO (o+1) a)=_
     rw [b]
     cases pos a x with
     |none=>rfl
     |some i=>simp;omega
theorem St.mput{M:Nat->Prop}{h0 h:Hp}{L:List (Nat×Ob)}{G:List GL}(S:St M h0 h L G){E:Env}{t kt el:TypeId}{i b c:Nat}{a:List (Value×Value×Nat)}{k v:Value}(d:L[i]? =some (b,.map a c))(g:E.und t=some (.map kt el))(hf:aR E kt k=true)(j:aM k a=some none):
 ∃e,du E h t (.map (some b)) k v=some e/\St M h0 e (L.set i (b,.map (a++[(k,v,c)]) (c+1))) G:=by
 have f:h.get b=some (.map a c):=(S.own _ (Xu d)).2
 refine⟨h.put b (.map (a++[(k,v,c)]) (c+1)),?_,S.put d ?_⟩
 . simp only [du,iX,g,hf,cond_true,f,j]
 . show(h.put b _).get b=_
   rw [Hp.get_put,if_pos ⟨rfl,by rw [f];rfl⟩]
theorem zU{E:Env}{h:Hp}{t kt el:TypeId}{b c:Nat}{l:List Int}{x:Int}(a:E.und t=some (.map kt el))(d:E.und kt=some (.int .i64))(e:E.zeroV el=some (.int .i64 0))(f:h.get b=some (.map (iO 0 l) c)):
 cZ E h t (.map (some b)) (.int .i64 x) true=some (match pos l x with|some i=>.tuple #[.int .i64 (i:Nat),.bool true]|none=>.tuple #[.int .i64 0,.bool false]):=by
 have hf:aR E kt (.int .i64 x)=true:=by simp only [aR,d];rfl
 simp only [cZ,a,hf,cond_true,f,ul,e]
 cases pos l x with
 |none=>rfl
 |some i=>simp
def mC(ks:List Int)(x:Int):Nat:=match pos ks x with|some i=>i|none=>ks.length
def mr(ks:List Int)(x:Int):List Int:=match pos ks x with|some _=>ks|none=>ks++[x]
def norm:List Int->List Int->List Int
 |_,[]=>[]
 |a,x::b=>(mC a x:Int)::norm (mr a x) b
theorem name_ok{h0:Hp}(k:h0.t.Sized h0.n){e a:Nat}{ks:List Int}{x:Int}(l:Row h0 e [.map (some a)] 1)(b:h0.get a=some (.map (iO 0 ks) ks.length)):
 Ret zM 257 [.int .i64 x,ptrTo e] h0 fun v f=>Mo (· =a) h0 f/\v=.int .i64 (mC ks x)/\f.get a=some (.map (iO 0 (mr ks x)) (mr ks x).length):=by
 have S:=St.init1 k (o:=.map (iO 0 ks) ks.length) b
 have g:=l.load1 (o:=0) rfl
 have c:=zU (x:=x) Tryz.t218.1 Tryz.t3.1 (by kernel_rfl) b
 have j:lG (some (.map 3 3)) h0 (.map (some a))=some (.val (.int .i64 (iO 0 ks).length),h0):=lenq_map b
 rw [ents_len]at j
 unfold mC mr
 cases d:pos ks x with
 | some i=>
   rw [d]at c
   refine ac (n:=20) (rs:=[.tmp 3]) rfl Tryz.e257 rfl rfl rfl (lbt rfl) ?_
   simp only [BS,LB,ab,Nat.reduceLT,Nat.reduceEqDiff,F0C,g,c]
   exact⟨S.fr,b⟩
 | none=>
   rw [d]at c
   refine ac (n:=20) (rs:=[.tmp 3]) rfl Tryz.e257 rfl rfl rfl (lbt rfl) ?_
   simp only [BS,LB,Nat.reduceLT,Nat.reduceEqDiff,F0C,g,c,j]
   refine ay (S.mput (i:=0) rfl Tryz.t218.1 (by simp only [aR,Tryz.t3.1];rfl) (by rw [ul,d];rfl)) ?_
   clear S;intro h S
   simp only [LC]at S
   simp only [BS,LB,ab,Nat.reduceLT,Nat.reduceEqDiff]
   have m:h.get a=some (.map (iO 0 ks++[(.int .i64 x,.int .i64 ks.length,ks.length)]) (ks.length+1)):=(S.own _ m0).2
   refine⟨S.fr,?_⟩
   rw [ents_app,Xh,Xe];exact m
theorem namer_ok{h0:Hp}(f:h0.t.Sized h0.n):Ret zM 227 [] h0 fun v e=>Gr h0 e/\ ∃a b,v=.func (.func 257) #[] #[ptrTo a]/\h0.n<=a/\h0.n<=b/\Row e a [.map (some b)] 1/\e.get b=some (.map [] 0):=by
 have S:=Si f
 refine ac (n:=4) (rs:=[.tmp 0]) rfl Tryz.e227 rfl rfl rfl (lbt rfl) ?_
 simp only [BS]
 refine ag pT S ?_;clear S;intro h b S c
 simp only [BS,F0D]
 refine ag ax S ?_;clear S;intro h a S d
 simp only [BS,LB,Nat.reduceLT,Nat.reduceEqDiff]
 refine ay (az S (i:=0) rfl ?_ ?_ ?_ ono) ?_
 . exact(by simp only [F0D])
 . exact(by exact fl_map)
 . exact zO (lbt rfl)
 clear S;rintro h ⟨S,g⟩;clear g;simp only [LC,ah,lay,Xa,Xb,Nat.reduceAdd]at S
 simp only [BS,LB,ab,Nat.reduceLT,Nat.reduceEqDiff]
 exact⟨S.gr,a,b,rfl,d,c,S.row m0,(S.own _ m1).2⟩
theorem each_ok{h0:Hp}(I:h0.t.Sized h0.n){x d:Nat}{ks l:List Int}{v:Value}(E:Row h0 x [.map (some d)] 1)(y:h0.get d=some (.map (iO 0 ks) ks.length))(z:av h0 1 (encI .i64) v l)(N:l.length<1000):
 Ret zM 226 [v,.func (.func 257) #[] #[ptrTo x]] h0 fun r F=>Mo (· =d) h0 F/\av F 1 (encI .i64) r (norm ks l)/\ ∀c,ar r c->h0.n<=c:=by
 have S:=St.init1 I (o:=.map (iO 0 ks) ks.length) y
 have A: ∀c,ar v c-> ¬c=d:=by
  rintro c p rfl
  rcases z with⟨rfl,_⟩|⟨b,o,s,O,rfl,_,J⟩
  . exact p.elim
  . have:b=c:=p
    subst this
    simp [Hp.load,y]at J
 have B: ¬x=d:=by
  rintro rfl
  obtain⟨t,el,e,_⟩:=E
  rw [y]at e;cases e
 refine ac (n:=21) (rs:=[.tmp 4]) rfl Tryz.e226 rfl rfl rfl (lbt rfl) ?_
 simp only [BS,LB,Nat.reduceLT,Nat.reduceEqDiff,F0E,z.lenq]
 replace S:=S.nilG (k:=1)
 refine aQ (fun(i:Nat) g h=>i<=l.length/\ ∃(a done:List Int) (C:Value),norm ks l=done++norm a (l.drop i)/\done.length=i/\St (· =d) h0 h [(d,.map (iO 0 a) a.length)] [(C,1,ints done)]/\
  g 1=.func (.func 257) #[] #[ptrTo x]/\g 4=C/\g 7=v/\g 8=.int .i64 l.length/\g 9=.int .i64 i) (fun i=>l.length-i) ?_ 0 _ _ ?_
 . clear S
   intro i K g h ⟨hi,a,done,C,hn,hd,S,r1,r4,r7,r8,r9⟩
   by_cases hlt:i<l.length
   . obtain⟨c,o,q,u⟩:=(z.mo S.fr A).ix (kd:=.i64) (bK .i64) hlt
     have w:an .i64 ((i:Int)+1)=((i+1:Nat):Int):=by rw [wrap64]<;>omega
     simp only [BS,LB,Nat.reduceLT,Nat.reduceEqDiff,F0E,r1,r4,r7,r8,r9,aA,hlt,q,u,encI]
     refine step_ret (name_ok S.ok (S.fr.has (o:=.row _ 1) E B) (S.own _ m0).2) ?_
     rintro r h ⟨f,rfl,G⟩
     replace S:=S.call1 (i:=0) rfl f (o':=.map _ _) G
     simp only [LC]at S
     simp only [BS,LB,Nat.reduceLT,Nat.reduceEqDiff]
     refine ag (bI (by exact Tryz.t33.1) (by exact Xx) (by decide) (by rfl)) S ?_;clear S;intro h L S H;simp only [LC,aT,bA,ah,Nat.reduceMul,Nat.reduceAdd,Xk,Xe,Xf,Xn]at S
     simp only [BS,LB,Nat.reduceLT,Nat.reduceEqDiff]
     refine dA (S.grow (j:=0) (m:=1) (new:=ints [(mC a l[i]:Int)]) rfl Tryz.t33.1 Xx (by decide) Tryz.t33.2.2.2.2.2 (by simp only [aJ];rw [S.lds (b:=L) (o:=0) (n:=1*1) m0 (lbt rfl)];rfl) rfl (by decide) rfl (by rw [cq,cq];simp;omega)) ?_
     clear S f G u
     rintro h M S
     simp only [LC]at S
     replace S:=S.drop1
     rw [<-gy]at S
     simp only [BS,LB,Nat.reduceLT,Nat.reduceEqDiff,r9,w]
     refine K (i+1) _ _ (by omega) ⟨by omega,_,_,_,?_,?_,S,by simp [aa,r1,ae],by simp [aa],by simp [aa,r7],by simp [aa,r8],by simp [aa]⟩
     . rw [hn,List.drop_eq_getElem_cons hlt,norm,List.append_assoc];rfl
     . simp [hd]
   . have D:i=l.length:=by omega
     simp only [BS,LB,ab,Nat.reduceLT,Nat.reduceEqDiff,r4,r8,r9,aA,hlt]
     have e:norm ks l=done:=by rw [hn,D,List.drop_length,norm,Xs]
     rw [e]
     exact⟨S.fr,(S.gown _ m0).1.sl rfl (bK .i64) (by decide),fun c p=>((S.gblk m0 p).1).elim (fun h=>h) (fun h=>((S.gblk m0 p).2 (by simp [h])).elim)⟩
 . exact⟨Xv _,ks,[],_,rfl,rfl,S,by simp [aa,aP,bW,ae],by simp [aa],by simp [aa,aP],by simp [aa],by simp [aa]⟩
def Tryz.FF:=aj t1<|aj t2<|aj t3<|aj t4<|aj t5<|aj t6<|aj Z3<|aj Z4<|t33
def Tryz.F0F:=aj t1<|aj t2<|aj t3<|aj t4<|aj t33<|aj t218<|aj t337<|aj Z7<|aj Z13<|t357
def Tryz.F04:=aj t1<|aj t2<|aj t3<|aj t218<|aj t337<|aj Z7<|aj Z13<|t357
def kE(a b:Int):Int:=if a<b then-1 else if b<a then 1 else 0
theorem xz{h0:Hp}(b:h0.t.Sized h0.n){a:Int}:aK zM 159 [.int .i64 a] h0 (.bool false):=by
 have S:=Si b
 refine ac (n:=6) (rs:=[.tmp 2]) rfl Tryz.e159 rfl rfl rfl (lbt rfl) ?_
 simp only [BS,LB,ab,Nat.reduceLT,Nat.reduceEqDiff]
 exact S.gr
theorem nanI_ok{h0:Hp}(b:h0.t.Sized h0.n){a:Int}:aK zM 283 [.int .i64 a] h0 (.bool false):=by
 have S:=Si b
 refine ac (n:=6) (rs:=[.tmp 2]) rfl Tryz.e283 rfl rfl rfl (lbt rfl) ?_
 simp only [BS,LB,ab,Nat.reduceLT,Nat.reduceEqDiff]
 exact S.gr
theorem xy{h0:Hp}(e:h0.t.Sized h0.n){a b:Int}:aK zM 84 [.int .i64 a,.int .i64 b] h0 (.int .i64 (kE a b)):=by
 have S:=Si e
 unfold kE
 refine ac (n:=20) (rs:=[.tmp 4]) rfl Tryz.e84 rfl rfl rfl (lbt rfl) ?_
 simp only [BS,LB,Nat.reduceLT,Nat.reduceEqDiff]
 refine am (xz S.ok) ?_;intro h g;replace S:=S.call g;clear g
 simp only [BS,LB,Nat.reduceLT,Nat.reduceEqDiff]
 refine am (xz S.ok) ?_;intro h g;replace S:=S.call g;clear g
 by_cases c:a<b
 . simp only [BS,LB,ab,Nat.reduceLT,Nat.reduceEqDiff,c]
   exact S.gr
 . by_cases d:b<a
   . simp only [BS,LB,ab,Nat.reduceLT,Nat.reduceEqDiff,c,d]
     exact S.gr
   . simp only [BS,LB,ab,Nat.reduceLT,Nat.reduceEqDiff,c,d]
     exact S.gr
theorem cmpInt_ok{h0:Hp}(e:h0.t.Sized h0.n){a b:Int}:aK zM 277 [.int .i64 a,.int .i64 b] h0 (.int .i64 (kE a b)):=by
 have S:=Si e
 unfold kE
 refine ac (n:=20) (rs:=[.tmp 4]) rfl Tryz.e277 rfl rfl rfl (lbt rfl) ?_
 simp only [BS,LB,Nat.reduceLT,Nat.reduceEqDiff]
 refine am (nanI_ok S.ok) ?_;intro h g;replace S:=S.call g;clear g
 simp only [BS,LB,Nat.reduceLT,Nat.reduceEqDiff]
 refine am (nanI_ok S.ok) ?_;intro h g;replace S:=S.call g;clear g
 by_cases c:a<b
 . simp only [BS,LB,ab,Nat.reduceLT,Nat.reduceEqDiff,c]
   exact S.gr
 . by_cases d:b<a
   . simp only [BS,LB,ab,Nat.reduceLT,Nat.reduceEqDiff,c,d]
     exact S.gr
   . simp only [BS,LB,ab,Nat.reduceLT,Nat.reduceEqDiff,c,d]
     exact S.gr
theorem or2_ok{h0:Hp}(p:h0.t.Sized h0.n){v:Value}{a b:Int}(g:av h0 1 (encI .i64) v [a,b]):aK zM 276 [v] h0 (.int .i64 (if a=0 then b else a)):=by
 have S:=Si p
 obtain⟨h,j,q,e⟩:=g.ix (kd:=.i64) (bK .i64) (i:=0) (by simp)
 obtain⟨k,l,r,f⟩:=g.ix (kd:=.i64) (bK .i64) (i:=1) (by simp)
 have c:kW (some 1) v (.int .i64 0)=some (.pointer (some ⟨h,j,none⟩)):=q
 have d:kW (some 1) v (.int .i64 1)=some (.pointer (some ⟨k,l,none⟩)):=r
 replace e:h0.load h j 1=some [.int .i64 a]:=e
 replace f:h0.load k l 1=some [.int .i64 b]:=f
 have s:an .i64 1=1:=rfl
 have t:an .i64 2=2:=rfl
 refine ac (n:=18) (rs:=[.tmp 2]) rfl Tryz.e276 rfl rfl rfl (lbt rfl) ?_
 simp only [BS,LB,Nat.reduceLT,Nat.reduceEqDiff,Nat.reduceAdd,Xi,FF,g.lenq]
 rw [cd]
 by_cases m:a=0
 . simp only [BS,LB,Nat.reduceLT,Nat.reduceEqDiff,Int.reduceLT,Int.reduceAdd,FF,c,e,m,s]
   rw [cd]
   by_cases o:b=0
   . simp only [BS,LB,Nat.reduceLT,Nat.reduceEqDiff,Int.reduceLT,Int.reduceAdd,FF,d,f,o,t]
     rw [cd]
     simp only [BS,LB,ab,Nat.reduceLT,Nat.reduceEqDiff,Int.reduceLT]
     exact S.gr
   . simp only [BS,LB,ab,Nat.reduceLT,Nat.reduceEqDiff,Int.reduceLT,FF,d,f,o]
     exact S.gr
 . simp only [BS,LB,ab,Nat.reduceLT,Nat.reduceEqDiff,Int.reduceLT,FF,c,e,m]
   exact S.gr
theorem yK{h0:Hp}(t:h0.t.Sized h0.n){u w B cap:Nat}{n:Int}{l:List Hd}(R:eJ h0 u w B cap n l){i k:Nat}(r:i<l.length)(s:k<l.length):
 aK zM 265 [ptrTo u,.int .i64 i,.int .i64 k] h0 (.bool (decide (hlt (l.getD i default) (l.getD k default)))):=by
 have S:=Si t
 obtain⟨F,G,c,f,d,H,C,I,J⟩:=R.ex
 have a:=R.row.load1 (o:=0) rfl
 have e:=C.ld0 d r
 have j:=C.ld1 d r
 have m:=C.ld0 d s
 have p:=C.ld1 d s
 refine ac (n:=44) (rs:=[.tmp 6]) rfl Tryz.e265 rfl rfl rfl (lbt rfl) ?_
 simp only [BS]
 refine aw (aB rfl) (q:=17179869184) (ps:=[(16,32),(16,28),(16,24),(16,20)]) (by kernel_rfl) ?_
 simp only [BS,LB,cls,Nat.reduceLT,Nat.reduceEqDiff,Nat.reduceAdd,Nat.reducePow,Nat.reduceDiv,Nat.reduceMod,Nat.reduceLeDiff,F0F,a,r,s,j,p]
 refine bZ (xy S.ok) ?_
 intro h g;replace S:=S.call g
 replace a:=g.load a;replace e:=g.load e;replace j:=g.load j;replace m:=g.load m;replace p:=g.load p
 have x:leaves _ _ w=true:=aq g (d.lt t)
 have y:leaves _ _ u=true:=aq g (R.row.lt t)
 clear g
 simp only [BS,LB,cls,Nat.reduceLT,Nat.reduceEqDiff,Nat.reduceAdd,Nat.reducePow,Nat.reduceDiv,Nat.reduceMod,Nat.reduceLeDiff,F0F,a,r,s,e,m]
 refine bZ (cmpInt_ok S.ok) ?_
 intro K g;replace S:=S.call g
 replace a:=g.load a;replace e:=g.load e;replace j:=g.load j;replace m:=g.load m;replace p:=g.load p
 clear g
 simp only [BS,LB,cls,Nat.reduceLT,Nat.reduceEqDiff,Nat.reduceAdd,Nat.reducePow,Nat.reduceDiv,Nat.reduceMod,Nat.reduceLeDiff]
 refine dK (bI (by exact Tryz.t33.1) (by exact Xx) (by decide) (by rfl)) S ?_;clear S;intro h v S z A;simp only [LC,aT,bA,ah,Nat.reduceMul,Nat.reduceAdd,Xk,Xe,Xf,Xn]at S
 simp only [BS,LB,cls,Nat.reduceLT,Nat.reduceEqDiff,Nat.reduceAdd,Nat.reducePow,Nat.reduceDiv,Nat.reduceMod,Nat.reduceLeDiff]
 have D:av h 1 (encI .i64) (.slice (some ⟨v,0,none⟩) 2 2) [kE (l.getD i default).key (l.getD k default).key,kE (l.getD i default).id (l.getD k default).id]:=.inr ⟨v,0,none,2,rfl,XF _,S.lds (b:=v) (o:=0) (n:=2*1) m0 (lbt rfl)⟩
 refine bZ (or2_ok S.ok D) ?_
 intro L g;replace S:=S.call g;clear g
 simp only [BS,LB,cls,ab,Nat.reduceLT,Nat.reduceEqDiff,Nat.reduceAdd,Nat.reducePow,Nat.reduceDiv,Nat.reduceMod,Nat.reduceLeDiff]
 refine⟨by simp only [bz,bG,aW,bM,a8,ne_eq,not_false_eq_true,bS,cD,bD,bw,ca,c9,aO,Nat.reduceLT,Nat.reduceEqDiff,reduceIte,Xl,ae,aI x,aI y,aE x,aE y],?_⟩
 have E:decide ((if kE (l.getD i default).key (l.getD k default).key=0 then kE (l.getD i default).id (l.getD k default).id else kE (l.getD i default).key (l.getD k default).key)<0)=decide (hlt (l.getD i default) (l.getD k default)):=by
  congr 1
  rw [eq_iff_iff]
  unfold kE hlt
  repeat' split
  all_goals omega
 exact⟨by rw [E],S.gr⟩
theorem sK{h0:Hp}(ok:h0.t.Sized h0.n){y g j cap:Nat}{n:Int}{l:List Hd}(R:eJ h0 y g j cap n l){i k:Nat}(u:i<l.length)(r:k<l.length):
 Ret zM 247 [ptrTo y,.int .i64 i,.int .i64 k] h0 fun v d=>Mo (fun c=>c=g\/c=j) h0 d/\eJ d y g j cap n (sw l i k):=by
 obtain⟨Y,es,c,f,G,hm,C,MI,IF⟩:=R.ex
 have S:=St.init2 (M:=fun c=>c=g\/c=j) ok (o1:=.row Y 1) (o2:=.map es c) G hm R.ne.2.2 (.inl rfl) (.inr rfl)
 have F: ¬(y=g\/y=j):=fun h=>h.elim R.ne.1 R.ne.2.1
 have H:=R.row.load1 (o:=0) rfl
 have r1:=R.row.load1 (o:=1) rfl
 have i2:=C.ld2 G u
 have k2:=C.ld2 G r
 have Z:=C.len
 have ad:=C.le
 refine ac (n:=62) (rs:=[]) rfl Tryz.e247 rfl rfl rfl (lbt rfl) ?_
 simp only [BS]
 refine aw (aB rfl) (q:=0) (ps:=[]) (by kernel_rfl) ?_
 simp only [BS,LB,cls,Nat.reduceLT,Nat.reduceEqDiff,Nat.reduceAdd,Nat.reducePow,Nat.reduceDiv,Nat.reduceMod,Nat.reduceLeDiff,F04,H,u,r,i2,k2]
 refine dw (S.store (i:=0) rfl Tryz.t344.2.1 (by intro x e;cases e) rfl rfl (by omega) ono) ?_
 clear S;rintro h ⟨S,s⟩;clear s
 have I:=C.set u (l.getD k default)
 simp only [LC,ah]at S
 have m:=S.old H F
 simp only [BS,LB,cls,Nat.reduceLT,Nat.reduceEqDiff,Nat.reduceAdd,Nat.reducePow,Nat.reduceDiv,Nat.reduceMod,Nat.reduceLeDiff,F04,r]
 generalize lay Y (i*2) _=J at S I
 have af:=I.len
 refine dw (S.store (i:=0) (off:=k*2) rfl Tryz.t344.2.1 (by intro x e;cases e) rfl rfl (by omega) ono) ?_
 clear S;rintro h ⟨S,s⟩;clear s
 have A:=I.set (i:=k) (by rw [Xw];exact r) (l.getD i default)
 simp only [LC,ah]at S
 generalize lay J (k*2) _=t at S A
 rw [set_sw]at A
 clear m
 have m:=S.old H F
 have B:=S.old r1 F
 have K:i<(sw l i k).length:=by rw [gu];exact u
 have L:k<(sw l i k).length:=by rw [gu];exact r
 have ai:=A.ld0 (S.row m0) K
 have ak:=A.ld0 (S.row m0) L
 simp only [BS,LB,Nat.reduceAdd]
 refine aw (aB rfl) (q:=0) (ps:=[]) (by kernel_rfl) ?_
 simp only [BS,LB,cls,Nat.reduceLT,Nat.reduceEqDiff,Nat.reduceAdd,Nat.reducePow,Nat.reduceDiv,Nat.reduceMod,Nat.reduceLeDiff,F04,m,B,u,r,ai,ak]
 refine dn_v (P:=fun d v=> ∃n a p,v=.tuple #[(f ((sw l i k).getD i default).id).getD (.int .i64 0),.int .i64 (Int.ofNat n)]/\St (fun c=>c=g\/c=j) h0 d [(g,.row t 1),(j,.map a p)] []/\ ∀w,∃b,ig n w a=some b/\dy b p (dJ f ((sw l i k).getD i default).id (some w))) ?_ ?_
 . obtain⟨d,n,N,_,a,p,_,O,Q⟩:=S.mentI (i:=1) (x:=(((sw l i k).getD i default).id:Int)) rfl Tryz.t218.1 Tryz.t3.1 (z:=.int .i64 0) (by kernel_rfl) MI
   exact⟨d,_,N,n,a,p,rfl,O,Q⟩
 clear S ai ak m B
 rintro h v ⟨s1,al,c1,rfl,S,T⟩
 obtain⟨b,U,V⟩:=T (.int .i64 i)
 simp only [BS,LB,cls,Nat.reduceLT,Nat.reduceEqDiff,Nat.reduceAdd,Nat.reducePow,Nat.reduceDiv,Nat.reduceMod,Nat.reduceLeDiff,XP]
 refine dw (S.mstoreI (i:=1) rfl U) ?_
 clear S;rintro h ⟨s,S⟩;clear s
 simp only [LC]at S
 simp only [BS,LB,cls,Nat.reduceLT,Nat.reduceEqDiff,Nat.reduceAdd,Nat.reducePow,Nat.reduceDiv,Nat.reduceMod,Nat.reduceLeDiff]
 refine dn_v (P:=fun d v=> ∃n a p,v=.tuple #[(dJ f ((sw l i k).getD i default).id (some (.int .i64 i)) ((sw l i k).getD k default).id).getD (.int .i64 0),.int .i64 (Int.ofNat n)]/\St (fun c=>c=g\/c=j) h0 d [(g,.row t 1),(j,.map a p)] []/\ ∀w,∃b,ig n w a=some b/\dy b p (dJ (dJ f ((sw l i k).getD i default).id (some (.int .i64 i))) ((sw l i k).getD k default).id (some w))) ?_ ?_
 . obtain⟨d,n,N,_,a,p,_,O,Q⟩:=S.mentI (i:=1) (x:=(((sw l i k).getD k default).id:Int)) rfl Tryz.t218.1 Tryz.t3.1 (z:=.int .i64 0) (by kernel_rfl) V
   exact⟨d,_,N,n,a,p,rfl,O,Q⟩
 clear S
 rintro h v ⟨s2,aL,c3,rfl,S,D⟩
 obtain⟨W,E,X⟩:=D (.int .i64 k)
 simp only [BS,LB,cls,Nat.reduceLT,Nat.reduceEqDiff,Nat.reduceAdd,Nat.reducePow,Nat.reduceDiv,Nat.reduceMod,Nat.reduceLeDiff,XP]
 refine dw (S.mstoreI (i:=1) rfl E) ?_
 clear S;rintro h ⟨s,S⟩;clear s
 simp only [LC]at S
 simp only [BS,LB,Nat.reduceAdd]
 refine⟨S.fr,?_,⟨t,W,c3,_,S.row m0,(S.own _ m1).2,A,X,IF.swap u r⟩,R.ne⟩
 rw [gu]
 exact S.fr.has (o:=.row _ 1) R.row F
theorem up_ok{h0:Hp}(u:h0.t.Sized h0.n){b d e cap:Nat}{n:Int}{l:List Hd}(R:eJ h0 b d e cap n l){i:Nat}(r:i<l.length)(y:l.length<1000000)(U:qo l i):
 Ret zM 245 [ptrTo b,.int .i64 i] h0 fun v s=>Mo (fun c=>c=d\/c=e) h0 s/\ ∃l',eJ s b d e cap n l'/\l'.Perm l/\lu l':=by
 refine ac (n:=23) (rs:=[]) rfl Tryz.e245 rfl rfl rfl (lbt rfl) ?_
 simp only [BS]
 refine aQ (fun(i:Nat) m h=>i<l.length/\Mo (fun c=>c=d\/c=e) h0 h/\ ∃l',eJ h b d e cap n l'/\l'.Perm l/\qo l' i/\m 0=ptrTo b/\m 1=.int .i64 i) (fun i=>i) ?_ i _ _ ?_
 . intro i w m h ⟨r,a,l',R,pm,U,r0,r1⟩
   have t:=pm.length_eq
   by_cases o:i=0
   . subst o
     simp only [BS,LB,Nat.reduceLT,Nat.reduceEqDiff,Int.reduceLT,Xi,r1]
     exact⟨a,l',R,pm,up_done U (.inl rfl)⟩
   . have x:(0:Int)<(i:Int):=by omega
     have p:an .i64 ((i:Int)-1)=((i-1:Nat):Int):=by rw [wrap64]<;>omega
     have q:an .i64 (((i-1:Nat):Int).tdiv 4)=(((i-1)/4:Nat):Int):=by
      rw [Int.tdiv_eq_ediv_of_nonneg (by omega),show(((i-1:Nat):Int)/4)=(((i-1)/4:Nat):Int) by omega,wrap64]<;>omega
     simp only [BS,LB,Nat.reduceLT,Nat.reduceEqDiff,r0,r1,x,p,q,lj (n:=4) (by decide)]
     refine am (yK a.ok R (i:=i) (k:=(i-1)/4) (by omega) (by omega)) ?_
     intro h g;replace R:=R.gr g;replace a:=a.trans (M':=NoM) g.fr (fun _ h=>h.elim);clear g
     by_cases j:hlt (l'.getD i default) (l'.getD ((i-1)/4) default)
     . simp only [BS,LB,Nat.reduceLT,Nat.reduceEqDiff,r0,r1,p,q,lj (n:=4) (by decide),j]
       refine step_ret (sK a.ok R (i:=i) (k:=(i-1)/4) (by omega) (by omega)) ?_
       rintro v h ⟨f,R⟩
       replace a:=a.trans f (fun _ h=>.inl h)
       simp only [BS,LB,Nat.reduceLT,Nat.reduceEqDiff,r1,p,q,lj (n:=4) (by decide)]
       exact w ((i-1)/4) _ _ (by omega) ⟨by omega,a,_,R,(rX l' (by omega) (by omega)).trans pm,up_step (by omega) U (by omega) j,by simp [aa,r0,ae],by simp [aa]⟩
     . simp only [BS,LB,Nat.reduceLT,Nat.reduceEqDiff,lj (n:=4) (by decide),j]
       exact⟨a,l',R,pm,up_done U (.inr (uT j))⟩
 . exact⟨r,Mo.refl u,l,R,.refl _,U,by simp [aP,ae],by simp [aP,bW]⟩
def Tryz.FR:=aj t1<|aj t2<|aj t3<|aj t4<|aj t196<|aj t218<|aj t337<|aj Z7<|aj Z13<|t357
def Tryz.Fk:=aj t1<|aj t2<|aj t3<|aj t4<|aj t5<|aj t6<|aj Z3<|aj Z4<|aj t9<|aj t12<|aj Z15<|aj t95<|aj t218<|aj t250<|aj t337<|aj Z7<|t357
theorem St.monoM{M:Nat->Prop}{h0 h:Hp}{L:List (Nat×Ob)}{G:List GL}(S:St NoM h0 h L G):St M h0 h L G:=
 ⟨S.fr.mono (fun _ h=>h.elim),fun p a=>⟨(S.own p a).1.imp (fun h=>h) (fun h=>h.elim),(S.own p a).2⟩,fun p a=>⟨(S.gown p a).1,fun b c=>((S.gown p a).2 b c).imp (fun h=>h) (fun h=>h.elim)⟩,S.apart⟩
theorem below_ok{h0:Hp}(e:h0.t.Sized h0.n){d i:Nat}:Ret zM 266 [ptrTo d,.int .i64 i] h0 fun v c=>Gr h0 c/\ ∃b1 b2,v=.func (.func 278) #[] #[ptrTo b1,ptrTo b2]/\h0.n<=b1/\h0.n<=b2/\c.load b1 0 1=some [.int .i64 i]/\c.load b2 0 1=some [ptrTo d]:=by
 have S:=Si e
 refine ac (n:=6) (rs:=[.tmp 4]) rfl Tryz.e266 rfl rfl rfl (lbt rfl) ?_
 simp only [BS,Nat.reduceLT]
 refine ag (bN (by exact ct)) S ?_;clear S;intro h b2 S a
 simp only [BS,Nat.reduceLT,Nat.reduceEqDiff,if_false]
 refine ag (bN (by exact bU)) S ?_;clear S;intro h b1 S b
 simp only [BS,LB,ab,Nat.reduceLT,Nat.reduceEqDiff]
 exact⟨S.gr,b1,b2,rfl,b,a,S.ld m0 rfl,S.ld m1 rfl⟩
theorem AJ{h0:Hp}(b:h0.t.Sized h0.n){b1 b2 k i n cap:Nat}{p:Addr}(e:h0.load b1 0 1=some [.int .i64 i])(q:h0.load b2 0 1=some [ptrTo k])(z:h0.load k 0 1=some [.slice (some p) n cap])(H:n<1000000)(I:i<1000000):
 Iter zM 278 [] [ptrTo b1,ptrTo b2] h0 (fun c=>c=b1\/c=b2\/c=k) ((Xc (min 4 (n-(4*i+1)))).map fun j=>[.int .i64 ((4*i+1+j:Nat):Int)]):=by
 refine rY fun A J Z Y h F s l=>?_
 refine enter (n:=28) (rs:=[]) rfl Tryz.e278 rfl rfl rfl (lbt rfl) ?_
 have d:=s.load b e (.inl rfl)
 have m:an .i64 (4*(i:Int))=((4*i:Nat):Int):=by rw [wrap64]<;>omega
 have B:an .i64 (((4*i:Nat):Int)+1)=((4*i+1:Nat):Int):=by rw [wrap64]<;>omega
 have r:an .i64 (((4*i:Nat):Int)+4)=((4*i+4:Nat):Int):=by rw [wrap64]<;>omega
 simp only [BS,LB,Nat.reduceLT,Nat.reduceEqDiff,FR,d,m,B]
 refine aQ (fun(j:Nat) f h=>j<=min 4 (n-(4*i+1))/\ ∃F,ItS h0 (fun c=>c=b1\/c=b2\/c=k) h F/\J j h F/\f 0=.func (.yield A) #[] #[]/\f 1=ptrTo b1/\f 2=ptrTo b2/\f 4=.int .i64 ((4*i+1+j:Nat):Int)) (fun j=>min 4 (n-(4*i+1))-j) ?_ 0 _ _ ?_
 . clear d
   intro j C f h ⟨hjm,F,s,l,r0,r1,r2,r4⟩
   have d:=s.load b e (.inl rfl)
   have u:=s.load b q (.inr (.inl rfl))
   have x:=s.load b z (.inr (.inr rfl))
   by_cases hlt:j<min 4 (n-(4*i+1))
   . have o:((4*i+1+j:Nat):Int)<=((4*i+4:Nat):Int):=by omega
     have t:4*i+1+j<n:=by omega
     have w:an .i64 (((4*i+1+j:Nat):Int)+1)=((4*i+1+(j+1):Nat):Int):=by rw [wrap64]<;>omega
     simp only [BS,LB,Nat.reduceLT,Nat.reduceEqDiff,FR,r0,r1,r2,r4,d,u,x,m,r,o,t,aA]
     refine cH Y s l (i:=j) (by rw [XI,XR hlt];rfl) ?_ ?_ ?_
     . intro y D a E _ _
       simp only [BS,LB,Nat.reduceLT,Nat.reduceEqDiff,r4,w]
       exact C (j+1) _ _ (by omega) ⟨by omega,D,E,a,by simp [aa,r0],by simp [aa,r1,ae],by simp [aa,r2,ae],by simp [aa]⟩
     . intro y a _
       simp only [BS,LB,Nat.reduceLT,Nat.reduceEqDiff]
       exact fm rfl ⟨rfl,.inr (.inl ⟨_,rfl,a⟩)⟩
     . intro v y a
       simp only [BS]
       exact jI (cG ⟨rfl,.inr (.inr ⟨_,rfl,a⟩)⟩)
   . have G:j=min 4 (n-(4*i+1)):=by omega
     have g:YQ J Z (min 4 (n-(4*i+1))) (.ret (ab [])) none h:=⟨rfl,.inl ⟨_,F,rfl,by rw [<-G];exact l⟩⟩
     by_cases o:((4*i+1+j:Nat):Int)<=((4*i+4:Nat):Int)
     . have t: ¬4*i+1+j<n:=by omega
       simp only [BS,LB,Nat.reduceLT,Nat.reduceEqDiff,FR,r1,r2,r4,d,u,x,m,r,o,t,aA]
       exact bT (cG ⟨rfl,_,rfl,by simpa using g⟩)
     . simp only [BS,LB,Nat.reduceLT,Nat.reduceEqDiff,FR,r1,r4,d,m,r,o]
       exact bT (cG ⟨rfl,_,rfl,by simpa using g⟩)
 . exact⟨by omega,F,s,l,by simp [aa,bV],by simp [aa,bV,ae],by simp [aa,bV,ae],by simp [aa]⟩
theorem down_ok {h0:Hp} (ok:h0.t.Sized h0.n) {u z A cap:Nat} {n:Int} {l:List Hd} (R:eJ h0 u z A cap n l) {i:Nat} (C:i<l.length\/(l=[]/\i=0)) (hl:l.length<100000) (D:rP l i):
 Ret zM 248 [ptrTo u,.int .i64 i] h0 fun v J=>Mo (fun c=>c=z\/c=A) h0 J/\ ∃l',eJ J u z A cap n l'/\l'.Perm l/\lu l':=by
 have lt:=R.lt ok
 have S:=Si ok
 have N: ∀{L:List (Nat×Ob)},(∀c∈keys L [],h0.n<=c)-> ∀c,c=u\/c=z\/c=A-> ¬c∈keys L []:=fun H c s hm=>by have:=lt c s;have:=H c hm;omega
 refine ac (n:=27) (rs:=[]) rfl Tryz.e248 rfl rfl rfl (lbt rfl) ?_
 simp only [BS,LB,Nat.reduceLT,Fk]
 refine ag ax S ?_;clear S;intro h I S Q
 simp only [BS,LB,Nat.reduceLT,Nat.reduceEqDiff]
 refine ay (az S (i:=0) rfl ?_ ?_ ?_ ono) ?_
 . exact(by simp only [Fk])
 . exact(by exact gY)
 . exact zO (lbt rfl)
 clear S;rintro h ⟨S,U⟩;clear U;simp only [LC,ah,lay,Xa,Xb,Nat.reduceAdd]at S
 simp only [BS]
 have RR:=R.gr S.gr
 replace S:=S.monoM (M:=fun c=>c=z\/c=A)
 refine pg (fun(i:Nat) ρ d h=> ∃(r:List Nat) (l':List Hd),d=r.map pj/\St (fun c=>c=z\/c=A) h0 h (cV r++[(I,.row [.func (.func 265) #[ptrTo u] #[]] 1)]) []/\(∀c∈keys (cV r++[(I,Ob.row [.func (.func 265) #[ptrTo u] #[]] 1)]) [],h0.n<=c)/\
  eJ h u z A cap n l'/\l'.Perm l/\rP l' i/\(i<l.length\/(l=[]/\i=0))/\ρ 0=ptrTo u/\ρ 1=.int .i64 i/\ρ 4=ptrTo I) (fun i=>l.length-i) ?_ i _ _ _ ?_
 . clear S RR R D C i
   intro i ih ρ d hS ⟨r,l',hd,S0,H,R,pm,D,C,r0,r1,r4⟩
   have a2:=pm.length_eq
   have ai:i<1000000:=by rcases C with C|⟨_,C⟩<;>omega
   have S:=S0.base
   have Rs:=R
   have n0:h0.n<=hS.n:=S0.fr.n
   simp only [BS,Nat.reduceLT,Fk,r1]
   refine ag ax S ?_;clear S;intro h w S V
   simp only [BS,LB,Nat.reduceLT,Nat.reduceEqDiff]
   refine ay (az S (i:=0) rfl ?_ ?_ ?_ ono) ?_
   . exact(by simp only [Fk])
   . exact(by exact bU)
   . exact zO (lbt rfl)
   clear S;rintro h ⟨S,U⟩;clear U;simp only [LC,ah,lay,Xa,Xb,Nat.reduceAdd]at S
   simp only [BS,LB,Nat.reduceLT,Nat.reduceEqDiff,r0,r1]
   have gq:=S.fr.n
   have a3:=S.key_lt (b:=w) (by simp [keys])
   refine step_ret (below_ok S.ok) ?_;intro v h ⟨g,b1,b2,e,n1,n2,q1,q2⟩;replace S:=S.call g;clear g
   subst e
   simp only [BS]
   replace R:=R.mo1 S.fr (N H)
   have gh:=S.fr.n
   refine fT S (g:=278) (a:=#[]) (b:=#[ptrTo b1,ptrTo b2]) (by simp [ca,aa,ae]) rfl rfl ?_
   intro h2 E O W a4 a5 g2
   have kb: ∀c∈keys (cV r++[(I,Ob.row [.func (.func 265) #[ptrTo u] #[]] 1)]) [],c<b1/\c<b2:=fun c s=>by have:=S0.key_lt s;have:=V;omega
   generalize hB:cV r++[(I,Ob.row [.func (.func 265) #[ptrTo u] #[]] 1)]=B at S W S0 H kb
   have mf:(I,Ob.row [.func (.func 265) #[ptrTo u] #[]] 1)∈B:=by rw [<-hB];exact Xg _ m0
   obtain⟨X,hX,W⟩: ∃X:ez,X=_/\St (· ∈keys B []) hS h2 ((O,.loop X)::(E,.dfr)::(w,.row [.int .i64 (i:Nat)] 1)::B) []:=⟨_,rfl,W⟩
   have R2:=R.gr g2
   have ch: ∀j,j<min 4 (l'.length-(4*i+1))->4*i+1+j<l'.length/\(4*i+1+j-1)/4=i:=fun j hj=>⟨by omega,by omega⟩
   have hY:Yld zM O (fun j J F=> ∃m:Nat,St (· ∈keys B []) hS J ((O,.loop X)::(E,.dfr)::(w,.row [.int .i64 (m:Nat)] 1)::B) []/\F=keys ((O,.loop X)::(E,.dfr)::(w,.row [.int .i64 (m:Nat)] 1)::B) []/\
    (m<l'.length\/(l'=[]/\m=i))/\hle (l'.getD m default) (l'.getD i default)/\(∀q,q<j->hle (l'.getD m default) (l'.getD (4*i+1+q) default))/\(m=i\/(0<m/\(m-1)/4=i/\hlt (l'.getD m default) (l'.getD i default)))) (fun _ _=>False) ((Xc (min 4 (l'.length-(4*i+1)))).map fun j=>[.int .i64 ((4*i+1+j:Nat):Int)]):=by
    refine⟨?_,?_,fun _ _ h=>h.elim,?_⟩
    . rintro j h F ⟨m,S,rfl,_⟩;exact⟨S.ok,fun b t=>S.key_lt t⟩
    . rintro j h F J ⟨m,S,rfl,k⟩ g;exact⟨m,S.call g,rfl,k⟩
    . rintro j x h F hx ⟨m,S,rfl,G,k2,Y,Z⟩
      have ad:j<min 4 (l'.length-(4*i+1)):=by
       have:=(List.getElem?_eq_some_iff.1 hx).1
       simpa using this
      rw [XI,XR ad]at hx
      cases hx
      obtain⟨c1,c2⟩:=ch j ad
      replace G:=G.resolve_right (by intro e;rw [e.1]at c1;simp at c1)
      obtain⟨X0,ak⟩: ∃x,x=X:=⟨_,rfl⟩
      subst hX
      refine fS (S.get m0) (by rw [Tryz.e248];rfl) rfl ?_
      have S1:=S
      replace S:=S.base
      simp only [BS,LB,Nat.reduceLT,Nat.reduceEqDiff]
      refine eX S (i:=0) rfl rfl rfl rfl rfl ?_
      clear S;intro h S
      simp only [LC]at S
      have lf:h.load I 0 1=some [.func (.func 265) #[ptrTo u] #[]]:=S.ld (o:=0) (.tail _ (.tail _ (.tail _ mf))) rfl
      simp only [BS,LB,Nat.reduceLT,Nat.reduceEqDiff,Fk,r4,lf,S.ld (b:=w) (o:=0) m2 rfl]
      have al: ∀c∈keys ((O,Ob.loop X0)::(E,.dfr)::(w,.row [.int .i64 (m:Nat)] 1)::B) [],h0.n<=c:=fun c s=>(S1.key_own s).elim (fun h=>by omega) (fun h=>H c h)
      clear ak
      have Rc:eJ h u z A cap n l':=(Rs.mo1 S1.fr (N H)).mo1 S.fr (N al)
      refine am (yK S.ok Rc c1 G) ?_
      intro h g;replace S:=S.call g;clear g Rc lf
      by_cases P:hlt (l'.getD (4*i+1+j) default) (l'.getD m default)
      . simp only [BS,LB,Nat.reduceLT,Nat.reduceEqDiff,P]
        refine ay (az S (i:=2) rfl ?_ ?_ ?_ ono) ?_
        . exact(by simp only [Fk])
        . exact(by exact bU)
        . exact zO (lbt rfl)
        clear S;rintro h ⟨S,U⟩;clear U;simp only [LC,ah,lay,Xa,Xb,Nat.reduceAdd]at S
        simp only [BS]
        refine dE S (i:=0) rfl ?_
        clear S;intro h S
        simp only [LC]at S
        refine .inl ⟨rfl,_,⟨4*i+1+j,S1.rebase S,rfl,.inl c1,jM (qR P) k2,fun q hq=>?_,.inr ⟨by omega,c2,?_⟩⟩,S.fr,S.key_new⟩
        . by_cases e:q=j
          . subst e;exact tt _
          . exact jM (qR P) (Y q (by omega))
        . rcases Z with rfl|⟨_,_,Z⟩
          . exact P
          . unfold hlt at*;omega
      . simp only [BS,LB,Nat.reduceLT,Nat.reduceEqDiff,P]
        refine dE S (i:=0) rfl ?_
        clear S;intro h S
        simp only [LC]at S
        refine .inl ⟨rfl,_,⟨m,S1.rebase S,rfl,.inl G,k2,fun q hq=>?_,Z⟩,S.fr,S.key_new⟩
        by_cases e:q=j
        . subst e;exact uT P
        . exact Y q (by omega)
   refine eB (xF (AJ S.ok q1 q2 (R.row.load1 (o:=0) rfl) (by omega) ai) hY (h:=h2) (F:=keys ((O,.loop X)::(E,.dfr)::(w,.row [.int .i64 (i:Nat)] 1)::B) []) g2.fr (fun b t hlt=>?_) ⟨i,W,rfl,?_,tt _,fun q hq=>by omega,.inl rfl⟩) fun o rc J y=>iI y ?_
   . have e1:=W.key_own t
     rintro(rfl|rfl|rfl)
     . rcases List.mem_cons.1 t with e|t
       . omega
       . rcases List.mem_cons.1 t with e|t
         . omega
         . rcases List.mem_cons.1 t with e|t
           . simp only []at e;omega
           . have:=(kb _ t).1;omega
     . rcases List.mem_cons.1 t with e|t
       . omega
       . rcases List.mem_cons.1 t with e|t
         . omega
         . rcases List.mem_cons.1 t with e|t
           . simp only []at e;omega
           . have:=(kb _ t).2;omega
     . have:=lt b (.inl rfl)
       rcases e1 with e1|e1
       . omega
       . have:=H b e1;omega
   . rcases C with C|⟨C,_⟩
     . exact .inl (by omega)
     . right;rw [C]at pm;exact⟨pm.eq_nil,rfl⟩
   . rintro F ⟨m,T,rfl,G,k2,Y,Z⟩
     rw [List.length_map,List.length_range]at Y
     subst hX
     refine⟨_,T.get m0,Nat.zero_ne_one,?_⟩
     replace T:=T.dead
     show Run _ _ _ _ _ _ _ _
     have p:=T.ld (b:=w) (o:=0) m1 rfl
     have Rc:eJ _ u z A cap n l':=Rs.mo1 T.fr (N H)
     have km: ∀q,0<q->q<l'.length->(q-1)/4=i->hle (l'.getD m default) (l'.getD q default):=fun q q0 ql qe=>by
      have:=Y (q-(4*i+1)) (by omega)
      rwa [show 4*i+1+(q-(4*i+1))=q by omega]at this
     have T0:=S0.rebase T
     have af: ∀c∈keys ((E,Ob.dfr)::(w,.row [.int .i64 (m:Nat)] 1)::B) [],h0.n<=c:=fun c s=>(T.key_own s).elim (fun h=>by omega) (fun h=>H c h)
     subst hd hB
     have T2:=T0.sub (L':=cV (E::r)++[(I,Ob.row [.func (.func 265) #[ptrTo u] #[]] 1)]) (G':=[]) (List.Sublist.cons_cons _ (List.sublist_cons_self _ _)) (List.Sublist.refl _)
     have K: ∀c∈keys (cV (E::r)++[(I,Ob.row [.func (.func 265) #[ptrTo u] #[]] 1)]) [],h0.n<=c:=fun c s=>af c (by simp only [keys,List.filterMap_nil,Xs,cV,XH,List.cons_append,List.mem_cons]at s⊢;rcases s with h|h;exact .inl h;exact .inr (.inr h))
     by_cases e:m=i
     . subst e
       simp only [BS,LB,Nat.reduceLT,Nat.reduceEqDiff,Fk,r1,p]
       have T3:=T2.base
       refine dC (fi (E::r) _ T3 fun J T4=>⟨rfl,_,rfl,?_⟩)
       refine⟨(T2.fr.trans T4.fr fun c s=>(T2.key_own s).symm),l',Rc.mo1 T4.fr (N K),pm,dn_done D km⟩
     . have e': ¬((m:Int)=(i:Int)):=by omega
       obtain⟨b0,be,aL⟩:=Z.resolve_left e
       replace G:=G.resolve_right (fun h=>e h.2)
       simp only [BS,LB,Nat.reduceLT,Nat.reduceEqDiff,Fk,r0,r1,p,e']
       refine step_ret (sK T2.ok Rc (i:=i) (k:=m) (by omega) G) ?_
       rintro v h ⟨f,Rn⟩
       have a0:=N K
       have T3:=T2.step f (fun c s=>.inl s) (fun c s hM=>a0 c (.inr hM) s)
       have f2:Mo (fun c=>c=z\/c=A) _ h:=f
       have a1:h.load w 0 1=some [.int .i64 (m:Nat)]:=by
        have a6:h0.n<=w:=af w (.tail _ m0)
        have:=f.get w (bJ f.ok0 p) (fun hM=>by have:=lt w (.inr hM);omega)
        unfold Hp.load at p⊢
        rw [this];exact p
       simp only [BS,LB,Nat.reduceLT,Nat.reduceEqDiff,Fk,a1]
       exact ih m _ _ _ (by omega) ⟨E::r,_,rfl,T3,K,Rn,(rX l' (by omega) G).trans pm,dn_step D b0 G be aL km,.inl (by omega),by simp [aa,r0,ae],by simp [aa],by simp [aa,r4,ae]⟩
 . exact⟨[],l,rfl,S,fun c s=>by simp [keys,cV]at s;subst s;exact Q,RR,.refl _,D,C,by simp [aa,aP,ae],by simp [aa,aP,bW],by simp [aa,ae]⟩
end Go.Ab
end
section
namespace Go.Ab
open Go.Proofs
set_option maxRecDepth 10000
def Tryz.F1i:=aj t1<|aj t3<|aj t218<|aj t275<|aj t337<|aj Z7<|aj Z8<|Z13
def Tryz.F1j:=aj t1<|aj t2<|aj t3<|aj t4<|aj t218<|aj t275<|aj t337<|aj Z7<|aj Z8<|Z13
def Tryz.F0G:=aj t1<|aj t2<|aj t3<|aj t4<|aj t5<|aj t6<|aj t218<|aj t275<|aj t337<|aj Z7<|aj Z8<|Z13
def Tryz.Fc:=aj t1<|aj t2<|aj t3<|aj t4<|aj t5<|aj t6<|aj Z3<|aj Z4<|aj t9<|aj t45<|aj t218<|aj t275<|aj t337<|aj Z7<|aj Z8<|Z13
def Tryz.F0H:=aj t1<|aj t2<|aj t3<|aj t4<|aj t5<|aj t6<|aj Z3<|aj Z4<|aj t9<|aj t10<|aj t11<|aj t12<|aj t45<|aj t218<|aj t275<|aj t337<|aj Z7<|aj Z8<|Z13
theorem uO{h0:Hp}(l:h0.t.Sized h0.n){N:Nat}:Ret zM 196 [.int .i64 N] h0 fun v f=>Gr h0 f/\ ∃F,cN f F v N (fun _=>none)/\ ∀b∈F,h0.n<=b:=by
 have S:=Si l
 have m:max (N:Int) 0=(N:Int):=by omega
 refine ac (n:=9) (rs:=[.tmp 2]) rfl Tryz.e196 rfl rfl rfl (lbt rfl) ?_
 simp only [BS]
 refine ag pT S ?_;clear S;intro h g S a
 simp only [BS,LB,Nat.reduceLT,Nat.reduceEqDiff,Nat.reduceAdd,Nat.reduceLeDiff,F1i,m]
 refine ag (bg (by intro x e;cases e)) S ?_;clear S;intro h b S d;simp only [ah]at S
 simp only [BS,LB,ab,Nat.reduceLT,Nat.reduceEqDiff]
 have i:=S.apart
 simp only [keys,XH,XS,List.filterMap_nil,Xs,List.nodup_cons,List.mem_cons,List.not_mem_nil,or_false]at i
 refine⟨S.gr,[b,g],⟨b,g,[],rfl,fun j _ o=>(by simp at o),cont_nil,fun x p=>(by cases p),.inl ⟨rfl,rfl,i.1,S.row m0,[],0,(S.own _ m1).2,qE⟩⟩,fun c k=>?_⟩
 simp at k
 rcases k with rfl|rfl
 . exact d
 . exact a
section
variable{h0:Hp}{F:List Nat}{p:Value}{N:Nat}{K:Nat->Option Int}
theorem vg(f:h0.t.Sized h0.n)(H:cN h0 F p N K): ∃m:Nat,aK zM 246 [p] h0 (.int .i64 m)/\(m=0↔ ∀v,K v=none):=by
 obtain⟨g,q,l,rfl,r,d,s,h⟩:=H.ex
 refine⟨l.length,?_,?_⟩
 . have S:=Si f
   obtain⟨a,n,c,m1,m2,b,i⟩: ∃a n c m1 m2,Row h0 g [.slice a n c,m1,m2] 1/\n=l.length:=by
    rcases h with⟨rfl,_,_,b,_⟩|⟨t,j,_,b⟩
    . exact⟨_,_,_,_,_,b,rfl⟩
    . exact⟨_,_,_,_,_,b.row,rfl⟩
   subst i
   have k:=b.load1 (o:=0) rfl
   refine ac (n:=11) (rs:=[.tmp 2]) rfl Tryz.e246 rfl rfl rfl (lbt rfl) ?_
   simp only [BS,LB,ab,Nat.reduceLT,Nat.reduceEqDiff,F1j,k]
   exact S.gr
 . constructor
   . intro e
     rw [List.length_eq_zero_iff.1 e]at d
     exact d.nil
   . intro e
     cases l with
     |nil=>rfl
     | cons x l=>
       have:=(d.2 x.id x.key).2 (by simp)
       rw [e]at this;cases this
theorem uU (y:h0.t.Sized h0.n) (H:cN h0 F p N K) {v:Nat}:aK zM 252 [p,.int .i64 v] h0 (.tuple #[.int .i64 ((K v).getD 0),.bool (K v).isSome]):=by
 have S:=Si y
 obtain⟨m,a,A⟩:=vg y H
 obtain⟨O,P,l,rfl,Q,r,T,I⟩:=H.ex
 by_cases b:m=0
 . subst b
   have e:=A.1 rfl v
   rw [e]
   refine ac (n:=32) (rs:=[.tmp 4,.tmp 5]) rfl Tryz.e252 rfl rfl rfl (lbt rfl) ?_
   simp only [BS,LB,Nat.reduceLT,Nat.reduceEqDiff]
   refine am (a) ?_;intro h g;replace S:=S.call g;clear g
   simp only [BS,LB,ab,Nat.reduceLT,Nat.reduceEqDiff,Xi]
   exact⟨rfl,S.gr⟩
 . have d: ¬((m:Int)=0):=by omega
   rcases I with⟨rfl,_⟩|⟨U,J,_,R⟩
   . exact absurd (A.2 r.nil) b
   . refine ac (n:=32) (rs:=[.tmp 4,.tmp 5]) rfl Tryz.e252 rfl rfl rfl (lbt rfl) ?_
     simp only [BS,LB,Nat.reduceLT,Nat.reduceEqDiff]
     refine am (a) ?_;intro h g;replace S:=S.call g;replace R:=R.gr g;clear g
     obtain⟨V,W,c,f,s,t,C,L,B⟩:=R.ex
     have M:=R.row.load1 (o:=0) rfl
     have D:=R.row.load1 (o:=1) rfl
     have q:=qu (x:=(v:Int)) Tryz.t218.1 Tryz.t3.1 (z:=.int .i64 0) (by kernel_rfl) t L
     cases E:K v with
     | none=>
       have u:f v=none:=by
        cases hf:f v with
        |none=>rfl
        | some w=>
          obtain⟨i,j,e⟩:=B.2 v w hf
          have:=r.at j
          rw [show(l.getD i default).id=v by omega,E]at this;cases this
       rw [u]at q
       simp only [BS,LB,ab,Nat.reduceLT,Nat.reduceEqDiff,F0G,d,D,q,XC,Xy]
       exact S.gr
     | some k=>
       obtain⟨i,j,e⟩:=r.idx E
       have u:f v=some (.int .i64 i):=by have:=B.1 i j;rwa [e]at this
       rw [u]at q
       have G:=C.ld1 s j
       rw [e]at G
       simp only [BS,LB,ab,Nat.reduceLT,Nat.reduceEqDiff,F0G,d,M,D,q,XD,j,G]
       exact S.gr
theorem pL(ok:h0.t.Sized h0.n)(H:cN h0 F p N K){v:Nat}(hv:v<N)(hN:N<=1000)(P:K v=none){k:Int}:
 Ret zM 200 [p,.int .i64 v,.int .i64 k] h0 fun r h'=>Mo (· ∈F) h0 h'/\ ∃F',cN h' F' p N (cL K v (some k))/\ ∀b∈F',b∈F\/h0.n<=b:=by
 obtain⟨a,s,l,rfl,ho,m,hlt,D⟩:=H.ex
 have af:=tD m hlt
 have c1: ¬((v:Int)<0):=by omega
 have c2: ¬((N:Int)<=(v:Int)):=by omega
 have hn:=m.free P
 rcases D with⟨rfl,rfl,T,hr,U,c,g,E⟩|⟨G,u,rfl,R⟩
 . have S:=St.init2 (M:=(· ∈[a,s])) ok (o1:=.row _ 1) (o2:=.map U c) hr g T (by simp) (by simp)
   have Q:=qu (x:=(v:Int)) Tryz.t218.1 Tryz.t3.1 (z:=.int .i64 0) (by kernel_rfl) g E
   refine ac (n:=71) (rs:=[.tmp 6]) rfl Tryz.e200 rfl rfl rfl (lbt rfl) ?_
   simp only [BS,LB,Nat.reduceLT,Nat.reduceEqDiff,Fc,Q,c1,c2,XC,Xy,S.ld (b:=a) (o:=1) m0 rfl,S.ld (b:=a) (o:=2) m0 rfl]
   refine aw (aB rfl) (q:=0) (ps:=[]) (by kernel_rfl) ?_
   simp only [BS,LB,cls,Nat.reduceLT,Nat.reduceEqDiff,Nat.reduceAdd,Nat.reducePow,Nat.reduceDiv,Nat.reduceMod,Nat.reduceLeDiff,Xi,Fc,S.ld (b:=a) (o:=0) m0 rfl,S.ld (b:=a) (o:=1) m0 rfl]
   refine dw (S.mputI (i:=1) rfl Tryz.t218.1 Tryz.t3.1 E _) ?_
   clear S;rintro h ⟨_,V,c',y,S⟩
   simp only [LC]at S
   simp only [BS,LB,Nat.reduceLT,Nat.reduceEqDiff,Nat.reduceAdd,Fc,S.ld (b:=a) (o:=0) m0 rfl,S.ld (b:=a) (o:=1) m0 rfl]
   refine ag (bI (by exact Tryz.t337.1) (by exact XQ) (by decide) (by rfl)) S ?_;clear S;intro h I S J;simp only [LC,aT,bA,ah,Nat.reduceMul,Nat.reduceAdd,Xk,Xe,Xf,Xn]at S
   simp only [BS,LB,Nat.reduceLT,Nat.reduceEqDiff,S.ld (b:=a) (o:=0) m1 rfl,S.ld (b:=a) (o:=1) m1 rfl]
   have j:aJ h 2 (.slice (some ⟨I,0,none⟩) 1 1)=some (1,jW ⟨v,k⟩):=by simp only [aJ];rw [S.lds (b:=I) (o:=0) (n:=1*2) m0 (lbt rfl)];rfl
   replace S:=S.drop1
   refine dA (S.appH0 Tryz.t337.1 XQ (by decide) (by decide) Tryz.t337.2.2.2.2.2 j) ?_
   clear S j;rintro h w ⟨G,u,cs,rfl,S,C,W⟩
   simp only [BS,LB,Nat.reduceLT,Nat.reduceEqDiff,Fc]
   refine ay (az S (i:=1) rfl ?_ ?_ ?_ ono) ?_
   . exact(by simp only [Fc])
   . exact(by exact bj)
   . exact zO (lbt rfl)
   clear S;rintro h ⟨S,X⟩;clear X;simp only [LC,ah,lay,Xa,Xb,Nat.reduceAdd]at S
   simp only [BS]
   refine aw (aB rfl) (q:=0) (ps:=[]) (by kernel_rfl) ?_
   simp only [BS,LB,cls,Nat.reduceLT,Nat.reduceEqDiff,Nat.reduceAdd,Nat.reducePow,Nat.reduceDiv,Nat.reduceMod,Nat.reduceLeDiff,Int.reduceSub,Xi,Fc,S.ld (b:=a) (o:=0) m1 rfl,S.ld (b:=a) (o:=1) m1 rfl]
   have R:eJ h a G s u N ([]++[⟨v,k⟩]):=S.rowS C rfl y (idxF_nil.push hn)
   have Y:an .i64 0=((0:Nat):Int):=rfl
   rw [Y]
   refine da (up_ok S.ok R (i:=0) (by simp) (by simp) (wK ho ⟨v,k⟩)) ?_
   have d:=(S.own _ m0).1
   rintro r h ⟨f,Z,R',L,A⟩
   simp only [BS,LB,Nat.reduceLT,Nat.reduceAdd,Xi]
   refine⟨S.fr.trans f (fun c m=>?_),[a,G,s],⟨a,s,Z,rfl,A,(m.push P k).perm L,fun x D=>?_,.inr ⟨G,u,rfl,R'⟩⟩,fun b O=>?_⟩
   . rcases m with rfl|rfl
     . exact d.symm
     . exact .inl (by simp)
   . have:=L.mem_iff.1 D
     simp at this;subst this;exact hv
   . simp at O
     rcases O with rfl|rfl|rfl
     . exact .inl (by simp)
     . exact d.symm
     . exact .inl (by simp)
 . obtain⟨cs,U,c,f,ad,g,C,E,IF⟩:=R.ex
   have S:=St.init3 (M:=(· ∈[a,G,s])) ok (o1:=.row cs 1) (o2:=.row _ 1) (o3:=.map U c) ad R.row g R.ne.1.symm R.ne.2.2 R.ne.2.1 (by simp) (by simp) (by simp)
   have Q:=qu (x:=(v:Int)) Tryz.t218.1 Tryz.t3.1 (z:=.int .i64 0) (by kernel_rfl) g E
   have fv:f v=none:=by
    cases hf:f v with
    |none=>rfl
    | some w=>
      obtain⟨i,hi,e⟩:=IF.2 v w hf
      have:=m.at hi
      rw [show(l.getD i default).id=v by omega,P]at this;cases this
   rw [fv]at Q
   refine ac (n:=71) (rs:=[.tmp 6]) rfl Tryz.e200 rfl rfl rfl (lbt rfl) ?_
   simp only [BS,LB,Nat.reduceLT,Nat.reduceEqDiff,Fc,Q,c1,c2,XC,Xy,S.ld (b:=a) (o:=1) m1 rfl,S.ld (b:=a) (o:=2) m1 rfl]
   refine aw (aB rfl) (q:=0) (ps:=[]) (by kernel_rfl) ?_
   simp only [BS,LB,cls,Nat.reduceLT,Nat.reduceEqDiff,Nat.reduceAdd,Nat.reducePow,Nat.reduceDiv,Nat.reduceMod,Nat.reduceLeDiff,Fc,S.ld (b:=a) (o:=0) m1 rfl,S.ld (b:=a) (o:=1) m1 rfl]
   refine dw (S.mputI (i:=2) rfl Tryz.t218.1 Tryz.t3.1 E _) ?_
   clear S;rintro h ⟨_,V,c',y,S⟩
   simp only [LC]at S
   simp only [BS,LB,Nat.reduceLT,Nat.reduceEqDiff,Nat.reduceAdd,Fc,S.ld (b:=a) (o:=0) m1 rfl,S.ld (b:=a) (o:=1) m1 rfl]
   refine ag (bI (by exact Tryz.t337.1) (by exact XQ) (by decide) (by rfl)) S ?_;clear S;intro h I S J;simp only [LC,aT,bA,ah,Nat.reduceMul,Nat.reduceAdd,Xk,Xe,Xf,Xn]at S
   simp only [BS,LB,Nat.reduceLT,Nat.reduceEqDiff,S.ld (b:=a) (o:=0) m2 rfl,S.ld (b:=a) (o:=1) m2 rfl]
   have j:aJ h 2 (.slice (some ⟨I,0,none⟩) 1 1)=some (1,jW ⟨v,k⟩):=by simp only [aJ];rw [S.lds (b:=I) (o:=0) (n:=1*2) m0 (lbt rfl)];rfl
   replace S:=S.drop1
   refine dA (S.appH C Tryz.t337.1 XQ (by decide) (by decide) Tryz.t337.2.2.2.2.2 j (by omega)) ?_
   clear S j;rintro h w ⟨B,t,ai,rfl,S,C',W⟩
   simp only [BS,LB,Nat.reduceLT,Nat.reduceEqDiff,Fc]
   refine ay (az S (i:=1) rfl ?_ ?_ ?_ ono) ?_
   . exact(by simp only [Fc])
   . exact(by exact bj)
   . exact zO (lbt rfl)
   clear S;rintro h ⟨S,X⟩;clear X;simp only [LC,ah,lay,Xa,Xb,Nat.reduceAdd]at S
   simp only [BS]
   refine aw (aB rfl) (q:=0) (ps:=[]) (by kernel_rfl) ?_
   have Y:an .i64 (((l.length+1:Nat):Int)-1)=((l.length:Nat):Int):=by rw [wrap64]<;>omega
   simp only [BS,LB,cls,Nat.reduceLT,Nat.reduceEqDiff,Nat.reduceAdd,Nat.reducePow,Nat.reduceDiv,Nat.reduceMod,Nat.reduceLeDiff,Fc,Y,S.ld (b:=a) (o:=0) m1 rfl,S.ld (b:=a) (o:=1) m1 rfl]
   have R:eJ h a B s t N (l++[⟨v,k⟩]):=S.rowS C' (by simp) y (IF.push hn)
   refine da (up_ok S.ok R (i:=l.length) (by simp) (by simp;omega) (wK ho ⟨v,k⟩)) ?_
   have d:=(S.own _ m0).1
   rintro r h ⟨f,Z,R',L,A⟩
   simp only [BS,LB,Nat.reduceLT,Nat.reduceAdd]
   refine⟨S.fr.trans f (fun c m=>?_),[a,B,s],⟨a,s,Z,rfl,A,(m.push P k).perm L,fun x D=>?_,.inr ⟨B,t,rfl,R'⟩⟩,fun b O=>?_⟩
   . rcases m with rfl|rfl
     . exact d.symm
     . exact .inl (by simp)
   . have:=L.mem_iff.1 D
     simp at this
     rcases this with h|rfl
     . exact hlt x h
     . exact hv
   . simp at O
     rcases O with rfl|rfl|rfl
     . exact .inl (by simp)
     . exact d.symm
     . exact .inl (by simp)
theorem q9(U:h0.t.Sized h0.n)(H:cN h0 F p N K){v:Nat}(hN:N<=1000){t k:Int}(V:K v=some t)(hle:k<=t):
 Ret zM 199 [p,.int .i64 v,.int .i64 k] h0 fun r G=>Mo (· ∈F) h0 G/\cN G F p N (cL K v (some k)):=by
 obtain⟨d,w,l,rfl,W,g,hlt,y⟩:=H.ex
 have X:=tD g hlt
 obtain⟨i,a,u⟩:=g.idx V
 have Y:v<N:=by
  have:=hlt (l.getD i default) (by rw [Xm,Xo a];exact XB a)
  rwa [u]at this
 have Z: ¬((v:Int)<0):=by omega
 have c2: ¬((N:Int)<=(v:Int)):=by omega
 have c3: ¬(t<k):=by omega
 rcases y with⟨rfl,_⟩|⟨A,j,rfl,R⟩
 . simp at a
 . obtain⟨I,es,c,f,m,q,C,J,L⟩:=R.ex
   have S:=St.init3 (M:=(· ∈[d,A,w])) U (o1:=.row I 1) (o2:=.row _ 1) (o3:=.map es c) m R.row q R.ne.1.symm R.ne.2.2 R.ne.2.1 (by simp) (by simp) (by simp)
   have O:=qu (x:=(v:Int)) Tryz.t218.1 Tryz.t3.1 (z:=.int .i64 0) (by kernel_rfl) q J
   have fv:f v=some (.int .i64 i):=by have:=L.1 i a;rwa [u]at this
   rw [fv]at O
   have P:=C.ld1 m a
   have Q:=C.len
   have ad:=C.le
   have ek:(l.getD i default).key=t:=by rw [u]
   have B:(l.getD i default).id=v:=by rw [u]
   rw [ek]at P
   refine ac (n:=61) (rs:=[.tmp 6]) rfl Tryz.e199 rfl rfl rfl (lbt rfl) ?_
   simp only [BS,LB,Nat.reduceLT,Nat.reduceEqDiff,F0H,O,Z,c2,c3,a,P,XD,S.ld (b:=d) (o:=0) m1 rfl,S.ld (b:=d) (o:=1) m1 rfl,S.ld (b:=d) (o:=2) m1 rfl]
   refine ay (S.store (i:=0) (off:=i*2+1) rfl Tryz.t2.2.2.1 (by intro x e;cases e) rfl rfl (by omega) ono) ?_
   clear S;rintro h ⟨S,_⟩
   simp only [LC,ah]at S
   have T:=C.setKey a k
   generalize lay I (i*2+1) _=af at S T
   simp only [BS,LB,Nat.reduceLT,Nat.reduceEqDiff,F0H,S.ld (b:=d) (o:=0) m1 rfl,S.ld (b:=d) (o:=1) m1 rfl]
   have R1:eJ h d A w j N (l.set i ⟨(l.getD i default).id,k⟩):=S.rowS T (by rw [Xw]) J (L.setKey k)
   refine step_ret (up_ok S.ok R1 (i:=i) (by rw [Xw];exact a) (by rw [Xw];omega) (AW W (by unfold Ab.hle;simp only [];omega))) ?_
   rintro r h ⟨f,l',R',D,E⟩
   simp only [BS,Nat.reduceLT]
   have s:=g.lower a k
   rw [B]at s
   refine⟨S.fr.trans f (fun c g=>?_),⟨d,w,l',rfl,E,(by rw [B]at D;exact s.perm D),fun x y=>?_,.inr ⟨A,j,rfl,R'⟩⟩⟩
   . rcases g with rfl|rfl<;>exact .inl (by simp)
   . have:=D.mem_iff.1 y
     rcases List.mem_or_eq_of_mem_set this with h|rfl
     . exact hlt x h
     . rw [B];exact Y
end
end Go.Ab

end
section
namespace Go.Ab
open Go.Proofs
set_option maxRecDepth 10000
def Tryz.Fo:=aj t1<|aj t2<|aj t3<|aj t4<|aj t5<|aj t6<|aj Z3<|aj Z4<|aj t218<|aj t275<|aj t337<|aj Z7<|aj Z8<|Z13
section
variable{h0:Hp}{F:List Nat}{p:Value}{N:Nat}{K:Nat->Option Int}
theorem uz(ok:h0.t.Sized h0.n)(H:cN h0 F p N K)(hN:N<=1000):
 Ret zM 202 [p] h0 fun r h'=>(r=.tuple #[.int .i64 0,.int .i64 0,.bool false]/\(∀v,K v=none)/\Gr h0 h')\/ ∃v k,r=.tuple #[.int .i64 (v:Nat),.int .i64 k,.bool true]/\K v=some k/\(∀u k',K u=some k'->k<k'\/(k=k'/\v<=u))/\Mo (· ∈F) h0 h'/\cN h' F p N (cL K v none):=by
 obtain⟨m,B,O⟩:=vg ok H
 obtain⟨d,D,l,rfl,ho,t,hlt,hx⟩:=H.ex
 have a1:=tD t hlt
 by_cases E:m=0
 . subst E
   have S:=Si ok
   refine ac (n:=55) (rs:=[.tmp 2,.tmp 3,.tmp 4]) rfl Tryz.e202 rfl rfl rfl (lbt rfl) ?_
   simp only [BS,LB,Nat.reduceLT,Nat.reduceEqDiff]
   refine am (B) ?_;intro h g;replace S:=S.call g;clear g
   simp only [BS,LB,ab,Nat.reduceLT,Nat.reduceEqDiff,Xi]
   exact .inl ⟨O.1 rfl,S.gr⟩
 . have ad: ¬((m:Int)=0):=by omega
   rcases hx with⟨rfl,_⟩|⟨y,cap,rfl,R⟩
   . exact absurd (O.2 t.nil) E
   . have a:0<l.length:=by
      cases l with
      |nil=>exact absurd (O.2 t.nil) E
      |cons x l=>simp
     have S:=Si ok
     refine ac (n:=55) (rs:=[.tmp 2,.tmp 3,.tmp 4]) rfl Tryz.e202 rfl rfl rfl (lbt rfl) ?_
     simp only [BS,LB,Nat.reduceLT,Nat.reduceEqDiff]
     refine am (B) ?_;intro h g;replace S:=S.call g;replace R:=R.gr g;clear g
     have g0:=S.gr
     clear S
     obtain⟨cs,es,c,f,z,G,C,MI,IF⟩:=R.ex
     have r0:=R.row.load1 (o:=0) rfl
     have l2:=C.ld2 z a
     have S:=Si g0.ok
     have i0:iG (.int .i64 0) l.length=some 0:=oE (i:=0) a
     have w1:an .i64 ((l.length:Int)-1)=((l.length-1:Nat):Int):=by rw [wrap64]<;>omega
     simp only [BS,LB,Nat.reduceLT,Nat.reduceEqDiff,ad]
     refine aw (mY (ord:=[14,0,1,2,3,4,5,6,7,8,9,10,11,12,13,15,16]) rfl rfl (by simp only [dM,ns,ep,XJ,XK,List.map_toArray,XH,XS,Nat.reduceBEq,cond_true,cond_false];exact rfl)) (q:=1) (ps:=[(13,15),(12,15)]) (by kernel_rfl) ?_
     simp only [BS,LB,cls,Nat.reducePow,Nat.reduceDiv,Nat.reduceMod,Nat.reduceLeDiff,Fo]
     refine dK ax S ?_;clear S;intro h s S aL a0
     simp only [BS,LB,cls,Nat.reduceLT,Nat.reduceEqDiff,Nat.reduceAdd,Nat.reducePow,Nat.reduceDiv,Nat.reduceMod,Nat.reduceLeDiff,Fo,S.old r0 (fun h=>h),S.old l2 (fun h=>h),i0,w1]
     refine dw (S.store (i:=0) rfl ?_ ?_ rfl rfl ?_ ono) ?_
     . exact(by exact Tryz.t339.2.1)
     . exact(by intro x e;cases e)
     . exact lbt rfl
     clear S;rintro h ⟨S,mo⟩;clear mo;simp only [LC,ah,lay,Xa,Xb,Nat.reduceAdd]at S
     simp only [BS,LB,cls,Nat.reduceLT,Nat.reduceEqDiff,Nat.reduceAdd,Nat.reducePow,Nat.reduceDiv,Nat.reduceMod,Nat.reduceLeDiff,Fo,S.old r0 (fun h=>h),S.old l2 (fun h=>h)]
     have g1:=S.gr
     have R1:=R.gr g1
     have Y:=S.lds (b:=s) (o:=0) (n:=2) m0 (lbt rfl)
     have A:=R.lt g0.ok
     have nb:s≠d:=fun e=>by have:=A d (.inl rfl);omega
     have P:s≠y:=fun e=>by have:=A y (.inr (.inl rfl));omega
     refine⟨by simp only [bz,bG,aW,bM,a8,ne_eq,not_false_eq_true,bS,cD,bD,bw,ca,c9,aO,Nat.reduceLT,Nat.reduceEqDiff,reduceIte,Xl,ae,jU,yA,dW nb,dW nb.symm,dW P,dW P.symm],?_⟩
     have sw:Ret zM 247 [ptrTo d,.int .i64 0,.int .i64 ((l.length-1:Nat):Int)] _ _:=sK S.ok R1 (i:=0) (k:=l.length-1) a (by omega)
     refine step_ret sw ?_
     --refine step_ret (sK S.ok R1 (i := 0) (k := l.length - 1) a (by omega)) ?_
     rintro r I ⟨Z,L⟩
     have gg:Gr h0 h:=g0.trans g1
     have mA:Mo (· ∈[d,y,D]) h0 I:=(gg.fr (M:=(· ∈[d,y,D]))).trans Z (fun c t=>.inl (by rcases t with rfl|rfl<;>simp))
     have J:I.load s 0 2=some [.int .i64 (l.getD 0 default).id,.int .i64 (l.getD 0 default).key]:=by
      have:=Z.get s (bJ Z.ok0 Y) (fun hM=>by have:=A s (.inr hM);omega)
      unfold Hp.load at Y⊢
      rw [this];exact Y
     have a2:=L.lt mA.ok
     have af:=mA.ok
     have Q:=bJ mA.ok J
     clear S R R1 Z sw z G C MI IF Y l2 r0
     obtain⟨cs,es,c,f,z,G,C,MI,IF⟩:=L.ex
     have S:=St.init3 (M:=(· ∈[d,y,D])) (h:=I) af (o1:=.row cs 1) (o2:=.row _ 1) (o3:=.map es c) z L.row G L.ne.1.symm L.ne.2.2 L.ne.2.1 (by simp) (by simp) (by simp)
     have sl:=zo (kd:=.i64) (b:=y) (len:=(sw l 0 (l.length-1)).length) (n:=l.length-1) Tryz.t337.1 Tryz.t344.2.1 (cap:=cap) (by have:=C.le;rw [gu]at this;omega)
     simp only [BS,LB,Nat.reduceLT,Nat.reduceEqDiff,Option.map_some,Option.map_none,Fo,sl,S.ld (b:=d) (o:=0) m1 rfl,S.ld (b:=d) (o:=1) m1 rfl]
     refine ay (az S (i:=1) rfl ?_ ?_ ?_ ono) ?_
     . exact(by simp only [Fo])
     . exact(by exact bj)
     . exact zO (lbt rfl)
     clear S;rintro h ⟨S,mo⟩;clear mo;simp only [LC,ah,lay,Xa,Xb,Nat.reduceAdd]at S
     simp only [BS,S.ld (b:=d) (o:=0) m1 rfl,S.ld (b:=d) (o:=1) m1 rfl]
     refine aw (aB rfl) (q:=0) (ps:=[]) (by kernel_rfl) ?_
     have T: ¬s∈[d,y,D]:=fun O=>by
      have:=A s (by simpa using O)
      omega
     have U:I.load s 0 1=some [.int .i64 (l.getD 0 default).id]:=by have:=qk J (i:=0) (m:=1) (by omega);simpa using this
     have ai:I.load s 1 1=some [.int .i64 (l.getD 0 default).key]:=by have:=qk J (i:=1) (m:=1) (by omega);simpa using this
     simp only [BS,LB,cls,Nat.reduceLT,Nat.reduceEqDiff,Nat.reduceAdd,Nat.reducePow,Nat.reduceDiv,Nat.reduceMod,Nat.reduceLeDiff,Fo,S.old U T,S.ld (b:=d) (o:=1) m1 rfl]
     refine dn_del (S.mdelI (i:=2) rfl Tryz.t218.1 Tryz.t3.1 MI) ?_
     clear S;rintro h ⟨_,a3,c',ak,S⟩
     simp only [LC]at S
     simp only [BS,LB,Nat.reduceLT,Nat.reduceEqDiff,Nat.reduceAdd,Fo]
     have V:(sw l 0 (l.length-1)).length=l.length:=gu _ _ _
     have w:=ir l (i:=0) (k:=l.length-1) a (by omega) (l.length-1)
     rw [if_pos rfl]at w
     have W:=IF.cut (m:=l.length-1) (by omega)
     rw [w]at W
     have tl:((sw l 0 (l.length-1)).take (l.length-1)).length=l.length-1:=by rw [List.length_take,V];omega
     have R3:eJ h d y D cap N ((sw l 0 (l.length-1)).take (l.length-1)):=S.rowS (C.take _) tl.symm ak W
     have dn:Ret zM 248 [ptrTo d,.int .i64 0] h _:=down_ok S.ok R3 (i:=0) (by
      by_cases e:l.length-1=0
      . exact .inr ⟨List.length_eq_zero_iff.1 (by rw [tl,e]),rfl⟩
      . exact .inl (by omega)) (by omega) (heap_pop ho a)
     refine step_ret dn ?_
     rintro r h ⟨fB,l',R',pm,al⟩
     have mB:Mo (· ∈[d,y,D]) I h:=S.fr.trans fB (fun c t=>.inl (by rcases t with rfl|rfl<;>simp))
     have X: ∀{o x},I.load s o 1=some x->h.load s o 1=some x:=fun e=>by
      have:=mB.get s Q T
      unfold Hp.load at e⊢
      rw [this];exact e
     simp only [BS]
     refine aw (aB rfl) (q:=0) (ps:=[]) (by kernel_rfl) ?_
     simp only [BS,LB,cls,ab,Nat.reduceLT,Nat.reduceEqDiff,Nat.reduceAdd,Nat.reducePow,Nat.reduceDiv,Nat.reduceMod,Nat.reduceLeDiff,Fo,X U,X ai]
     refine .inr ⟨(l.getD 0 default).id,(l.getD 0 default).key,rfl,t.at a,fun u k' hu=>?_,mA.trans mB (fun c t=>.inl t),⟨d,D,l',rfl,al,(t.pop a).perm pm,fun x hx=>?_,.inr ⟨y,cap,rfl,R'⟩⟩⟩
     . obtain⟨j,hj,e⟩:=t.idx hu
       have:=heap_min ho j hj
       rw [e]at this
       unfold Ab.hle at this
       simp only []at this
       omega
     . exact hlt x ((rX l a (by omega)).mem_iff.1 (List.mem_of_mem_take (pm.mem_iff.1 hx)))
end
end Go.Ab

end
section
namespace Go.Ab
open Go.Proofs
set_option maxRecDepth 10000
def Tryz.F0I:=aj t1<|aj t2<|aj t3<|aj t4<|t33
def Tryz.F1k:=aj t1<|aj t2<|aj t3<|aj t4<|aj t24<|aj t29<|aj Z0<|aj t32<|aj t33<|aj Z2<|aj t189<|Z1
def Tryz.F0J:=aj t1<|aj t2<|aj t3<|aj t4<|aj t29<|Z2
def Tryz.F1l:=aj t1<|aj t2<|aj t3<|aj t4<|aj t33<|t189
def Tryz.F0K:=aj t1<|aj t2<|aj t3<|aj t4<|aj t24<|aj t29<|aj Z0<|aj t32<|aj t33<|aj Z2<|aj t189<|Z1
def Tryz.F1m:=aj t1<|aj t2<|aj t3<|aj t4<|aj t24<|aj t29<|aj Z0<|aj t32<|aj t33<|aj t189<|Z1
def Tryz.F1n:=aj t1<|aj t2<|aj t3<|aj t4<|aj t24<|aj t29<|aj Z0<|aj t32<|aj t33<|aj t189<|Z1
theorem jo{h0:Hp}(i:h0.t.Sized h0.n){α:Type}{enc:α->List Value}(j: ∀x,(enc x).length=1){v:Value}{xs:List α}(k:av h0 1 enc v xs)(t:xs.length<1000000):Ret zM 55 [v] h0 fun r a=>Gr h0 a/\av a 1 enc r xs/\ ∀c,ar r c->h0.n<=c:=by
 have S:=Si i
 rcases k with⟨rfl,rfl⟩|⟨b,o,s,c,rfl,l,m⟩
 . refine ac (n:=8) (rs:=[.tmp 2]) rfl Tryz.e55 rfl rfl rfl (lbt rfl) ?_
   simp only [BS,LB,ab,Nat.reduceLT,Nat.reduceEqDiff,F0I]
   exact⟨S.gr,.inl ⟨rfl,rfl⟩,fun c d=>d.elim⟩
 . refine ac (n:=8) (rs:=[.tmp 2]) rfl Tryz.e55 rfl rfl rfl (lbt rfl) ?_
   simp only [BS,LB,Nat.reduceLT,Nat.reduceEqDiff,F0I]
   refine ag (bI (by exact Tryz.t33.1) (by exact Xx) (by decide) (by rfl)) S ?_;clear S;intro h u S f;simp only [LC,aT,bA,ah,Nat.reduceMul,Nat.reduceAdd,Xk,Xe,Xf,Xn]at S
   simp only [BS,LB,Nat.reduceLT,Nat.reduceEqDiff]
   refine dA (S.cloneSl (enc:=enc) (xs:=[]) Tryz.t33.1 Xx (by decide) Tryz.t33.2.2.2.2.2 (.inr ⟨b,o,s,c,rfl,l,S.old m (fun h=>h)⟩) j (by decide) (by simp only [List.length_nil,Xe];omega) (S.row m0)) ?_
   rintro a v ⟨p,g,q,d⟩
   simp only [BS,LB,ab,Nat.reduceLT,Nat.reduceEqDiff]
   refine⟨p.gr,by simpa using q,fun c h=>(d c h).elim (fun e=>by omega) (fun e=>Xd S.fr.n e)⟩
theorem cC{h0:Hp}(d:h0.t.Sized h0.n){p:Value}{a:Gra}{e:Nat}(c:aV h0 e p a):aK zM 54 [p] h0 (.int .i64 a.nodes):=by
 have S:=Si d
 obtain⟨b,g,h,i,j,k,rfl,r,_⟩:=c.ex
 have f:=r.load1 (o:=0) rfl
 refine ac (n:=10) (rs:=[.tmp 2]) rfl Tryz.e54 rfl rfl rfl (lbt rfl) ?_
 simp only [BS,LB,ab,Nat.reduceLT,Nat.reduceEqDiff,F1k,f]
 exact S.gr
theorem oneArc_ok{h0:Hp}(j:h0.t.Sized h0.n){v:Value}{A:List Arc}(f:av h0 3 cP v A){i:Nat}(k:i<A.length):Ret zM 221 [v,.int .i64 i] h0 fun r l=>Gr h0 l/\r=.tuple #[.agg ⟨cP A[i]⟩,.bool true]:=by
 have S:=Si j
 have m: ¬((i:Int)<0):=by omega
 have p: ¬((A.length:Int)<=(i:Int)):=by omega
 refine ac (n:=19) (rs:=[.cell 4 99,.tmp 5]) rfl Tryz.e221 rfl rfl rfl (lbt rfl) ?_
 simp only [BS,F0J]
 refine ag ax S ?_;clear S;intro h q S g
 obtain⟨c,o,a,d⟩:=(f.gr S.gr).ix (kd:=.i64) im k
 simp only [BS,LB,Nat.reduceLT,Nat.reduceEqDiff,F0J,f.lenq,m,p,a,d]
 refine ay (S.store (i:=0) rfl ?_ ?_ rfl rfl ?_ ono) ?_
 . exact(by exact Tryz.t99.2.1)
 . exact(by intro x e;cases e)
 . exact lbt rfl
 clear S;rintro h ⟨S,s⟩;clear s;simp only [LC,ah,lay,Xa,Xb,Nat.reduceAdd]at S
 simp only [BS,ab,cP]
 refine(dg (by decide) (by simp only [aO,ae,Nat.reduceEqDiff,reduceIte];exact cQ Tryz.t99.1 Tryz.t99.2.1 (S.lds (b:=q) (o:=0) (n:=3) m0 (lbt rfl)))).2 ?_
 refine(kM (by decide)).2 (dV.2 ?_)
 exact⟨S.gr,rfl⟩
theorem wE{h0:Hp}(d:h0.t.Sized h0.n){m:Nat}{v:Value}{N:Nat}{R:Nat->List Nat}(f:fE h0 m v N R){i:Nat}(a:i<N):Ret zM 197 [v,.int .i64 i] h0 fun r b=>Gr h0 b/\ ∃w,r=.tuple #[w,.bool true]/\av b 1 ce w (R i):=by
 have S:=Si d
 obtain⟨p,q,rfl,_,g,c,h⟩:=f
 obtain⟨w,e,j,_⟩:=h i a
 have k:=g.load1 e
 have l: ¬((i:Int)<0):=by omega
 have o: ¬((N:Int)<=(i:Int)):=by omega
 refine ac (n:=19) (rs:=[.tmp 4,.tmp 5]) rfl Tryz.e197 rfl rfl rfl (lbt rfl) ?_
 simp only [BS,LB,ab,Nat.reduceLT,Nat.reduceEqDiff,F1l,l,o,a,k]
 exact⟨S.gr,_,rfl,j⟩
theorem kL{h0:Hp}(f:h0.t.Sized h0.n){p:Value}{a:Gra}{j:Nat}(c:aV h0 j p a){i:Nat}(k:i<a.arcs.length):Ret zM 155 [p,.int .i64 i] h0 fun r l=>Gr h0 l/\r=.tuple #[.agg ⟨cP a.arcs[i]⟩,.bool true]:=by
 have S:=Si f
 obtain⟨b,u,w,y,z,A,rfl,r,m,_⟩:=c.ex
 have q:=r.load1 (o:=3) rfl
 refine ac (n:=18) (rs:=[.cell 4 99,.tmp 5]) rfl Tryz.e155 rfl rfl rfl (lbt rfl) ?_
 simp only [BS,F0K]
 refine ag ax S ?_;clear S;intro h s S d
 simp only [BS,LB,Nat.reduceLT,Nat.reduceEqDiff,F0K,S.old q (fun h=>h)]
 refine step_ret (oneArc_ok S.ok (m.A.gr S.gr) k) ?_
 rintro v h ⟨g,rfl⟩
 replace S:=S.call g;clear g
 simp only [BS,LB,Nat.reduceLT,Nat.reduceEqDiff,cP]
 refine ay (S.store (i:=0) rfl ?_ ?_ rfl rfl ?_ ono) ?_
 . exact(by exact Tryz.t99.2.1)
 . exact(by intro x e;cases e)
 . exact lbt rfl
 clear S;rintro h ⟨S,t⟩;clear t;simp only [LC,ah,lay,Xa,Xb,Nat.reduceAdd]at S
 simp only [BS,LB,ab,Nat.reduceLT,Nat.reduceEqDiff]
 refine(dg (by decide) (by simp only [aO,ae,Nat.reduceEqDiff,reduceIte];exact cQ Tryz.t99.1 Tryz.t99.2.1 (S.lds (b:=s) (o:=0) (n:=3) m0 (lbt rfl)))).2 ?_
 refine(kM (by decide)).2 (dV.2 ?_)
 exact⟨S.gr,rfl⟩
theorem wC{h0:Hp}(f:h0.t.Sized h0.n){p:Value}{a:Gra}{j:Nat}(c:aV h0 j p a)(k:a.arcs.length<1000){i:Nat}(l:i<a.nodes):Ret zM 115 [p,.int .i64 i] h0 fun r e=>Gr h0 e/\av e 1 ce r (outs a.arcs Arc.s a.arcs.length i)/\ ∀c,ar r c->h0.n<=c:=by
 have S:=Si f
 obtain⟨b,u,x,y,z,A,rfl,r,B,m,C,_⟩:=c.ex
 have q:=r.load1 (o:=4) rfl
 refine ac (n:=20) (rs:=[.tmp 4]) rfl Tryz.e115 rfl rfl rfl (lbt rfl) ?_
 simp only [BS,LB,Nat.reduceLT,Nat.reduceEqDiff,F1m,q]
 refine step_ret (wE S.ok m l) ?_
 rintro v h ⟨g,w,rfl,d⟩
 replace S:=S.call g;clear g
 simp only [BS,LB,Nat.reduceLT,Nat.reduceEqDiff]
 have s:=S.fr.n
 have t:=kD a.arcs Arc.s a.arcs.length i
 refine step_ret (jo S.ok dG d (by omega)) ?_;intro v h ⟨g,d,hc⟩;replace S:=S.call g;clear g
 simp only [BS,LB,ab,Nat.reduceLT,Nat.reduceEqDiff]
 exact⟨S.gr,d,fun c h=>Xd s (hc c h)⟩
theorem zg{h0:Hp}(f:h0.t.Sized h0.n){p:Value}{a:Gra}{j:Nat}(c:aV h0 j p a)(k:a.arcs.length<1000){i:Nat}(l:i<a.nodes):Ret zM 117 [p,.int .i64 i] h0 fun r e=>Gr h0 e/\av e 1 ce r (outs a.arcs Arc.t a.arcs.length i)/\ ∀c,ar r c->h0.n<=c:=by
 have S:=Si f
 obtain⟨b,u,x,y,z,A,rfl,r,B,C,m,_⟩:=c.ex
 have q:=r.load1 (o:=5) rfl
 refine ac (n:=20) (rs:=[.tmp 4]) rfl Tryz.e117 rfl rfl rfl (lbt rfl) ?_
 simp only [BS,LB,Nat.reduceLT,Nat.reduceEqDiff,F1n,q]
 refine step_ret (wE S.ok m l) ?_
 rintro v h ⟨g,w,rfl,d⟩
 replace S:=S.call g;clear g
 simp only [BS,LB,Nat.reduceLT,Nat.reduceEqDiff]
 have s:=S.fr.n
 have t:=kD a.arcs Arc.t a.arcs.length i
 refine step_ret (jo S.ok dG d (by omega)) ?_;intro v h ⟨g,d,hc⟩;replace S:=S.call g;clear g
 simp only [BS,LB,ab,Nat.reduceLT,Nat.reduceEqDiff]
 exact⟨S.gr,d,fun c h=>Xd s (hc c h)⟩
theorem mul64_ok{h0:Hp}(b:h0.t.Sized h0.n){N:Nat}(i:N<1000):aK zM 269 [.int .u64 1,.int .u64 N] h0 (.tuple #[.int .u64 0,.int .u64 N]):=by
 have S:=Si b
 have c: ∀{t x y},a9 zM .and t x y (.int .u64 1) (.int .u64 4294967295)=some (.int .u64 1):=b_andU (N:=1) (by decide)
 have d: ∀{t x y},a9 zM .and t x y (.int .u64 0) (.int .u64 4294967295)=some (.int .u64 0):=b_andU (N:=0) (by decide)
 have e: ∀{t x y a},a9 zM .shr t x y (.int .u64 1) (.int a 32)=some (.int .u64 0):=b_shrU (N:=1) (by decide)
 have f: ∀{t x y a},a9 zM .shr t x y (.int .u64 0) (.int a 32)=some (.int .u64 0):=b_shrU (N:=0) (by decide)
 have g:an .u64 (N:Int)=(N:Int):=uq (by omega) (by omega)
 have h:an .u64 0=0:=rfl
 refine ac (n:=51) (rs:=[.tmp 4,.tmp 5]) rfl Tryz.e269 rfl rfl rfl (lbt rfl) ?_
 simp only [BS,LB,ab,Nat.reduceLT,Nat.reduceEqDiff,c,d,e,f,b_andU (N:=N) (by omega),b_shrU (N:=N) (by omega),Int.one_mul,Int.zero_mul,Int.mul_zero,Int.add_zero,g,h]
 exact S.gr
theorem mul_ok{h0:Hp}(a:h0.t.Sized h0.n){N:Nat}(b:N<1000):aK zM 250 [.int .u64 1,.int .u64 N] h0 (.tuple #[.int .u64 0,.int .u64 N]):=by
 have S:=Si a
 refine ac (n:=30) (rs:=[.tmp 4,.tmp 5]) rfl Tryz.e250 rfl rfl rfl (lbt rfl) ?_
 simp only [BS,LB,Nat.reduceLT,Nat.reduceEqDiff]
 refine am (mul64_ok S.ok b) ?_;intro h g;replace S:=S.call g;clear g
 simp only [BS,LB,ab,Nat.reduceLT,Nat.reduceEqDiff]
 exact S.gr
def Tryz.FS:=aj t1<|aj t2<|aj t3<|aj t4<|aj t5<|aj t6<|aj Z3<|aj Z4<|aj t9<|t33
def Tryz.F05:=aj t1<|aj t2<|aj t3<|aj t4<|aj t5<|aj t6<|aj Z3<|aj Z4<|aj t9<|aj t20<|t33
def Tryz.FG:=aj t1<|aj t2<|aj t3<|aj t4<|aj t5<|aj t6<|aj t33<|aj t77<|Z6
theorem norm_ok{h0:Hp}(d:h0.t.Sized h0.n){l:List Int}{v:Value}(a:av h0 1 (encI .i64) v l)(j:l.length<1000):
 Ret zM 166 [v] h0 fun r b=>Gr h0 b/\av b 1 (encI .i64) r (norm [] l)/\ ∀c,ar r c->h0.n<=c:=by
 have S:=Si d
 refine ac (n:=6) (rs:=[.tmp 2]) rfl Tryz.e166 rfl rfl rfl (lbt rfl) ?_
 simp only [BS,LB,Nat.reduceLT,Nat.reduceEqDiff]
 refine step_ret (namer_ok S.ok) ?_;intro v h ⟨g,bx,bm,k,n1,n2,R,hg⟩;replace S:=S.call g;replace a:=a.gr g;clear g
 subst k
 simp only [BS,LB,Nat.reduceLT,Nat.reduceEqDiff]
 refine step_ret (each_ok (ks:=[]) S.ok R hg a j) ?_
 rintro r h ⟨f,m,o⟩
 simp only [BS,LB,ab,Nat.reduceLT,Nat.reduceEqDiff]
 exact⟨(S.fr.trans f (fun i e=>.inr (by subst e;exact n2))).gr,m,fun c h=>Xd S.fr.n (o c h)⟩
theorem zq {h0:Hp} (s:h0.t.Sized h0.n) {u v:Value} {l m:List Int} (p:av h0 1 (encI .i64) u l) (r:av h0 1 (encI .i64) v m) (A:l.length<1000000):aK zM 165 [u,v] h0 (.bool (decide (l=m))):=by
 have S:=Si s
 by_cases a:l.length=m.length
 . have hle:((l.length:Int)=(m.length:Int)):=by omega
   refine ac (n:=26) (rs:=[.tmp 4]) rfl Tryz.e165 rfl rfl rfl (lbt rfl) ?_
   simp only [BS,LB,Nat.reduceLT,Nat.reduceEqDiff,FS,p.lenq,r.lenq,hle]
   refine aQ (fun(i:Nat) g h=>i<=l.length/\l.take i=m.take i/\Gr h0 h/\g 0=u/\g 1=v/\g 12=.int .i64 l.length/\g 13=.int .i64 i) (fun i=>l.length-i) ?_ 0 _ _ ?_
   . clear S
     intro i t g h ⟨hi,ht,S,r0,r1,r12,r13⟩
     by_cases hlt:i<l.length
     . obtain⟨c,o,d,j⟩:=(p.gr S).ix (kd:=.i64) (bK .i64) hlt
       obtain⟨B,C,b,e⟩:=(r.gr S).ix (kd:=.i64) (bK .i64) (a▸hlt)
       have w:an .i64 ((i:Int)+1)=((i+1:Nat):Int):=by rw [wrap64]<;>omega
       by_cases k:l[i]=m[i]
       . simp only [BS,LB,Nat.reduceLT,Nat.reduceEqDiff,r12,r13,aA,hlt]
         refine aw (aB rfl) (q:=0) (ps:=[]) (by kernel_rfl) ?_
         simp only [BS,LB,cls,Nat.reduceLT,Nat.reduceEqDiff,Nat.reduceAdd,Nat.reducePow,Nat.reduceDiv,Nat.reduceMod,Nat.reduceLeDiff,FS,r0,r1,r13,d,j,b,e,encI,k,w]
         refine t (i+1) _ _ (by omega) ⟨by omega,?_,S,by simp [aa,r0],by simp [aa,r1],by simp [aa,r12],by simp [aa]⟩
         rw [Xp hlt,Xp (a▸hlt),ht,k]
       . have f:l≠m:=by rintro rfl;exact k rfl
         simp only [BS,LB,Nat.reduceLT,Nat.reduceEqDiff,r12,r13,aA,hlt]
         refine aw (aB rfl) (q:=0) (ps:=[]) (by kernel_rfl) ?_
         simp only [BS,LB,cls,ab,Nat.reduceLT,Nat.reduceEqDiff,Nat.reduceAdd,Nat.reducePow,Nat.reduceDiv,Nat.reduceMod,Nat.reduceLeDiff,FS,r0,r1,d,j,b,e,encI,k,f]
         exact S
     . have x:l=m:=by
        have y:l.take i=l:=XA (by omega)
        have z:m.take i=m:=XA (by omega)
        rw [y,z]at ht;exact ht
       subst x
       simp only [BS,LB,ab,Nat.reduceLT,Nat.reduceEqDiff,r12,r13,aA,hlt]
       exact S
   . exact⟨Xv _,rfl,Gr.refl s,by simp [aa,aP],by simp [aa,aP,bW],by simp [aa,a],by simp [aa]⟩
 . have f:l≠m:=by rintro rfl;exact a rfl
   have hle: ¬((l.length:Int)=(m.length:Int)):=by omega
   refine ac (n:=26) (rs:=[.tmp 4]) rfl Tryz.e165 rfl rfl rfl (lbt rfl) ?_
   simp only [BS,LB,ab,Nat.reduceLT,Nat.reduceEqDiff,FS,p.lenq,r.lenq,hle,f]
   exact S.gr
def fu:List Int->Int
 | []=>0
 |x::a=>a.foldl max x
theorem lmax_succ{l:List Int}{i:Nat}(a:1<=i)(hlt:i<l.length):fu (l.take (i+1))=max (fu (l.take i)) l[i]:=by
 cases l with
 |nil=>cases hlt
 | cons x b=>
   obtain⟨j,rfl⟩: ∃j,i=j+1:=⟨i-1,by omega⟩
   rw [Xr,Xr,fu,fu,List.getElem_cons_succ,Xp (by simpa using hlt),List.foldl_append]
   rfl
theorem lmax_one{l:List Int}(a:0<l.length):fu (l.take 1)=l[0]:=by
 cases l with
 |nil=>cases a
 |cons x b=>rfl
theorem maxInt_ok{h0:Hp}(m:h0.t.Sized h0.n){v:Value}{l:List Int}(f:av h0 1 (encI .i64) v l)(j:1<=l.length)(s:l.length<1000000):aK zM 167 [v] h0 (.int .i64 (fu l)):=by
 have S:=Si m
 have k: ¬((l.length:Int)<1):=by omega
 obtain⟨c,o,a,b⟩:=f.ix (kd:=.i64) (bK .i64) (i:=0) (by omega)
 have d:kW (some 1) v (.int .i64 0)=_:=a
 have p:=lmax_one (l:=l) (by omega)
 generalize l[0]=x at b p
 refine ac (n:=25) (rs:=[.tmp 2]) rfl Tryz.e167 rfl rfl rfl (lbt rfl) ?_
 simp only [BS,LB,Nat.reduceLT,Nat.reduceEqDiff,F05,f.lenq,k,d,b,encI]
 refine aQ (fun(i:Nat) g h=>1<=i/\i<=l.length/\Gr h0 h/\g 0=v/\g 3=.int .i64 (fu (l.take i))/\g 4=.int .i64 i) (fun i=>l.length-i) ?_ 1 _ _ ?_
 . clear S
   intro i r g h ⟨j,hi,S,r0,r3,r4⟩
   by_cases hlt:i<l.length
   . obtain⟨c,o,a,b⟩:=(f.gr S).ix (kd:=.i64) (bK .i64) hlt
     have w:an .i64 ((i:Int)+1)=((i+1:Nat):Int):=by rw [wrap64]<;>omega
     have q:=lmax_succ j hlt
     generalize l[i]=y at b q
     simp only [BS,LB,Nat.reduceLT,Nat.reduceEqDiff,F05,r0,r3,r4,(f.gr S).lenq,aA,hlt,a,b,encI,w]
     refine r (i+1) _ _ (by omega) ⟨by omega,by omega,S,by simp [aa,r0],?_,by simp [aa]⟩
     simp only [aO,Nat.reduceEqDiff,reduceIte]
     rw [q]
   . simp only [BS,LB,ab,Nat.reduceLT,Nat.reduceEqDiff,F05,r0,r3,r4,(f.gr S).lenq,aA,hlt]
     have e:l.take i=l:=XA (by omega)
     rw [e]
     exact⟨rfl,S⟩
 . exact⟨XF _,j,Gr.refl m,by simp [aa,aP],by simp [aa,p],by simp [aa]⟩
theorem xX(ks l:List Int):(norm ks l).length=l.length:=by
 induction l generalizing ks with
 |nil=>rfl
 |cons x a b=>show(norm _ a).length+1=_;rw [b];rfl
def jV(h:Hp)(n:Nat)(p:Value)(m:List Int):Prop:= ∃b v,p=ptrTo b/\Row h b [v,.int .i64 (fu m+1)] 1/\av h 1 (encI .i64) v m/\n<=b/\ ∀c,ar v c->n<=c
theorem jV.mo{M:Nat->Prop}{h a:Hp}{n:Nat}{p:Value}{m:List Int}(c:jV h n p m)(g:Mo M h a)(d: ∀b,M b->b<n):jV a n p m:=by
 obtain⟨b,v,e,r,s,i,f⟩:=c
 exact⟨b,v,e,g.has (o:=.row _ 1) r (fun h=>by have:=d _ h;omega),s.mo g (fun c j k=>by have:=d _ k;have:=f c j;omega),i,f⟩
theorem jV.gr{h a:Hp}{n:Nat}{p:Value}{m:List Int}(c:jV h n p m)(g:Gr h a):jV a n p m:=c.mo (M:=NoM) g.fr (fun _ h=>h.elim)
def cellNo(m:List Int):Prop:=m=[]\/norm [] m≠m\/256<fu m+1
theorem AM{h0:Hp}(z:h0.t.Sized h0.n){v:Value}{m:List Int}(d:av h0 1 (encI .i64) v m)(A:m.length<1000)(G:0<=fu m/\fu m<=1000000):
 Ret zM 87 [v] h0 fun r s=>Gr h0 s/\((cellNo m/\r=.pointer none)\/(¬cellNo m/\jV s h0.n r m)):=by
 have S:=Si z
 have H:=xX [] m
 by_cases t:m=[]
 . subst t
   refine ac (n:=27) (rs:=[.tmp 2]) rfl Tryz.e87 rfl rfl rfl (lbt rfl) ?_
   simp only [BS,LB,ab,Nat.reduceLT,Nat.reduceEqDiff,Xi,FG,d.lenq]
   exact⟨S.gr,.inl (.inl rfl)⟩
 . have B:1<=m.length:=by cases m with
    |nil=>exact absurd rfl t
    |cons a l=>simp
   have C: ¬((m.length:Int)=0):=by omega
   refine ac (n:=27) (rs:=[.tmp 2]) rfl Tryz.e87 rfl rfl rfl (lbt rfl) ?_
   simp only [BS,LB,Nat.reduceLT,Nat.reduceEqDiff,FG,d.lenq,C]
   refine step_ret (norm_ok S.ok d A) ?_;intro v h ⟨g,sl,fr⟩;replace S:=S.call g;replace d:=d.gr g;clear g
   by_cases k:norm [] m=m
   . simp only [BS,LB,Nat.reduceLT,Nat.reduceEqDiff]
     refine am (zq S.ok sl d (by omega)) ?_;intro h g;replace S:=S.call g;replace d:=d.gr g;clear g
     simp only [BS,LB,Nat.reduceLT,Nat.reduceEqDiff,k]
     have D:=S.fr.n
     refine step_ret (jo S.ok (bK .i64) d (by omega)) ?_
     intro u h ⟨g,i,p⟩;replace S:=S.call g;replace d:=d.gr g;clear g
     have E:Fl u:=i.fl
     simp only [BS,LB,Nat.reduceLT,Nat.reduceEqDiff]
     refine am (maxInt_ok S.ok d B (by omega)) ?_;intro h g;replace S:=S.call g;replace d:=d.gr g;replace i:=i.gr g;clear g
     have w:an .i64 (fu m+1)=fu m+1:=by rw [wrap64]<;>omega
     have j:=S.gr
     clear S;have S:=Si j.ok
     simp only [BS,LB,Nat.reduceLT,Nat.reduceEqDiff,Nat.reduceAdd,FG,w,E]
     refine ag (bg (by intro x e;cases e)) S ?_;clear S;intro h b S q;simp only [ah]at S
     have y:=S.ld (b:=b) (o:=1) m0 rfl
     by_cases f:256<fu m+1
     . simp only [BS,LB,ab,Nat.reduceLT,Nat.reduceEqDiff,FG,f,y]
       exact⟨j.trans S.gr,.inl (.inr (.inr f))⟩
     . simp only [BS,LB,ab,Nat.reduceLT,Nat.reduceEqDiff,FG,f,y]
       exact⟨j.trans S.gr,.inr ⟨by rintro(h|h|h)<;>contradiction,b,u,rfl,S.row m0,i.gr S.gr,Xd j.n q,fun c F=>Xd D (p c F)⟩⟩
   . simp only [BS,LB,Nat.reduceLT,Nat.reduceEqDiff]
     refine am (zq S.ok sl d (by omega)) ?_;intro h g;replace S:=S.call g;replace d:=d.gr g;clear g
     simp only [BS,LB,ab,Nat.reduceLT,Nat.reduceEqDiff,k]
     exact⟨S.gr,.inl (.inr (.inl k))⟩
end Go.Ab
end
section
namespace Go.Ab
theorem Wk.trans{B:List Arc}{a b c x y:Nat}(h:Wk B a b x)(k:Wk B b c y):Wk B a c (x+y):=by
 induction k with
 |nil=>exact h
 | @snoc w e d _ f=>exact Wk.snoc' f d rfl rfl (by omega)
theorem Wk.back{B C:List Arc}(c: ∀a∈B,∃b∈C,b.s=a.t/\b.t=a.s/\b.w=a.w){m v w x y:Nat}(h:Wk B v w x)(k:Wk C m w y):Wk C m v (x+y):=by
 induction h generalizing y with
 |nil=>rw [Xe];exact k
 | @snoc z e d _ f=>
   obtain⟨b,g,i,j,l⟩:=c e d
   have:=f (Wk.snoc' k g i j rfl)
   rw [l]at this
   rw [show z+e.w+y=z+(y+e.w) by omega];exact this
theorem IsD.wk{B:List Arc}{s v x w:Nat}(h:IsD B s v x)(k:Wk B s v w):x<FAR/\x<=w/\Wk B s v x:=by
 rcases h with⟨a,b,c⟩|⟨a,b⟩
 . exact⟨a,c w k,b⟩
 . exact absurd k (b w)
theorem IsD.far{B:List Arc}{s v x:Nat}(h:IsD B s v x)(d:x<FAR):Wk B s v x:=by
 rcases h with⟨a,b,c⟩|⟨a,b⟩
 . exact b
 . omega
end Go.Ab

end
section
namespace Go.Ab
structure Ev where
 kind:Nat
 id:Nat
 lab:Nat
def jx(e:Ev):List Value:=[.int .i64 e.kind,.int .i64 0,.int .i64 e.id,.int .i64 e.lab]
theorem tS(e:Ev):(jx e).length=4:=rfl
structure SS where
 K:Nat->Option Int
 L:Nat->Nat
 P:Nat->List Nat
 O:List Nat
 ev:List Ev
structure Fd where
 dist:Nat
 arcs:List Nat
 ev:List Ev
def Pops(K:Nat->Option Int)(v:Nat)(k:Int):Prop:=K v=some k/\ ∀u a,K u=some a->k<a\/(k=a/\v<=u)
theorem Pops.uniq{K:Nat->Option Int}{v u:Nat}{k k':Int}(h:Pops K v k)(g:Pops K u k'):v=u/\k=k':=by
 have a:=h.2 _ _ g.1
 have b:=g.2 _ _ h.1
 omega
def ky(P:Nat->List Nat)(v:Nat)(l:List Nat):Nat->List Nat:=fun u=>if u=v then l else P u
def d7(pi:Nat->Int)(σ:SS)(v lab:Nat)(p:List Nat):SS:=
 if v∈σ.O\/(FAR:Int)<=pi v\/((σ.K v).isSome=true/\σ.L v<=lab)then σ else⟨cL σ.K v (some (lab+pi v)),c8 σ.L v lab,ky σ.P v p,σ.O,σ.ev⟩
def dl(σ:SS)(v:Nat):SS:=⟨cL σ.K v none,σ.L,σ.P,σ.O++[v],σ.ev++[⟨0,v,σ.L v⟩]⟩
def evS(σ:SS)(e:Ev):SS:=⟨σ.K,σ.L,σ.P,σ.O,σ.ev++[e]⟩
def scan1(A:List Arc)(al:Nat->Bool)(pi:Nat->Int)(v:Nat)(σ:SS)(a:Nat):SS:=
 if al a=true then d7 pi (evS σ ⟨1,a,0⟩) (A.getD a default).t (σ.L v+(A.getD a default).w) (a::σ.P v)else σ
def po(A:List Arc)(al:Nat->Bool)(pi:Nat->Int)(v:Nat)(σ:SS):SS:=(outs A Arc.s A.length v).foldl (scan1 A al pi v) σ
def nH(pi:Nat->Int)(s:Nat):SS:=d7 pi ⟨fun _=>none,fun _=>0,fun _=>[],[],[]⟩ s 0 []
inductive Ends(A:List Arc)(al:Nat->Bool)(pi:Nat->Int)(to:Nat):SS->Fd->Prop where
 |none {σ:SS}:(∀v,σ.K v=none)->Ends A al pi to σ ⟨FAR,[],σ.ev⟩
 |hit {σ:SS} {k:Int}:Pops σ.K to k->Ends A al pi to σ ⟨σ.L to,(σ.P to).reverse,(dl σ to).ev⟩
 |step {σ:SS} {v:Nat} {k:Int} {r:Fd}:Pops σ.K v k->v≠to->Ends A al pi to (po A al pi v (dl σ v)) r->Ends A al pi to σ r
theorem Ends.uniq{A:List Arc}{al:Nat->Bool}{pi:Nat->Int}{to:Nat}{σ:SS}{r q:Fd}(h:Ends A al pi to σ r)(g:Ends A al pi to σ q):r=q:=by
 induction h with
 | none c=>
   cases g with
   |none _=>rfl
   |hit a=>have:=a.1;rw [c]at this;cases this
   |step a _ _=>have:=a.1;rw [c]at this;cases this
 | hit a=>
   cases g with
   |none c=>have:=a.1;rw [c]at this;cases this
   |hit _=>rfl
   |step d b _=>exact absurd (d.uniq a).1 b
 | step a b _ e=>
   cases g with
   |none c=>have:=a.1;rw [c]at this;cases this
   |hit d=>exact absurd (a.uniq d).1 b
   | step d _ f=>
     obtain⟨rfl,_⟩:=a.uniq d
     exact e f
section
variable{A:List Arc}{N s:Nat}{al:Nat->Bool}{pi:Nat->Int}{σ:SS}
structure Sv(A:List Arc)(N s:Nat)(al:Nat->Bool)(pi:Nat->Int)(σ:SS):Prop where
 nd:σ.O.Nodup
 lt: ∀v∈σ.O,v<N
 op: ∀v k,σ.K v=some k->v<N/\v∉σ.O/\pi v<(FAR:Int)/\k=σ.L v+pi v
 bd: ∀v,σ.L v<=σ.O.length*dh/\(σ.P v).length<=σ.O.length
 pc: ∀v∈σ.O,pi v<(FAR:Int)
 path: ∀v,(v∈σ.O\/σ.K v≠none)->(v=s/\σ.P v=[]/\σ.L v=0)\/ ∃a,a<A.length/\al a=true/\(A.getD a default).t=v/\(A.getD a default).s∈σ.O/\σ.P v=a::σ.P (A.getD a default).s/\σ.L v=σ.L (A.getD a default).s+(A.getD a default).w
theorem Sv.len(h:Sv A N s al pi σ):σ.O.length<=N:=oF N σ.O h.nd h.lt
theorem Sv.evS(h:Sv A N s al pi σ)(e:Ev):Sv A N s al pi (evS σ e):=⟨h.nd,h.lt,h.op,h.bd,h.pc,h.path⟩
theorem sv_init(a:s<N):Sv A N s al pi (nH pi s):=by
 unfold nH d7
 have z:Sv A N s al pi ⟨fun _=>none,fun _=>0,fun _=>[],[],[]⟩:=
  ⟨.nil,fun v h=>(by cases h),fun v k h=>(by cases h),fun v=>⟨Xv _,Xv _⟩,fun v h=>(by cases h),fun v h=>h.elim (fun h=>by cases h) (fun h=>absurd rfl h)⟩
 split
 . exact z
 . rename_i b
   simp only [not_or]at b
   refine⟨.nil,fun v h=>(by cases h),fun v k h=>?_,fun v=>⟨?_,?_⟩,fun v h=>(by cases h),fun v h=>?_⟩
   . simp only [cL,c8]at h⊢
     split at h
     . rename_i e;subst e;cases h
       exact⟨a,by simp,by omega,by simp⟩
     . cases h
   . simp only [c8];split<;>simp
   . simp only [ky];split<;>simp
   . by_cases e:v=s
     . subst e;exact .inl ⟨rfl,by simp [ky],by simp [c8]⟩
     . simp [cL,e]at h
structure kQ(σ τ:SS):Prop where
 O:τ.O=σ.O
 L: ∀u∈σ.O,τ.L u=σ.L u
 P: ∀u∈σ.O,τ.P u=σ.P u
theorem kQ.refl:kQ σ σ:=⟨rfl,fun _ _=>rfl,fun _ _=>rfl⟩
theorem kQ.trans{b c:SS}(h:kQ σ b)(g:kQ b c):kQ σ c:=
 ⟨g.O.trans h.O,fun u a=>(g.L u (by rw [h.O];exact a)).trans (h.L u a),fun u a=>(g.P u (by rw [h.O];exact a)).trans (h.P u a)⟩
theorem Sv.reach(h:Sv A N s al pi σ){a lab v:Nat}{p:List Nat}(t:a<A.length)(f:al a=true)(w:(A.getD a default).t=v)(x:v<N)(g:(A.getD a default).s∈σ.O)(y:lab=σ.L (A.getD a default).s+(A.getD a default).w)(z:p=a::σ.P (A.getD a default).s)
 (b1:lab<=σ.O.length*dh) (b2:p.length<=σ.O.length):Sv A N s al pi (d7 pi σ v lab p)/\kQ σ (d7 pi σ v lab p):=by
 unfold d7
 split
 . exact⟨h,.refl⟩
 . rename_i o
   simp only [not_or]at o
   obtain⟨r,F,G⟩:=o
   have q: ∀u∈σ.O,u≠v:=fun u c e=>r (by subst e;exact c)
   refine⟨⟨h.nd,h.lt,fun u k d=>?_,fun u=>⟨?_,?_⟩,h.pc,fun u c=>?_⟩,⟨rfl,fun u c=>by simp [c8,q u c],fun u c=>by simp [ky,q u c]⟩⟩
   . simp only [cL,c8]at d⊢
     split at d
     . rename_i e;subst e;cases d
       exact⟨x,r,by omega,by simp⟩
     . rename_i e
       rw [if_neg e];exact h.op u k d
   . simp only [c8];split
     . exact b1
     . exact(h.bd u).1
   . simp only [ky];split
     . exact b2
     . exact(h.bd u).2
   . have B:c8 σ.L v lab (A.getD a default).s=σ.L (A.getD a default).s:=if_neg (q _ g)
     have C:ky σ.P v p (A.getD a default).s=σ.P (A.getD a default).s:=if_neg (q _ g)
     by_cases e:u=v
     . subst e
       refine .inr ⟨a,t,f,w,g,?_,?_⟩
       . show ky σ.P u p u=a::ky σ.P u p (A.getD a default).s
         rw [C,<-z];exact if_pos rfl
       . show c8 σ.L u lab u=c8 σ.L u lab (A.getD a default).s+(A.getD a default).w
         rw [B,<-y];exact if_pos rfl
     . have i:u∈σ.O\/σ.K u≠none:=by simpa [cL,e]using c
       rcases h.path u i with⟨j,l,m⟩|⟨b,j,l,m,n,D,E⟩
       . exact .inl ⟨j,by simp [ky,e,l],by simp [c8,e,m]⟩
       . refine .inr ⟨b,j,l,m,n,?_,?_⟩
         . simp only [ky,if_neg e,if_neg (q _ n)];exact D
         . simp only [c8,if_neg e,if_neg (q _ n)];exact E
theorem Sv.close(h:Sv A N s al pi σ){v:Nat}{k:Int}(i:σ.K v=some k):Sv A N s al pi (dl σ v):=by
 obtain⟨l,m,n,C⟩:=h.op v k i
 have o:(σ.O++[v]).length*dh=σ.O.length*dh+dh:=by rw [Xh,XE,Nat.succ_mul]
 refine⟨?_,fun u f=>?_,fun u p f=>?_,fun u=>⟨?_,?_⟩,fun u f=>?_,fun u f=>?_⟩
 . show(σ.O++[v]).Nodup
   rw [List.nodup_append]
   exact⟨h.nd,by simp,fun a q b j e=>m (by simp at j;subst j;subst e;exact q)⟩
 . rcases List.mem_append.1 f with f|f
   . exact h.lt u f
   . simp at f;subst f;exact l
 . simp only [dl,cL]at f⊢
   split at f
   . cases f
   . rename_i e
     obtain⟨a,b,c,d⟩:=h.op u p f
     exact⟨a,by simp [b,e],c,d⟩
 . show σ.L u<=(σ.O++[v]).length*dh
   rw [o];have:=(h.bd u).1;omega
 . show(σ.P u).length<=(σ.O++[v]).length
   have:=(h.bd u).2;simp;omega
 . rcases List.mem_append.1 f with f|f
   . exact h.pc u f
   . simp at f;subst f;exact n
 . have g:u∈σ.O\/σ.K u≠none:=by
    by_cases e:u=v
    . subst e;exact .inr (by rw [i];nofun)
    . simpa [dl,cL,e]using f
   rcases h.path u g with r|⟨b,t,w,x,y,z,B⟩
   . exact .inl r
   . exact .inr ⟨b,t,w,x,Xj _ y,z,B⟩
def Room(σ:SS)(v:Nat):Prop:=v∈σ.O/\σ.L v+dh<=σ.O.length*dh/\(σ.P v).length+1<=σ.O.length
theorem Room.keeps{d:SS}{v:Nat}(r:Room σ v)(k:kQ σ d):Room d v:=by
 obtain⟨a,b,c⟩:=r
 exact⟨by rw [k.O];exact a,by rw [k.O,k.L v a];exact b,by rw [k.O,k.P v a];exact c⟩
theorem Sv.room(h:Sv A N s al pi σ)(v:Nat):Room (dl σ v) v:=by
 have:=h.bd v
 refine⟨Xg _ (by simp),?_,?_⟩
 . show σ.L v+dh<=(σ.O++[v]).length*dh
   rw [Xh,XE,Nat.succ_mul];omega
 . show(σ.P v).length+1<=(σ.O++[v]).length
   simp;omega
theorem Sv.scan1(h:Sv A N s al pi σ)(e: ∀a∈A,a.t<N/\a.w<=dh){v a:Nat}(r:Room σ v)(b:a<A.length)(f:(A.getD a default).s=v):Sv A N s al pi (scan1 A al pi v σ a)/\kQ σ (scan1 A al pi v σ a):=by
 unfold Ab.scan1
 split
 . rename_i c
   obtain⟨g,l,i⟩:=r
   have j:=e (A.getD a default) (by rw [Xm,Xo b];exact XB b)
   subst f
   obtain⟨k,d⟩:=(h.evS ⟨1,a,0⟩).reach (p:=a::σ.P (A.getD a default).s) (lab:=σ.L (A.getD a default).s+(A.getD a default).w) b c rfl j.1 g rfl rfl (by show _<=σ.O.length*dh;omega) (by show(σ.P _).length+1<=σ.O.length;exact i)
   exact⟨k,⟨d.O,d.L,d.P⟩⟩
 . exact⟨h,.refl⟩
theorem Sv.scanL(d: ∀a∈A,a.t<N/\a.w<=dh){v:Nat}: ∀(l:List Nat) {σ:SS},Sv A N s al pi σ->Room σ v->(∀a∈l,a<A.length/\(A.getD a default).s=v)->Sv A N s al pi (l.foldl (Ab.scan1 A al pi v) σ)/\kQ σ (l.foldl (Ab.scan1 A al pi v) σ)
 | [],_,h,_,_=>⟨h,.refl⟩
 | a::l,σ,h,r,c=>by
   obtain⟨f,e⟩:=h.scan1 d r (c a (by simp)).1 (c a (by simp)).2
   obtain⟨g,i⟩:=Sv.scanL d l f (r.keeps e) (fun b j=>c b (by simp [j]))
   exact⟨g,e.trans i⟩
theorem Sv.next(h:Sv A N s al pi σ)(b: ∀a∈A,a.t<N/\a.w<=dh){v:Nat}{k:Int}(c:σ.K v=some k):Sv A N s al pi (po A al pi v (dl σ v))/\kQ (dl σ v) (po A al pi v (dl σ v)):=
 Sv.scanL b _ (h.close c) (h.room v) (fun _ d=>iQ.1 d)

def InH(A:List Arc)(al:Nat->Bool)(pi:Nat->Int)(a:Nat):Prop:=al a=true/\pi (A.getD a default).s<(FAR:Int)/\pi (A.getD a default).t<(FAR:Int)
instance (a:Nat):Decidable (InH A al pi a):=by unfold InH;infer_instance
def oS(A:List Arc)(al:Nat->Bool)(pi:Nat->Int):List Arc:=((Xc A.length).filter fun a=>decide (InH A al pi a)).map fun a=>A.getD a default
theorem wo{a:Arc}:a∈oS A al pi↔ ∃i,i<A.length/\InH A al pi i/\A.getD i default=a:=by
 unfold oS
 simp only [List.mem_map,List.mem_filter,List.mem_range,decide_eq_true_eq,and_assoc]
def Feas(A:List Arc)(al:Nat->Bool)(pi:Nat->Int):Prop:= ∀i,i<A.length->InH A al pi i->pi (A.getD i default).s<=(A.getD i default).w+pi (A.getD i default).t
theorem Sv.wk(h:Sv A N s al pi σ): ∀(n:Nat) {v:Nat},(σ.P v).length<=n->(v∈σ.O\/σ.K v≠none)->Wk (oS A al pi) s v (σ.L v):=by
 have i: ∀v,(v∈σ.O\/σ.K v≠none)->pi v<(FAR:Int):=fun v b=>b.elim (h.pc v) (fun b=>by
  cases d:σ.K v with
  |none=>exact absurd d b
  |some k=>exact(h.op v k d).2.2.1)
 intro n
 induction n with
 | zero=>
   intro v c b
   rcases h.path v b with⟨rfl,_,e⟩|⟨a,_,_,_,_,e,_⟩
   . rw [e];exact .nil
   . rw [e]at c;simp at c
 | succ n j=>
   intro v c b
   rcases h.path v b with⟨rfl,_,e⟩|⟨a,l,m,f,g,o,p⟩
   . rw [e];exact .nil
   . rw [o]at c
     rw [p]
     exact Wk.snoc' (j (v:=(A.getD a default).s) (by simpa using c) (.inl g)) (wo.2 ⟨a,l,⟨m,h.pc _ g,by rw [f];exact i v b⟩,rfl⟩) rfl f rfl
structure Fe(A:List Arc)(s:Nat)(al:Nat->Bool)(pi:Nat->Int)(σ:SS)(ex:Nat->Prop):Prop where
 opt: ∀v∈σ.O,∀w,Wk (oS A al pi) s v w->σ.L v<=w
 fr: ∀a,a<A.length->InH A al pi a->(A.getD a default).s∈σ.O-> ¬ex a->(A.getD a default).t∈σ.O\/(σ.K (A.getD a default).t≠none/\σ.L (A.getD a default).t<=σ.L (A.getD a default).s+(A.getD a default).w)
 st:s∈σ.O\/(σ.K s≠none/\σ.L s=0)
theorem Fe.front(f:Fe A s al pi σ (fun _=>False))(h:Sv A N s al pi σ)(j:Feas A al pi){x w:Nat}(k:Wk (oS A al pi) s x w):x∈σ.O\/ ∃y,σ.K y≠none/\(σ.L y:Int)+pi y<=w+pi x:=by
 induction k with
 |nil=>exact f.st.imp (fun h=>h) (fun⟨a,b⟩=>⟨s,a,by rw [b];omega⟩)
 | @snoc w a l m d=>
   obtain⟨i,e,g,rfl⟩:=wo.1 l
   have o:=j i e g
   rcases d with d|⟨y,c,n⟩
   . rcases f.fr i e g d (fun h=>h)with c|⟨c,n⟩
     . exact .inl c
     . have:=f.opt _ d _ m
       exact .inr ⟨_,c,by omega⟩
   . exact .inr ⟨y,c,by omega⟩
theorem Fe.popped(f:Fe A s al pi σ (fun _=>False))(h:Sv A N s al pi σ)(m:Feas A al pi){v:Nat}{k:Int}(e:Pops σ.K v k):
 (∀w,Wk (oS A al pi) s v w->σ.L v<=w)/\ ∀x w,x∉σ.O->Wk (oS A al pi) s x w->(σ.L v:Int)+pi v<=w+pi x:=by
 have d: ∀x w,x∉σ.O->Wk (oS A al pi) s x w->(σ.L v:Int)+pi v<=w+pi x:=fun x w n g=>by
  rcases f.front h m g with i|⟨y,i,o⟩
  . exact absurd i n
  . cases j:σ.K y with
    |none=>exact absurd j i
    | some l=>
      have a:=(h.op y l j).2.2.2
      have b:=(h.op v k e.1).2.2.2
      have c:=e.2 y l j
      omega
 refine⟨fun w g=>?_,d⟩
 have:=d v w (h.op v k e.1).2.1 g
 omega
theorem Fe.close(f:Fe A s al pi σ (fun _=>False))(h:Sv A N s al pi σ)(i:Feas A al pi){v:Nat}{k:Int}(j:Pops σ.K v k):Fe A s al pi (dl σ v) (fun a=>(A.getD a default).s=v):=by
 have l:=(f.popped h i j).1
 refine⟨fun u c=>?_,fun a m n d o=>?_,?_⟩
 . rcases List.mem_append.1 c with c|c
   . exact f.opt u c
   . simp at c;subst c;exact l
 . rcases List.mem_append.1 d with d|d
   . rcases f.fr a m n d (fun h=>h)with b|⟨b,g⟩
     . exact .inl (Xj _ b)
     . by_cases e:(A.getD a default).t=v
       . exact .inl (Xg _ (List.mem_singleton.2 e))
       . exact .inr ⟨by simp only [dl,cL];rw [if_neg e];exact b,g⟩
   . simp at d;exact absurd d o
 . rcases f.st with b|⟨b,g⟩
   . exact .inl (Xj _ b)
   . by_cases e:s=v
     . exact .inl (Xg _ (List.mem_singleton.2 e))
     . exact .inr ⟨by simp only [dl,cL];rw [if_neg e];exact b,g⟩
theorem Fe.reach{t ex':Nat->Prop}(f:Fe A s al pi σ t){a v lab:Nat}{p:List Nat}(n:(A.getD a default).t=v)(B:lab=σ.L (A.getD a default).s+(A.getD a default).w)(o: ∀b,¬ex' b-> ¬t b\/(b=a)):Fe A s al pi (d7 pi σ v lab p) ex':=by
 unfold d7
 split
 . rename_i h
   refine⟨f.opt,fun b l i j g=>?_,f.st⟩
   rcases o b g with c|rfl
   . exact f.fr b l i j c
   . rw [n]
     rcases h with h|h|⟨c,d⟩
     . exact .inl h
     . have:=i.2.2;rw [n]at this;omega
     . exact .inr ⟨fun e=>(by rw [e]at c;cases c),by omega⟩
 . rename_i h
   simp only [not_or]at h
   obtain⟨w,C,y⟩:=h
   have x:=fun c d=>y ⟨c,d⟩
   have q: ∀u∈σ.O,u≠v:=fun u m e=>w (by subst e;exact m)
   refine⟨fun u m=>?_,fun b l i j g=>?_,?_⟩
   . simp only [c8,if_neg (q u m)];exact f.opt u m
   . simp only [c8,cL,if_neg (q _ j)]
     by_cases e:(A.getD b default).t=v
     . right
       simp only [e,if_true]
       refine⟨by nofun,?_⟩
       rcases o b g with c|rfl
       . rcases f.fr b l i j c with d|⟨d,z⟩
         . rw [e]at d;exact absurd d w
         . rw [e]at d z
           have: ¬σ.L v<=lab:=x (by cases r:σ.K v with|none=>exact absurd r d|some k=>rfl)
           omega
       . omega
     . simp only [if_neg e]
       rcases o b g with c|rfl
       . exact f.fr b l i j c
       . exact absurd n e
   . rcases f.st with c|⟨c,d⟩
     . exact .inl c
     . by_cases e:s=v
       . subst e
         have: ¬σ.L s<=lab:=x (by cases r:σ.K s with|none=>exact absurd r c|some k=>rfl)
         omega
       . exact .inr ⟨by simp only [cL,if_neg e];exact c,by simp only [c8,if_neg e];exact d⟩
theorem Fe.exm{b ex':Nat->Prop}(f:Fe A s al pi σ b)(h: ∀a,a<A.length->b a->ex' a):Fe A s al pi σ ex':=
 ⟨f.opt,fun a c d e g=>f.fr a c d e (fun i=>g (h a c i)),f.st⟩
theorem Fe.scan1{e ex':Nat->Prop}(f:Fe A s al pi σ e){a v:Nat}(j:(A.getD a default).s=v)(g: ∀b,¬ex' b-> ¬e b\/(b=a)):Fe A s al pi (scan1 A al pi v σ a) ex':=by
 unfold Ab.scan1
 split
 . subst j
   exact Fe.reach (σ:=evS σ ⟨1,a,0⟩) ⟨f.opt,f.fr,f.st⟩ rfl rfl g
 . rename_i c
   refine⟨f.opt,fun b k i l d=>?_,f.st⟩
   rcases g b d with h|rfl
   . exact f.fr b k i l h
   . exact absurd i.1 c
theorem Fe.scanL{v:Nat}: ∀(l:List Nat) {σ:SS},Fe A s al pi σ (· ∈l)->(∀a∈l,(A.getD a default).s=v)->Fe A s al pi (l.foldl (Ab.scan1 A al pi v) σ) (fun _=>False)
 | [],_,f,_=>f.exm (fun a _ h=>by cases h)
 |a::l,σ,f,d=>Fe.scanL l (f.scan1 (a:=a) (d a (by simp)) (fun b c=>by by_cases e:b=a;exact .inr e;exact .inl (by simp [e,c]))) (fun b c=>d b (by simp [c]))
theorem Fe.next(f:Fe A s al pi σ (fun _=>False))(h:Sv A N s al pi σ)(c:Feas A al pi){v:Nat}{k:Int}(d:Pops σ.K v k):Fe A s al pi (po A al pi v (dl σ v)) (fun _=>False):=
 Fe.scanL _ ((f.close h c d).exm fun a b e=>iQ.2 ⟨b,e⟩) (fun a b=>(iQ.1 b).2)
theorem Wk.mono{B C:List Arc}(b: ∀a∈B,a∈C){v w:Nat}(h:Wk B s v w):Wk C s v w:=by
 induction h with
 |nil=>exact .nil
 |snoc c _ d=>exact .snoc (b _ c) d
theorem IsD.congr{B C:List Arc}(d: ∀a,a∈B↔a∈C){v x:Nat}(h:IsD B s v x):IsD C s v x:=by
 rcases h with⟨a,b,c⟩|⟨a,b⟩
 . exact .inl ⟨a,b.mono fun a=>(d a).1,fun w e=>c w (e.mono fun a=>(d a).2)⟩
 . exact .inr ⟨a,fun w e=>b w (e.mono fun a=>(d a).2)⟩
end
end Go.Ab

end
section
namespace Go.Ab
open Go.Proofs
set_option maxRecDepth 10000
def Tryz.Fi:=aj t1<|aj t2<|aj t3<|aj t4<|aj t5<|aj t6<|aj t24<|aj t32<|aj t33<|aj t45<|aj t48<|aj t74<|aj Z14<|aj Z1<|aj t196<|aj t217<|aj t237<|aj t275<|aj Z20<|aj Z7<|Z8
def labC(N:Nat)(L:Nat->Nat):List Value:=(Xc N).map fun v=>.int .i64 (L v:Nat)
def byI:List Nat->Int
 | []=> -1
 |a::_=>(a:Nat)
def byC(N:Nat)(P:Nat->List Nat):List Value:=(Xc N).map fun v=>.int .i64 (byI (P v))
def clC(N:Nat)(O:List Nat):List Value:=(Xc N).map fun v=>.bool (decide (v∈O))
theorem sF{N v:Nat}{L:Nat->Nat}(h:v<N):(labC N L)[v]? =some (.int .i64 (L v:Nat)):=jj (F:=fun v=>Value.int .i64 ((L v:Nat):Int)) h
theorem byC_at{N v:Nat}{P:Nat->List Nat}(h:v<N):(byC N P)[v]? =some (.int .i64 (byI (P v))):=jj (F:=fun v=>Value.int .i64 (byI (P v))) h
theorem clC_at{N v:Nat}{O:List Nat}(h:v<N):(clC N O)[v]? =some (.bool (decide (v∈O))):=jj (F:=fun v=>Value.bool (decide (v∈O))) h
theorem xW{N:Nat}{L:Nat->Nat}:(labC N L).length=N:=by simp [labC]
theorem byC_len{N:Nat}{P:Nat->List Nat}:(byC N P).length=N:=by simp [byC]
theorem clC_len{N:Nat}{O:List Nat}:(clC N O).length=N:=by simp [clC]
theorem labC_set{N v x:Nat}{L:Nat->Nat}:(labC N L).set v (.int .i64 (x:Nat))=labC N (c8 L v x):=by
 have:=iT (N:=N) (k:=v) (F:=fun v=>Value.int .i64 ((L v:Nat):Int)) (F':=fun u=>Value.int .i64 ((c8 L v x u:Nat):Int)) (fun i _ a=>by simp [c8,a])
 unfold labC
 rw [<-this];simp [c8]
theorem byC_set{N v:Nat}{P:Nat->List Nat}{p:List Nat}:(byC N P).set v (.int .i64 (byI p))=byC N (ky P v p):=by
 have:=iT (N:=N) (k:=v) (F:=fun v=>Value.int .i64 (byI (P v))) (F':=fun u=>Value.int .i64 (byI (ky P v p u))) (fun i _ a=>by simp [ky,a])
 unfold byC
 rw [<-this];simp [ky]
theorem clC_set{N v:Nat}{O:List Nat}:(clC N O).set v (.bool true)=clC N (O++[v]):=by
 have:=iT (N:=N) (k:=v) (F:=fun v=>Value.bool (decide (v∈O))) (F':=fun u=>Value.bool (decide (u∈O++[v]))) (fun i _ a=>by simp [a])
 unfold clC
 rw [<-this];simp
def srL(f c d e N:Nat)(g p a b vE:Value)(σ:SS):List (Nat×Ob):=
 [(f,.row [g,p,.slice (some ⟨c,0,none⟩) N N,.slice (some ⟨d,0,none⟩) N N,.slice (some ⟨e,0,none⟩) N N,a,b,vE] 1),(c,.row (labC N σ.L) 1),(d,.row (byC N σ.P) 1),(e,.row (clC N σ.O) 1)]
def srG(vE:Value)(σ:SS):List GL:=[(vE,4,σ.ev.flatMap jx)]
def fo(h:Hp)(B:List Nat)(e:Nat)(f a b:Value)(N:Nat)(σ:SS):Prop:=
 ∃g i j p F d,B=keys (srL e g i j N f (ptrTo p) a b d σ) (srG d σ)++F/\(∀q∈srL e g i j N f (ptrTo p) a b d σ,Has h q.1 q.2)/\eZ h (d,4,σ.ev.flatMap jx)/\(keys (srL e g i j N f (ptrTo p) a b d σ) (srG d σ)).Nodup/\cN h F (ptrTo p) N σ.K/\ ∀c∈F,c∉keys (srL e g i j N f (ptrTo p) a b d σ) (srG d σ)
theorem St.ofHas{M:Nat->Prop}{h:Hp}{L:List (Nat×Ob)}{G:List GL}(e:h.t.Sized h.n)(f: ∀q∈L,Has h q.1 q.2)(g: ∀p∈G,eZ h p)(i:(keys L G).Nodup)(d: ∀c∈keys L G,M c):St M h h L G:=
 ⟨Mo.refl e,fun p a=>⟨.inr (d _ (i7 a)),f p a⟩,fun p a=>⟨g p a,fun b j=>.inr (d _ (fI a j))⟩,i⟩
theorem fo.mo{M:Nat->Prop}{h f:Hp}{B:List Nat}{i N:Nat}{j a c:Value}{σ:SS}(r:fo h B i j a c N σ)(g:Mo M h f)(e: ∀b∈B,¬M b):fo f B i j a c N σ:=by
 obtain⟨n,o,s,p,F,k,rfl,t,l,u,v,w⟩:=r
 refine⟨n,o,s,p,F,k,rfl,fun q m=>g.has (t q m) (e _ (Xj _ (i7 m))),l.of_get fun b d=>g.get b (l.lt g.ok0 d) (e b (Xj _ (fI (p:=(k,4,σ.ev.flatMap jx)) m0 d))),u,v.mo g (fun b d=>e b (Xg _ d)),w⟩
theorem fo.gr{h c:Hp}{B:List Nat}{d N:Nat}{e a b:Value}{σ:SS}(r:fo h B d e a b N σ)(g:Gr h c):fo c B d e a b N σ:=r.mo (M:=NoM) g.fr (fun _ _ h=>h)
theorem fo.lt{h:Hp}(e:h.t.Sized h.n){B:List Nat}{f N:Nat}{g b d:Value}{σ:SS}(r:fo h B f g b d N σ): ∀c∈B,c<h.n:=by
 obtain⟨n,o,q,p,F,s,rfl,i,j,k,l,t⟩:=r
 intro c a
 rcases List.mem_append.1 a with a|a
 . exact(St.ofHas (M:=fun _=>True) e i (fun p m=>by cases m with|head=>exact j|tail _ h=>cases h) k (fun _ _=>trivial)).key_lt a
 . exact l.lt e c a
theorem Gr.mo'{hq h a:Hp}{B:List Nat}(g:Gr hq h)(f:Mo (· ∈B) h a)(b: ∀c∈B,hq.n<=c):Gr hq a:=((g.fr (M:=NoM)).trans f (fun i d=>.inr (b i d))).gr
def PiF(E:Env)(hq:Hp)(g:FuncId)(a N:Nat)(pi:Nat->Int):Prop:= ∀h,Gr hq h-> ∀v,v<N->aK E g [.int .i64 (v:Nat),ptrTo a] h (.int .i64 (pi v))
def AlF(E:Env)(hq:Hp)(g:FuncId)(b n:Nat)(al:Nat->Bool):Prop:= ∀h,Gr hq h-> ∀a,a<n->aK E g [.int .i64 (a:Nat),ptrTo b] h (.bool (al a))
theorem we {hq h0:Hp} (gq:Gr hq h0) {B:List Nat} {d N x v lab:Nat} {p:List Nat} {y:FuncId} {z j:Value} {σ:SS} {pi:Nat->Int} (R:fo h0 B d z j (.func (.func y) #[] #[ptrTo x]) N σ) (ad:PiF zM hq y x N pi) (hN:N<=12) (l:v<N) (hl:lab<=12*dh)
 (hp: -(FAR:Int)<=pi v) (hk: ∀k,σ.K v=some k->k=σ.L v+pi v):
 Ret zM 217 [ptrTo d,.int .i64 (v:Nat),.int .i64 (lab:Nat),.int .i64 (byI p)] h0 fun _ A=>Mo (· ∈B) h0 A/\ ∃G,fo A G d z j (.func (.func y) #[] #[ptrTo x]) N (d7 pi σ v lab p)/\ ∀c∈G,c∈B\/h0.n<=c:=by
 have ok:=gq.ok
 have R0:=R
 obtain⟨t,w,C,I,F,u,rfl,hL,hG,nd,H,hF⟩:=R
 have S:=St.ofHas (M:=fun c=>c∈keys (srL d t w C N z (ptrTo I) j (.func (.func y) #[] #[ptrTo x]) u σ) (srG u σ)++F) ok hL (fun p hp=>by cases hp with|head=>exact hG|tail _ h=>cases h) nd (fun c a=>Xj _ a)
 have fr:=mR
 have wm:=om
 have m:d7 pi σ v lab p=σ-> ∀h,Gr h0 h->Mo (· ∈keys (srL d t w C N z (ptrTo I) j (.func (.func y) #[] #[ptrTo x]) u σ) (srG u σ)++F) h0 h/\ ∃G,fo h G d z j (.func (.func y) #[] #[ptrTo x]) N (d7 pi σ v lab p)/\ ∀c∈G,c∈keys (srL d t w C N z (ptrTo I) j (.func (.func y) #[] #[ptrTo x]) u σ) (srG u σ)++F\/h0.n<=c:=
  fun e h g=>⟨g.fr,_,by rw [e];exact R0.gr g,fun c a=>.inl a⟩
 generalize J:keys (srL d t w C N z (ptrTo I) j (.func (.func y) #[] #[ptrTo x]) u σ) (srG u σ)++F=BB at S m
 have W: ∀c∈F,c∈BB\/h0.n<=c:=fun c a=>.inl (by rw [<-J];exact Xg _ a)
 unfold srL srG at S
 have lF:=H.lt ok
 have ll:=fun {b} hb=>S.key_lt (b:=b) hb
 refine ac (n:=86) (rs:=[]) rfl Tryz.e217 rfl rfl rfl (lbt rfl) ?_
 simp only [BS,LB,Nat.reduceLT,Nat.reduceEqDiff,Fi,S.ld (b:=d) (o:=6) m0 rfl]
 refine am (ad _ gq v l) ?_;intro h g;replace S:=S.call g;replace H:=H.gr g
 simp only [BS,LB,Nat.reduceLT,Nat.reduceEqDiff,Fi,S.ld (b:=d) (o:=1) m0 rfl]
 refine am (uU S.ok H) ?_;intro A g';replace S:=S.call g';replace H:=H.gr g';replace g:=g.trans g';clear g' h
 have n0:=g.n
 have K:=(S.row (b:=C) m3).load1 (clC_at (O:=σ.O) l)
 have lL:=(S.row (b:=t) m1).load1 (sF (L:=σ.L) l)
 by_cases hO:v∈σ.O
 . have U:decide (v∈σ.O)=true:=decide_eq_true hO
   simp only [BS,LB,Nat.reduceLT,Nat.reduceEqDiff,Fi,l,K,U,S.ld (b:=d) (o:=4) m0 rfl,S.ld (b:=d) (o:=2) m0 rfl]
   exact m (by unfold d7;rw [if_pos (.inl hO)]) _ g
 . have U:decide (v∈σ.O)=false:=decide_eq_false hO
   by_cases X:(FAR:Int)<=pi v
   . have Y:(72057594037927936:Int)<=pi v:=by omega
     simp only [BS,LB,Nat.reduceLT,Nat.reduceEqDiff,Fi,l,K,U,Y,S.ld (b:=d) (o:=4) m0 rfl,S.ld (b:=d) (o:=2) m0 rfl]
     exact m (by unfold d7;rw [if_pos (.inr (.inl X))]) _ g
   . have Y: ¬(72057594037927936:Int)<=pi v:=by omega
     have wl:an .i64 ((lab:Int)+pi v)=(lab:Int)+pi v:=by rw [wrap64]<;>omega
     have Z: ¬((σ.K v).isSome=true/\σ.L v<=lab)-> ∀(A:Hp) (s:List Nat),St (· ∈BB) h0 A [(d,.row [z,ptrTo I,.slice (some ⟨t,0,none⟩) N N,.slice (some ⟨w,0,none⟩) N N,.slice (some ⟨C,0,none⟩) N N,j,.func (.func y) #[] #[ptrTo x],u] 1),(t,.row ((labC N σ.L).set v (.int .i64 (lab:Nat))) 1),(w,.row ((byC N σ.P).set v (.int .i64 (byI p))) 1),(C,.row (clC N σ.O) 1)] [(u,4,σ.ev.flatMap jx)]->
      cN A s (ptrTo I) N (cL σ.K v (some ((lab:Int)+pi v)))->(∀c∈s,c∈F\/h0.n<=c)->Mo (· ∈BB) h0 A/\ ∃G,fo A G d z j (.func (.func y) #[] #[ptrTo x]) N (d7 pi σ v lab p)/\ ∀c∈G,c∈BB\/h0.n<=c:=by
      intro a A s T H' f
      rw [labC_set,byC_set]at T
      refine⟨T.fr,keys (srL d t w C N z (ptrTo I) j (.func (.func y) #[] #[ptrTo x]) u σ) (srG u σ)++s,?_,fun c a=>?_⟩
      . unfold d7
        rw [if_neg (by simp only [not_or];exact⟨hO,X,a⟩)]
        refine⟨t,w,C,I,s,u,rfl,fun q hq=>(T.own q hq).2,(T.gown _ m0).1,T.apart,H',fun c a hm=>?_⟩
        rcases f c a with D|D
        . exact hF c D hm
        . have:=ll (b:=c) hm;omega
      . rcases List.mem_append.1 a with a|a
        . exact .inl (by rw [<-J];exact Xj _ a)
        . rcases f c a with D|D
          . exact .inl (by rw [<-J];exact Xg _ D)
          . exact .inr D
     have E: ∀s:List Nat,(∀c∈s,c∈F\/h0.n<=c)-> ∀c∈s,¬(c=t)/\ ¬(c=w):=fun s h c a=>by
      rcases h c a with D|D
      . have:=hF c D
        simp [srL,keys]at this
        exact⟨this.2.1,this.2.2.1⟩
      . have h2:=ll (b:=t) (by simp [keys])
        have h3:=ll (b:=w) (by simp [keys])
        exact⟨fun e=>by omega,fun e=>by omega⟩
     have ap:=S.apart
     have n1:d≠t:=fun e=>by subst e;simp [keys]at ap
     have n2:d≠w:=fun e=>by subst e;simp [keys]at ap
     have n3:t≠w:=fun e=>by subst e;simp [keys]at ap
     clear ap
     cases V:σ.K v with
     | none=>
       simp only [BS,LB,Nat.reduceLT,Nat.reduceEqDiff,Fi,l,K,U,Y,XC,Xy,wl,S.ld (b:=d) (o:=4) m0 rfl,S.ld (b:=d) (o:=2) m0 rfl,S.ld (b:=d) (o:=1) m0 rfl]
       refine step_ret (pL S.ok H l (by omega) V) ?_
       rintro r h2 ⟨f2,s,H2,f⟩
       replace S:=S.stepF f2 (fun c a=>⟨W c a,hF c a⟩)
       replace f: ∀c∈s,c∈F\/h0.n<=c:=fun c a=>(f c a).imp (fun h=>h) (fun h=>Xd n0 h)
       clear K lL
       simp only [BS]
       refine aw (aB rfl) (q:=0) (ps:=[]) (by kernel_rfl) ?_
       simp only [BS,LB,cls,Nat.reduceLT,Nat.reduceEqDiff,Nat.reduceAdd,Nat.reducePow,Nat.reduceDiv,Nat.reduceMod,Nat.reduceLeDiff,Fi,l,S.ld (b:=d) (o:=2) m0 rfl,S.ld (b:=d) (o:=3) m0 rfl]
       refine dw (az S (i:=1) rfl Tryz.t2.2.2.1 bU (by rw [xW];exact l) ono) ?_
       clear S;rintro h3 ⟨S,P⟩
       simp only [LC]at S
       simp only [BS,LB,cls,Nat.reduceLT,Nat.reduceEqDiff,Nat.reduceAdd,Nat.reducePow,Nat.reduceDiv,Nat.reduceMod,Nat.reduceLeDiff,Fi,l]
       refine dw (az S (i:=2) rfl Tryz.t3.2.2.1 bU (by rw [byC_len];exact l) ono) ?_
       clear S;rintro h4 ⟨S,Q⟩
       simp only [LC]at S
       simp only [BS,LB,Nat.reduceAdd]
       exact Z (by rw [V];simp) _ s S ((H2.mo P (fun c a=>(E s f c a).1)).mo Q (fun c a=>(E s f c a).2)) f
     | some k=>
       have ek:=hk k V
       by_cases hle:σ.L v<=lab
       . have c2:(σ.L v:Int)<=(lab:Int):=by omega
         simp only [BS,LB,Nat.reduceLT,Nat.reduceEqDiff,Fi,l,K,U,lL,Y,XD,c2,S.ld (b:=d) (o:=4) m0 rfl,S.ld (b:=d) (o:=2) m0 rfl]
         exact m (by unfold d7;rw [if_pos (.inr (.inr ⟨by rw [V];rfl,hle⟩))]) _ g
       . have c2: ¬(σ.L v:Int)<=(lab:Int):=by omega
         simp only [BS,LB,Nat.reduceLT,Nat.reduceEqDiff,Fi,l,K,U,lL,Y,XD,c2,wl,S.ld (b:=d) (o:=4) m0 rfl,S.ld (b:=d) (o:=2) m0 rfl,S.ld (b:=d) (o:=1) m0 rfl]
         refine step_ret (q9 S.ok H (by omega) V (k:=(lab:Int)+pi v) (by omega)) ?_
         rintro r h2 ⟨f2,H2⟩
         replace S:=S.stepF f2 (fun c a=>⟨W c a,hF c a⟩)
         have f: ∀c∈F,c∈F\/h0.n<=c:=fun c a=>.inl a
         clear K lL
         simp only [BS]
         refine aw (aB rfl) (q:=0) (ps:=[]) (by kernel_rfl) ?_
         simp only [BS,LB,cls,Nat.reduceLT,Nat.reduceEqDiff,Nat.reduceAdd,Nat.reducePow,Nat.reduceDiv,Nat.reduceMod,Nat.reduceLeDiff,Fi,l,S.ld (b:=d) (o:=2) m0 rfl,S.ld (b:=d) (o:=3) m0 rfl]
         refine dw (az S (i:=1) rfl Tryz.t2.2.2.1 bU (by rw [xW];exact l) ono) ?_
         clear S;rintro h3 ⟨S,P⟩
         simp only [LC]at S
         simp only [BS,LB,cls,Nat.reduceLT,Nat.reduceEqDiff,Nat.reduceAdd,Nat.reducePow,Nat.reduceDiv,Nat.reduceMod,Nat.reduceLeDiff,Fi,l]
         refine dw (az S (i:=2) rfl Tryz.t3.2.2.1 bU (by rw [byC_len];exact l) ono) ?_
         clear S;rintro h4 ⟨S,Q⟩
         simp only [LC]at S
         simp only [BS,LB,Nat.reduceAdd]
         exact Z (by rw [V];simp;omega) _ F S ((H2.mo P (fun c a=>(E F f c a).1)).mo Q (fun c a=>(E F f c a).2)) f
end Go.Ab
end

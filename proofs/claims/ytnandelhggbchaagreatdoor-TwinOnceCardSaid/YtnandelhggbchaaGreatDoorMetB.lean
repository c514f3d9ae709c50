/- Nets, cells, flags: what the functions do (part 2). -/
import Derived.Test.YtnandelhggbchaaGreatDoorMetA
open Go.Ab.Tryz
open Go.Ab.Tryz renaming abEnv->zM,e3E->XJ,e99E->XN,e2E->XV,e344E->XY
open Nat renaming lt_of_succ_le->zN,mul_one->Xh,zero_add->Xk,le_trans->Xl,zero_mul->Xq,one_mul->Xs,ble_eq_true_of_le->Xz,le_refl->XI,sub_self->XP,le_total->XQ,zero_le->X9
open List renaming range->Xa,take->Xb,drop->Xc,replicate->Xd,getD_eq_getElem?_getD->Xf,flatMap_eq_foldl->Xg,getElem?_eq_none->Xj,getElem?_eq_getElem->Xm,length_set->Xo,length_append->Xp,mem_append_left->Xr,append_nil->Xt,mem_append_right->Xu,flatMap_append->Xv,ext_getElem?->Xx,getElem?_map->Xy,mem_of_getElem?->XA,getElem_mem->XB,map_eq_flatMap->XE,drop_zero->XG,getElem?_set->XH,length_singleton->XK,take_append_of_le_length->XL,take_succ_cons->XM,map_cons->XO,getElem?_cons_zero->XR,getElem?_cons_succ->XS,take_zero->XU,getElem?_append->XW,getElem?_range->XZ,take_replicate->X6,replicate_zero->X7,map_nil->X8
open Int renaming cast_ofNat_Int->Xe,toNat_natCast->Xn,ofNat_eq_natCast->XX
open Bool renaming and_true->Xi
open Option renaming map_some->Xw,getD_none->XC,getD_some->XD,isSome_none->XF,map_none->XT
set_option maxHeartbeats 4000000
set_option linter.defProp false
set_option linter.unusedVariables false
set_option linter.unusedSimpArgs false
section
namespace Go.Ab
open Go.Proofs
set_option maxRecDepth 10000
def Tryz.F7:=aj t1<|aj t2<|aj t3<|aj t4<|aj t5<|aj t6<|aj Z3<|aj Z4<|aj t9<|aj t10<|aj t11<|aj t12<|aj Z12<|aj Z15<|aj t15<|aj t16<|aj t17<|aj Z20<|aj t19<|aj r19<|aj t20<|aj t21<|aj t22<|aj t23<|aj t24<|aj t29<|aj Z0<|aj t36<|aj t38<|aj r38<|aj Z2<|aj t181<|aj t271<|aj t358<|aj Z16<|aj t372<|aj t374<|aj t376<|aj t377<|aj t378<|aj t379<|Z13
def ints(l:List Int):List Value:=l.flatMap (encI .i64)
theorem cC(l:List Int):(ints l).length=l.length:=by unfold ints;rw [bw (k:=1) (fun _=>rfl)];omega
theorem kA(l m:List Int):ints (l++m)=ints l++ints m:=by unfold ints;rw [Xv]
theorem raw0_ok {h0:Hp} (ok:h0.t.Sized h0.n) {B:Nat} {V:Value} {xs:List Int} (hr:Row h0 B [V,.int .i64 ((0:Nat):Int)] 1) (P:DrAt h0 B V xs 0):
 Ret zM 9 [ptrTo B] h0 fun v h'=>Mo (· =B) h0 h'/\ ∃γ vx vy va,v=iF γ vx vy va/\Good γ/\γ.nodes=1+drV xs 12 0/\dr h' vx vy va γ/\ ∀c,(aq vx c\/aq vy c\/aq va c)->h0.n<=c:=by
 have S:=St.init1 ok (o:=.row [V,.int .i64 ((0:Nat):Int)] 1) hr
 have b1:=hr.lt ok
 refine ab (n:=117) (rs:=[.cell 2 31]) rfl Tryz.e9 rfl rfl rfl (lbt rfl) ?_
 simp only [BS,F7]
 refine ae aA S ?_;clear S;intro h L S bP
 simp only [BS,LB,Nat.reduceLT,Nat.reduceEqDiff]
 refine step_ret (xQ (n:=12) (a:=0) S.ok (S.row m1) (P.mo S.fr (by omega)) (by omega) (by omega)) ?_
 rintro v h ⟨f,r,a0,rfl,b4,b5,R,b6⟩
 replace S:=S.call1 (i:=1) rfl f (o':=.row _ _) R
 simp only [LC]at S
 have w1:an .i64 (1+(r:Int))=((1+r:Nat):Int):=by rw [wrap64]<;>omega
 simp only [BS,LB,Nat.reduceLT,Nat.reduceEqDiff,Nat.reduceAdd,F7,w1]
 refine ae aA S ?_;clear S;intro h s S bT
 simp only [BS,LB,Nat.reduceLT,Nat.reduceEqDiff]
 refine az (S.store (i:=0) rfl ?_ ?_ rfl rfl ?_ ono) ?_
 . exact(by exact Tryz.t7.2.1)
 . exact(by intro x e;cases e)
 . exact lbt rfl
 clear S;rintro h ⟨S,M⟩;clear M;simp only [LC,ah,lay,Xb,Xc,Nat.reduceAdd]at S
 simp only [BS]
 replace S:=((S.nilG (k:=3)).nilG (k:=1)).nilG (k:=1)
 generalize hN:1+r=N at S
 refine bL (fun(i:Nat) g h=>i<=N/\ ∃(a:Nat) (D G:Value) (X Y:List Int),a<=1+2*i/\X.length=i/\Y.length=i/\(∀x∈X,-2147483648<=x/\x<=2147483647)/\(∀x∈Y,-2147483648<=x/\x<=2147483647)/\
  St (· =B) h0 h [(s,.row [.int .i64 N,D,G,.slice none 0 0] 1),(L,.row [.int .i64 0,.slice none 0 0,.slice none 0 0,.slice none 0 0] 1),(B,.row [V,.int .i64 a] 1)] [(D,1,ints X),(G,1,ints Y),(.slice none 0 0,3,[])]/\
  g 0=ptrTo B/\g 2=ptrTo L/\g 3=ptrTo s/\g 4=.int .i64 i) (fun i=>N-i) ?_ 0 _ _ ?_
 . clear S
   intro i T g h ⟨hi,a,D,G,X,Y,ha,lX,lY,cX,cY,S,r,y,d,r4⟩
   by_cases hlt:i<N
   . simp only [BS,LB,Nat.reduceLT,Nat.reduceEqDiff,F7,d,r4,aK,hlt,S.ld (b:=s) (o:=0) m0 rfl]
     refine aB (aG rfl) (q:=32) (ps:=[(1,3)]) (by kernel_rfl) ?_
     simp only [BS,LB,cls,Nat.reduceLT,Nat.reduceEqDiff,Nat.reduceAdd,Nat.reducePow,Nat.reduceDiv,Nat.reduceMod,Nat.reduceLeDiff,F7,r,d,S.ld (b:=s) (o:=1) m0 rfl]
     refine cV (g8 (n:=9) (a:=a) S.ok (S.row m2) (P.mo S.fr (by omega)) (by omega) (by omega)) ?_
     rintro v h ⟨f,r1,a1,rfl,b7,bk,R⟩
     have hl:=S.leaves (c:=s) m0 f (by omega)
     replace S:=S.call1 (i:=2) rfl f (o':=.row _ _) R
     simp only [LC]at S
     have w9:an .i64 ((r1:Int)-3)=(r1:Int)-3:=by rw [wrap64]<;>omega
     simp only [BS,LB,cls,Nat.reduceLT,Nat.reduceEqDiff,Nat.reduceAdd,Nat.reducePow,Nat.reduceDiv,Nat.reduceMod,Nat.reduceLeDiff,w9]
     refine dC (co (by exact Tryz.t24.1) (by exact XV) (by decide) (by rfl)) S ?_;clear S;intro h W S J ad;simp only [LC,bA,bS,ah,Nat.reduceMul,Nat.reduceAdd,Xq,Xk,Xh,Xs]at S
     simp only [BS,LB,cls,Nat.reduceLT,Nat.reduceEqDiff,Nat.reduceAdd,Nat.reducePow,Nat.reduceDiv,Nat.reduceMod,Nat.reduceLeDiff]
     refine jF (S.grow (j:=0) (m:=1) (new:=ints [(r1:Int)-3]) rfl Tryz.t24.1 XV (by decide) Tryz.t24.2.2.2.2.2 (by simp only [aM];rw [S.lds (b:=W) (o:=0) (n:=1*1) m0 (lbt rfl)];rfl) rfl (by decide) rfl (by rw [cC,cC];simp;omega)) ?_
     clear S
     rintro h ax S
     simp only [LC]at S
     replace S:=S.drop1
     rw [<-kA]at S
     have fX:Fl ax:=(S.gown _ m0).1.fl
     simp only [BS,LB,cls,Nat.reduceLT,Nat.reduceEqDiff,Nat.reduceAdd,Nat.reducePow,Nat.reduceDiv,Nat.reduceMod,Nat.reduceLeDiff,F7,d]
     refine dS (aC S (i:=0) rfl ?_ ?_ ?_ ono) ?_
     . exact(by simp only [F7])
     . exact(by assumption)
     . exact zN (lbt rfl)
     clear S;rintro h ⟨S,M⟩;clear M;simp only [LC,ah,lay,Xb,Xc,Nat.reduceAdd]at S
     simp only [BS,Nat.reduceAdd]
     refine⟨by simp only [bn,bE,aT,bJ,aV,ne_eq,not_false_eq_true,bK,bZ,bg,aX,cb,cM,aO,Nat.reduceLT,Nat.reduceEqDiff,reduceIte,Xi,d,ag,av hl],?_⟩
     refine aB (aG rfl) (q:=16) (ps:=[(1,3)]) (by kernel_rfl) ?_
     simp only [BS,LB,cls,Nat.reduceLT,Nat.reduceEqDiff,Nat.reduceAdd,Nat.reducePow,Nat.reduceDiv,Nat.reduceMod,Nat.reduceLeDiff,F7,r,d,S.ld (b:=s) (o:=2) m0 rfl]
     clear f hl R
     refine cV (g8 (n:=7) (a:=a1) S.ok (S.row m2) (P.mo S.fr (by omega)) (by omega) (by omega)) ?_
     rintro v h ⟨f,H,a2,rfl,bl,bm,R⟩
     have hl:=S.leaves (c:=s) m0 f (by omega)
     replace S:=S.call1 (i:=2) rfl f (o':=.row _ _) R
     simp only [LC]at S
     simp only [BS,LB,cls,Nat.reduceLT,Nat.reduceEqDiff,Nat.reduceAdd,Nat.reducePow,Nat.reduceDiv,Nat.reduceMod,Nat.reduceLeDiff]
     refine dC (co (by exact Tryz.t24.1) (by exact XV) (by decide) (by rfl)) S ?_;clear S;intro h W S J ad;simp only [LC,bA,bS,ah,Nat.reduceMul,Nat.reduceAdd,Xq,Xk,Xh,Xs]at S
     simp only [BS,LB,cls,Nat.reduceLT,Nat.reduceEqDiff,Nat.reduceAdd,Nat.reducePow,Nat.reduceDiv,Nat.reduceMod,Nat.reduceLeDiff]
     refine jF (S.grow (j:=1) (m:=1) (new:=ints [(H:Int)]) rfl Tryz.t24.1 XV (by decide) Tryz.t24.2.2.2.2.2 (by simp only [aM];rw [S.lds (b:=W) (o:=0) (n:=1*1) m0 (lbt rfl)];rfl) rfl (by decide) rfl (by rw [cC,cC];simp;omega)) ?_
     clear S
     rintro h ay S
     simp only [LC]at S
     replace S:=S.drop1
     rw [<-kA]at S
     have fY:Fl ay:=(S.gown _ m1).1.fl
     simp only [BS,LB,cls,Nat.reduceLT,Nat.reduceEqDiff,Nat.reduceAdd,Nat.reducePow,Nat.reduceDiv,Nat.reduceMod,Nat.reduceLeDiff,F7,d]
     refine dS (aC S (i:=0) rfl ?_ ?_ ?_ ono) ?_
     . exact(by simp only [F7])
     . exact(by assumption)
     . exact zN (lbt rfl)
     clear S;rintro h ⟨S,M⟩;clear M;simp only [LC,ah,lay,Xb,Xc,Nat.reduceAdd]at S
     simp only [BS,LB,Nat.reduceLT,Nat.reduceEqDiff,Nat.reduceAdd,r4]
     refine⟨by simp only [bn,bE,aT,bJ,aV,ne_eq,not_false_eq_true,bK,bZ,bg,aX,cb,cM,aO,Nat.reduceLT,Nat.reduceEqDiff,reduceIte,Xi,d,ag,av hl],?_⟩
     have w:an .i64 ((i:Int)+1)=((i+1:Nat):Int):=by rw [wrap64]<;>omega
     simp only [w]
     exact T (i+1) _ _ (by omega) ⟨by omega,a2,ax,ay,_,_,by omega,by simp [lX],by simp [lY],
      fun x F=>(List.mem_append.1 F).elim (cX x) (fun h=>by simp at h;omega),fun x F=>(List.mem_append.1 F).elim (cY x) (fun h=>by simp at h;omega),S,by simp [aa,r,ag],by simp [aa,y,ag],by simp [aa,d,ag],by simp [aa]⟩
   . have bo : i=N:=by omega
     subst bo
     simp only [BS,LB,Nat.reduceLT,Nat.reduceEqDiff,F7,r,d,r4,aK,hlt,S.ld (b:=s) (o:=0) m0 rfl]
     refine step_ret (g8 (n:=9) (a:=a) S.ok (S.row m2) (P.mo S.fr (by omega)) (by omega) (by omega)) ?_
     rintro v h ⟨f,H,a1,rfl,bl,bk,R⟩
     replace S:=S.call1 (i:=2) rfl f (o':=.row _ _) R
     simp only [LC]at S
     simp only [BS,LB,Nat.reduceLT,Nat.reduceEqDiff]
     refine qc (fun g h=> ∃(X Y:List Int),X.length=i/\Y.length=i/\(∀x∈X,-2147483648<=x/\x<=2147483647)/\(∀x∈Y,-2147483648<=x/\x<=2147483647)/\
      St (· =B) h0 h [(s,.row [.int .i64 i,D,G,.slice none 0 0] 1),(L,.row [.int .i64 0,.slice none 0 0,.slice none 0 0,.slice none 0 0] 1),(B,.row [V,.int .i64 a1] 1)] [(D,1,ints X),(G,1,ints Y),(.slice none 0 0,3,[])]/\
      g 0=ptrTo B/\g 2=ptrTo L/\g 3=ptrTo s) ?_ ?_ ?_
     . intro _
       obtain⟨bX,ix,aL⟩:=S.gset (E:=zM) (t:=2) (j:=0) (i:=0) (kd:=.i64) rfl (by rw [cC];omega) Tryz.t2.2.2.1
       have bp:idxS (some 1) D (.int .i64 0)=_:=ix
       simp only [BS,LB,Nat.reduceLT,Nat.reduceEqDiff,F7,d,bp,S.ld (b:=s) (o:=1) m0 rfl]
       refine az (aL _ aY) ?_
       clear S aL;intro h S
       simp only [LC]at S
       obtain⟨bY,iy,ba⟩:=S.gset (E:=zM) (t:=2) (j:=1) (i:=i-1) (kd:=.i64) rfl (by rw [cC];omega) Tryz.t2.2.2.1
       have w1:an .i64 ((i:Int)-1)=((i-1:Nat):Int):=by rw [wrap64]<;>omega
       simp only [BS,LB,Nat.reduceLT,Nat.reduceEqDiff,F7,d,w1,iy,S.ld (b:=s) (o:=0) m0 rfl,S.ld (b:=s) (o:=2) m0 rfl]
       refine az (ba _ aY) ?_
       clear S ba;intro h S
       simp only [LC]at S
       simp only [BS]
       have af: ∀(l:List Int) (j:Nat) (z:Int),(ints l).set j (.int .i64 z)=ints (l.set j z):=by
        intro l
        induction l with
        |nil=>intro j z;rfl
        | cons x l T=>
          intro j z
          cases j with
          |zero=>rfl
          |succ j=>show _::_=_::_;exact congrArg _ (T j z)
       rw [af,af]at S
       refine dX ⟨_,_,by simp [lX],by simp [lY],fun x F=>?_,fun x F=>?_,S,by simp [aa,r,ag],by simp [aa,y,ag],by simp [aa,d,ag]⟩
       . rcases kW F with rfl|⟨j,_,F⟩
         . omega
         . exact cX x (XA F)
       . rcases kW F with rfl|⟨j,_,F⟩
         . omega
         . exact cY x (XA F)
     . intro _
       simp only [BS]
       exact dX ⟨X,Y,lX,lY,cX,cY,S,by simp [aa,r,ag],by simp [aa,y,ag],by simp [aa,d,ag]⟩
     . clear S r y d r4 lX lY cX cY X Y f R
       rintro g h ⟨X,Y,lX,lY,cX,cY,S,r,y,d⟩
       have w3:an .i64 (3*(i:Int))=((3*i:Nat):Int):=by rw [wrap64]<;>omega
       have w4:an .i64 (((3*i:Nat):Int)+1)=((3*i+1:Nat):Int):=by rw [wrap64]<;>omega
       simp only [BS,LB,Nat.reduceLT,Nat.reduceEqDiff,F7,r,d,w3,w4,S.ld (b:=s) (o:=0) m0 rfl]
       refine step_ret (g8 (n:=3*i+1) (a:=a1) S.ok (S.row m2) (P.mo S.fr (by omega)) (by omega) (by omega)) ?_
       rintro v h ⟨f,C,a2,rfl,br,bm,R⟩
       replace S:=S.call1 (i:=2) rfl f (o':=.row _ _) R
       simp only [LC]at S
       simp only [BS,LB,Nat.reduceLT,Nat.reduceEqDiff,r]
       refine step_ret (g8 (n:=3) (a:=a2) S.ok (S.row m2) (P.mo S.fr (by omega)) (by omega) (by omega)) ?_
       rintro v h ⟨f,rr,a3,rfl,b8,ca,R⟩
       replace S:=S.call1 (i:=2) rfl f (o':=.row _ _) R
       simp only [LC]at S
       simp only [BS,LB,Nat.reduceLT,Nat.reduceEqDiff]
       generalize decide ((0:Int)<(rr:Int))=ring
       refine kz (fun g h=> ∃(a:Nat) (u:Value) (A:List Arc),a<=a3+2*i/\A.length<=i/\(∀x∈A,x.s<i/\x.t<i/\x.w<=2147483647)/\
        St (· =B) h0 h [(s,.row [.int .i64 i,D,G,u] 1),(L,.row [.int .i64 0,.slice none 0 0,.slice none 0 0,.slice none 0 0] 1),(B,.row [V,.int .i64 a] 1)] [(D,1,ints X),(G,1,ints Y),(u,3,A.flatMap ct)]/\
        g 0=ptrTo B/\g 2=ptrTo L/\g 3=ptrTo s/\g 5=.int .i64 C)
        (fun(j:Nat) g h=>j<=i/\ ∃(a:Nat) (u:Value) (A:List Arc),a<=a3+2*j/\A.length<=j/\(∀x∈A,x.s<i/\x.t<i/\x.w<=2147483647)/\
        St (· =B) h0 h [(s,.row [.int .i64 i,D,G,u] 1),(L,.row [.int .i64 0,.slice none 0 0,.slice none 0 0,.slice none 0 0] 1),(B,.row [V,.int .i64 a] 1)] [(D,1,ints X),(G,1,ints Y),(u,3,A.flatMap ct)]/\
        g 0=ptrTo B/\g 2=ptrTo L/\g 3=ptrTo s/\g 5=.int .i64 C/\g 6=.bool ring/\g 7=.int .i64 j) (fun j=>i-j) ?_ ?_ 0 ⟨by omega,a3,_,[],by omega,by simp,by simp,S,by simp [aa,r,ag],by simp [aa,y,ag],by simp [aa,d,ag],by simp [aa],by simp [aa],by simp [aa]⟩
       . clear S r y d f R T
         intro j T g h ⟨hj,a,u,A,ha,lA,O,S,r,y,d,H,r6,r7⟩
         have K:(A.flatMap ct).length=A.length*3:=bw ip A
         by_cases hlt:j<i/\ring=true
         . obtain⟨hlt,I⟩:=hlt
           subst I
           have w1:an .i64 ((j:Int)+1)=((j+1:Nat):Int):=by rw [wrap64]<;>omega
           have ci:(i:Int)≠0:=by omega
           have tm:((j+1:Nat):Int).tmod (i:Int)=(((j+1)%i:Nat):Int):=by rw [Int.tmod_eq_emod_of_nonneg (by omega)];exact(Int.natCast_emod _ _).symm
           simp only [BS,LB,Nat.reduceLT,Nat.reduceEqDiff,F7,d,r6,r7,aK,hlt,S.ld (b:=s) (o:=0) m0 rfl]
           refine aB (aG rfl) (q:=2048) (ps:=[(6,9),(1,9)]) (by kernel_rfl) ?_
           simp only [BS,LB,cls,Nat.reduceLT,Nat.reduceEqDiff,Nat.reduceAdd,Nat.reducePow,Nat.reduceDiv,Nat.reduceMod,Nat.reduceLeDiff,F7,r,d,r7,w1,mO ci,tm,S.ld (b:=s) (o:=0) m0 rfl,S.ld (b:=s) (o:=3) m0 rfl]
           refine cV (wh (a:=a) S.ok (S.row m2) (P.mo S.fr (by omega)) (by omega)) ?_
           rintro v h ⟨f,U,a4,rfl,Z,bt,R⟩
           have hl:=S.leaves (c:=s) m0 f (by omega)
           replace S:=S.call1 (i:=2) rfl f (o':=.row _ _) R
           simp only [LC]at S
           simp only [BS,LB,cls,Nat.reduceLT,Nat.reduceEqDiff,Nat.reduceAdd,Nat.reducePow,Nat.reduceDiv,Nat.reduceMod,Nat.reduceLeDiff,F7]
           refine dC (co (by exact Tryz.t29.1) (by exact XN) (by decide) (by rfl)) S ?_;clear S;intro h W S J ad;simp only [LC,bA,bS,ah,Nat.reduceMul,Nat.reduceAdd,Xq,Xk,Xh,Xs]at S
           simp only [BS,LB,cls,Nat.reduceLT,Nat.reduceEqDiff,Nat.reduceAdd,Nat.reducePow,Nat.reduceDiv,Nat.reduceMod,Nat.reduceLeDiff]
           refine jF (S.grow (j:=2) (m:=1) (new:=ct ⟨j,(j+1)%i,U⟩) rfl Tryz.t29.1 XN (by decide) Tryz.t29.2.2.2.2.2 (by simp only [aM];rw [S.lds (b:=W) (o:=0) (n:=1*3) m0 (lbt rfl)];rfl) rfl (by decide) rfl (by rw [K,ip];omega)) ?_
           clear S
           rintro h Q S
           simp only [LC]at S
           replace S:=S.drop1
           have fA:Fl Q:=(S.gown _ m2).1.fl
           simp only [BS,LB,cls,Nat.reduceLT,Nat.reduceEqDiff,Nat.reduceAdd,Nat.reducePow,Nat.reduceDiv,Nat.reduceMod,Nat.reduceLeDiff,F7,d]
           refine dS (aC S (i:=0) rfl ?_ ?_ ?_ ono) ?_
           . exact(by simp only [F7])
           . exact(by assumption)
           . exact zN (lbt rfl)
           clear S;rintro h ⟨S,M⟩;clear M;simp only [LC,ah,lay,Xb,Xc,Nat.reduceAdd]at S
           simp only [BS,LB,Nat.reduceLT,Nat.reduceEqDiff,Nat.reduceAdd,r7]
           refine⟨by simp only [bn,bE,aT,bJ,aV,ne_eq,not_false_eq_true,bK,bZ,bg,aX,cb,cM,aO,Nat.reduceLT,Nat.reduceEqDiff,reduceIte,Xi,d,ag,av hl],?_⟩
           simp only [w1]
           have bb:(j+1)%i<i:=Nat.mod_lt _ (by omega)
           exact T (j+1) _ _ (by omega) ⟨by omega,a4,Q,A++[⟨j,(j+1)%i,U⟩],by omega,by simp;omega,
            fun x F=>(List.mem_append.1 F).elim (O x) (fun h=>by simp at h;subst h;exact⟨hlt,bb,Z⟩),by rw [Xv];simpa using S,by simp [aa,r,ag],by simp [aa,y,ag],by simp [aa,d,ag],by simp [aa,H],by simp [aa,r6],by simp [aa]⟩
         . by_cases ai:j<i
           . have I:ring=false:=by cases ring with
              |false=>rfl
              |true=>exact absurd ⟨ai,rfl⟩ hlt
             subst I
             simp only [BS,LB,Nat.reduceLT,Nat.reduceEqDiff,F7,d,r6,r7,aK,ai,S.ld (b:=s) (o:=0) m0 rfl]
             exact dX ⟨a,u,A,by omega,by omega,O,S,by simp [aa,r,ag],by simp [aa,y,ag],by simp [aa,d,ag],by simp [aa,H]⟩
           . simp only [BS,LB,Nat.reduceLT,Nat.reduceEqDiff,F7,d,r7,aK,ai,S.ld (b:=s) (o:=0) m0 rfl]
             exact dX ⟨a,u,A,by omega,by omega,O,S,by simp [aa,r,ag],by simp [aa,y,ag],by simp [aa,d,ag],by simp [aa,H]⟩
       . clear S r y d f R T
         rintro g h ⟨a,u,A,ha,lA,O,S,r,y,d,H⟩
         simp only [BS]
         refine kz (fun g h=> ∃(a:Nat) (u:Value) (A:List Arc),A.length<=100/\(∀x∈A,x.s<i/\x.t<i/\x.w<=2147483647)/\
          St (· =B) h0 h [(s,.row [.int .i64 i,D,G,u] 1),(L,.row [.int .i64 0,.slice none 0 0,.slice none 0 0,.slice none 0 0] 1),(B,.row [V,.int .i64 a] 1)] [(D,1,ints X),(G,1,ints Y),(u,3,A.flatMap ct)]/\
          g 0=ptrTo B/\g 2=ptrTo L/\g 3=ptrTo s)
          (fun(k:Nat) g h=>k<=C/\ ∃(a:Nat) (u:Value) (A:List Arc),a<=a3+2*i+6*k/\A.length<=i+2*k/\(∀x∈A,x.s<i/\x.t<i/\x.w<=2147483647)/\
          St (· =B) h0 h [(s,.row [.int .i64 i,D,G,u] 1),(L,.row [.int .i64 0,.slice none 0 0,.slice none 0 0,.slice none 0 0] 1),(B,.row [V,.int .i64 a] 1)] [(D,1,ints X),(G,1,ints Y),(u,3,A.flatMap ct)]/\
          g 0=ptrTo B/\g 2=ptrTo L/\g 3=ptrTo s/\g 5=.int .i64 C/\g 8=.int .i64 k) (fun k=>C-k) ?_ ?_ 0 ⟨by omega,a,u,A,by omega,by omega,O,S,by simp [aa,r,ag],by simp [aa,y,ag],by simp [aa,d,ag],by simp [aa,H],by simp [aa]⟩
         . clear S r y d H ha lA O a u A
           intro k T g h ⟨hk,a,u,A,ha,lA,O,S,r,y,d,H,r8⟩
           have K:(A.flatMap ct).length=A.length*3:=bw ip A
           by_cases hlt:k<C
           . simp only [BS,LB,Nat.reduceLT,Nat.reduceEqDiff,H,r8,aK,hlt]
             refine aB (oU (ord:=[11,0,1,2,3,4,5,6,7,8,9,10,12]) rfl rfl (by simp only [dY,reix,eX,XR,XS,List.map_toArray,XO,X8,Nat.reduceBEq,cond_true,cond_false];exact rfl)) (q:=1) (ps:=[(0,10),(0,8),(4,7),(0,4)]) (by kernel_rfl) ?_
             simp only [BS,LB,cls,Nat.reducePow,Nat.reduceDiv,Nat.reduceMod,Nat.reduceLeDiff,F7]
             refine dC aA S ?_;clear S;intro h b9 S b0 bc
             simp only [BS,LB,cls,Nat.reduceLT,Nat.reduceEqDiff,Nat.reduceAdd,Nat.reducePow,Nat.reduceDiv,Nat.reduceMod,Nat.reduceLeDiff,F7,r,d,S.ld (b:=s) (o:=0) m1 rfl]
             refine cV (g8 (n:=i) (a:=a) S.ok (S.row m3) (P.mo S.fr (by omega)) (by omega) (by omega)) ?_
             rintro v h ⟨f,s1,a4,rfl,be,bt,R⟩
             have bu:=S.leaves (c:=b9) m0 f (by omega)
             have bv:=S.leaves (c:=s) m1 f (by omega)
             replace S:=S.call1 (i:=3) rfl f (o':=.row _ _) R
             simp only [LC]at S
             simp only [BS,LB,cls,Nat.reduceLT,Nat.reduceEqDiff,Nat.reduceAdd,Nat.reducePow,Nat.reduceDiv,Nat.reduceMod,Nat.reduceLeDiff,F7,r,d,S.ld (b:=s) (o:=0) m1 rfl]
             refine cV (g8 (n:=i) (a:=a4) S.ok (S.row m3) (P.mo S.fr (by omega)) (by omega) (by omega)) ?_
             rintro v h ⟨f,s2,a5,rfl,bf,cc,R⟩
             have bx:=S.leaves (c:=b9) m0 f (by omega)
             have bB:=S.leaves (c:=s) m1 f (by omega)
             replace S:=S.call1 (i:=3) rfl f (o':=.row _ _) R
             simp only [LC]at S
             simp only [BS,LB,cls,Nat.reduceLT,Nat.reduceEqDiff,Nat.reduceAdd,Nat.reducePow,Nat.reduceDiv,Nat.reduceMod,Nat.reduceLeDiff,r]
             refine cV (wh (a:=a5) S.ok (S.row m3) (P.mo S.fr (by omega)) (by omega)) ?_
             rintro v h ⟨f,U,a6,rfl,Z,cf,R⟩
             have bF:=S.leaves (c:=b9) m0 f (by omega)
             replace S:=S.call1 (i:=3) rfl f (o':=.row _ _) R
             simp only [LC]at S
             simp only [BS,LB,cls,Nat.reduceLT,Nat.reduceEqDiff,Nat.reduceAdd,Nat.reducePow,Nat.reduceDiv,Nat.reduceMod,Nat.reduceLeDiff,F7]
             refine dS (S.store (i:=0) rfl ?_ ?_ rfl rfl ?_ ono) ?_
             . exact(by exact Tryz.t99.2.1)
             . exact(by intro x e;cases e)
             . exact lbt rfl
             clear S;rintro h ⟨S,M⟩;clear M;simp only [LC,ah,lay,Xb,Xc,Nat.reduceAdd]at S
             simp only [BS,LB,Nat.reduceLT,Nat.reduceEqDiff,Nat.reduceAdd,F7,d]
             refine⟨by simp only [bn,bE,aT,bJ,aV,ne_eq,not_false_eq_true,bK,bZ,bg,aX,cb,cM,aO,Nat.reduceLT,Nat.reduceEqDiff,reduceIte,Xi,d,ag,<-bc,av bu,av bx,av bB,av bF,aD bv],?_⟩
             simp only [BS,LB,Nat.reduceLT,Nat.reduceEqDiff,F7,S.ld (b:=s) (o:=3) m1 rfl,S.lds (b:=b9) (o:=0) (n:=3) m0 (lbt rfl)]
             refine ae (co (by exact Tryz.t29.1) (by exact XN) (by decide) (by rfl)) S ?_;clear S;intro h W S J;simp only [LC,bA,bS,ah,Nat.reduceMul,Nat.reduceAdd,Xq,Xk,Xh,Xs]at S
             simp only [BS,LB,Nat.reduceLT,Nat.reduceEqDiff]
             refine eh (S.grow (j:=2) (m:=1) (new:=ct ⟨s1,s2,U⟩) rfl Tryz.t29.1 XN (by decide) Tryz.t29.2.2.2.2.2 (by simp only [aM];rw [S.lds (b:=W) (o:=0) (n:=1*3) m0 (lbt rfl)];rfl) rfl (by decide) rfl (by rw [K,ip];omega)) ?_
             clear S
             rintro h Q S
             simp only [LC]at S
             replace S:=S.drop1
             have fA:Fl Q:=(S.gown _ m2).1.fl
             simp only [BS,LB,Nat.reduceLT,Nat.reduceEqDiff,F7,d]
             refine az (aC S (i:=1) rfl ?_ ?_ ?_ ono) ?_
             . exact(by simp only [F7])
             . exact(by assumption)
             . exact zN (lbt rfl)
             clear S;rintro h ⟨S,M⟩;clear M;simp only [LC,ah,lay,Xb,Xc,Nat.reduceAdd]at S
             simp only [BS,LB,Nat.reduceLT,Nat.reduceEqDiff,r]
             refine step_ret (g8 (n:=4) (a:=a6) S.ok (S.row m3) (P.mo S.fr (by omega)) (by omega) (by omega)) ?_
             rintro v h ⟨f,r9,a7,rfl,ch,cj,R⟩
             replace S:=S.call1 (i:=3) rfl f (o':=.row _ _) R
             simp only [LC]at S
             have w8:an .i64 ((k:Int)+1)=((k+1:Nat):Int):=by rw [wrap64]<;>omega
             have ak:(A.flatMap ct++ct ⟨s1,s2,U⟩).length=A.length*3+3:=by rw [Xp,K,ip]
             have bh: ∀x∈A++[(⟨s1,s2,U⟩:Arc)],x.s<i/\x.t<i/\x.w<=2147483647:=fun x F=>(List.mem_append.1 F).elim (O x) (fun h=>by simp at h;subst h;exact⟨be,bf,Z⟩)
             by_cases hz:(r9:Int)=0
             . simp only [BS,LB,Nat.reduceLT,Nat.reduceEqDiff,Nat.reduceAdd,F7,d,hz,S.ld (b:=s) (o:=3) m1 rfl,S.ld (b:=b9) (o:=0) m0 rfl,S.ld (b:=b9) (o:=1) m0 rfl,S.ld (b:=b9) (o:=2) m0 rfl]
               refine ae (co (by exact Tryz.t29.1) (by exact XN) (by decide) (by rfl)) S ?_;clear S;intro h W S J;simp only [LC,bA,bS,ah,Nat.reduceMul,Nat.reduceAdd,Xq,Xk,Xh,Xs]at S
               simp only [BS,LB,Nat.reduceLT,Nat.reduceEqDiff]
               refine eh (S.grow (j:=2) (m:=1) (new:=ct ⟨s2,s1,U⟩) rfl Tryz.t29.1 XN (by decide) Tryz.t29.2.2.2.2.2 (by simp only [aM];rw [S.lds (b:=W) (o:=0) (n:=1*3) m0 (lbt rfl)];rfl) rfl (by decide) rfl (by rw [ak,ip];omega)) ?_
               clear S
               rintro h bi S
               simp only [LC]at S
               replace S:=S.drop1
               have fA:Fl bi:=(S.gown _ m2).1.fl
               simp only [BS,LB,Nat.reduceLT,Nat.reduceEqDiff,F7,d]
               refine az (aC S (i:=1) rfl ?_ ?_ ?_ ono) ?_
               . exact(by simp only [F7])
               . exact(by assumption)
               . exact zN (lbt rfl)
               clear S;rintro h ⟨S,M⟩;clear M;simp only [LC,ah,lay,Xb,Xc,Nat.reduceAdd]at S
               simp only [BS,LB,Nat.reduceLT,Nat.reduceEqDiff,r8,w8]
               replace S:=S.drop1
               exact T (k+1) _ _ (by omega) ⟨by omega,a7,bi,A++[⟨s1,s2,U⟩]++[⟨s2,s1,U⟩],by omega,by simp;omega,
                fun x F=>(List.mem_append.1 F).elim (bh x) (fun h=>by simp at h;subst h;exact⟨bf,be,Z⟩),by rw [Xv,Xv];simpa using S,by simp [aa,r,ag],by simp [aa,y,ag],by simp [aa,d,ag],by simp [aa,H],by simp [aa]⟩
             . simp only [BS,LB,Nat.reduceLT,Nat.reduceEqDiff,r8,hz,w8]
               replace S:=S.drop1
               exact T (k+1) _ _ (by omega) ⟨by omega,a7,Q,A++[⟨s1,s2,U⟩],by omega,by simp;omega,
                bh,by rw [Xv];simpa using S,by simp [aa,r,ag],by simp [aa,y,ag],by simp [aa,d,ag],by simp [aa,H],by simp [aa]⟩
           . simp only [BS,LB,Nat.reduceLT,Nat.reduceEqDiff,H,r8,aK,hlt]
             exact dX ⟨a,u,A,by omega,O,S,by simp [aa,r,ag],by simp [aa,y,ag],by simp [aa,d,ag]⟩
         . clear S r y d H ha lA O a u A
           rintro g h ⟨a,u,A,lA,O,S,r,y,d⟩
           simp only [BS,LB,Nat.reduceLT,Nat.reduceEqDiff,F7,y,d,S.lds (b:=s) (o:=0) (n:=4) m0 (lbt rfl)]
           have fX:Fl D:=(S.gown _ m0).1.fl
           have fY:Fl G:=(S.gown _ m1).1.fl
           have fA:Fl u:=(S.gown _ m2).1.fl
           refine az (S.store (i:=1) rfl Tryz.t31.2.1 (by intro x e;cases e) rfl (by simp only [ah,Xb,Xc,List.all_cons,List.all_nil,fX.2.1,fY.2.1,fA.2.1,Xi];rfl) (lbt rfl) ono) ?_
           clear S;rintro h ⟨S,_⟩
           simp only [LC,ah,lay,Xb,Xc,Nat.reduceAdd]at S
           simp only [BS,ac]
           refine⟨_,rV (by decide) (by simp only [aO,y,ag,Nat.reduceEqDiff,reduceIte];exact cP Tryz.t31.1 Tryz.t31.2.1 (S.lds (b:=L) (o:=0) (n:=4) m1 (lbt rfl))),?_⟩
           have al: ∀p∈[(D,1,ints X),(G,1,ints Y),(u,3,A.flatMap ct)],∀c,aq p.1 c->h0.n<=c:=by
            intro p hp c hc
            obtain⟨h1,h2⟩:=S.gblk hp hc
            rcases h1 with h1|h1
            . exact h1
            . exact absurd (by simp [h1]) h2
           refine⟨S.fr,⟨i,X,Y,A⟩,D,G,u,rfl,⟨show 1<=i by omega,show i<=12 by omega,lX,lY,cX,cY,lA,O⟩,show i=_ by omega,⟨(S.gown _ m0).1.sl rfl (fun _=>rfl) (by decide),(S.gown _ m1).1.sl rfl (fun _=>rfl) (by decide),(S.gown _ m2).1.sl rfl (fun _=>rfl) (by decide)⟩,?_⟩
           rintro c (hc|hc|hc)
           . exact al _ m0 c hc
           . exact al _ m1 c hc
           . exact al _ m2 c hc
 . exact⟨by omega,a0,_,_,[],[],by omega,rfl,rfl,by simp,by simp,S,by simp [aa,cD,ag],by simp [aa,ag],by simp [aa,ag],by simp [aa]⟩
def Tryz.Fk:=aj t1<|aj t2<|aj t3<|aj t24<|aj t29<|aj Z0<|Z2
theorem ar{h h':Hp}{b:Nat}(g:Gr h h')(a:b<h.n):leaves h h' b=true:=sI (g.get b a)
theorem own_ok{h0:Hp}(Q:h0.t.Sized h0.n){γ:Gra}(k:Good γ){p r l:Value}(E:dr h0 p r l γ):
 Ret zM 46 [iF γ p r l] h0 fun v h'=>Gr h0 h'/\ ∃p r l,v=iF γ p r l/\dr h' p r l γ/\(∀c,aq p c\/aq r c\/aq l c->h0.n<=c)/\WrK h' 3 ct l γ.arcs/\ ∀c,aq l c-> ¬aq p c/\ ¬aq r c:=by
 have S:=Si Q
 have lX:=k.lX
 have lY:=k.lY
 have n2:=k.n2
 have L:=k.many
 refine ab (n:=16) (rs:=[.cell 2 31]) rfl Tryz.e46 rfl rfl rfl (lbt rfl) ?_
 simp only [BS,Nat.reduceLT,iF]
 refine ae (aS (by intro x e;cases e)) S ?_;clear S;intro h b S R;simp only [ah]at S
 simp only [BS,Fk]
 refine ae aA S ?_;clear S;intro h s S M
 simp only [BS]
 refine aB (aG rfl) (q:=0) (ps:=[(5,7),(2,7),(2,4)]) (by kernel_rfl) ?_
 simp only [BS,LB,cls,Nat.reduceLT,Nat.reduceEqDiff,Nat.reduceAdd,Nat.reducePow,Nat.reduceDiv,Nat.reduceMod,Nat.reduceLeDiff,Fk,S.ld (b:=b) (o:=1) m1 rfl]
 refine cV (qv S.ok (E.X.gr S.gr) (by omega)) ?_
 have T:=S.fr.n
 rintro w h ⟨g,f,F⟩
 have N:=ar g ((S.row (b:=b) m1).lt S.ok)
 have G: ∀c,aq w c-> ¬c=b:=fun c d e=>by have:=F c d;have:=(S.row (b:=b) m1).lt S.ok;omega
 have H: ∀c,aq w c-> ¬c=s:=fun c d e=>by have:=F c d;have:=(S.row (b:=s) m0).lt S.ok;omega
 replace S:=S.call g
 simp only [BS,LB,cls,Nat.reduceLT,Nat.reduceEqDiff,Nat.reduceAdd,Nat.reducePow,Nat.reduceDiv,Nat.reduceMod,Nat.reduceLeDiff,Fk,S.ld (b:=b) (o:=2) m1 rfl]
 refine cV (qv S.ok (E.Y.gr S.gr) (by omega)) ?_
 have U:=S.fr.n
 rintro y h ⟨g,j,I⟩
 have O:=ar g ((S.row (b:=b) m1).lt S.ok)
 have J: ∀c,aq y c-> ¬c=b:=fun c d e=>by have:=I c d;have:=(S.row (b:=b) m1).lt S.ok;omega
 have K: ∀c,aq y c-> ¬c=s:=fun c d e=>by have:=I c d;have:=(S.row (b:=s) m0).lt S.ok;omega
 replace S:=S.call g
 replace f:=f.gr g
 simp only [BS,LB,cls,Nat.reduceLT,Nat.reduceEqDiff,Nat.reduceAdd,Nat.reducePow,Nat.reduceDiv,Nat.reduceMod,Nat.reduceLeDiff,Fk,S.ld (b:=b) (o:=3) m1 rfl]
 refine cV (zK S.ok (E.A.gr S.gr) (by omega)) ?_
 have V:=S.fr.n
 rintro A h ⟨g,m,B,t⟩
 have W: ∀c,aq A c-> ¬aq w c/\ ¬aq y c:=fun c d=>⟨fun h=>by have:=B c d;have:=f.lt S.ok h;omega,fun h=>by have:=B c d;have:=j.lt S.ok h;omega⟩
 have P:=ar g ((S.row (b:=b) m1).lt S.ok)
 have u: ∀c,aq A c-> ¬c=b:=fun c d e=>by have:=B c d;have:=(S.row (b:=b) m1).lt S.ok;omega
 have C: ∀c,aq A c-> ¬c=s:=fun c d e=>by have:=B c d;have:=(S.row (b:=s) m0).lt S.ok;omega
 replace S:=S.call g
 replace f:=f.gr g
 replace j:=j.gr g
 have z: ∀c,aq w c\/aq y c\/aq A c->h0.n<=c:=fun c d=>by
  rcases d with h|h|h
  . exact Xl T (F c h)
  . exact Xl U (I c h)
  . exact Xl V (B c h)
 have X:=f.fl
 have Y:=j.fl
 have Z:=m.fl
 simp only [BS,LB,cls,Nat.reduceLT,Nat.reduceEqDiff,Nat.reduceAdd,Nat.reducePow,Nat.reduceDiv,Nat.reduceMod,Nat.reduceLeDiff,Fk]
 refine dS (aC S (i:=1) rfl ?_ ?_ ?_ ono) ?_
 . exact(by simp only [Fk])
 . exact(by assumption)
 . exact zN (lbt rfl)
 clear S;rintro h ⟨S,a⟩;replace f:=f.mo a G;replace j:=j.mo a J;replace m:=m.mo a u;replace t:=t.mo a u;clear a;simp only [LC,ah,lay,Xb,Xc,Nat.reduceAdd]at S
 simp only [BS,LB,cls,Nat.reduceLT,Nat.reduceEqDiff,Nat.reduceAdd,Nat.reducePow,Nat.reduceDiv,Nat.reduceMod,Nat.reduceLeDiff,Fk]
 refine dS (aC S (i:=1) rfl ?_ ?_ ?_ ono) ?_
 . exact(by simp only [Fk])
 . exact(by assumption)
 . exact zN (lbt rfl)
 clear S;rintro h ⟨S,a⟩;replace f:=f.mo a G;replace j:=j.mo a J;replace m:=m.mo a u;replace t:=t.mo a u;clear a;simp only [LC,ah,lay,Xb,Xc,Nat.reduceAdd]at S
 simp only [BS,LB,cls,Nat.reduceLT,Nat.reduceEqDiff,Nat.reduceAdd,Nat.reducePow,Nat.reduceDiv,Nat.reduceMod,Nat.reduceLeDiff,Fk]
 refine dS (aC S (i:=1) rfl ?_ ?_ ?_ ono) ?_
 . exact(by simp only [Fk])
 . exact(by assumption)
 . exact zN (lbt rfl)
 clear S;rintro h ⟨S,a⟩;replace f:=f.mo a G;replace j:=j.mo a J;replace m:=m.mo a u;replace t:=t.mo a u;clear a;simp only [LC,ah,lay,Xb,Xc,Nat.reduceAdd]at S
 simp only [BS,LB,Nat.reduceLT,Nat.reduceEqDiff,Nat.reduceAdd,Fk]
 refine⟨by simp only [bn,bE,aT,bJ,aV,ne_eq,not_false_eq_true,bK,bZ,bg,aX,cb,cM,aO,Nat.reduceLT,Nat.reduceEqDiff,reduceIte,Xi,aZ,ag,av N,av O,av P,aD N,aD O,aD P],?_⟩
 simp only [BS,LB,Nat.reduceLT,Nat.reduceEqDiff,S.lds (b:=b) (o:=0) (n:=4) m1 (lbt rfl)]
 refine az (S.store (i:=0) rfl Tryz.t31.2.1 (by intro x e;cases e) rfl (by simp only [ah,Xb,Xc,List.all_cons,List.all_nil,X.2.1,Y.2.1,Z.2.1,Xi];rfl) (lbt rfl) ono) ?_
 clear S
 rintro h' ⟨S,D⟩
 simp only [LC,ah,lay,Xb,Xc,Nat.reduceAdd]at S
 simp only [BS,ac]
 refine⟨_,rV (by decide) (by simp only [aO,ag,Nat.reduceEqDiff,reduceIte];exact cP Tryz.t31.1 Tryz.t31.2.1 (S.lds (b:=s) (o:=0) (n:=4) m0 (lbt rfl))),?_⟩
 exact⟨S.gr,w,y,A,rfl,⟨f.mo D H,j.mo D K,m.mo D C⟩,z,t.mo D C,W⟩
def Tryz.F13:=aj t1<|aj t2<|aj t3<|Z2
def Tryz.F14:=aj t1<|aj t2<|aj t3<|Z2
def Tryz.Ff:=aj t1<|aj t2<|aj t3<|aj t4<|aj t5<|aj t6<|aj Z3<|aj Z4<|aj t9<|aj t10<|aj t11<|aj t12<|aj Z12<|aj Z15<|aj t15<|aj t16<|aj t17<|aj Z20<|aj t19<|aj r19<|aj t20<|aj t24<|aj t29<|aj Z0<|aj t33<|aj Z2<|aj t181<|aj t189<|aj t192<|aj t271<|aj t358<|aj Z16<|aj t372<|aj t374<|aj t376<|aj t377<|aj t378<|aj t379<|Z13
theorem slice_at{E:Env}{t e:TypeId}{b k len cap l m:Nat}{a c d:IntKind}(i:E.und t=some (.slice e))(j:E.sz e=some k)(f:l<=m)(o:m<=cap):
 dZ E t (.slice (some ⟨b,0,none⟩) len cap) (some (.int a (l:Int))) (some (.int c (l:Int))) (some (.int d (m:Int)))=some (.slice (some ⟨b,if m=l then 0 else l*k,none⟩) 0 (m-l)):=by
 have g: ∀n:Nat,gf (n:Int)=some n:=fun n=>rfl
 simp only [dZ,i,ez,eC,g,Xz o,Xz f,Xz (XI l),cond_true,j,XP,Option.map]
 by_cases h:m=l
 . subst h;rw [Nat.beq_refl];simp
 . have:Nat.beq m l=false:=by
    cases p:Nat.beq m l with
    |false=>rfl
    |true=>exact absurd (Nat.eq_of_beq_eq_true p) h
   rw [this,if_neg h];simp [eH]
theorem St.fill{M:Nat->Prop}{h0 h:Hp}{L:List (Nat×Ob)}{G:List GL}(S:St M h0 h L G){E:Env}{t k e:TypeId}{d i b off len cap md:Nat}{q l:List Value}{s:Option Nat}{x v:Value}(m:L[i]? =some (b,.row l md))(r:E.und t=some (.slice e))(u:eS E e d 1 q)
 (w:dD E k=some false) (a:aM h 1 x=some (1,[v])) (z:Fl v) (F:len<cap) (A:off+len<l.length) (f:md≠0) {ts:List TypeId}:
 ∃h',cZ E h (t::k::ts) (.slice (some ⟨b,off,s⟩) len cap) x=some (h',.slice (some ⟨b,off,s⟩) (len+1) cap)/\St M h0 h' (L.set i (b,.row (l.set (off+len) v) md)) G/\Mo (· =b) h h':=by
 obtain⟨⟨H,g,rfl,c⟩,I,B⟩:=u
 have C:=S.row (XA m)
 obtain⟨y,D,n⟩:=C.store S.ok f (o:=off+len) (vs:=[v]) (by simp;omega) (by simp [z.2.1])
 have e:lay l (off+len) [v]=l.set (off+len) v:=by
  refine Xx fun j=>?_
  rw [jj (by simp;omega),XH]
  simp only [List.length_cons,List.length_nil]
  by_cases p:off+len=j
  . subst p;rw [if_pos ⟨XI _,by omega⟩,if_pos rfl,if_pos A];simp
  . rw [if_neg (by omega),if_neg p]
 rw [e]at n
 refine⟨h.put b y,?_,S.put m n,(Mo.refl (M:=(· =b)) S.ok).put (.inr rfl) y⟩
 simp only [cZ,w,jg,r,g,c,a]
 unfold eZ
 rw [Xz (by omega:len+1<=cap)]
 simp only [cond_true,c,Xh,D]
theorem vG{ρ:Operand->Value}{f:Operand}{xs:Array Operand}{ts:Array TypeId}{h h':Hp}:bU ρ true (.call ⟨.value f,xs,ts⟩) h h'=none:=rfl
theorem wG{i:Nat}:cu i []=none:=rfl
theorem pair_n{x:Option Tch}:i7 none x=true:=rfl
def KeyF(E:Env)(g:FuncId)(f:Arc->Nat):Prop:= ∀(h:Hp) (a:Arc),h.t.Sized h.n->bz E g [.agg ⟨ct a⟩] h (.int .i64 (f a))
theorem of2_key:KeyF zM 103 Arc.s:=by
 intro f a c
 have S:=Si c
 refine ab (n:=5) (rs:=[.tmp 2]) rfl Tryz.e103 rfl rfl rfl (lbt rfl) ?_
 simp only [BS,Nat.reduceLT,ct]
 refine ae (aS (by intro x e;cases e)) S ?_;clear S;intro h b S d;simp only [ah]at S
 simp only [BS,LB,ac,Nat.reduceLT,Nat.reduceEqDiff,F13,S.ld (b:=b) (o:=0) m0 rfl]
 exact S.gr
theorem of3_key:KeyF zM 104 Arc.t:=by
 intro f a c
 have S:=Si c
 refine ab (n:=5) (rs:=[.tmp 2]) rfl Tryz.e104 rfl rfl rfl (lbt rfl) ?_
 simp only [BS,Nat.reduceLT,ct]
 refine ae (aS (by intro x e;cases e)) S ?_;clear S;intro h b S d;simp only [ah]at S
 simp only [BS,LB,ac,Nat.reduceLT,Nat.reduceEqDiff,F14,S.ld (b:=b) (o:=1) m0 rfl]
 exact S.gr
theorem kD(A:List Arc)(f:Arc->Nat)(j v:Nat):(outs A f j v).length<=j:=by
 unfold outs
 exact Xl (List.length_filter_le _ _) (by simp)
theorem uT(z:Value)(N:Nat):bA [z] ((N:Int)).toNat=(Xa N).map fun _=>z:=by
 rw [Xn]
 have: ∀n,bA [z] n=Xd n z:=by
  intro n
  induction n with
  |zero=>rfl
  |succ n a=>simp [bA,a,List.replicate_succ]
 rw [this,List.map_const',List.length_range]
def mq(A:List Arc)(f:Arc->Nat)(i v:Nat):Value:=.int .i64 ((outs A f i v).length:Nat)
def gO(A:List Arc)(f:Arc->Nat)(b v n:Nat):Value:=.slice (some ⟨b,if(outs A f A.length v).length=0 then 0 else start A f v,none⟩) n (outs A f A.length v).length
theorem cnt_set{A:List Arc}{f:Arc->Nat}{N i:Nat}(c:i<A.length):((Xa N).map (mq A f i)).set (f A[i]) (.int .i64 (((outs A f i (f A[i])).length+1:Nat):Int))=(Xa N).map (mq A f (i+1)):=by
 have b:A.getD i default=A[i]:=by simp [Xf,c]
 have e:(.int .i64 (((outs A f i (f A[i])).length+1:Nat):Int):Value)=mq A f (i+1) (f A[i]):=by
  unfold mq;rw [ig,b,if_pos rfl,Xp];rfl
 rw [e]
 refine lU fun v d a=>?_
 unfold mq
 rw [ig,b,if_neg (fun e=>a e.symm),Xt]
def uI(A:List Arc)(f:Arc->Nat)(N i:Nat)(cs:List Value):Prop:=
 cs.length=A.length/\ ∀v r x,v<N->(outs A f i v)[r]? =some x->cs[start A f v+r]? =some (.int .i64 (x:Nat))
theorem fill_zero{A:List Arc}{f:Arc->Nat}{N:Nat}:uI A f N 0 ((Xa A.length).map fun _=>.int .i64 0):=
 ⟨by simp,fun v r x _ h=>by simp [outs]at h⟩
theorem fill_step{A:List Arc}{f:Arc->Nat}{N i:Nat}{cs:List Value}(h:uI A f N i cs)(k:i<A.length):uI A f N (i+1) (cs.set (start A f (f A[i])+(outs A f i (f A[i])).length) (.int .i64 (i:Nat))):=by
 have c:A.getD i default=A[i]:=by simp [Xf,k]
 have g:(outs A f (i+1) (f A[i])).length<=(outs A f A.length (f A[i])).length:=uZ A f (by omega) _
 rw [ig,c,if_pos rfl,Xp]at g
 have hlt:(outs A f i (f A[i])).length<(outs A f A.length (f A[i])).length:=by simp at g;omega
 have l:=pf A f (f A[i])
 refine⟨by rw [Xo];exact h.1,fun v r x m a=>?_⟩
 have n:r<(outs A f (i+1) v).length:=(List.getElem?_eq_some_iff.1 a).1
 have d:r<(outs A f A.length v).length:=Nat.lt_of_lt_of_le n (uZ A f (by omega) v)
 rw [XH]
 by_cases e:start A f (f A[i])+(outs A f i (f A[i])).length=start A f v+r
 . obtain⟨b,o⟩:=zT A f hlt d e
   subst b
   rw [if_pos e,if_pos (by rw [h.1];omega)]
   rw [ig,c,if_pos rfl,XW,if_neg (by omega),o,XP]at a
   simp at a
   rw [a]
 . rw [if_neg e]
   refine h.2 v r x m ?_
   rw [ig,c]at a
   by_cases b:f A[i]=v
   . rw [if_pos b,XW]at a
     subst b
     by_cases j:r<(outs A f i (f A[i])).length
     . rw [if_pos j]at a;exact a
     . rw [if_neg j]at a
       have:=(List.getElem?_eq_some_iff.1 a).1
       simp at this
       exact absurd (by omega) e
   . rw [if_neg b,Xt]at a;exact a
theorem of1_ok {h0:Hp} (ok:h0.t.Sized h0.n) {γ:Gra} (I:Good γ) {vx vy J:Value} {b:Nat} (hb:Row h0 b [.int .i64 γ.nodes,vx,vy,J] 1) (ga:dr h0 vx vy J γ) {g:FuncId} {f:Arc->Nat} (hk:KeyF zM g f) (hf: ∀a∈γ.arcs,f a<γ.nodes):
 Ret zM 102 [.func (.func g) #[] #[],ptrTo b] h0 fun v h'=>Gr h0 h'/\gb h' h0.n v γ.nodes (outs γ.arcs f γ.arcs.length):=by
 have S:=Si ok
 have n2:=I.n2
 have K:=I.many
 obtain⟨N,X,Y,A⟩:=γ
 simp only []at hb n2 K hf
 have L:au h0 3 ct J A:=ga.A
 have l0:=hb.load1 (o:=0) rfl
 have l3:=hb.load1 (o:=3) rfl
 refine ab (n:=85) (rs:=[.tmp 3]) rfl Tryz.e102 rfl rfl rfl (lbt rfl) ?_
 simp only [BS,LB,Nat.reduceLT,Nat.reduceEqDiff,Ff,l0]
 refine ae (pQ (by exact Tryz.t33.1) (by exact XJ) (by omega) (by omega)) S ?_;clear S;intro h z S al
 rw [uT]at S
 replace S:St NoM h0 h [(z,.row ((Xa N).map (mq A f 0)) 1)] []:=S
 simp only [BS,LB,Nat.reduceLT,Nat.reduceEqDiff,Ff,S.old l3 (fun h=>h),L.lenq,Xn]
 refine bL (fun(i:Nat) m h=>i<=A.length/\St NoM h0 h [(z,.row ((Xa N).map (mq A f i)) 1)] []/\m 0=.func (.func g) #[] #[]/\m 1=ptrTo b/\m 4=.slice (some ⟨z,0,none⟩) N N/\m 18=J/\m 19=.int .i64 A.length/\m 20=.int .i64 i) (fun i=>A.length-i) ?_ 0 _ _ ?_
 . clear S
   intro i M m h ⟨hi,S,r0,r1,r4,r18,r19,r20⟩
   by_cases hlt:i<A.length
   . obtain⟨c,o,t,B⟩:=(L.gr S.gr).ix (kd:=.i64) ip hlt
     have p:f A[i]<N:=hf _ (XB hlt)
     have a2:=kD A f i (f A[i])
     have w:an .i64 ((i:Int)+1)=((i+1:Nat):Int):=by rw [wrap64]<;>omega
     have V:an .i64 (((outs A f i (f A[i])).length:Int)+1)=(((outs A f i (f A[i])).length+1:Nat):Int):=by rw [wrap64]<;>omega
     simp only [BS,LB,Nat.reduceLT,Nat.reduceEqDiff,Ff,r18,r19,r20,aK,hlt,t,B]
     refine ae aA S ?_;clear S;intro h b6 S ax
     simp only [BS,LB,Nat.reduceLT,Nat.reduceEqDiff,ct]
     refine az (S.store (i:=0) rfl ?_ ?_ rfl rfl ?_ ono) ?_
     . exact(by exact Tryz.t99.2.1)
     . exact(by intro x e;cases e)
     . exact lbt rfl
     clear S;rintro h ⟨S,u⟩;clear u;simp only [LC,ah,lay,Xb,Xc,Nat.reduceAdd]at S
     simp only [BS,LB,Nat.reduceLT,Nat.reduceEqDiff,Ff,r0,r4,S.lds (b:=b6) (o:=0) (n:=3) m0 (lbt rfl)]
     refine am (hk _ A[i] S.ok) ?_;intro h g;replace S:=S.call g;clear g
     have C:=S.ld (b:=z) (o:=f A[i]) m1 (kM (F:=mq A f i) p)
     unfold mq at C
     simp only [BS,LB,Nat.reduceLT,Nat.reduceEqDiff,Ff,p,C,V]
     refine az (aC S (i:=1) rfl Tryz.t3.2.2.1 aY (by simpa using p) ono) ?_
     clear S C;rintro h ⟨S,u⟩;clear u
     simp only [LC]at S
     rw [cnt_set hlt]at S
     replace S:=S.drop1
     simp only [BS,LB,Nat.reduceLT,Nat.reduceEqDiff,r20,w]
     exact M (i+1) _ _ (by omega) ⟨by omega,S,by simp [aa,r0],by simp [aa,r1,ag],by simp [aa,r4],by simp [aa,r18],by simp [aa,r19],by simp [aa]⟩
   . have D : i=A.length:=by omega
     subst D
     simp only [BS,LB,Nat.reduceLT,r19,r20,aK,hlt]
     refine aB (aG rfl) (q:=72) (ps:=[]) (by kernel_rfl) ?_
     simp only [BS,LB,cls,Nat.reduceLT,Nat.reduceEqDiff,Nat.reduceAdd,Nat.reducePow,Nat.reduceDiv,Nat.reduceMod,Nat.reduceLeDiff,Ff,r1,S.old l3 (fun h=>h),L.lenq]
     refine dC (pQ (by exact Tryz.t33.1) (by exact XJ) (by omega) (by omega)) S ?_;clear S;intro h d S O ay
     rw [uT]at S
     simp only [BS,LB,cls,Nat.reduceLT,Nat.reduceEqDiff,Nat.reduceAdd,Nat.reducePow,Nat.reduceDiv,Nat.reduceMod,Nat.reduceLeDiff,Ff,r1,S.old l0 (fun h=>h),Xn]
     refine dC (pQ (by exact Tryz.t189.1) (by exact Tryz.e33E) (by omega) (by omega)) S ?_;clear S;intro h G S Q aL
     rw [uT]at S
     simp only [BS,LB,cls,Nat.reduceLT,Nat.reduceEqDiff,Nat.reduceAdd,Nat.reducePow,Nat.reduceDiv,Nat.reduceMod,Nat.reduceLeDiff,Ff,r4,Xn]
     have e0:(Xa N).map (fun v=>if v<0 then gO A f d v 0 else .slice none 0 0)=(Xa N).map (fun _=>(.slice none 0 0:Value)):=by simp
     rw [<-e0]at S
     refine bL (fun(j:Nat) m h=>j<=N/\St NoM h0 h [(G,.row ((Xa N).map fun v=>if v<j then gO A f d v 0 else .slice none 0 0) 1),(d,.row ((Xa A.length).map fun _=>.int .i64 0) 1),(z,.row ((Xa N).map (mq A f A.length)) 1)] []/\
      m 0=.func (.func g) #[] #[]/\m 1=ptrTo b/\m 7=.slice (some ⟨d,0,none⟩) A.length A.length/\m 8=.slice (some ⟨G,0,none⟩) N N/\m 9=.int .i64 (start A f j)/\m 40=.slice (some ⟨z,0,none⟩) N N/\m 41=.int .i64 N/\m 42=.int .i64 j) (fun j=>N-j) ?_ 0 _ _ ?_
     . clear S r0 r1 r4 r18 r19 r20
       intro j M m h ⟨hj,S,r0,r1,r7,r8,r9,r40,r41,r42⟩
       by_cases y:j<N
       . have C:=S.ld (b:=z) (o:=j) m2 (kM (F:=mq A f A.length) y)
         unfold mq at C
         have ad:=pf A f j
         have w:an .i64 ((j:Int)+1)=((j+1:Nat):Int):=by rw [wrap64]<;>omega
         have V:an .i64 ((start A f j:Int)+((outs A f A.length j).length:Nat))=((start A f j+(outs A f A.length j).length:Nat):Int):=by rw [wrap64]<;>omega
         have sl:dZ zM 33 (.slice (some ⟨d,0,none⟩) A.length A.length) (some (.int .i64 (start A f j))) (some (.int .i64 (start A f j))) (some (.int .i64 ((start A f j+(outs A f A.length j).length:Nat):Int)))=some (gO A f d j 0):=by
          rw [slice_at Tryz.t33.1 Tryz.t3.2.2.1 (by omega) (by omega)]
          unfold gO
          rw [Nat.add_sub_cancel_left,Xh]
          by_cases E:(outs A f A.length j).length=0
          . rw [if_pos (by omega),if_pos E]
          . rw [if_neg (by omega),if_neg E]
         have fr:Fl (gO A f d j 0):=bq
         simp only [BS,LB,Nat.reduceLT,Nat.reduceEqDiff,Xw,Ff,r7,r8,r9,r40,r41,r42,aK,y,C,V,sl]
         refine az (aC S (i:=0) rfl Tryz.t33.2.2.1 fr (by simpa using y) ono) ?_
         clear S C;rintro h ⟨S,u⟩;clear u
         simp only [LC]at S
         rw [show((Xa N).map fun v=>if v<j then gO A f d v 0 else .slice none 0 0).set j (gO A f d j 0)=(Xa N).map fun v=>if v<j+1 then gO A f d v 0 else .slice none 0 0 from by
          have:=lU (N:=N) (k:=j) (F:=fun v=>if v<j then gO A f d v 0 else .slice none 0 0) (F':=fun v=>if v<j+1 then gO A f d v 0 else .slice none 0 0) (fun v H R=>by
           show ite _ _ _=ite _ _ _
           by_cases h1:v<j
           . rw [if_pos h1,if_pos (by omega)]
           . rw [if_neg h1,if_neg (by omega)])
          simp only [if_pos (show j<j+1 by omega)]at this
          exact this]at S
         simp only [BS,LB,Nat.reduceLT,Nat.reduceEqDiff,r9,r42,w,V]
         exact M (j+1) _ _ (by omega) ⟨by omega,S,by simp [aa,r0],by simp [aa,r1,ag],by simp [aa,r7],by simp [aa,r8],by simp [aa,start],by simp [aa,r40],by simp [aa,r41],by simp [aa]⟩
       . have af:j=N:=by omega
         subst af
         simp only [BS,LB,Nat.reduceLT,Nat.reduceEqDiff,Ff,r1,r41,r42,aK,y,S.old l3 (fun h=>h),L.lenq]
         have e1:((Xa j).map fun v=>if v<j then gO A f d v 0 else .slice none 0 0)=(Xa j).map fun v=>gO A f d v (outs A f 0 v).length:=by
          refine List.map_congr_left fun v H=>?_
          rw [if_pos (List.mem_range.1 H)];rfl
         rw [e1]at S
         refine bL (fun(i:Nat) m h=>i<=A.length/\(∃W,uI A f j i W/\St NoM h0 h [(G,.row ((Xa j).map fun v=>gO A f d v (outs A f i v).length) 1),(d,.row W 1),(z,.row ((Xa j).map (mq A f A.length)) 1)] [])/\
          m 0=.func (.func g) #[] #[]/\m 1=ptrTo b/\m 8=.slice (some ⟨G,0,none⟩) j j/\m 62=J/\m 63=.int .i64 A.length/\m 64=.int .i64 i) (fun i=>A.length-i) ?_ 0 _ _ ?_
         . clear S r0 r1 r7 r8 r9 r40 r41 r42
           intro i M m h ⟨hi,⟨W,hcs,S⟩,r0,r1,r8,r62,r63,r64⟩
           by_cases hlt:i<A.length
           . obtain⟨c,o,t,B⟩:=(L.gr S.gr).ix (kd:=.i64) ip hlt
             have p:f A[i]<j:=hf _ (XB hlt)
             have w:an .i64 ((i:Int)+1)=((i+1:Nat):Int):=by rw [wrap64]<;>omega
             simp only [BS,LB,Nat.reduceLT,Nat.reduceEqDiff,Ff,r62,r63,r64,aK,hlt,t,B]
             refine ae aA S ?_;clear S;intro h T S ai
             simp only [BS,LB,Nat.reduceLT,Nat.reduceEqDiff,ct]
             refine az (S.store (i:=0) rfl ?_ ?_ rfl rfl ?_ ono) ?_
             . exact(by exact Tryz.t99.2.1)
             . exact(by intro x e;cases e)
             . exact lbt rfl
             clear S;rintro h ⟨S,u⟩;clear u;simp only [LC,ah,lay,Xb,Xc,Nat.reduceAdd]at S
             simp only [BS]
             refine aB (aG rfl) (q:=2184) (ps:=[(3,6)]) (by kernel_rfl) ?_
             simp only [BS,LB,cls,Nat.reduceLT,Nat.reduceEqDiff,Nat.reduceAdd,Nat.reducePow,Nat.reduceDiv,Nat.reduceMod,Nat.reduceLeDiff,Ff,r0,r8,S.lds (b:=T) (o:=0) (n:=3) m0 (lbt rfl)]
             refine pU (hk _ A[i] S.ok) ?_
             intro h U;replace S:=S.call U;clear U
             simp only [BS,LB,cls,Nat.reduceLT,Nat.reduceEqDiff,Nat.reduceAdd,Nat.reducePow,Nat.reduceDiv,Nat.reduceMod,Nat.reduceLeDiff,Ff,r0,r8,S.lds (b:=T) (o:=0) (n:=3) m0 (lbt rfl)]
             refine pU (hk _ A[i] S.ok) ?_
             intro h U;replace S:=S.call U;clear U
             have hd:A.getD i default=A[i]:=by simp [Xf,hlt]
             have hl:(outs A f (i+1) (f A[i])).length<=(outs A f A.length (f A[i])).length:=uZ A f (by omega) _
             rw [ig,hd,if_pos rfl,Xp,XK]at hl
             have ad:=pf A f (f A[i])
             have hK:(outs A f A.length (f A[i])).length≠0:=by omega
             have lr:=S.ld (b:=G) (o:=f A[i]) m1 (kM (F:=fun v=>gO A f d v (outs A f i v).length) p)
             simp only [gO,if_neg hK]at lr
             simp only [BS,LB,cls,Nat.reduceLT,Nat.reduceEqDiff,Nat.reduceAdd,Nat.reducePow,Nat.reduceDiv,Nat.reduceMod,Nat.reduceLeDiff,Ff,p,lr]
             refine dC (co (by exact Tryz.t33.1) (by exact XJ) (by decide) (by rfl)) S ?_;clear S;intro h bs S a0 a1;simp only [LC,bA,bS,ah,Nat.reduceMul,Nat.reduceAdd,Xq,Xk,Xh,Xs]at S
             simp only [BS,LB,cls,Nat.reduceLT,Nat.reduceEqDiff,Nat.reduceAdd,Nat.reducePow,Nat.reduceDiv,Nat.reduceMod,Nat.reduceLeDiff]
             obtain⟨h2,e2,S2,ak⟩:=S.fill (i:=3) (x:=.slice (some ⟨bs,0,none⟩) 1 1) (v:=.int .i64 (i:Nat)) (off:=start A f (f A[i])) (len:=(outs A f i (f A[i])).length) (cap:=(outs A f A.length (f A[i])).length) (s:=none) rfl Tryz.t33.1 XJ Tryz.t33.2.2.2.2.2
              (by simp only [aM];rw [S.lds (b:=bs) (o:=0) (n:=1*1) m0 (lbt rfl)];rfl) aY (by omega) (by have:=hcs.1;omega) ono (ts:=[])
             refine jF (P:=fun h' v=>h'=h2/\v=.slice (some ⟨d,start A f (f A[i]),none⟩) ((outs A f i (f A[i])).length+1) (outs A f A.length (f A[i])).length) ⟨_,_,e2,rfl,rfl⟩ ?_
             rintro h v ⟨rfl,rfl⟩
             clear S e2 ak;have S:=S2;clear S2
             simp only [LC]at S
             simp only [BS,LB,cls,Nat.reduceLT,Nat.reduceEqDiff,Nat.reduceAdd,Nat.reducePow,Nat.reduceDiv,Nat.reduceMod,Nat.reduceLeDiff,Ff,p]
             refine dS (aC S (i:=2) rfl Tryz.t33.2.2.1 bq (by simpa using p) ono) ?_
             clear S;rintro h ⟨S,u⟩;clear u
             simp only [LC]at S
             have e3:((Xa j).map fun v=>gO A f d v (outs A f i v).length).set (f A[i]) (.slice (some ⟨d,start A f (f A[i]),none⟩) ((outs A f i (f A[i])).length+1) (outs A f A.length (f A[i])).length)=(Xa j).map fun v=>gO A f d v (outs A f (i+1) v).length:=by
              have:=lU (N:=j) (k:=f A[i]) (F:=fun v=>gO A f d v (outs A f i v).length) (F':=fun v=>gO A f d v (outs A f (i+1) v).length) (fun v H R=>by
               show gO _ _ _ _ _=gO _ _ _ _ _
               rw [ig,hd,if_neg (fun e=>R e.symm),Xt])
              rw [<-this]
              congr 1
              show _=gO _ _ _ _ _
              rw [ig,hd,if_pos rfl,Xp]
              unfold gO
              rw [if_neg hK];rfl
             rw [e3]at S
             replace S:=S.drop1.drop1
             simp only [BS,LB,Nat.reduceLT,Nat.reduceEqDiff,Nat.reduceAdd,r64,w]
             refine⟨by simp only [bn,bE,aT,bJ,aV,ne_eq,not_false_eq_true,bK,bZ,bg,aX,cb,cM,aO,Nat.reduceLT,Nat.reduceEqDiff,reduceIte,Xi,r0,r1,r8,ag,vG,kZ,wG,pair_n],?_⟩
             exact M (i+1) _ _ (by omega) ⟨by omega,⟨_,fill_step hcs hlt,S⟩,by simp [aa,r0],by simp [aa,r1,ag],by simp [aa,r8],by simp [aa,r62],by simp [aa,r63],by simp [aa]⟩
           . have D:i=A.length:=by omega
             subst D
             simp only [BS,LB,ac,Nat.reduceLT,Nat.reduceEqDiff,r8,r63,r64,aK,hlt]
             refine⟨S.gr,G,_,rfl,Q,S.row m0,by simp,fun v H=>⟨_,kM H,.inr ⟨d,_,none,_,rfl,XI _,?_⟩,fun c (hc:d=c)=>hc▸O⟩⟩
             have hR:=S.row (b:=d) (l:=W) (md:=1) m1
             have ht:=pf A f v
             have hl:=hcs.1
             rw [Xh]
             by_cases E:(outs A f A.length v).length=0
             . rw [if_pos E,E,hR.load (by omega)]
               rw [List.length_eq_zero_iff.1 E];rfl
             . rw [if_neg E,hR.load (by omega)]
               congr 1
               refine Xx fun r=>?_
               have e4:(outs A f A.length v).flatMap cB=(outs A f A.length v).map fun x=>.int .i64 (x:Nat):=by
                rw [Xg,XE,Xg];rfl
               rw [e4,Xy,List.getElem?_take,List.getElem?_drop]
               by_cases Z:r<(outs A f A.length v).length
               . rw [if_pos Z,hcs.2 v r _ H (Xm Z),Xm Z];rfl
               . rw [if_neg Z,Xj (by omega)];rfl
         . exact⟨X9 _,⟨_,fill_zero,S⟩,by simp [aa,r0],by simp [aa,r1,ag],by simp [aa,r8],by simp [aa],by simp [aa],by simp [aa]⟩
     . exact⟨X9 _,S,by simp [aa,r0],by simp [aa,r1,ag],by simp [aa],by simp [aa],by simp [aa,start],by simp [aa,r4],by simp [aa],by simp [aa]⟩
 . exact⟨X9 _,S,by simp [aa,aZ],by simp [aa,aZ,cG,ag],by simp [aa],by simp [aa],by simp [aa],by simp [aa]⟩
def Tryz.FD:=aj t1<|aj t2<|aj t3<|aj t4<|aj t24<|aj t29<|aj Z0<|aj t32<|aj t33<|aj Z2<|aj t189<|aj Z1<|aj t192<|t193
def Tryz.F0l:=aj t1<|aj t2<|aj t3<|aj t4<|aj t5<|aj t24<|aj t29<|aj Z0<|aj t32<|aj t41<|aj t45<|aj Z2<|aj Z22<|aj t104<|aj t106<|aj r106<|aj t189<|Z1
theorem of_ok{h0:Hp}(D:h0.t.Sized h0.n){γ:Gra}(d:Good γ){q r s:Value}(t:dr h0 q r s γ){m:Nat}(u:m<=h0.n)(E: ∀c,aq q c\/aq r c\/aq s c->m<=c):
 Ret zM 45 [iF γ q r s] h0 fun v h'=>Gr h0 h'/\bI h' m v γ:=by
 have S:=Si D
 refine ab (n:=20) (rs:=[.tmp 2]) rfl Tryz.e45 rfl rfl rfl (lbt rfl) ?_
 simp only [BS,Nat.reduceLT,iF]
 refine ae (aS (by intro x e;cases e)) S ?_;clear S;intro h b S F;simp only [ah]at S
 simp only [BS,LB,Nat.reduceLT,Nat.reduceEqDiff,Nat.reduceAdd,Nat.reduceLeDiff,FD,XG,XM,XU,S.lds (b:=b) (o:=0) (n:=4) m0 (lbt rfl)]
 refine ae (aS (by intro x e;cases e)) S ?_;clear S;intro h l S p;simp only [ah]at S
 simp only [BS,LB,Nat.reduceLT,Nat.reduceEqDiff]
 have G:=S.fr.n
 have w:=(S.row (b:=l) m0).lt S.ok
 refine step_ret (of1_ok S.ok d (S.row m1) (t.gr S.gr) of2_key (fun a y=>(d.arcs a y).1)) ?_;intro A h ⟨g,f⟩;replace S:=S.call g;clear g
 simp only [BS,LB,Nat.reduceLT,Nat.reduceEqDiff]
 have H:=S.fr.n
 have z:=(S.row (b:=l) m0).lt S.ok
 refine step_ret (of1_ok S.ok d (S.row m1) (t.gr S.gr) of3_key (fun a y=>(d.arcs a y).2.1)) ?_;intro v h ⟨g,k⟩;replace S:=S.call g;replace f:=f.gr g;clear g
 have I:Fl v:=by obtain⟨_,_,rfl,_⟩:=k;exact bq
 have J:Fl A:=by obtain⟨_,_,rfl,_⟩:=f;exact bq
 simp only [BS,LB,Nat.reduceLT,Nat.reduceEqDiff,FD]
 have B: ∀c,c=l->c<_:=fun c e=>e▸w
 have C: ∀c,c=l->c<_:=fun c e=>e▸z
 refine az (aC S (i:=0) rfl ?_ ?_ ?_ ono) ?_
 . exact(by simp only [FD])
 . exact(by assumption)
 . exact zN (lbt rfl)
 clear S;rintro h ⟨S,j⟩;replace f:=f.mo j B;replace k:=k.mo j C;clear j;simp only [LC,ah,lay,Xb,Xc,Nat.reduceAdd]at S
 simp only [BS,LB,Nat.reduceLT,Nat.reduceEqDiff,FD]
 refine az (aC S (i:=0) rfl ?_ ?_ ?_ ono) ?_
 . exact(by simp only [FD])
 . exact(by assumption)
 . exact zN (lbt rfl)
 clear S;rintro h ⟨S,j⟩;replace f:=f.mo j B;replace k:=k.mo j C;clear j;simp only [LC,ah,lay,Xb,Xc,Nat.reduceAdd]at S
 simp only [BS,LB,ac,Nat.reduceLT,Nat.reduceEqDiff]
 exact⟨S.gr,l,q,r,s,A,v,rfl,S.row m0,t.gr S.gr,f.low (Xl u G),k.low (Xl u H),Xl u p,E⟩
theorem netNew_ok{h0:Hp}(k:h0.t.Sized h0.n){γ:Gra}(a:Good γ){d f i:Value}(j:dr h0 d f i γ):
 Ret zM 10 [iF γ d f i] h0 fun r h'=> ∃v,r=.tuple #[v,.nilIface]/\Gr h0 h'/\bI h' h0.n v γ:=by
 have S:=Si k
 refine ab (n:=17) (rs:=[.tmp 2,.tmp 3]) rfl Tryz.e10 rfl rfl rfl (lbt rfl) ?_
 simp only [BS,Nat.reduceLT,iF]
 refine ae (aS (by intro x e;cases e)) S ?_;clear S;intro h b S l;simp only [ah]at S
 simp only [BS,LB,Nat.reduceLT,Nat.reduceEqDiff,F0l,XG,XM,XU,S.lds (b:=b) (o:=0) (n:=4) m0 (lbt rfl)]
 refine am (check_ok S.ok a (j.gr S.gr)) ?_;intro h g;replace S:=S.call g;clear g
 simp only [BS,LB,Nat.reduceLT,Nat.reduceEqDiff,F0l,XG,XM,XU,S.lds (b:=b) (o:=0) (n:=4) m0 (lbt rfl)]
 have p:=S.fr.n
 refine step_ret (own_ok S.ok a (j.gr S.gr)) ?_;intro v h ⟨g,vx',vy',va',q,ga',hz,_⟩;replace S:=S.call g;clear g
 subst q
 simp only [BS,LB,Nat.reduceLT,Nat.reduceEqDiff]
 refine step_ret (of_ok S.ok a ga' (m:=h0.n) S.fr.n (fun c s=>Xl p (hz c s))) ?_;intro v h ⟨g,R⟩;replace S:=S.call g;clear g
 simp only [BS,LB,ac,Nat.reduceLT,Nat.reduceEqDiff]
 exact⟨_,rfl,S.gr,R⟩
def pos:List Int->Int->Option Nat
 | [],_=>none
 |y::a,x=>if x=y then some 0 else(pos a x).map (· +1)
theorem St.mput{M:Nat->Prop}{h0 h:Hp}{L:List (Nat×Ob)}{G:List GL}(S:St M h0 h L G){E:Env}{t kt el:TypeId}{i b c:Nat}{a:List (Value×Value×Nat)}{k v:Value}(d:L[i]? =some (b,.map a c))(f:E.und t=some (.map kt el))(hf:aP E kt k=true)(g:aN k a=some none):
 ∃h',dH E h t (.map (some b)) k v=some h'/\St M h0 h' (L.set i (b,.map (a++[(k,v,c)]) (c+1))) G:=by
 have e:h.get b=some (.map a c):=(S.own _ (XA d)).2
 refine⟨h.put b (.map (a++[(k,v,c)]) (c+1)),?_,S.put d ?_⟩
 . simp only [dH,iv,f,hf,cond_true,e,g]
 . show(h.put b _).get b=_
   rw [Hp.get_put,if_pos ⟨rfl,by rw [e];rfl⟩]
def Tryz.FE:=aj t1<|aj t2<|aj t3<|aj t4<|aj t5<|aj t6<|aj Z3<|aj Z4<|t33
def Tryz.F0m:=aj t1<|aj t2<|aj t3<|aj t4<|aj t33<|aj t218<|aj t337<|aj Z6<|aj Z9<|t357
def Tryz.F04:=aj t1<|aj t2<|aj t3<|aj t218<|aj t337<|aj Z6<|aj Z9<|t357
def kw(a b:Int):Int:=if a<b then-1 else if b<a then 1 else 0
theorem xC{h0:Hp}(b:h0.t.Sized h0.n){a:Int}:bz zM 159 [.int .i64 a] h0 (.bool false):=by
 have S:=Si b
 refine ab (n:=6) (rs:=[.tmp 2]) rfl Tryz.e159 rfl rfl rfl (lbt rfl) ?_
 simp only [BS,LB,ac,Nat.reduceLT,Nat.reduceEqDiff]
 exact S.gr
theorem nanI_ok{h0:Hp}(b:h0.t.Sized h0.n){a:Int}:bz zM 283 [.int .i64 a] h0 (.bool false):=by
 have S:=Si b
 refine ab (n:=6) (rs:=[.tmp 2]) rfl Tryz.e283 rfl rfl rfl (lbt rfl) ?_
 simp only [BS,LB,ac,Nat.reduceLT,Nat.reduceEqDiff]
 exact S.gr
theorem yY{h0:Hp}(e:h0.t.Sized h0.n){a b:Int}:bz zM 84 [.int .i64 a,.int .i64 b] h0 (.int .i64 (kw a b)):=by
 have S:=Si e
 unfold kw
 refine ab (n:=20) (rs:=[.tmp 4]) rfl Tryz.e84 rfl rfl rfl (lbt rfl) ?_
 simp only [BS,LB,Nat.reduceLT,Nat.reduceEqDiff]
 refine am (xC S.ok) ?_;intro h g;replace S:=S.call g;clear g
 simp only [BS,LB,Nat.reduceLT,Nat.reduceEqDiff]
 refine am (xC S.ok) ?_;intro h g;replace S:=S.call g;clear g
 by_cases c:a<b
 . simp only [BS,LB,ac,Nat.reduceLT,Nat.reduceEqDiff,c]
   exact S.gr
 . by_cases d:b<a
   . simp only [BS,LB,ac,Nat.reduceLT,Nat.reduceEqDiff,c,d]
     exact S.gr
   . simp only [BS,LB,ac,Nat.reduceLT,Nat.reduceEqDiff,c,d]
     exact S.gr
theorem cmpInt_ok{h0:Hp}(e:h0.t.Sized h0.n){a b:Int}:bz zM 277 [.int .i64 a,.int .i64 b] h0 (.int .i64 (kw a b)):=by
 have S:=Si e
 unfold kw
 refine ab (n:=20) (rs:=[.tmp 4]) rfl Tryz.e277 rfl rfl rfl (lbt rfl) ?_
 simp only [BS,LB,Nat.reduceLT,Nat.reduceEqDiff]
 refine am (nanI_ok S.ok) ?_;intro h g;replace S:=S.call g;clear g
 simp only [BS,LB,Nat.reduceLT,Nat.reduceEqDiff]
 refine am (nanI_ok S.ok) ?_;intro h g;replace S:=S.call g;clear g
 by_cases c:a<b
 . simp only [BS,LB,ac,Nat.reduceLT,Nat.reduceEqDiff,c]
   exact S.gr
 . by_cases d:b<a
   . simp only [BS,LB,ac,Nat.reduceLT,Nat.reduceEqDiff,c,d]
     exact S.gr
   . simp only [BS,LB,ac,Nat.reduceLT,Nat.reduceEqDiff,c,d]
     exact S.gr
theorem or2_ok{h0:Hp}(p:h0.t.Sized h0.n){v:Value}{a b:Int}(g:au h0 1 (encI .i64) v [a,b]):bz zM 276 [v] h0 (.int .i64 (if a=0 then b else a)):=by
 have S:=Si p
 obtain⟨h,j,q,e⟩:=g.ix (kd:=.i64) (dh .i64) (i:=0) (by simp)
 obtain⟨k,l,r,f⟩:=g.ix (kd:=.i64) (dh .i64) (i:=1) (by simp)
 have c:idxS (some 1) v (.int .i64 0)=some (.pointer (some ⟨h,j,none⟩)):=q
 have d:idxS (some 1) v (.int .i64 1)=some (.pointer (some ⟨k,l,none⟩)):=r
 replace e:h0.load h j 1=some [.int .i64 a]:=e
 replace f:h0.load k l 1=some [.int .i64 b]:=f
 have s:an .i64 1=1:=rfl
 have t:an .i64 2=2:=rfl
 refine ab (n:=18) (rs:=[.tmp 2]) rfl Tryz.e276 rfl rfl rfl (lbt rfl) ?_
 simp only [BS,LB,Nat.reduceLT,Nat.reduceEqDiff,Nat.reduceAdd,Xe,FE,g.lenq]
 rw [bG]
 by_cases m:a=0
 . simp only [BS,LB,Nat.reduceLT,Nat.reduceEqDiff,Int.reduceLT,Int.reduceAdd,FE,c,e,m,s]
   rw [bG]
   by_cases o:b=0
   . simp only [BS,LB,Nat.reduceLT,Nat.reduceEqDiff,Int.reduceLT,Int.reduceAdd,FE,d,f,o,t]
     rw [bG]
     simp only [BS,LB,ac,Nat.reduceLT,Nat.reduceEqDiff,Int.reduceLT]
     exact S.gr
   . simp only [BS,LB,ac,Nat.reduceLT,Nat.reduceEqDiff,Int.reduceLT,FE,d,f,o]
     exact S.gr
 . simp only [BS,LB,ac,Nat.reduceLT,Nat.reduceEqDiff,Int.reduceLT,FE,c,e,m]
   exact S.gr
theorem yV{h0:Hp}(t:h0.t.Sized h0.n){u w B cap:Nat}{n:Int}{l:List Hd}(R:ff h0 u w B cap n l){i k:Nat}(r:i<l.length)(s:k<l.length):
 bz zM 265 [ptrTo u,.int .i64 i,.int .i64 k] h0 (.bool (decide (hlt (l.getD i default) (l.getD k default)))):=by
 have S:=Si t
 obtain⟨F,G,c,f,d,H,C,I,J⟩:=R.ex
 have a:=R.row.load1 (o:=0) rfl
 have e:=C.ld0 d r
 have j:=C.ld1 d r
 have m:=C.ld0 d s
 have p:=C.ld1 d s
 refine ab (n:=44) (rs:=[.tmp 6]) rfl Tryz.e265 rfl rfl rfl (lbt rfl) ?_
 simp only [BS]
 refine aB (aG rfl) (q:=17179869184) (ps:=[(16,32),(16,28),(16,24),(16,20)]) (by kernel_rfl) ?_
 simp only [BS,LB,cls,Nat.reduceLT,Nat.reduceEqDiff,Nat.reduceAdd,Nat.reducePow,Nat.reduceDiv,Nat.reduceMod,Nat.reduceLeDiff,F0m,a,r,s,j,p]
 refine df (yY S.ok) ?_
 intro h g;replace S:=S.call g
 replace a:=g.load a;replace e:=g.load e;replace j:=g.load j;replace m:=g.load m;replace p:=g.load p
 have x:leaves _ _ w=true:=ar g (d.lt t)
 have y:leaves _ _ u=true:=ar g (R.row.lt t)
 clear g
 simp only [BS,LB,cls,Nat.reduceLT,Nat.reduceEqDiff,Nat.reduceAdd,Nat.reducePow,Nat.reduceDiv,Nat.reduceMod,Nat.reduceLeDiff,F0m,a,r,s,e,m]
 refine df (cmpInt_ok S.ok) ?_
 intro K g;replace S:=S.call g
 replace a:=g.load a;replace e:=g.load e;replace j:=g.load j;replace m:=g.load m;replace p:=g.load p
 clear g
 simp only [BS,LB,cls,Nat.reduceLT,Nat.reduceEqDiff,Nat.reduceAdd,Nat.reducePow,Nat.reduceDiv,Nat.reduceMod,Nat.reduceLeDiff]
 refine dC (co (by exact Tryz.t33.1) (by exact XJ) (by decide) (by rfl)) S ?_;clear S;intro h v S z A;simp only [LC,bA,bS,ah,Nat.reduceMul,Nat.reduceAdd,Xq,Xk,Xh,Xs]at S
 simp only [BS,LB,cls,Nat.reduceLT,Nat.reduceEqDiff,Nat.reduceAdd,Nat.reducePow,Nat.reduceDiv,Nat.reduceMod,Nat.reduceLeDiff]
 have D:au h 1 (encI .i64) (.slice (some ⟨v,0,none⟩) 2 2) [kw (l.getD i default).key (l.getD k default).key,kw (l.getD i default).id (l.getD k default).id]:=.inr ⟨v,0,none,2,rfl,XI _,S.lds (b:=v) (o:=0) (n:=2*1) m0 (lbt rfl)⟩
 refine df (or2_ok S.ok D) ?_
 intro L g;replace S:=S.call g;clear g
 simp only [BS,LB,cls,ac,Nat.reduceLT,Nat.reduceEqDiff,Nat.reduceAdd,Nat.reducePow,Nat.reduceDiv,Nat.reduceMod,Nat.reduceLeDiff]
 refine⟨by simp only [bn,bE,aT,bJ,aV,ne_eq,not_false_eq_true,bK,bZ,bg,aX,cb,cM,aO,Nat.reduceLT,Nat.reduceEqDiff,reduceIte,Xi,ag,aD x,aD y,av x,av y],?_⟩
 have E:decide ((if kw (l.getD i default).key (l.getD k default).key=0 then kw (l.getD i default).id (l.getD k default).id else kw (l.getD i default).key (l.getD k default).key)<0)=decide (hlt (l.getD i default) (l.getD k default)):=by
  congr 1
  rw [eq_iff_iff]
  unfold kw hlt
  repeat' split
  all_goals omega
 exact⟨by rw [E],S.gr⟩
theorem sa{h0:Hp}(ok:h0.t.Sized h0.n){u d g cap:Nat}{n:Int}{l:List Hd}(R:ff h0 u d g cap n l){i k:Nat}(t:i<l.length)(p:k<l.length):
 Ret zM 247 [ptrTo u,.int .i64 i,.int .i64 k] h0 fun v h'=>Mo (fun c=>c=d\/c=g) h0 h'/\ff h' u d g cap n (sw l i k):=by
 obtain⟨W,es,c,f,F,hm,C,MI,IF⟩:=R.ex
 have S:=St.init2 (M:=fun c=>c=d\/c=g) ok (o1:=.row W 1) (o2:=.map es c) F hm R.ne.2.2 (.inl rfl) (.inr rfl)
 have E: ¬(u=d\/u=g):=fun h=>h.elim R.ne.1 R.ne.2.1
 have G:=R.row.load1 (o:=0) rfl
 have r1:=R.row.load1 (o:=1) rfl
 have i2:=C.ld2 F t
 have k2:=C.ld2 F p
 have X:=C.len
 have ad:=C.le
 refine ab (n:=62) (rs:=[]) rfl Tryz.e247 rfl rfl rfl (lbt rfl) ?_
 simp only [BS]
 refine aB (aG rfl) (q:=0) (ps:=[]) (by kernel_rfl) ?_
 simp only [BS,LB,cls,Nat.reduceLT,Nat.reduceEqDiff,Nat.reduceAdd,Nat.reducePow,Nat.reduceDiv,Nat.reduceMod,Nat.reduceLeDiff,F04,G,t,p,i2,k2]
 refine dS (S.store (i:=0) rfl Tryz.t344.2.1 (by intro x e;cases e) rfl rfl (by omega) ono) ?_
 clear S;rintro h ⟨S,r⟩;clear r
 have H:=C.set t (l.getD k default)
 simp only [LC,ah]at S
 have j:=S.old G E
 simp only [BS,LB,cls,Nat.reduceLT,Nat.reduceEqDiff,Nat.reduceAdd,Nat.reducePow,Nat.reduceDiv,Nat.reduceMod,Nat.reduceLeDiff,F04,p]
 generalize lay W (i*2) _=I at S H
 have af:=H.len
 refine dS (S.store (i:=0) (off:=k*2) rfl Tryz.t344.2.1 (by intro x e;cases e) rfl rfl (by omega) ono) ?_
 clear S;rintro h ⟨S,r⟩;clear r
 have y:=H.set (i:=k) (by rw [Xo];exact p) (l.getD i default)
 simp only [LC,ah]at S
 generalize lay I (k*2) _=s at S y
 rw [set_sw]at y
 clear j
 have j:=S.old G E
 have A:=S.old r1 E
 have J:i<(sw l i k).length:=by rw [gM];exact t
 have K:k<(sw l i k).length:=by rw [gM];exact p
 have Y:=y.ld0 (S.row m0) J
 have Z:=y.ld0 (S.row m0) K
 simp only [BS,LB,Nat.reduceAdd]
 refine aB (aG rfl) (q:=0) (ps:=[]) (by kernel_rfl) ?_
 simp only [BS,LB,cls,Nat.reduceLT,Nat.reduceEqDiff,Nat.reduceAdd,Nat.reducePow,Nat.reduceDiv,Nat.reduceMod,Nat.reduceLeDiff,F04,j,A,t,p,Y,Z]
 refine jF (P:=fun h' v=> ∃n a m,v=.tuple #[(f ((sw l i k).getD i default).id).getD (.int .i64 0),.int .i64 (Int.ofNat n)]/\St (fun c=>c=d\/c=g) h0 h' [(d,.row s 1),(g,.map a m)] []/\ ∀w,∃b,fK n w a=some b/\c7 b m (dk f ((sw l i k).getD i default).id (some w))) ?_ ?_
 . obtain⟨h',n,L,_,a,m,_,N,e5⟩:=S.mentI (i:=1) (x:=(((sw l i k).getD i default).id:Int)) rfl Tryz.t218.1 Tryz.t3.1 (z:=.int .i64 0) (by kernel_rfl) MI
   exact⟨h',_,L,n,a,m,rfl,N,e5⟩
 clear S Y Z j A
 rintro h v ⟨s1,al,c1,rfl,S,O⟩
 obtain⟨b,Q,T⟩:=O (.int .i64 i)
 simp only [BS,LB,cls,Nat.reduceLT,Nat.reduceEqDiff,Nat.reduceAdd,Nat.reducePow,Nat.reduceDiv,Nat.reduceMod,Nat.reduceLeDiff,XX]
 refine dS (S.mstoreI (i:=1) rfl Q) ?_
 clear S;rintro h ⟨r,S⟩;clear r
 simp only [LC]at S
 simp only [BS,LB,cls,Nat.reduceLT,Nat.reduceEqDiff,Nat.reduceAdd,Nat.reducePow,Nat.reduceDiv,Nat.reduceMod,Nat.reduceLeDiff]
 refine jF (P:=fun h' v=> ∃n a m,v=.tuple #[(dk f ((sw l i k).getD i default).id (some (.int .i64 i)) ((sw l i k).getD k default).id).getD (.int .i64 0),.int .i64 (Int.ofNat n)]/\St (fun c=>c=d\/c=g) h0 h' [(d,.row s 1),(g,.map a m)] []/\ ∀w,∃b,fK n w a=some b/\c7 b m (dk (dk f ((sw l i k).getD i default).id (some (.int .i64 i))) ((sw l i k).getD k default).id (some w))) ?_ ?_
 . obtain⟨h',n,L,_,a,m,_,N,e5⟩:=S.mentI (i:=1) (x:=(((sw l i k).getD k default).id:Int)) rfl Tryz.t218.1 Tryz.t3.1 (z:=.int .i64 0) (by kernel_rfl) T
   exact⟨h',_,L,n,a,m,rfl,N,e5⟩
 clear S
 rintro h v ⟨s2,ax,c3,rfl,S,B⟩
 obtain⟨U,D,V⟩:=B (.int .i64 k)
 simp only [BS,LB,cls,Nat.reduceLT,Nat.reduceEqDiff,Nat.reduceAdd,Nat.reducePow,Nat.reduceDiv,Nat.reduceMod,Nat.reduceLeDiff,XX]
 refine dS (S.mstoreI (i:=1) rfl D) ?_
 clear S;rintro h ⟨r,S⟩;clear r
 simp only [LC]at S
 simp only [BS,LB,Nat.reduceAdd]
 refine⟨S.fr,?_,⟨s,U,c3,_,S.row m0,(S.own _ m1).2,y,V,IF.swap t p⟩,R.ne⟩
 rw [gM]
 exact S.fr.has (o:=.row _ 1) R.row E
theorem up_ok{h0:Hp}(t:h0.t.Sized h0.n){b d e cap:Nat}{n:Int}{l:List Hd}(R:ff h0 b d e cap n l){i:Nat}(r:i<l.length)(x:l.length<1000000)(U:qC l i):
 Ret zM 245 [ptrTo b,.int .i64 i] h0 fun v h'=>Mo (fun c=>c=d\/c=e) h0 h'/\ ∃l',ff h' b d e cap n l'/\l'.Perm l/\lz l':=by
 refine ab (n:=23) (rs:=[]) rfl Tryz.e245 rfl rfl rfl (lbt rfl) ?_
 simp only [BS]
 refine bL (fun(i:Nat) m h=>i<l.length/\Mo (fun c=>c=d\/c=e) h0 h/\ ∃l',ff h b d e cap n l'/\l'.Perm l/\qC l' i/\m 0=ptrTo b/\m 1=.int .i64 i) (fun i=>i) ?_ i _ _ ?_
 . intro i u m h ⟨r,a,l',R,pm,U,r0,r1⟩
   have s:=pm.length_eq
   by_cases o:i=0
   . subst o
     simp only [BS,LB,Nat.reduceLT,Nat.reduceEqDiff,Int.reduceLT,Xe,r1]
     exact⟨a,l',R,pm,up_done U (.inl rfl)⟩
   . have w:(0:Int)<(i:Int):=by omega
     have p:an .i64 ((i:Int)-1)=((i-1:Nat):Int):=by rw [wrap64]<;>omega
     have q:an .i64 (((i-1:Nat):Int).tdiv 4)=(((i-1)/4:Nat):Int):=by
      rw [Int.tdiv_eq_ediv_of_nonneg (by omega),show(((i-1:Nat):Int)/4)=(((i-1)/4:Nat):Int) by omega,wrap64]<;>omega
     simp only [BS,LB,Nat.reduceLT,Nat.reduceEqDiff,r0,r1,w,p,q,b_quo (n:=4) (by decide)]
     refine am (yV a.ok R (i:=i) (k:=(i-1)/4) (by omega) (by omega)) ?_
     intro h g;replace R:=R.gr g;replace a:=a.trans (M':=NoM) g.fr (fun _ h=>h.elim);clear g
     by_cases j:hlt (l'.getD i default) (l'.getD ((i-1)/4) default)
     . simp only [BS,LB,Nat.reduceLT,Nat.reduceEqDiff,r0,r1,p,q,b_quo (n:=4) (by decide),j]
       refine step_ret (sa a.ok R (i:=i) (k:=(i-1)/4) (by omega) (by omega)) ?_
       rintro v h ⟨f,R⟩
       replace a:=a.trans f (fun _ h=>.inl h)
       simp only [BS,LB,Nat.reduceLT,Nat.reduceEqDiff,r1,p,q,b_quo (n:=4) (by decide)]
       exact u ((i-1)/4) _ _ (by omega) ⟨by omega,a,_,R,(sh l' (by omega) (by omega)).trans pm,up_step (by omega) U (by omega) j,by simp [aa,r0,ag],by simp [aa]⟩
     . simp only [BS,LB,Nat.reduceLT,Nat.reduceEqDiff,b_quo (n:=4) (by decide),j]
       exact⟨a,l',R,pm,up_done U (.inr (uA j))⟩
 . exact⟨r,Mo.refl t,l,R,.refl _,U,by simp [aZ,ag],by simp [aZ,cG]⟩
def Tryz.FP:=aj t1<|aj t2<|aj t3<|aj t4<|aj t196<|aj t218<|aj t337<|aj Z6<|aj Z9<|t357
def Tryz.Fp:=aj t1<|aj t2<|aj t3<|aj t4<|aj t5<|aj t6<|aj Z3<|aj Z4<|aj t9<|aj t12<|aj Z12<|aj t95<|aj t218<|aj t250<|aj t337<|aj Z6<|t357
theorem St.monoM{M:Nat->Prop}{h0 h:Hp}{L:List (Nat×Ob)}{G:List GL}(S:St NoM h0 h L G):St M h0 h L G:=
 ⟨S.fr.mono (fun _ h=>h.elim),fun p a=>⟨(S.own p a).1.imp (fun h=>h) (fun h=>h.elim),(S.own p a).2⟩,fun p a=>⟨(S.gown p a).1,fun b c=>((S.gown p a).2 b c).imp (fun h=>h) (fun h=>h.elim)⟩,S.apart⟩
theorem below_ok{h0:Hp}(f:h0.t.Sized h0.n){e i:Nat}:Ret zM 266 [ptrTo e,.int .i64 i] h0 fun v h'=>Gr h0 h'/\ ∃a b,v=.func (.func 278) #[] #[ptrTo a,ptrTo b]/\h0.n<=a/\h0.n<=b/\h'.load a 0 1=some [.int .i64 i]/\h'.load b 0 1=some [ptrTo e]:=by
 have S:=Si f
 refine ab (n:=6) (rs:=[.tmp 4]) rfl Tryz.e266 rfl rfl rfl (lbt rfl) ?_
 simp only [BS,Nat.reduceLT]
 refine ae (cK (by exact dz)) S ?_;clear S;intro h b S c
 simp only [BS,Nat.reduceLT,Nat.reduceEqDiff,if_false]
 refine ae (cK (by exact aY)) S ?_;clear S;intro h a S d
 simp only [BS,LB,ac,Nat.reduceLT,Nat.reduceEqDiff]
 exact⟨S.gr,a,b,rfl,d,c,S.ld m0 rfl,S.ld m1 rfl⟩
theorem AV{h0:Hp}(b:h0.t.Sized h0.n){e f m i n cap:Nat}{r:Addr}(g:h0.load e 0 1=some [.int .i64 i])(t:h0.load f 0 1=some [ptrTo m])(B:h0.load m 0 1=some [.slice (some r) n cap])(K:n<1000000)(L:i<1000000):
 Iter zM 278 [] [ptrTo e,ptrTo f] h0 (fun c=>c=e\/c=f\/c=m) ((Xa (min 4 (n-(4*i+1)))).map fun j=>[.int .i64 ((4*i+1+j:Nat):Int)]):=by
 refine rW fun C J Z Y h F s o=>?_
 refine enter (n:=28) (rs:=[]) rfl Tryz.e278 rfl rfl rfl (lbt rfl) ?_
 have d:=s.load b g (.inl rfl)
 have p:an .i64 (4*(i:Int))=((4*i:Nat):Int):=by rw [wrap64]<;>omega
 have D:an .i64 (((4*i:Nat):Int)+1)=((4*i+1:Nat):Int):=by rw [wrap64]<;>omega
 have u:an .i64 (((4*i:Nat):Int)+4)=((4*i+4:Nat):Int):=by rw [wrap64]<;>omega
 simp only [BS,LB,Nat.reduceLT,Nat.reduceEqDiff,FP,d,p,D]
 refine bL (fun(j:Nat) k h=>j<=min 4 (n-(4*i+1))/\ ∃F,ItS h0 (fun c=>c=e\/c=f\/c=m) h F/\J j h F/\k 0=.func (.yield C) #[] #[]/\k 1=ptrTo e/\k 2=ptrTo f/\k 4=.int .i64 ((4*i+1+j:Nat):Int)) (fun j=>min 4 (n-(4*i+1))-j) ?_ 0 _ _ ?_
 . clear d
   intro j E k h ⟨hjm,F,s,o,r0,r1,r2,r4⟩
   have d:=s.load b g (.inl rfl)
   have y:=s.load b t (.inr (.inl rfl))
   have z:=s.load b B (.inr (.inr rfl))
   by_cases hlt:j<min 4 (n-(4*i+1))
   . have q:((4*i+1+j:Nat):Int)<=((4*i+4:Nat):Int):=by omega
     have x:4*i+1+j<n:=by omega
     have w:an .i64 (((4*i+1+j:Nat):Int)+1)=((4*i+1+(j+1):Nat):Int):=by rw [wrap64]<;>omega
     simp only [BS,LB,Nat.reduceLT,Nat.reduceEqDiff,FP,r0,r1,r2,r4,d,y,z,p,u,q,x,aK]
     refine gu Y s o (i:=j) (by rw [Xy,XZ hlt];rfl) ?_ ?_ ?_
     . intro A G a H _ _
       simp only [BS,LB,Nat.reduceLT,Nat.reduceEqDiff,r4,w]
       exact E (j+1) _ _ (by omega) ⟨by omega,G,H,a,by simp [aa,r0],by simp [aa,r1,ag],by simp [aa,r2,ag],by simp [aa]⟩
     . intro A a _
       simp only [BS,LB,Nat.reduceLT,Nat.reduceEqDiff]
       exact jb rfl ⟨rfl,.inr (.inl ⟨_,rfl,a⟩)⟩
     . intro v A a
       simp only [BS]
       exact im (c9 ⟨rfl,.inr (.inr ⟨_,rfl,a⟩)⟩)
   . have I:j=min 4 (n-(4*i+1)):=by omega
     have l:YQ J Z (min 4 (n-(4*i+1))) (.ret (ac [])) none h:=⟨rfl,.inl ⟨_,F,rfl,by rw [<-I];exact o⟩⟩
     by_cases q:((4*i+1+j:Nat):Int)<=((4*i+4:Nat):Int)
     . have x: ¬4*i+1+j<n:=by omega
       simp only [BS,LB,Nat.reduceLT,Nat.reduceEqDiff,FP,r1,r2,r4,d,y,z,p,u,q,x,aK]
       exact dP (c9 ⟨rfl,_,rfl,by simpa using l⟩)
     . simp only [BS,LB,Nat.reduceLT,Nat.reduceEqDiff,FP,r1,r4,d,p,u,q]
       exact dP (c9 ⟨rfl,_,rfl,by simpa using l⟩)
 . exact⟨by omega,F,s,o,by simp [aa,cD],by simp [aa,cD,ag],by simp [aa,cD,ag],by simp [aa]⟩
theorem down_ok {h0:Hp} (ok:h0.t.Sized h0.n) {u z A cap:Nat} {n:Int} {l:List Hd} (R:ff h0 u z A cap n l) {i:Nat} (C:i<l.length\/(l=[]/\i=0)) (hl:l.length<100000) (D:sb l i):
 Ret zM 248 [ptrTo u,.int .i64 i] h0 fun v h'=>Mo (fun c=>c=z\/c=A) h0 h'/\ ∃l',ff h' u z A cap n l'/\l'.Perm l/\lz l':=by
 have lt:=R.lt ok
 have S:=Si ok
 have K: ∀{L:List (Nat×Ob)},(∀c∈keys L [],h0.n<=c)-> ∀c,c=u\/c=z\/c=A-> ¬c∈keys L []:=fun H c s hm=>by have:=lt c s;have:=H c hm;omega
 refine ab (n:=27) (rs:=[]) rfl Tryz.e248 rfl rfl rfl (lbt rfl) ?_
 simp only [BS,LB,Nat.reduceLT,Fp]
 refine ae aA S ?_;clear S;intro h I S P
 simp only [BS,LB,Nat.reduceLT,Nat.reduceEqDiff]
 refine az (aC S (i:=0) rfl ?_ ?_ ?_ ono) ?_
 . exact(by simp only [Fp])
 . exact(by exact fO)
 . exact zN (lbt rfl)
 clear S;rintro h ⟨S,Q⟩;clear Q;simp only [LC,ah,lay,Xb,Xc,Nat.reduceAdd]at S
 simp only [BS]
 have RR:=R.gr S.gr
 replace S:=S.monoM (M:=fun c=>c=z\/c=A)
 refine rh (fun(i:Nat) ρ d h=> ∃(r:List Nat) (l':List Hd),d=r.map qx/\St (fun c=>c=z\/c=A) h0 h (ey r++[(I,.row [.func (.func 265) #[ptrTo u] #[]] 1)]) []/\(∀c∈keys (ey r++[(I,Ob.row [.func (.func 265) #[ptrTo u] #[]] 1)]) [],h0.n<=c)/\
  ff h u z A cap n l'/\l'.Perm l/\sb l' i/\(i<l.length\/(l=[]/\i=0))/\ρ 0=ptrTo u/\ρ 1=.int .i64 i/\ρ 4=ptrTo I) (fun i=>l.length-i) ?_ i _ _ _ ?_
 . clear S RR R D C i
   intro i ih ρ d hS ⟨r,l',hd,S0,H,R,pm,D,C,r0,r1,r4⟩
   have aL:=pm.length_eq
   have af:i<1000000:=by rcases C with C|⟨_,C⟩<;>omega
   have S:=S0.base
   have Rs:=R
   have n0:h0.n<=hS.n:=S0.fr.n
   simp only [BS,Nat.reduceLT,Fp,r1]
   refine ae aA S ?_;clear S;intro h w S U
   simp only [BS,LB,Nat.reduceLT,Nat.reduceEqDiff]
   refine az (aC S (i:=0) rfl ?_ ?_ ?_ ono) ?_
   . exact(by simp only [Fp])
   . exact(by exact aY)
   . exact zN (lbt rfl)
   clear S;rintro h ⟨S,Q⟩;clear Q;simp only [LC,ah,lay,Xb,Xc,Nat.reduceAdd]at S
   simp only [BS,LB,Nat.reduceLT,Nat.reduceEqDiff,r0,r1]
   have gq:=S.fr.n
   have a0:=S.key_lt (b:=w) (by simp [keys])
   refine step_ret (below_ok S.ok) ?_;intro v h ⟨g,b1,b2,e,n1,n2,q1,q2⟩;replace S:=S.call g;clear g
   subst e
   simp only [BS]
   replace R:=R.mo1 S.fr (K H)
   have gh:=S.fr.n
   refine kQ S (g:=278) (a:=#[]) (b:=#[ptrTo b1,ptrTo b2]) (by simp [cb,aa,ag]) rfl rfl ?_
   intro h2 E N V a1 a2 g2
   have kb: ∀c∈keys (ey r++[(I,Ob.row [.func (.func 265) #[ptrTo u] #[]] 1)]) [],c<b1/\c<b2:=fun c s=>by have:=S0.key_lt s;have:=U;omega
   generalize hB:ey r++[(I,Ob.row [.func (.func 265) #[ptrTo u] #[]] 1)]=B at S V S0 H kb
   have mf:(I,Ob.row [.func (.func 265) #[ptrTo u] #[]] 1)∈B:=by rw [<-hB];exact Xu _ m0
   obtain⟨X,hX,V⟩: ∃X:gW,X=_/\St (· ∈keys B []) hS h2 ((N,.loop X)::(E,.dfr)::(w,.row [.int .i64 (i:Nat)] 1)::B) []:=⟨_,rfl,V⟩
   have R2:=R.gr g2
   have ch: ∀j,j<min 4 (l'.length-(4*i+1))->4*i+1+j<l'.length/\(4*i+1+j-1)/4=i:=fun j hj=>⟨by omega,by omega⟩
   have hY:Yld zM N (fun j h' F=> ∃m:Nat,St (· ∈keys B []) hS h' ((N,.loop X)::(E,.dfr)::(w,.row [.int .i64 (m:Nat)] 1)::B) []/\F=keys ((N,.loop X)::(E,.dfr)::(w,.row [.int .i64 (m:Nat)] 1)::B) []/\
    (m<l'.length\/(l'=[]/\m=i))/\hle (l'.getD m default) (l'.getD i default)/\(∀q,q<j->hle (l'.getD m default) (l'.getD (4*i+1+q) default))/\(m=i\/(0<m/\(m-1)/4=i/\hlt (l'.getD m default) (l'.getD i default)))) (fun _ _=>False) ((Xa (min 4 (l'.length-(4*i+1)))).map fun j=>[.int .i64 ((4*i+1+j:Nat):Int)]):=by
    refine⟨?_,?_,fun _ _ h=>h.elim,?_⟩
    . rintro j h F ⟨m,S,rfl,_⟩;exact⟨S.ok,fun b t=>S.key_lt t⟩
    . rintro j h F h' ⟨m,S,rfl,k⟩ g;exact⟨m,S.call g,rfl,k⟩
    . rintro j x h F hx ⟨m,S,rfl,G,k2,W,Y⟩
      have Z:j<min 4 (l'.length-(4*i+1)):=by
       have:=(List.getElem?_eq_some_iff.1 hx).1
       simpa using this
      rw [Xy,XZ Z]at hx
      cases hx
      obtain⟨c1,c2⟩:=ch j Z
      replace G:=G.resolve_right (by intro e;rw [e.1]at c1;simp at c1)
      obtain⟨X0,ai⟩: ∃x,x=X:=⟨_,rfl⟩
      subst hX
      refine kU (S.get m0) (by rw [Tryz.e248];rfl) rfl ?_
      have S1:=S
      replace S:=S.base
      simp only [BS,LB,Nat.reduceLT,Nat.reduceEqDiff]
      refine jQ S (i:=0) rfl rfl rfl rfl rfl ?_
      clear S;intro h S
      simp only [LC]at S
      have lf:h.load I 0 1=some [.func (.func 265) #[ptrTo u] #[]]:=S.ld (o:=0) (.tail _ (.tail _ (.tail _ mf))) rfl
      simp only [BS,LB,Nat.reduceLT,Nat.reduceEqDiff,Fp,r4,lf,S.ld (b:=w) (o:=0) m2 rfl]
      have ak: ∀c∈keys ((N,Ob.loop X0)::(E,.dfr)::(w,.row [.int .i64 (m:Nat)] 1)::B) [],h0.n<=c:=fun c s=>(S1.key_own s).elim (fun h=>by omega) (fun h=>H c h)
      clear ai
      have Rc:ff h u z A cap n l':=(Rs.mo1 S1.fr (K H)).mo1 S.fr (K ak)
      refine am (yV S.ok Rc c1 G) ?_
      intro h g;replace S:=S.call g;clear g Rc lf
      by_cases O:hlt (l'.getD (4*i+1+j) default) (l'.getD m default)
      . simp only [BS,LB,Nat.reduceLT,Nat.reduceEqDiff,O]
        refine az (aC S (i:=2) rfl ?_ ?_ ?_ ono) ?_
        . exact(by simp only [Fp])
        . exact(by exact aY)
        . exact zN (lbt rfl)
        clear S;rintro h ⟨S,Q⟩;clear Q;simp only [LC,ah,lay,Xb,Xc,Nat.reduceAdd]at S
        simp only [BS]
        refine gT S (i:=0) rfl ?_
        clear S;intro h S
        simp only [LC]at S
        refine .inl ⟨rfl,_,⟨4*i+1+j,S1.rebase S,rfl,.inl c1,jB (qS O) k2,fun q hq=>?_,.inr ⟨by omega,c2,?_⟩⟩,S.fr,S.key_new⟩
        . by_cases e:q=j
          . subst e;exact tE _
          . exact jB (qS O) (W q (by omega))
        . rcases Y with rfl|⟨_,_,Y⟩
          . exact O
          . unfold hlt at*;omega
      . simp only [BS,LB,Nat.reduceLT,Nat.reduceEqDiff,O]
        refine gT S (i:=0) rfl ?_
        clear S;intro h S
        simp only [LC]at S
        refine .inl ⟨rfl,_,⟨m,S1.rebase S,rfl,.inl G,k2,fun q hq=>?_,Y⟩,S.fr,S.key_new⟩
        by_cases e:q=j
        . subst e;exact uA O
        . exact W q (by omega)
   refine fk (yE (AV S.ok q1 q2 (R.row.load1 (o:=0) rfl) (by omega) af) hY (h:=h2) (F:=keys ((N,.loop X)::(E,.dfr)::(w,.row [.int .i64 (i:Nat)] 1)::B) []) g2.fr (fun b t hlt=>?_) ⟨i,V,rfl,?_,tE _,fun q hq=>by omega,.inl rfl⟩) fun o rc h' y=>mS y ?_
   . have e1:=V.key_own t
     rintro(rfl|rfl|rfl)
     . rcases List.mem_cons.1 t with e|t
       . omega
       . rcases List.mem_cons.1 t with e|t
         . omega
         . rcases List.mem_cons.1 t with e|t
           . simp only []at e;omega
           . have:=(kb _ t).1;omega
     . rcases List.mem_cons.1 t with e|t
       . omega
       . rcases List.mem_cons.1 t with e|t
         . omega
         . rcases List.mem_cons.1 t with e|t
           . simp only []at e;omega
           . have:=(kb _ t).2;omega
     . have:=lt b (.inl rfl)
       rcases e1 with e1|e1
       . omega
       . have:=H b e1;omega
   . rcases C with C|⟨C,_⟩
     . exact .inl (by omega)
     . right;rw [C]at pm;exact⟨pm.eq_nil,rfl⟩
   . rintro F ⟨m,T,rfl,G,k2,W,Y⟩
     rw [List.length_map,List.length_range]at W
     subst hX
     refine⟨_,T.get m0,Nat.zero_ne_one,?_⟩
     replace T:=T.dead
     show Run _ _ _ _ _ _ _ _
     have p:=T.ld (b:=w) (o:=0) m1 rfl
     have Rc:ff _ u z A cap n l':=Rs.mo1 T.fr (K H)
     have km: ∀q,0<q->q<l'.length->(q-1)/4=i->hle (l'.getD m default) (l'.getD q default):=fun q q0 ql qe=>by
      have:=W (q-(4*i+1)) (by omega)
      rwa [show 4*i+1+(q-(4*i+1))=q by omega]at this
     have T0:=S0.rebase T
     have ad: ∀c∈keys ((E,Ob.dfr)::(w,.row [.int .i64 (m:Nat)] 1)::B) [],h0.n<=c:=fun c s=>(T.key_own s).elim (fun h=>by omega) (fun h=>H c h)
     subst hd hB
     have T2:=T0.sub (L':=ey (E::r)++[(I,Ob.row [.func (.func 265) #[ptrTo u] #[]] 1)]) (G':=[]) (List.Sublist.cons_cons _ (List.sublist_cons_self _ _)) (List.Sublist.refl _)
     have J: ∀c∈keys (ey (E::r)++[(I,Ob.row [.func (.func 265) #[ptrTo u] #[]] 1)]) [],h0.n<=c:=fun c s=>ad c (by simp only [keys,List.filterMap_nil,Xt,ey,XO,List.cons_append,List.mem_cons]at s⊢;rcases s with h|h;exact .inl h;exact .inr (.inr h))
     by_cases e:m=i
     . subst e
       simp only [BS,LB,Nat.reduceLT,Nat.reduceEqDiff,Fp,r1,p]
       have T3:=T2.base
       refine fD (kK (E::r) _ T3 fun h' T4=>⟨rfl,_,rfl,?_⟩)
       refine⟨(T2.fr.trans T4.fr fun c s=>(T2.key_own s).symm),l',Rc.mo1 T4.fr (K J),pm,dn_done D km⟩
     . have e': ¬((m:Int)=(i:Int)):=by omega
       obtain⟨b0,be,al⟩:=Y.resolve_left e
       replace G:=G.resolve_right (fun h=>e h.2)
       simp only [BS,LB,Nat.reduceLT,Nat.reduceEqDiff,Fp,r0,r1,p,e']
       refine step_ret (sa T2.ok Rc (i:=i) (k:=m) (by omega) G) ?_
       rintro v h ⟨f,Rn⟩
       have ax:=K J
       have T3:=T2.step f (fun c s=>.inl s) (fun c s hM=>ax c (.inr hM) s)
       have f2:Mo (fun c=>c=z\/c=A) _ h:=f
       have ay:h.load w 0 1=some [.int .i64 (m:Nat)]:=by
        have a3:h0.n<=w:=ad w (.tail _ m0)
        have:=f.get w (bD f.ok0 p) (fun hM=>by have:=lt w (.inr hM);omega)
        unfold Hp.load at p⊢
        rw [this];exact p
       simp only [BS,LB,Nat.reduceLT,Nat.reduceEqDiff,Fp,ay]
       exact ih m _ _ _ (by omega) ⟨E::r,_,rfl,T3,J,Rn,(sh l' (by omega) G).trans pm,dn_step D b0 G be al km,.inl (by omega),by simp [aa,r0,ag],by simp [aa],by simp [aa,r4,ag]⟩
 . exact⟨[],l,rfl,S,fun c s=>by simp [keys,ey]at s;subst s;exact P,RR,.refl _,D,C,by simp [aa,aZ,ag],by simp [aa,aZ,cG],by simp [aa,ag]⟩
end Go.Ab
end
section
namespace Go.Ab
open Go.Proofs
set_option maxRecDepth 10000
def Tryz.F15:=aj t1<|aj t3<|aj t218<|aj t275<|aj t337<|aj Z6<|aj Z7<|Z9
def Tryz.F16:=aj t1<|aj t2<|aj t3<|aj t4<|aj t218<|aj t275<|aj t337<|aj Z6<|aj Z7<|Z9
def Tryz.F0n:=aj t1<|aj t2<|aj t3<|aj t4<|aj t5<|aj t6<|aj t218<|aj t275<|aj t337<|aj Z6<|aj Z7<|Z9
def Tryz.Fj:=aj t1<|aj t2<|aj t3<|aj t4<|aj t5<|aj t6<|aj Z3<|aj Z4<|aj t9<|aj t45<|aj t218<|aj t275<|aj t337<|aj Z6<|aj Z7<|Z9
def Tryz.F0o:=aj t1<|aj t2<|aj t3<|aj t4<|aj t5<|aj t6<|aj Z3<|aj Z4<|aj t9<|aj t10<|aj t11<|aj t12<|aj t45<|aj t218<|aj t275<|aj t337<|aj Z6<|aj Z7<|Z9
theorem uq{h0:Hp}(k:h0.t.Sized h0.n){N:Nat}:Ret zM 196 [.int .i64 N] h0 fun v h'=>Gr h0 h'/\ ∃F,bM h' F v N (fun _=>none)/\ ∀b∈F,h0.n<=b:=by
 have S:=Si k
 have l:max (N:Int) 0=(N:Int):=by omega
 refine ab (n:=9) (rs:=[.tmp 2]) rfl Tryz.e196 rfl rfl rfl (lbt rfl) ?_
 simp only [BS]
 refine ae kR S ?_;clear S;intro h f S a
 simp only [BS,LB,Nat.reduceLT,Nat.reduceEqDiff,Nat.reduceAdd,Nat.reduceLeDiff,F15,l]
 refine ae (aS (by intro x e;cases e)) S ?_;clear S;intro h b S d;simp only [ah]at S
 simp only [BS,LB,ac,Nat.reduceLT,Nat.reduceEqDiff]
 have g:=S.apart
 simp only [keys,XO,X8,List.filterMap_nil,Xt,List.nodup_cons,List.mem_cons,List.not_mem_nil,or_false]at g
 refine⟨S.gr,[b,f],⟨b,f,[],rfl,fun j _ m=>(by simp at m),cont_nil,fun x o=>(by cases o),.inl ⟨rfl,rfl,g.1,S.row m0,[],0,(S.own _ m1).2,mz⟩⟩,fun c i=>?_⟩
 simp at i
 rcases i with rfl|rfl
 . exact d
 . exact a
section
variable{h0:Hp}{F:List Nat}{p:Value}{N:Nat}{K:Nat->Option Int}
theorem qz(f:h0.t.Sized h0.n)(H:bM h0 F p N K): ∃m:Nat,bz zM 246 [p] h0 (.int .i64 m)/\(m=0↔ ∀v,K v=none):=by
 obtain⟨g,q,l,rfl,r,d,s,h⟩:=H.ex
 refine⟨l.length,?_,?_⟩
 . have S:=Si f
   obtain⟨a,n,c,m1,m2,b,i⟩: ∃a n c m1 m2,Row h0 g [.slice a n c,m1,m2] 1/\n=l.length:=by
    rcases h with⟨rfl,_,_,b,_⟩|⟨t,j,_,b⟩
    . exact⟨_,_,_,_,_,b,rfl⟩
    . exact⟨_,_,_,_,_,b.row,rfl⟩
   subst i
   have k:=b.load1 (o:=0) rfl
   refine ab (n:=11) (rs:=[.tmp 2]) rfl Tryz.e246 rfl rfl rfl (lbt rfl) ?_
   simp only [BS,LB,ac,Nat.reduceLT,Nat.reduceEqDiff,F16,k]
   exact S.gr
 . constructor
   . intro e
     rw [List.length_eq_zero_iff.1 e]at d
     exact d.nil
   . intro e
     cases l with
     |nil=>rfl
     | cons x l=>
       have:=(d.2 x.id x.key).2 (by simp)
       rw [e]at this;cases this
theorem AB (y:h0.t.Sized h0.n) (H:bM h0 F p N K) {v:Nat}:bz zM 252 [p,.int .i64 v] h0 (.tuple #[.int .i64 ((K v).getD 0),.bool (K v).isSome]):=by
 have S:=Si y
 obtain⟨m,a,A⟩:=qz y H
 obtain⟨O,P,l,rfl,Q,r,T,I⟩:=H.ex
 by_cases b:m=0
 . subst b
   have e:=A.1 rfl v
   rw [e]
   refine ab (n:=32) (rs:=[.tmp 4,.tmp 5]) rfl Tryz.e252 rfl rfl rfl (lbt rfl) ?_
   simp only [BS,LB,Nat.reduceLT,Nat.reduceEqDiff]
   refine am (a) ?_;intro h g;replace S:=S.call g;clear g
   simp only [BS,LB,ac,Nat.reduceLT,Nat.reduceEqDiff,Xe]
   exact⟨rfl,S.gr⟩
 . have d: ¬((m:Int)=0):=by omega
   rcases I with⟨rfl,_⟩|⟨U,J,_,R⟩
   . exact absurd (A.2 r.nil) b
   . refine ab (n:=32) (rs:=[.tmp 4,.tmp 5]) rfl Tryz.e252 rfl rfl rfl (lbt rfl) ?_
     simp only [BS,LB,Nat.reduceLT,Nat.reduceEqDiff]
     refine am (a) ?_;intro h g;replace S:=S.call g;replace R:=R.gr g;clear g
     obtain⟨V,W,c,f,s,t,C,L,B⟩:=R.ex
     have M:=R.row.load1 (o:=0) rfl
     have D:=R.row.load1 (o:=1) rfl
     have q:=kB (x:=(v:Int)) Tryz.t218.1 Tryz.t3.1 (z:=.int .i64 0) (by kernel_rfl) t L
     cases E:K v with
     | none=>
       have u:f v=none:=by
        cases hf:f v with
        |none=>rfl
        | some w=>
          obtain⟨i,j,e⟩:=B.2 v w hf
          have:=r.at j
          rw [show(l.getD i default).id=v by omega,E]at this;cases this
       rw [u]at q
       simp only [BS,LB,ac,Nat.reduceLT,Nat.reduceEqDiff,F0n,d,D,q,XC,XF]
       exact S.gr
     | some k=>
       obtain⟨i,j,e⟩:=r.idx E
       have u:f v=some (.int .i64 i):=by have:=B.1 i j;rwa [e]at this
       rw [u]at q
       have G:=C.ld1 s j
       rw [e]at G
       simp only [BS,LB,ac,Nat.reduceLT,Nat.reduceEqDiff,F0n,d,M,D,q,XD,j,G]
       exact S.gr
theorem pH(ok:h0.t.Sized h0.n)(H:bM h0 F p N K){v:Nat}(hv:v<N)(hN:N<=1000)(P:K v=none){k:Int}:
 Ret zM 200 [p,.int .i64 v,.int .i64 k] h0 fun r h'=>Mo (· ∈F) h0 h'/\ ∃F',bM h' F' p N (cE K v (some k))/\ ∀b∈F',b∈F\/h0.n<=b:=by
 obtain⟨a,s,l,rfl,ho,m,hlt,D⟩:=H.ex
 have af:=sW m hlt
 have c1: ¬((v:Int)<0):=by omega
 have c2: ¬((N:Int)<=(v:Int)):=by omega
 have hn:=m.free P
 rcases D with⟨rfl,rfl,T,hr,U,c,g,E⟩|⟨G,u,rfl,R⟩
 . have S:=St.init2 (M:=(· ∈[a,s])) ok (o1:=.row _ 1) (o2:=.map U c) hr g T (by simp) (by simp)
   have Q:=kB (x:=(v:Int)) Tryz.t218.1 Tryz.t3.1 (z:=.int .i64 0) (by kernel_rfl) g E
   refine ab (n:=71) (rs:=[.tmp 6]) rfl Tryz.e200 rfl rfl rfl (lbt rfl) ?_
   simp only [BS,LB,Nat.reduceLT,Nat.reduceEqDiff,Fj,Q,c1,c2,XC,XF,S.ld (b:=a) (o:=1) m0 rfl,S.ld (b:=a) (o:=2) m0 rfl]
   refine aB (aG rfl) (q:=0) (ps:=[]) (by kernel_rfl) ?_
   simp only [BS,LB,cls,Nat.reduceLT,Nat.reduceEqDiff,Nat.reduceAdd,Nat.reducePow,Nat.reduceDiv,Nat.reduceMod,Nat.reduceLeDiff,Xe,Fj,S.ld (b:=a) (o:=0) m0 rfl,S.ld (b:=a) (o:=1) m0 rfl]
   refine dS (S.mputI (i:=1) rfl Tryz.t218.1 Tryz.t3.1 E _) ?_
   clear S;rintro h ⟨_,V,c',y,S⟩
   simp only [LC]at S
   simp only [BS,LB,Nat.reduceLT,Nat.reduceEqDiff,Nat.reduceAdd,Fj,S.ld (b:=a) (o:=0) m0 rfl,S.ld (b:=a) (o:=1) m0 rfl]
   refine ae (co (by exact Tryz.t337.1) (by exact XY) (by decide) (by rfl)) S ?_;clear S;intro h I S J;simp only [LC,bA,bS,ah,Nat.reduceMul,Nat.reduceAdd,Xq,Xk,Xh,Xs]at S
   simp only [BS,LB,Nat.reduceLT,Nat.reduceEqDiff,S.ld (b:=a) (o:=0) m1 rfl,S.ld (b:=a) (o:=1) m1 rfl]
   have j:aM h 2 (.slice (some ⟨I,0,none⟩) 1 1)=some (1,jW ⟨v,k⟩):=by simp only [aM];rw [S.lds (b:=I) (o:=0) (n:=1*2) m0 (lbt rfl)];rfl
   replace S:=S.drop1
   refine eh (S.appH0 Tryz.t337.1 XY (by decide) (by decide) Tryz.t337.2.2.2.2.2 j) ?_
   clear S j;rintro h w ⟨G,u,cs,rfl,S,C,W⟩
   simp only [BS,LB,Nat.reduceLT,Nat.reduceEqDiff,Fj]
   refine az (aC S (i:=1) rfl ?_ ?_ ?_ ono) ?_
   . exact(by simp only [Fj])
   . exact(by exact bq)
   . exact zN (lbt rfl)
   clear S;rintro h ⟨S,X⟩;clear X;simp only [LC,ah,lay,Xb,Xc,Nat.reduceAdd]at S
   simp only [BS]
   refine aB (aG rfl) (q:=0) (ps:=[]) (by kernel_rfl) ?_
   simp only [BS,LB,cls,Nat.reduceLT,Nat.reduceEqDiff,Nat.reduceAdd,Nat.reducePow,Nat.reduceDiv,Nat.reduceMod,Nat.reduceLeDiff,Int.reduceSub,Xe,Fj,S.ld (b:=a) (o:=0) m1 rfl,S.ld (b:=a) (o:=1) m1 rfl]
   have R:ff h a G s u N ([]++[⟨v,k⟩]):=S.rowS C rfl y (idxF_nil.push hn)
   have Y:an .i64 0=((0:Nat):Int):=rfl
   rw [Y]
   refine cV (up_ok S.ok R (i:=0) (by simp) (by simp) (vQ ho ⟨v,k⟩)) ?_
   have d:=(S.own _ m0).1
   rintro r h ⟨f,Z,R',L,A⟩
   simp only [BS,LB,Nat.reduceLT,Nat.reduceAdd,Xe]
   refine⟨S.fr.trans f (fun c m=>?_),[a,G,s],⟨a,s,Z,rfl,A,(m.push P k).perm L,fun x D=>?_,.inr ⟨G,u,rfl,R'⟩⟩,fun b O=>?_⟩
   . rcases m with rfl|rfl
     . exact d.symm
     . exact .inl (by simp)
   . have:=L.mem_iff.1 D
     simp at this;subst this;exact hv
   . simp at O
     rcases O with rfl|rfl|rfl
     . exact .inl (by simp)
     . exact d.symm
     . exact .inl (by simp)
 . obtain⟨cs,U,c,f,ad,g,C,E,IF⟩:=R.ex
   have S:=St.init3 (M:=(· ∈[a,G,s])) ok (o1:=.row cs 1) (o2:=.row _ 1) (o3:=.map U c) ad R.row g R.ne.1.symm R.ne.2.2 R.ne.2.1 (by simp) (by simp) (by simp)
   have Q:=kB (x:=(v:Int)) Tryz.t218.1 Tryz.t3.1 (z:=.int .i64 0) (by kernel_rfl) g E
   have fv:f v=none:=by
    cases hf:f v with
    |none=>rfl
    | some w=>
      obtain⟨i,hi,e⟩:=IF.2 v w hf
      have:=m.at hi
      rw [show(l.getD i default).id=v by omega,P]at this;cases this
   rw [fv]at Q
   refine ab (n:=71) (rs:=[.tmp 6]) rfl Tryz.e200 rfl rfl rfl (lbt rfl) ?_
   simp only [BS,LB,Nat.reduceLT,Nat.reduceEqDiff,Fj,Q,c1,c2,XC,XF,S.ld (b:=a) (o:=1) m1 rfl,S.ld (b:=a) (o:=2) m1 rfl]
   refine aB (aG rfl) (q:=0) (ps:=[]) (by kernel_rfl) ?_
   simp only [BS,LB,cls,Nat.reduceLT,Nat.reduceEqDiff,Nat.reduceAdd,Nat.reducePow,Nat.reduceDiv,Nat.reduceMod,Nat.reduceLeDiff,Fj,S.ld (b:=a) (o:=0) m1 rfl,S.ld (b:=a) (o:=1) m1 rfl]
   refine dS (S.mputI (i:=2) rfl Tryz.t218.1 Tryz.t3.1 E _) ?_
   clear S;rintro h ⟨_,V,c',y,S⟩
   simp only [LC]at S
   simp only [BS,LB,Nat.reduceLT,Nat.reduceEqDiff,Nat.reduceAdd,Fj,S.ld (b:=a) (o:=0) m1 rfl,S.ld (b:=a) (o:=1) m1 rfl]
   refine ae (co (by exact Tryz.t337.1) (by exact XY) (by decide) (by rfl)) S ?_;clear S;intro h I S J;simp only [LC,bA,bS,ah,Nat.reduceMul,Nat.reduceAdd,Xq,Xk,Xh,Xs]at S
   simp only [BS,LB,Nat.reduceLT,Nat.reduceEqDiff,S.ld (b:=a) (o:=0) m2 rfl,S.ld (b:=a) (o:=1) m2 rfl]
   have j:aM h 2 (.slice (some ⟨I,0,none⟩) 1 1)=some (1,jW ⟨v,k⟩):=by simp only [aM];rw [S.lds (b:=I) (o:=0) (n:=1*2) m0 (lbt rfl)];rfl
   replace S:=S.drop1
   refine eh (S.appH C Tryz.t337.1 XY (by decide) (by decide) Tryz.t337.2.2.2.2.2 j (by omega)) ?_
   clear S j;rintro h w ⟨B,t,ai,rfl,S,C',W⟩
   simp only [BS,LB,Nat.reduceLT,Nat.reduceEqDiff,Fj]
   refine az (aC S (i:=1) rfl ?_ ?_ ?_ ono) ?_
   . exact(by simp only [Fj])
   . exact(by exact bq)
   . exact zN (lbt rfl)
   clear S;rintro h ⟨S,X⟩;clear X;simp only [LC,ah,lay,Xb,Xc,Nat.reduceAdd]at S
   simp only [BS]
   refine aB (aG rfl) (q:=0) (ps:=[]) (by kernel_rfl) ?_
   have Y:an .i64 (((l.length+1:Nat):Int)-1)=((l.length:Nat):Int):=by rw [wrap64]<;>omega
   simp only [BS,LB,cls,Nat.reduceLT,Nat.reduceEqDiff,Nat.reduceAdd,Nat.reducePow,Nat.reduceDiv,Nat.reduceMod,Nat.reduceLeDiff,Fj,Y,S.ld (b:=a) (o:=0) m1 rfl,S.ld (b:=a) (o:=1) m1 rfl]
   have R:ff h a B s t N (l++[⟨v,k⟩]):=S.rowS C' (by simp) y (IF.push hn)
   refine cV (up_ok S.ok R (i:=l.length) (by simp) (by simp;omega) (vQ ho ⟨v,k⟩)) ?_
   have d:=(S.own _ m0).1
   rintro r h ⟨f,Z,R',L,A⟩
   simp only [BS,LB,Nat.reduceLT,Nat.reduceAdd]
   refine⟨S.fr.trans f (fun c m=>?_),[a,B,s],⟨a,s,Z,rfl,A,(m.push P k).perm L,fun x D=>?_,.inr ⟨B,t,rfl,R'⟩⟩,fun b O=>?_⟩
   . rcases m with rfl|rfl
     . exact d.symm
     . exact .inl (by simp)
   . have:=L.mem_iff.1 D
     simp at this
     rcases this with h|rfl
     . exact hlt x h
     . exact hv
   . simp at O
     rcases O with rfl|rfl|rfl
     . exact .inl (by simp)
     . exact d.symm
     . exact .inl (by simp)
theorem qP(T:h0.t.Sized h0.n)(H:bM h0 F p N K){v:Nat}(hN:N<=1000){t k:Int}(U:K v=some t)(hle:k<=t):
 Ret zM 199 [p,.int .i64 v,.int .i64 k] h0 fun r h'=>Mo (· ∈F) h0 h'/\bM h' F p N (cE K v (some k)):=by
 obtain⟨d,w,l,rfl,V,g,hlt,y⟩:=H.ex
 have W:=sW g hlt
 obtain⟨i,a,u⟩:=g.idx U
 have X:v<N:=by
  have:=hlt (l.getD i default) (by rw [Xf,Xm a];exact XB a)
  rwa [u]at this
 have Y: ¬((v:Int)<0):=by omega
 have Z: ¬((N:Int)<=(v:Int)):=by omega
 have c3: ¬(t<k):=by omega
 rcases y with⟨rfl,_⟩|⟨A,j,rfl,R⟩
 . simp at a
 . obtain⟨G,es,c,f,m,q,C,I,J⟩:=R.ex
   have S:=St.init3 (M:=(· ∈[d,A,w])) T (o1:=.row G 1) (o2:=.row _ 1) (o3:=.map es c) m R.row q R.ne.1.symm R.ne.2.2 R.ne.2.1 (by simp) (by simp) (by simp)
   have L:=kB (x:=(v:Int)) Tryz.t218.1 Tryz.t3.1 (z:=.int .i64 0) (by kernel_rfl) q I
   have fv:f v=some (.int .i64 i):=by have:=J.1 i a;rwa [u]at this
   rw [fv]at L
   have O:=C.ld1 m a
   have P:=C.len
   have ad:=C.le
   have ek:(l.getD i default).key=t:=by rw [u]
   have B:(l.getD i default).id=v:=by rw [u]
   rw [ek]at O
   refine ab (n:=61) (rs:=[.tmp 6]) rfl Tryz.e199 rfl rfl rfl (lbt rfl) ?_
   simp only [BS,LB,Nat.reduceLT,Nat.reduceEqDiff,F0o,L,Y,Z,c3,a,O,XD,S.ld (b:=d) (o:=0) m1 rfl,S.ld (b:=d) (o:=1) m1 rfl,S.ld (b:=d) (o:=2) m1 rfl]
   refine az (S.store (i:=0) (off:=i*2+1) rfl Tryz.t2.2.2.1 (by intro x e;cases e) rfl rfl (by omega) ono) ?_
   clear S;rintro h ⟨S,_⟩
   simp only [LC,ah]at S
   have Q:=C.setKey a k
   generalize lay G (i*2+1) _=af at S Q
   simp only [BS,LB,Nat.reduceLT,Nat.reduceEqDiff,F0o,S.ld (b:=d) (o:=0) m1 rfl,S.ld (b:=d) (o:=1) m1 rfl]
   have R1:ff h d A w j N (l.set i ⟨(l.getD i default).id,k⟩):=S.rowS Q (by rw [Xo]) I (J.setKey k)
   refine step_ret (up_ok S.ok R1 (i:=i) (by rw [Xo];exact a) (by rw [Xo];omega) (AT V (by unfold Ab.hle;simp only [];omega))) ?_
   rintro r h ⟨f,l',R',D,E⟩
   simp only [BS,Nat.reduceLT]
   have s:=g.lower a k
   rw [B]at s
   refine⟨S.fr.trans f (fun c g=>?_),⟨d,w,l',rfl,E,(by rw [B]at D;exact s.perm D),fun x y=>?_,.inr ⟨A,j,rfl,R'⟩⟩⟩
   . rcases g with rfl|rfl<;>exact .inl (by simp)
   . have:=D.mem_iff.1 y
     rcases List.mem_or_eq_of_mem_set this with h|rfl
     . exact hlt x h
     . rw [B];exact X
end
end Go.Ab

end
section
namespace Go.Ab
open Go.Proofs
set_option maxRecDepth 10000
def Tryz.Fq:=aj t1<|aj t2<|aj t3<|aj t4<|aj t5<|aj t6<|aj Z3<|aj Z4<|aj t218<|aj t275<|aj t337<|aj Z6<|aj Z7<|Z9
section
variable{h0:Hp}{F:List Nat}{p:Value}{N:Nat}{K:Nat->Option Int}
theorem uJ(ok:h0.t.Sized h0.n)(H:bM h0 F p N K)(hN:N<=1000):
 Ret zM 202 [p] h0 fun r h'=>(r=.tuple #[.int .i64 0,.int .i64 0,.bool false]/\(∀v,K v=none)/\Gr h0 h')\/ ∃v k,r=.tuple #[.int .i64 (v:Nat),.int .i64 k,.bool true]/\K v=some k/\(∀u k',K u=some k'->k<k'\/(k=k'/\v<=u))/\Mo (· ∈F) h0 h'/\bM h' F p N (cE K v none):=by
 obtain⟨m,B,O⟩:=qz ok H
 obtain⟨d,D,l,rfl,ho,t,hlt,hx⟩:=H.ex
 have aL:=sW t hlt
 by_cases E:m=0
 . subst E
   have S:=Si ok
   refine ab (n:=55) (rs:=[.tmp 2,.tmp 3,.tmp 4]) rfl Tryz.e202 rfl rfl rfl (lbt rfl) ?_
   simp only [BS,LB,Nat.reduceLT,Nat.reduceEqDiff]
   refine am (B) ?_;intro h g;replace S:=S.call g;clear g
   simp only [BS,LB,ac,Nat.reduceLT,Nat.reduceEqDiff,Xe]
   exact .inl ⟨O.1 rfl,S.gr⟩
 . have ad: ¬((m:Int)=0):=by omega
   rcases hx with⟨rfl,_⟩|⟨y,cap,rfl,R⟩
   . exact absurd (O.2 t.nil) E
   . have a:0<l.length:=by
      cases l with
      |nil=>exact absurd (O.2 t.nil) E
      |cons x l=>simp
     have S:=Si ok
     refine ab (n:=55) (rs:=[.tmp 2,.tmp 3,.tmp 4]) rfl Tryz.e202 rfl rfl rfl (lbt rfl) ?_
     simp only [BS,LB,Nat.reduceLT,Nat.reduceEqDiff]
     refine am (B) ?_;intro h g;replace S:=S.call g;replace R:=R.gr g;clear g
     have g0:=S.gr
     clear S
     obtain⟨cs,es,c,f,z,G,C,MI,IF⟩:=R.ex
     have r0:=R.row.load1 (o:=0) rfl
     have l2:=C.ld2 z a
     have S:=Si g0.ok
     have i0:fU (.int .i64 0) l.length=some 0:=ir (i:=0) a
     have w1:an .i64 ((l.length:Int)-1)=((l.length-1:Nat):Int):=by rw [wrap64]<;>omega
     simp only [BS,LB,Nat.reduceLT,Nat.reduceEqDiff,ad]
     refine aB (oU (ord:=[14,0,1,2,3,4,5,6,7,8,9,10,11,12,13,15,16]) rfl rfl (by simp only [dY,reix,eX,XR,XS,List.map_toArray,XO,X8,Nat.reduceBEq,cond_true,cond_false];exact rfl)) (q:=1) (ps:=[(13,15),(12,15)]) (by kernel_rfl) ?_
     simp only [BS,LB,cls,Nat.reducePow,Nat.reduceDiv,Nat.reduceMod,Nat.reduceLeDiff,Fq]
     refine dC aA S ?_;clear S;intro h s S ax ay
     simp only [BS,LB,cls,Nat.reduceLT,Nat.reduceEqDiff,Nat.reduceAdd,Nat.reducePow,Nat.reduceDiv,Nat.reduceMod,Nat.reduceLeDiff,Fq,S.old r0 (fun h=>h),S.old l2 (fun h=>h),i0,w1]
     refine dS (S.store (i:=0) rfl ?_ ?_ rfl rfl ?_ ono) ?_
     . exact(by exact Tryz.t339.2.1)
     . exact(by intro x e;cases e)
     . exact lbt rfl
     clear S;rintro h ⟨S,mo⟩;clear mo;simp only [LC,ah,lay,Xb,Xc,Nat.reduceAdd]at S
     simp only [BS,LB,cls,Nat.reduceLT,Nat.reduceEqDiff,Nat.reduceAdd,Nat.reducePow,Nat.reduceDiv,Nat.reduceMod,Nat.reduceLeDiff,Fq,S.old r0 (fun h=>h),S.old l2 (fun h=>h)]
     have g1:=S.gr
     have R1:=R.gr g1
     have Y:=S.lds (b:=s) (o:=0) (n:=2) m0 (lbt rfl)
     have A:=R.lt g0.ok
     have nb:s≠d:=fun e=>by have:=A d (.inl rfl);omega
     have P:s≠y:=fun e=>by have:=A y (.inr (.inl rfl));omega
     refine⟨by simp only [bn,bE,aT,bJ,aV,ne_eq,not_false_eq_true,bK,bZ,bg,aX,cb,cM,aO,Nat.reduceLT,Nat.reduceEqDiff,reduceIte,Xi,ag,qK,xq,ib nb,ib nb.symm,ib P,ib P.symm],?_⟩
     have sw:Ret zM 247 [ptrTo d,.int .i64 0,.int .i64 ((l.length-1:Nat):Int)] _ _:=sa S.ok R1 (i:=0) (k:=l.length-1) a (by omega)
     refine step_ret sw ?_
     --refine step_ret (sa S.ok R1 (i := 0) (k := l.length - 1) a (by omega)) ?_
     rintro r I ⟨Z,L⟩
     have gg:Gr h0 h:=g0.trans g1
     have mA:Mo (· ∈[d,y,D]) h0 I:=(gg.fr (M:=(· ∈[d,y,D]))).trans Z (fun c t=>.inl (by rcases t with rfl|rfl<;>simp))
     have J:I.load s 0 2=some [.int .i64 (l.getD 0 default).id,.int .i64 (l.getD 0 default).key]:=by
      have:=Z.get s (bD Z.ok0 Y) (fun hM=>by have:=A s (.inr hM);omega)
      unfold Hp.load at Y⊢
      rw [this];exact Y
     have a0:=L.lt mA.ok
     have af:=mA.ok
     have Q:=bD mA.ok J
     clear S R R1 Z sw z G C MI IF Y l2 r0
     obtain⟨cs,es,c,f,z,G,C,MI,IF⟩:=L.ex
     have S:=St.init3 (M:=(· ∈[d,y,D])) (h:=I) af (o1:=.row cs 1) (o2:=.row _ 1) (o3:=.map es c) z L.row G L.ne.1.symm L.ne.2.2 L.ne.2.1 (by simp) (by simp) (by simp)
     have sl:=xz (kd:=.i64) (b:=y) (len:=(sw l 0 (l.length-1)).length) (n:=l.length-1) Tryz.t337.1 Tryz.t344.2.1 (cap:=cap) (by have:=C.le;rw [gM]at this;omega)
     simp only [BS,LB,Nat.reduceLT,Nat.reduceEqDiff,Xw,XT,Fq,sl,S.ld (b:=d) (o:=0) m1 rfl,S.ld (b:=d) (o:=1) m1 rfl]
     refine az (aC S (i:=1) rfl ?_ ?_ ?_ ono) ?_
     . exact(by simp only [Fq])
     . exact(by exact bq)
     . exact zN (lbt rfl)
     clear S;rintro h ⟨S,mo⟩;clear mo;simp only [LC,ah,lay,Xb,Xc,Nat.reduceAdd]at S
     simp only [BS,S.ld (b:=d) (o:=0) m1 rfl,S.ld (b:=d) (o:=1) m1 rfl]
     refine aB (aG rfl) (q:=0) (ps:=[]) (by kernel_rfl) ?_
     have T: ¬s∈[d,y,D]:=fun O=>by
      have:=A s (by simpa using O)
      omega
     have U:I.load s 0 1=some [.int .i64 (l.getD 0 default).id]:=by have:=ou J (i:=0) (m:=1) (by omega);simpa using this
     have ai:I.load s 1 1=some [.int .i64 (l.getD 0 default).key]:=by have:=ou J (i:=1) (m:=1) (by omega);simpa using this
     simp only [BS,LB,cls,Nat.reduceLT,Nat.reduceEqDiff,Nat.reduceAdd,Nat.reducePow,Nat.reduceDiv,Nat.reduceMod,Nat.reduceLeDiff,Fq,S.old U T,S.ld (b:=d) (o:=1) m1 rfl]
     refine dn_del (S.mdelI (i:=2) rfl Tryz.t218.1 Tryz.t3.1 MI) ?_
     clear S;rintro h ⟨_,a1,c',ak,S⟩
     simp only [LC]at S
     simp only [BS,LB,Nat.reduceLT,Nat.reduceEqDiff,Nat.reduceAdd,Fq]
     have V:(sw l 0 (l.length-1)).length=l.length:=gM _ _ _
     have w:=iu l (i:=0) (k:=l.length-1) a (by omega) (l.length-1)
     rw [if_pos rfl]at w
     have W:=IF.cut (m:=l.length-1) (by omega)
     rw [w]at W
     have tl:((sw l 0 (l.length-1)).take (l.length-1)).length=l.length-1:=by rw [List.length_take,V];omega
     have R3:ff h d y D cap N ((sw l 0 (l.length-1)).take (l.length-1)):=S.rowS (C.take _) tl.symm ak W
     have dn:Ret zM 248 [ptrTo d,.int .i64 0] h _:=down_ok S.ok R3 (i:=0) (by
      by_cases e:l.length-1=0
      . exact .inr ⟨List.length_eq_zero_iff.1 (by rw [tl,e]),rfl⟩
      . exact .inl (by omega)) (by omega) (heap_pop ho a)
     refine step_ret dn ?_
     rintro r h ⟨fB,l',R',pm,al⟩
     have mB:Mo (· ∈[d,y,D]) I h:=S.fr.trans fB (fun c t=>.inl (by rcases t with rfl|rfl<;>simp))
     have X: ∀{o x},I.load s o 1=some x->h.load s o 1=some x:=fun e=>by
      have:=mB.get s Q T
      unfold Hp.load at e⊢
      rw [this];exact e
     simp only [BS]
     refine aB (aG rfl) (q:=0) (ps:=[]) (by kernel_rfl) ?_
     simp only [BS,LB,cls,ac,Nat.reduceLT,Nat.reduceEqDiff,Nat.reduceAdd,Nat.reducePow,Nat.reduceDiv,Nat.reduceMod,Nat.reduceLeDiff,Fq,X U,X ai]
     refine .inr ⟨(l.getD 0 default).id,(l.getD 0 default).key,rfl,t.at a,fun u k' hu=>?_,mA.trans mB (fun c t=>.inl t),⟨d,D,l',rfl,al,(t.pop a).perm pm,fun x hx=>?_,.inr ⟨y,cap,rfl,R'⟩⟩⟩
     . obtain⟨j,hj,e⟩:=t.idx hu
       have:=zl ho j hj
       rw [e]at this
       unfold Ab.hle at this
       simp only []at this
       omega
     . exact hlt x ((sh l a (by omega)).mem_iff.1 (List.mem_of_mem_take (pm.mem_iff.1 hx)))
end
end Go.Ab

end
section
namespace Go.Ab
open Go.Proofs
set_option maxRecDepth 10000
def Tryz.F0p:=aj t1<|aj t2<|aj t3<|aj t4<|t33
def Tryz.F17:=aj t1<|aj t2<|aj t3<|aj t4<|aj t24<|aj t29<|aj Z0<|aj t32<|aj t33<|aj Z2<|aj t189<|Z1
def Tryz.F0q:=aj t1<|aj t2<|aj t3<|aj t4<|aj t29<|Z2
def Tryz.F18:=aj t1<|aj t2<|aj t3<|aj t4<|aj t33<|t189
def Tryz.F0r:=aj t1<|aj t2<|aj t3<|aj t4<|aj t24<|aj t29<|aj Z0<|aj t32<|aj t33<|aj Z2<|aj t189<|Z1
def Tryz.F19:=aj t1<|aj t2<|aj t3<|aj t4<|aj t24<|aj t29<|aj Z0<|aj t32<|aj t33<|aj t189<|Z1
def Tryz.F1a:=aj t1<|aj t2<|aj t3<|aj t4<|aj t24<|aj t29<|aj Z0<|aj t32<|aj t33<|aj t189<|Z1
theorem jY{h0:Hp}(f:h0.t.Sized h0.n){α:Type}{enc:α->List Value}(i: ∀x,(enc x).length=1){v:Value}{xs:List α}(j:au h0 1 enc v xs)(q:xs.length<1000000):Ret zM 55 [v] h0 fun r h'=>Gr h0 h'/\au h' 1 enc r xs/\ ∀c,aq r c->h0.n<=c:=by
 have S:=Si f
 rcases j with⟨rfl,rfl⟩|⟨b,o,s,c,rfl,k,l⟩
 . refine ab (n:=8) (rs:=[.tmp 2]) rfl Tryz.e55 rfl rfl rfl (lbt rfl) ?_
   simp only [BS,LB,ac,Nat.reduceLT,Nat.reduceEqDiff,F0p]
   exact⟨S.gr,.inl ⟨rfl,rfl⟩,fun c a=>a.elim⟩
 . refine ab (n:=8) (rs:=[.tmp 2]) rfl Tryz.e55 rfl rfl rfl (lbt rfl) ?_
   simp only [BS,LB,Nat.reduceLT,Nat.reduceEqDiff,F0p]
   refine ae (co (by exact Tryz.t33.1) (by exact XJ) (by decide) (by rfl)) S ?_;clear S;intro h t S d;simp only [LC,bA,bS,ah,Nat.reduceMul,Nat.reduceAdd,Xq,Xk,Xh,Xs]at S
   simp only [BS,LB,Nat.reduceLT,Nat.reduceEqDiff]
   refine eh (S.cloneSl (enc:=enc) (xs:=[]) Tryz.t33.1 XJ (by decide) Tryz.t33.2.2.2.2.2 (.inr ⟨b,o,s,c,rfl,k,S.old l (fun h=>h)⟩) i (by decide) (by simp only [List.length_nil,Xk];omega) (S.row m0)) ?_
   rintro h' v ⟨m,g,p,a⟩
   simp only [BS,LB,ac,Nat.reduceLT,Nat.reduceEqDiff]
   refine⟨m.gr,by simpa using p,fun c h=>(a c h).elim (fun e=>by omega) (fun e=>Xl S.fr.n e)⟩
theorem dt{h0:Hp}(a:h0.t.Sized h0.n){p:Value}{γ:Gra}{d:Nat}(c:bI h0 d p γ):bz zM 54 [p] h0 (.int .i64 γ.nodes):=by
 have S:=Si a
 obtain⟨b,f,g,h,i,j,rfl,r,_⟩:=c.ex
 have e:=r.load1 (o:=0) rfl
 refine ab (n:=10) (rs:=[.tmp 2]) rfl Tryz.e54 rfl rfl rfl (lbt rfl) ?_
 simp only [BS,LB,ac,Nat.reduceLT,Nat.reduceEqDiff,F17,e]
 exact S.gr
theorem oneArc_ok{h0:Hp}(j:h0.t.Sized h0.n){v:Value}{A:List Arc}(f:au h0 3 ct v A){i:Nat}(k:i<A.length):Ret zM 221 [v,.int .i64 i] h0 fun r h'=>Gr h0 h'/\r=.tuple #[.agg ⟨ct A[i]⟩,.bool true]:=by
 have S:=Si j
 have l: ¬((i:Int)<0):=by omega
 have m: ¬((A.length:Int)<=(i:Int)):=by omega
 refine ab (n:=19) (rs:=[.cell 4 99,.tmp 5]) rfl Tryz.e221 rfl rfl rfl (lbt rfl) ?_
 simp only [BS,F0q]
 refine ae aA S ?_;clear S;intro h p S g
 obtain⟨c,o,a,d⟩:=(f.gr S.gr).ix (kd:=.i64) ip k
 simp only [BS,LB,Nat.reduceLT,Nat.reduceEqDiff,F0q,f.lenq,l,m,a,d]
 refine az (S.store (i:=0) rfl ?_ ?_ rfl rfl ?_ ono) ?_
 . exact(by exact Tryz.t99.2.1)
 . exact(by intro x e;cases e)
 . exact lbt rfl
 clear S;rintro h ⟨S,q⟩;clear q;simp only [LC,ah,lay,Xb,Xc,Nat.reduceAdd]at S
 simp only [BS,ac,ct]
 refine(dW (by decide) (by simp only [aO,ag,Nat.reduceEqDiff,reduceIte];exact cP Tryz.t99.1 Tryz.t99.2.1 (S.lds (b:=p) (o:=0) (n:=3) m0 (lbt rfl)))).2 ?_
 refine(eY (by decide)).2 (eE.2 ?_)
 exact⟨S.gr,rfl⟩
theorem wg{h0:Hp}(c:h0.t.Sized h0.n){m:Nat}{v:Value}{N:Nat}{R:Nat->List Nat}(d:gb h0 m v N R){i:Nat}(a:i<N):Ret zM 197 [v,.int .i64 i] h0 fun r h'=>Gr h0 h'/\ ∃w,r=.tuple #[w,.bool true]/\au h' 1 cB w (R i):=by
 have S:=Si c
 obtain⟨o,p,rfl,_,f,b,g⟩:=d
 obtain⟨w,e,h,_⟩:=g i a
 have j:=f.load1 e
 have k: ¬((i:Int)<0):=by omega
 have l: ¬((N:Int)<=(i:Int)):=by omega
 refine ab (n:=19) (rs:=[.tmp 4,.tmp 5]) rfl Tryz.e197 rfl rfl rfl (lbt rfl) ?_
 simp only [BS,LB,ac,Nat.reduceLT,Nat.reduceEqDiff,F18,k,l,a,j]
 exact⟨S.gr,_,rfl,h⟩
theorem mZ{h0:Hp}(d:h0.t.Sized h0.n){p:Value}{γ:Gra}{f:Nat}(c:bI h0 f p γ){i:Nat}(j:i<γ.arcs.length):Ret zM 155 [p,.int .i64 i] h0 fun r h'=>Gr h0 h'/\r=.tuple #[.agg ⟨ct γ.arcs[i]⟩,.bool true]:=by
 have S:=Si d
 obtain⟨b,s,t,u,w,y,rfl,r,k,_⟩:=c.ex
 have l:=r.load1 (o:=3) rfl
 refine ab (n:=18) (rs:=[.cell 4 99,.tmp 5]) rfl Tryz.e155 rfl rfl rfl (lbt rfl) ?_
 simp only [BS,F0r]
 refine ae aA S ?_;clear S;intro h m S a
 simp only [BS,LB,Nat.reduceLT,Nat.reduceEqDiff,F0r,S.old l (fun h=>h)]
 refine step_ret (oneArc_ok S.ok (k.A.gr S.gr) j) ?_
 rintro v h ⟨g,rfl⟩
 replace S:=S.call g;clear g
 simp only [BS,LB,Nat.reduceLT,Nat.reduceEqDiff,ct]
 refine az (S.store (i:=0) rfl ?_ ?_ rfl rfl ?_ ono) ?_
 . exact(by exact Tryz.t99.2.1)
 . exact(by intro x e;cases e)
 . exact lbt rfl
 clear S;rintro h ⟨S,q⟩;clear q;simp only [LC,ah,lay,Xb,Xc,Nat.reduceAdd]at S
 simp only [BS,LB,ac,Nat.reduceLT,Nat.reduceEqDiff]
 refine(dW (by decide) (by simp only [aO,ag,Nat.reduceEqDiff,reduceIte];exact cP Tryz.t99.1 Tryz.t99.2.1 (S.lds (b:=m) (o:=0) (n:=3) m0 (lbt rfl)))).2 ?_
 refine(eY (by decide)).2 (eE.2 ?_)
 exact⟨S.gr,rfl⟩
theorem v7{h0:Hp}(d:h0.t.Sized h0.n){p:Value}{γ:Gra}{e:Nat}(c:bI h0 e p γ)(f:γ.arcs.length<1000){i:Nat}(j:i<γ.nodes):Ret zM 115 [p,.int .i64 i] h0 fun r h'=>Gr h0 h'/\au h' 1 cB r (outs γ.arcs Arc.s γ.arcs.length i)/\ ∀c,aq r c->h0.n<=c:=by
 have S:=Si d
 obtain⟨b,s,t,u,x,y,rfl,r,z,k,A,_⟩:=c.ex
 have l:=r.load1 (o:=4) rfl
 refine ab (n:=20) (rs:=[.tmp 4]) rfl Tryz.e115 rfl rfl rfl (lbt rfl) ?_
 simp only [BS,LB,Nat.reduceLT,Nat.reduceEqDiff,F19,l]
 refine step_ret (wg S.ok k j) ?_
 rintro v h ⟨g,w,rfl,a⟩
 replace S:=S.call g;clear g
 simp only [BS,LB,Nat.reduceLT,Nat.reduceEqDiff]
 have m:=S.fr.n
 have q:=kD γ.arcs Arc.s γ.arcs.length i
 refine step_ret (jY S.ok fj a (by omega)) ?_;intro v h ⟨g,a,hc⟩;replace S:=S.call g;clear g
 simp only [BS,LB,ac,Nat.reduceLT,Nat.reduceEqDiff]
 exact⟨S.gr,a,fun c h=>Xl m (hc c h)⟩
theorem xM{h0:Hp}(d:h0.t.Sized h0.n){p:Value}{γ:Gra}{e:Nat}(c:bI h0 e p γ)(f:γ.arcs.length<1000){i:Nat}(j:i<γ.nodes):Ret zM 117 [p,.int .i64 i] h0 fun r h'=>Gr h0 h'/\au h' 1 cB r (outs γ.arcs Arc.t γ.arcs.length i)/\ ∀c,aq r c->h0.n<=c:=by
 have S:=Si d
 obtain⟨b,s,t,u,x,y,rfl,r,z,A,k,_⟩:=c.ex
 have l:=r.load1 (o:=5) rfl
 refine ab (n:=20) (rs:=[.tmp 4]) rfl Tryz.e117 rfl rfl rfl (lbt rfl) ?_
 simp only [BS,LB,Nat.reduceLT,Nat.reduceEqDiff,F1a,l]
 refine step_ret (wg S.ok k j) ?_
 rintro v h ⟨g,w,rfl,a⟩
 replace S:=S.call g;clear g
 simp only [BS,LB,Nat.reduceLT,Nat.reduceEqDiff]
 have m:=S.fr.n
 have q:=kD γ.arcs Arc.t γ.arcs.length i
 refine step_ret (jY S.ok fj a (by omega)) ?_;intro v h ⟨g,a,hc⟩;replace S:=S.call g;clear g
 simp only [BS,LB,ac,Nat.reduceLT,Nat.reduceEqDiff]
 exact⟨S.gr,a,fun c h=>Xl m (hc c h)⟩
theorem mul64_ok{h0:Hp}(b:h0.t.Sized h0.n){N:Nat}(i:N<1000):bz zM 269 [.int .u64 1,.int .u64 N] h0 (.tuple #[.int .u64 0,.int .u64 N]):=by
 have S:=Si b
 have c: ∀{t x y},bQ zM .and t x y (.int .u64 1) (.int .u64 4294967295)=some (.int .u64 1):=b_andU (N:=1) (by decide)
 have d: ∀{t x y},bQ zM .and t x y (.int .u64 0) (.int .u64 4294967295)=some (.int .u64 0):=b_andU (N:=0) (by decide)
 have e: ∀{t x y a},bQ zM .shr t x y (.int .u64 1) (.int a 32)=some (.int .u64 0):=b_shrU (N:=1) (by decide)
 have f: ∀{t x y a},bQ zM .shr t x y (.int .u64 0) (.int a 32)=some (.int .u64 0):=b_shrU (N:=0) (by decide)
 have g:an .u64 (N:Int)=(N:Int):=ud (by omega) (by omega)
 have h:an .u64 0=0:=rfl
 refine ab (n:=51) (rs:=[.tmp 4,.tmp 5]) rfl Tryz.e269 rfl rfl rfl (lbt rfl) ?_
 simp only [BS,LB,ac,Nat.reduceLT,Nat.reduceEqDiff,c,d,e,f,b_andU (N:=N) (by omega),b_shrU (N:=N) (by omega),Int.one_mul,Int.zero_mul,Int.mul_zero,Int.add_zero,g,h]
 exact S.gr
theorem mul_ok{h0:Hp}(a:h0.t.Sized h0.n){N:Nat}(b:N<1000):bz zM 250 [.int .u64 1,.int .u64 N] h0 (.tuple #[.int .u64 0,.int .u64 N]):=by
 have S:=Si a
 refine ab (n:=30) (rs:=[.tmp 4,.tmp 5]) rfl Tryz.e250 rfl rfl rfl (lbt rfl) ?_
 simp only [BS,LB,Nat.reduceLT,Nat.reduceEqDiff]
 refine am (mul64_ok S.ok b) ?_;intro h g;replace S:=S.call g;clear g
 simp only [BS,LB,ac,Nat.reduceLT,Nat.reduceEqDiff]
 exact S.gr
def lmax:List Int->Int
 | []=>0
 |x::a=>a.foldl max x
def mb(h:Hp)(n:Nat)(p:Value)(m:List Int):Prop:= ∃b v,p=ptrTo b/\Row h b [v,.int .i64 (lmax m+1)] 1/\au h 1 (encI .i64) v m/\n<=b/\ ∀c,aq v c->n<=c
theorem mb.mo{M:Nat->Prop}{h h':Hp}{n:Nat}{p:Value}{m:List Int}(c:mb h n p m)(g:Mo M h h')(a: ∀b,M b->b<n):mb h' n p m:=by
 obtain⟨b,v,e,r,s,f,d⟩:=c
 exact⟨b,v,e,g.has (o:=.row _ 1) r (fun h=>by have:=a _ h;omega),s.mo g (fun c i j=>by have:=a _ j;have:=d c i;omega),f,d⟩
theorem mb.gr{h h':Hp}{n:Nat}{p:Value}{m:List Int}(c:mb h n p m)(g:Gr h h'):mb h' n p m:=c.mo (M:=NoM) g.fr (fun _ h=>h.elim)
end Go.Ab
end
section
namespace Go.Ab
theorem Wk.trans{B:List Arc}{a b c x y:Nat}(h:Wk B a b x)(k:Wk B b c y):Wk B a c (x+y):=by
 induction k with
 |nil=>exact h
 | @snoc w e d _ f=>exact Wk.snoc' f d rfl rfl (by omega)
theorem Wk.back{B C:List Arc}(c: ∀a∈B,∃b∈C,b.s=a.t/\b.t=a.s/\b.w=a.w){m v w x y:Nat}(h:Wk B v w x)(k:Wk C m w y):Wk C m v (x+y):=by
 induction h generalizing y with
 |nil=>rw [Xk];exact k
 | @snoc z e d _ f=>
   obtain⟨b,g,i,j,l⟩:=c e d
   have:=f (Wk.snoc' k g i j rfl)
   rw [l]at this
   rw [show z+e.w+y=z+(y+e.w) by omega];exact this
theorem IsD.wk{B:List Arc}{s v x w:Nat}(h:IsD B s v x)(k:Wk B s v w):x<FAR/\x<=w/\Wk B s v x:=by
 rcases h with⟨a,b,c⟩|⟨a,b⟩
 . exact⟨a,c w k,b⟩
 . exact absurd k (b w)
theorem IsD.far{B:List Arc}{s v x:Nat}(h:IsD B s v x)(d:x<FAR):Wk B s v x:=by
 rcases h with⟨a,b,c⟩|⟨a,b⟩
 . exact b
 . omega
end Go.Ab

end
section
namespace Go.Ab
structure Ev where
 kind:Nat
 id:Nat
 lab:Nat
def encE(e:Ev):List Value:=[.int .i64 e.kind,.int .i64 0,.int .i64 e.id,.int .i64 e.lab]
structure SS where
 K:Nat->Option Int
 L:Nat->Nat
 P:Nat->List Nat
 O:List Nat
 ev:List Ev
structure Fd where
 dist:Nat
 arcs:List Nat
 ev:List Ev
def iV(K:Nat->Option Int)(v:Nat)(k:Int):Prop:=K v=some k/\ ∀u a,K u=some a->k<a\/(k=a/\v<=u)
theorem iV.uniq{K:Nat->Option Int}{v u:Nat}{k k':Int}(h:iV K v k)(g:iV K u k'):v=u/\k=k':=by
 have a:=h.2 _ _ g.1
 have b:=g.2 _ _ h.1
 omega
def updP(P:Nat->List Nat)(v:Nat)(l:List Nat):Nat->List Nat:=fun u=>if u=v then l else P u
def pW(pi:Nat->Int)(σ:SS)(v lab:Nat)(p:List Nat):SS:=
 if v∈σ.O\/(FAR:Int)<=pi v\/((σ.K v).isSome=true/\σ.L v<=lab)then σ else⟨cE σ.K v (some (lab+pi v)),jU σ.L v lab,updP σ.P v p,σ.O,σ.ev⟩
def iB(σ:SS)(v:Nat):SS:=⟨cE σ.K v none,σ.L,σ.P,σ.O++[v],σ.ev++[⟨0,v,σ.L v⟩]⟩
def evS(σ:SS)(e:Ev):SS:=⟨σ.K,σ.L,σ.P,σ.O,σ.ev++[e]⟩
def scan1(A:List Arc)(al:Nat->Bool)(pi:Nat->Int)(v:Nat)(σ:SS)(a:Nat):SS:=
 if al a=true then pW pi (evS σ ⟨1,a,0⟩) (A.getD a default).t (σ.L v+(A.getD a default).w) (a::σ.P v)else σ
def scanS(A:List Arc)(al:Nat->Bool)(pi:Nat->Int)(v:Nat)(σ:SS):SS:=(outs A Arc.s A.length v).foldl (scan1 A al pi v) σ
inductive Ends(A:List Arc)(al:Nat->Bool)(pi:Nat->Int)(to:Nat):SS->Fd->Prop where
 |none {σ:SS}:(∀v,σ.K v=none)->Ends A al pi to σ ⟨FAR,[],σ.ev⟩
 |hit {σ:SS} {k:Int}:iV σ.K to k->Ends A al pi to σ ⟨σ.L to,(σ.P to).reverse,(iB σ to).ev⟩
 |step {σ:SS} {v:Nat} {k:Int} {r:Fd}:iV σ.K v k->v≠to->Ends A al pi to (scanS A al pi v (iB σ v)) r->Ends A al pi to σ r
theorem Ends.uniq{A:List Arc}{al:Nat->Bool}{pi:Nat->Int}{to:Nat}{σ:SS}{r q:Fd}(h:Ends A al pi to σ r)(g:Ends A al pi to σ q):r=q:=by
 induction h with
 | none c=>
   cases g with
   |none _=>rfl
   |hit a=>have:=a.1;rw [c]at this;cases this
   |step a _ _=>have:=a.1;rw [c]at this;cases this
 | hit a=>
   cases g with
   |none c=>have:=a.1;rw [c]at this;cases this
   |hit _=>rfl
   |step d b _=>exact absurd (d.uniq a).1 b
 | step a b _ e=>
   cases g with
   |none c=>have:=a.1;rw [c]at this;cases this
   |hit d=>exact absurd (a.uniq d).1 b
   | step d _ f=>
     obtain⟨rfl,_⟩:=a.uniq d
     exact e f
section
variable{A:List Arc}{N s:Nat}{al:Nat->Bool}{pi:Nat->Int}{σ:SS}
structure Sv(A:List Arc)(N s:Nat)(al:Nat->Bool)(pi:Nat->Int)(σ:SS):Prop where
 nd:σ.O.Nodup
 lt: ∀v∈σ.O,v<N
 op: ∀v k,σ.K v=some k->v<N/\v∉σ.O/\pi v<(FAR:Int)/\k=σ.L v+pi v
 bd: ∀v,σ.L v<=σ.O.length*bO/\(σ.P v).length<=σ.O.length
 pc: ∀v∈σ.O,pi v<(FAR:Int)
 path: ∀v,(v∈σ.O\/σ.K v≠none)->(v=s/\σ.P v=[]/\σ.L v=0)\/ ∃a,a<A.length/\al a=true/\(A.getD a default).t=v/\(A.getD a default).s∈σ.O/\σ.P v=a::σ.P (A.getD a default).s/\σ.L v=σ.L (A.getD a default).s+(A.getD a default).w
theorem Sv.len(h:Sv A N s al pi σ):σ.O.length<=N:=oG N σ.O h.nd h.lt
theorem Sv.evS(h:Sv A N s al pi σ)(e:Ev):Sv A N s al pi (evS σ e):=⟨h.nd,h.lt,h.op,h.bd,h.pc,h.path⟩
structure lE(σ τ:SS):Prop where
 O:τ.O=σ.O
 L: ∀u∈σ.O,τ.L u=σ.L u
 P: ∀u∈σ.O,τ.P u=σ.P u
theorem lE.refl:lE σ σ:=⟨rfl,fun _ _=>rfl,fun _ _=>rfl⟩
theorem lE.trans{τ b:SS}(h:lE σ τ)(g:lE τ b):lE σ b:=
 ⟨g.O.trans h.O,fun u a=>(g.L u (by rw [h.O];exact a)).trans (h.L u a),fun u a=>(g.P u (by rw [h.O];exact a)).trans (h.P u a)⟩
theorem Sv.reach(h:Sv A N s al pi σ){a lab v:Nat}{p:List Nat}(t:a<A.length)(f:al a=true)(w:(A.getD a default).t=v)(x:v<N)(g:(A.getD a default).s∈σ.O)(y:lab=σ.L (A.getD a default).s+(A.getD a default).w)(z:p=a::σ.P (A.getD a default).s)
 (B:lab<=σ.O.length*bO) (C:p.length<=σ.O.length):Sv A N s al pi (pW pi σ v lab p)/\lE σ (pW pi σ v lab p):=by
 unfold pW
 split
 . exact⟨h,.refl⟩
 . rename_i o
   simp only [not_or]at o
   obtain⟨r,H,I⟩:=o
   have q: ∀u∈σ.O,u≠v:=fun u c e=>r (by subst e;exact c)
   refine⟨⟨h.nd,h.lt,fun u k d=>?_,fun u=>⟨?_,?_⟩,h.pc,fun u c=>?_⟩,⟨rfl,fun u c=>by simp [jU,q u c],fun u c=>by simp [updP,q u c]⟩⟩
   . simp only [cE,jU]at d⊢
     split at d
     . rename_i e;subst e;cases d
       exact⟨x,r,by omega,by simp⟩
     . rename_i e
       rw [if_neg e];exact h.op u k d
   . simp only [jU];split
     . exact B
     . exact(h.bd u).1
   . simp only [updP];split
     . exact C
     . exact(h.bd u).2
   . have D:jU σ.L v lab (A.getD a default).s=σ.L (A.getD a default).s:=if_neg (q _ g)
     have E:updP σ.P v p (A.getD a default).s=σ.P (A.getD a default).s:=if_neg (q _ g)
     by_cases e:u=v
     . subst e
       refine .inr ⟨a,t,f,w,g,?_,?_⟩
       . show updP σ.P u p u=a::updP σ.P u p (A.getD a default).s
         rw [E,<-z];exact if_pos rfl
       . show jU σ.L u lab u=jU σ.L u lab (A.getD a default).s+(A.getD a default).w
         rw [D,<-y];exact if_pos rfl
     . have i:u∈σ.O\/σ.K u≠none:=by simpa [cE,e]using c
       rcases h.path u i with⟨j,l,m⟩|⟨b,j,l,m,n,F,G⟩
       . exact .inl ⟨j,by simp [updP,e,l],by simp [jU,e,m]⟩
       . refine .inr ⟨b,j,l,m,n,?_,?_⟩
         . simp only [updP,if_neg e,if_neg (q _ n)];exact F
         . simp only [jU,if_neg e,if_neg (q _ n)];exact G
theorem Sv.close(h:Sv A N s al pi σ){v:Nat}{k:Int}(i:σ.K v=some k):Sv A N s al pi (iB σ v):=by
 obtain⟨l,m,n,C⟩:=h.op v k i
 have o:(σ.O++[v]).length*bO=σ.O.length*bO+bO:=by rw [Xp,XK,Nat.succ_mul]
 refine⟨?_,fun u f=>?_,fun u p f=>?_,fun u=>⟨?_,?_⟩,fun u f=>?_,fun u f=>?_⟩
 . show(σ.O++[v]).Nodup
   rw [List.nodup_append]
   exact⟨h.nd,by simp,fun a q b j e=>m (by simp at j;subst j;subst e;exact q)⟩
 . rcases List.mem_append.1 f with f|f
   . exact h.lt u f
   . simp at f;subst f;exact l
 . simp only [iB,cE]at f⊢
   split at f
   . cases f
   . rename_i e
     obtain⟨a,b,c,d⟩:=h.op u p f
     exact⟨a,by simp [b,e],c,d⟩
 . show σ.L u<=(σ.O++[v]).length*bO
   rw [o];have:=(h.bd u).1;omega
 . show(σ.P u).length<=(σ.O++[v]).length
   have:=(h.bd u).2;simp;omega
 . rcases List.mem_append.1 f with f|f
   . exact h.pc u f
   . simp at f;subst f;exact n
 . have g:u∈σ.O\/σ.K u≠none:=by
    by_cases e:u=v
    . subst e;exact .inr (by rw [i];nofun)
    . simpa [iB,cE,e]using f
   rcases h.path u g with r|⟨b,t,w,x,y,z,B⟩
   . exact .inl r
   . exact .inr ⟨b,t,w,x,Xr _ y,z,B⟩
def Room(σ:SS)(v:Nat):Prop:=v∈σ.O/\σ.L v+bO<=σ.O.length*bO/\(σ.P v).length+1<=σ.O.length
theorem Room.keeps{τ:SS}{v:Nat}(r:Room σ v)(k:lE σ τ):Room τ v:=by
 obtain⟨a,b,c⟩:=r
 exact⟨by rw [k.O];exact a,by rw [k.O,k.L v a];exact b,by rw [k.O,k.P v a];exact c⟩
theorem Sv.room(h:Sv A N s al pi σ)(v:Nat):Room (iB σ v) v:=by
 have:=h.bd v
 refine⟨Xu _ (by simp),?_,?_⟩
 . show σ.L v+bO<=(σ.O++[v]).length*bO
   rw [Xp,XK,Nat.succ_mul];omega
 . show(σ.P v).length+1<=(σ.O++[v]).length
   simp;omega
theorem Sv.scan1(h:Sv A N s al pi σ)(e: ∀a∈A,a.t<N/\a.w<=bO){v a:Nat}(r:Room σ v)(b:a<A.length)(f:(A.getD a default).s=v):Sv A N s al pi (scan1 A al pi v σ a)/\lE σ (scan1 A al pi v σ a):=by
 unfold Ab.scan1
 split
 . rename_i c
   obtain⟨g,l,i⟩:=r
   have j:=e (A.getD a default) (by rw [Xf,Xm b];exact XB b)
   subst f
   obtain⟨k,d⟩:=(h.evS ⟨1,a,0⟩).reach (p:=a::σ.P (A.getD a default).s) (lab:=σ.L (A.getD a default).s+(A.getD a default).w) b c rfl j.1 g rfl rfl (by show _<=σ.O.length*bO;omega) (by show(σ.P _).length+1<=σ.O.length;exact i)
   exact⟨k,⟨d.O,d.L,d.P⟩⟩
 . exact⟨h,.refl⟩
theorem Sv.scanL(d: ∀a∈A,a.t<N/\a.w<=bO){v:Nat}: ∀(l:List Nat) {σ:SS},Sv A N s al pi σ->Room σ v->(∀a∈l,a<A.length/\(A.getD a default).s=v)->Sv A N s al pi (l.foldl (Ab.scan1 A al pi v) σ)/\lE σ (l.foldl (Ab.scan1 A al pi v) σ)
 | [],_,h,_,_=>⟨h,.refl⟩
 | a::l,σ,h,r,c=>by
   obtain⟨f,e⟩:=h.scan1 d r (c a (by simp)).1 (c a (by simp)).2
   obtain⟨g,i⟩:=Sv.scanL d l f (r.keeps e) (fun b j=>c b (by simp [j]))
   exact⟨g,e.trans i⟩
theorem Sv.next(h:Sv A N s al pi σ)(b: ∀a∈A,a.t<N/\a.w<=bO){v:Nat}{k:Int}(c:σ.K v=some k):Sv A N s al pi (scanS A al pi v (iB σ v))/\lE (iB σ v) (scanS A al pi v (iB σ v)):=
 Sv.scanL b _ (h.close c) (h.room v) (fun _ d=>jI.1 d)

def InH(A:List Arc)(al:Nat->Bool)(pi:Nat->Int)(a:Nat):Prop:=al a=true/\pi (A.getD a default).s<(FAR:Int)/\pi (A.getD a default).t<(FAR:Int)
instance (a:Nat):Decidable (InH A al pi a):=by unfold InH;infer_instance
def oV(A:List Arc)(al:Nat->Bool)(pi:Nat->Int):List Arc:=((Xa A.length).filter fun a=>decide (InH A al pi a)).map fun a=>A.getD a default
theorem vu{a:Arc}:a∈oV A al pi↔ ∃i,i<A.length/\InH A al pi i/\A.getD i default=a:=by
 unfold oV
 simp only [List.mem_map,List.mem_filter,List.mem_range,decide_eq_true_eq,and_assoc]
def Feas(A:List Arc)(al:Nat->Bool)(pi:Nat->Int):Prop:= ∀i,i<A.length->InH A al pi i->pi (A.getD i default).s<=(A.getD i default).w+pi (A.getD i default).t
theorem Sv.wk(h:Sv A N s al pi σ): ∀(n:Nat) {v:Nat},(σ.P v).length<=n->(v∈σ.O\/σ.K v≠none)->Wk (oV A al pi) s v (σ.L v):=by
 have i: ∀v,(v∈σ.O\/σ.K v≠none)->pi v<(FAR:Int):=fun v b=>b.elim (h.pc v) (fun b=>by
  cases d:σ.K v with
  |none=>exact absurd d b
  |some k=>exact(h.op v k d).2.2.1)
 intro n
 induction n with
 | zero=>
   intro v c b
   rcases h.path v b with⟨rfl,_,e⟩|⟨a,_,_,_,_,e,_⟩
   . rw [e];exact .nil
   . rw [e]at c;simp at c
 | succ n j=>
   intro v c b
   rcases h.path v b with⟨rfl,_,e⟩|⟨a,l,m,f,g,o,p⟩
   . rw [e];exact .nil
   . rw [o]at c
     rw [p]
     exact Wk.snoc' (j (v:=(A.getD a default).s) (by simpa using c) (.inl g)) (vu.2 ⟨a,l,⟨m,h.pc _ g,by rw [f];exact i v b⟩,rfl⟩) rfl f rfl
structure Fe(A:List Arc)(s:Nat)(al:Nat->Bool)(pi:Nat->Int)(σ:SS)(ex:Nat->Prop):Prop where
 opt: ∀v∈σ.O,∀w,Wk (oV A al pi) s v w->σ.L v<=w
 fr: ∀a,a<A.length->InH A al pi a->(A.getD a default).s∈σ.O-> ¬ex a->(A.getD a default).t∈σ.O\/(σ.K (A.getD a default).t≠none/\σ.L (A.getD a default).t<=σ.L (A.getD a default).s+(A.getD a default).w)
 st:s∈σ.O\/(σ.K s≠none/\σ.L s=0)
theorem Fe.front(f:Fe A s al pi σ (fun _=>False))(h:Sv A N s al pi σ)(j:Feas A al pi){x w:Nat}(k:Wk (oV A al pi) s x w):x∈σ.O\/ ∃y,σ.K y≠none/\(σ.L y:Int)+pi y<=w+pi x:=by
 induction k with
 |nil=>exact f.st.imp (fun h=>h) (fun⟨a,b⟩=>⟨s,a,by rw [b];omega⟩)
 | @snoc w a l m d=>
   obtain⟨i,e,g,rfl⟩:=vu.1 l
   have o:=j i e g
   rcases d with d|⟨y,c,n⟩
   . rcases f.fr i e g d (fun h=>h)with c|⟨c,n⟩
     . exact .inl c
     . have:=f.opt _ d _ m
       exact .inr ⟨_,c,by omega⟩
   . exact .inr ⟨y,c,by omega⟩
theorem Fe.popped(f:Fe A s al pi σ (fun _=>False))(h:Sv A N s al pi σ)(m:Feas A al pi){v:Nat}{k:Int}(e:iV σ.K v k):
 (∀w,Wk (oV A al pi) s v w->σ.L v<=w)/\ ∀x w,x∉σ.O->Wk (oV A al pi) s x w->(σ.L v:Int)+pi v<=w+pi x:=by
 have d: ∀x w,x∉σ.O->Wk (oV A al pi) s x w->(σ.L v:Int)+pi v<=w+pi x:=fun x w n g=>by
  rcases f.front h m g with i|⟨y,i,o⟩
  . exact absurd i n
  . cases j:σ.K y with
    |none=>exact absurd j i
    | some l=>
      have a:=(h.op y l j).2.2.2
      have b:=(h.op v k e.1).2.2.2
      have c:=e.2 y l j
      omega
 refine⟨fun w g=>?_,d⟩
 have:=d v w (h.op v k e.1).2.1 g
 omega
theorem Fe.close(f:Fe A s al pi σ (fun _=>False))(h:Sv A N s al pi σ)(i:Feas A al pi){v:Nat}{k:Int}(j:iV σ.K v k):Fe A s al pi (iB σ v) (fun a=>(A.getD a default).s=v):=by
 have l:=(f.popped h i j).1
 refine⟨fun u c=>?_,fun a m n d o=>?_,?_⟩
 . rcases List.mem_append.1 c with c|c
   . exact f.opt u c
   . simp at c;subst c;exact l
 . rcases List.mem_append.1 d with d|d
   . rcases f.fr a m n d (fun h=>h)with b|⟨b,g⟩
     . exact .inl (Xr _ b)
     . by_cases e:(A.getD a default).t=v
       . exact .inl (Xu _ (List.mem_singleton.2 e))
       . exact .inr ⟨by simp only [iB,cE];rw [if_neg e];exact b,g⟩
   . simp at d;exact absurd d o
 . rcases f.st with b|⟨b,g⟩
   . exact .inl (Xr _ b)
   . by_cases e:s=v
     . exact .inl (Xu _ (List.mem_singleton.2 e))
     . exact .inr ⟨by simp only [iB,cE];rw [if_neg e];exact b,g⟩
theorem Fe.reach{t ex':Nat->Prop}(f:Fe A s al pi σ t){a v lab:Nat}{p:List Nat}(n:(A.getD a default).t=v)(B:lab=σ.L (A.getD a default).s+(A.getD a default).w)(o: ∀b,¬ex' b-> ¬t b\/(b=a)):Fe A s al pi (pW pi σ v lab p) ex':=by
 unfold pW
 split
 . rename_i h
   refine⟨f.opt,fun b l i j g=>?_,f.st⟩
   rcases o b g with c|rfl
   . exact f.fr b l i j c
   . rw [n]
     rcases h with h|h|⟨c,d⟩
     . exact .inl h
     . have:=i.2.2;rw [n]at this;omega
     . exact .inr ⟨fun e=>(by rw [e]at c;cases c),by omega⟩
 . rename_i h
   simp only [not_or]at h
   obtain⟨w,C,y⟩:=h
   have x:=fun c d=>y ⟨c,d⟩
   have q: ∀u∈σ.O,u≠v:=fun u m e=>w (by subst e;exact m)
   refine⟨fun u m=>?_,fun b l i j g=>?_,?_⟩
   . simp only [jU,if_neg (q u m)];exact f.opt u m
   . simp only [jU,cE,if_neg (q _ j)]
     by_cases e:(A.getD b default).t=v
     . right
       simp only [e,if_true]
       refine⟨by nofun,?_⟩
       rcases o b g with c|rfl
       . rcases f.fr b l i j c with d|⟨d,z⟩
         . rw [e]at d;exact absurd d w
         . rw [e]at d z
           have: ¬σ.L v<=lab:=x (by cases r:σ.K v with|none=>exact absurd r d|some k=>rfl)
           omega
       . omega
     . simp only [if_neg e]
       rcases o b g with c|rfl
       . exact f.fr b l i j c
       . exact absurd n e
   . rcases f.st with c|⟨c,d⟩
     . exact .inl c
     . by_cases e:s=v
       . subst e
         have: ¬σ.L s<=lab:=x (by cases r:σ.K s with|none=>exact absurd r c|some k=>rfl)
         omega
       . exact .inr ⟨by simp only [cE,if_neg e];exact c,by simp only [jU,if_neg e];exact d⟩
theorem Fe.exm{b ex':Nat->Prop}(f:Fe A s al pi σ b)(h: ∀a,a<A.length->b a->ex' a):Fe A s al pi σ ex':=
 ⟨f.opt,fun a c d e g=>f.fr a c d e (fun i=>g (h a c i)),f.st⟩
theorem Fe.scan1{e ex':Nat->Prop}(f:Fe A s al pi σ e){a v:Nat}(j:(A.getD a default).s=v)(g: ∀b,¬ex' b-> ¬e b\/(b=a)):Fe A s al pi (scan1 A al pi v σ a) ex':=by
 unfold Ab.scan1
 split
 . subst j
   exact Fe.reach (σ:=evS σ ⟨1,a,0⟩) ⟨f.opt,f.fr,f.st⟩ rfl rfl g
 . rename_i c
   refine⟨f.opt,fun b k i l d=>?_,f.st⟩
   rcases g b d with h|rfl
   . exact f.fr b k i l h
   . exact absurd i.1 c
theorem Fe.scanL{v:Nat}: ∀(l:List Nat) {σ:SS},Fe A s al pi σ (· ∈l)->(∀a∈l,(A.getD a default).s=v)->Fe A s al pi (l.foldl (Ab.scan1 A al pi v) σ) (fun _=>False)
 | [],_,f,_=>f.exm (fun a _ h=>by cases h)
 |a::l,σ,f,d=>Fe.scanL l (f.scan1 (a:=a) (d a (by simp)) (fun b c=>by by_cases e:b=a;exact .inr e;exact .inl (by simp [e,c]))) (fun b c=>d b (by simp [c]))
theorem Fe.next(f:Fe A s al pi σ (fun _=>False))(h:Sv A N s al pi σ)(c:Feas A al pi){v:Nat}{k:Int}(d:iV σ.K v k):Fe A s al pi (scanS A al pi v (iB σ v)) (fun _=>False):=
 Fe.scanL _ ((f.close h c d).exm fun a b e=>jI.2 ⟨b,e⟩) (fun a b=>(jI.1 b).2)
theorem Wk.mono{B C:List Arc}(b: ∀a∈B,a∈C){v w:Nat}(h:Wk B s v w):Wk C s v w:=by
 induction h with
 |nil=>exact .nil
 |snoc c _ d=>exact .snoc (b _ c) d
theorem IsD.congr{B C:List Arc}(d: ∀a,a∈B↔a∈C){v x:Nat}(h:IsD B s v x):IsD C s v x:=by
 rcases h with⟨a,b,c⟩|⟨a,b⟩
 . exact .inl ⟨a,b.mono fun a=>(d a).1,fun w e=>c w (e.mono fun a=>(d a).2)⟩
 . exact .inr ⟨a,fun w e=>b w (e.mono fun a=>(d a).2)⟩
end
end Go.Ab

end
section
namespace Go.Ab
open Go.Proofs
set_option maxRecDepth 10000
def labC(N:Nat)(L:Nat->Nat):List Value:=(Xa N).map fun v=>.int .i64 (L v:Nat)
def byI:List Nat->Int
 | []=> -1
 |a::_=>(a:Nat)
def byC(N:Nat)(P:Nat->List Nat):List Value:=(Xa N).map fun v=>.int .i64 (byI (P v))
def clC(N:Nat)(O:List Nat):List Value:=(Xa N).map fun v=>.bool (decide (v∈O))
def srL(br c d e N:Nat)(pn p a b vE:Value)(σ:SS):List (Nat×Ob):=
 [(br,.row [pn,p,.slice (some ⟨c,0,none⟩) N N,.slice (some ⟨d,0,none⟩) N N,.slice (some ⟨e,0,none⟩) N N,a,b,vE] 1),(c,.row (labC N σ.L) 1),(d,.row (byC N σ.P) 1),(e,.row (clC N σ.O) 1)]
def srG(vE:Value)(σ:SS):List GL:=[(vE,4,σ.ev.flatMap encE)]
def nu(h:Hp)(B:List Nat)(br:Nat)(pn a b:Value)(N:Nat)(σ:SS):Prop:=
 ∃e f g p F d,B=keys (srL br e f g N pn (ptrTo p) a b d σ) (srG d σ)++F/\(∀q∈srL br e f g N pn (ptrTo p) a b d σ,Has h q.1 q.2)/\fL h (d,4,σ.ev.flatMap encE)/\(keys (srL br e f g N pn (ptrTo p) a b d σ) (srG d σ)).Nodup/\bM h F (ptrTo p) N σ.K/\ ∀c∈F,c∉keys (srL br e f g N pn (ptrTo p) a b d σ) (srG d σ)
theorem St.ofHas{M:Nat->Prop}{h:Hp}{L:List (Nat×Ob)}{G:List GL}(e:h.t.Sized h.n)(f: ∀q∈L,Has h q.1 q.2)(g: ∀p∈G,fL h p)(i:(keys L G).Nodup)(d: ∀c∈keys L G,M c):St M h h L G:=
 ⟨Mo.refl e,fun p a=>⟨.inr (d _ (gm a)),f p a⟩,fun p a=>⟨g p a,fun b j=>.inr (d _ (eW a j))⟩,i⟩
theorem nu.mo{M:Nat->Prop}{h h':Hp}{B:List Nat}{br N:Nat}{pn a c:Value}{σ:SS}(r:nu h B br pn a c N σ)(g:Mo M h h')(e: ∀b∈B,¬M b):nu h' B br pn a c N σ:=by
 obtain⟨k,l,m,p,F,f,rfl,n,i,o,s,t⟩:=r
 refine⟨k,l,m,p,F,f,rfl,fun q j=>g.has (n q j) (e _ (Xr _ (gm j))),i.of_get fun b d=>g.get b (i.lt g.ok0 d) (e b (Xr _ (eW (p:=(f,4,σ.ev.flatMap encE)) m0 d))),o,s.mo g (fun b d=>e b (Xu _ d)),t⟩
theorem nu.gr{h h':Hp}{B:List Nat}{br N:Nat}{pn a b:Value}{σ:SS}(r:nu h B br pn a b N σ)(g:Gr h h'):nu h' B br pn a b N σ:=r.mo (M:=NoM) g.fr (fun _ _ h=>h)
theorem nu.lt{h:Hp}(e:h.t.Sized h.n){B:List Nat}{br N:Nat}{pn b d:Value}{σ:SS}(r:nu h B br pn b d N σ): ∀c∈B,c<h.n:=by
 obtain⟨l,m,n,p,F,o,rfl,f,g,i,j,q⟩:=r
 intro c a
 rcases List.mem_append.1 a with a|a
 . exact(St.ofHas (M:=fun _=>True) e f (fun p k=>by cases k with|head=>exact g|tail _ h=>cases h) i (fun _ _=>trivial)).key_lt a
 . exact j.lt e c a
theorem Gr.mo'{hq h h':Hp}{B:List Nat}(g:Gr hq h)(f:Mo (· ∈B) h h')(hB: ∀c∈B,hq.n<=c):Gr hq h':=((g.fr (M:=NoM)).trans f (fun i a=>.inr (hB i a))).gr
theorem nu.close{M:Nat->Prop}{h0 h:Hp}{br e f g d N:Nat}{F:List Nat}{pn a b vE:Value}{σ:SS}(S:St M h0 h (srL br e f g N pn (ptrTo d) a b vE σ) (srG vE σ))(H:bM h F (ptrTo d) N σ.K)(i: ∀c∈F,c∉keys (srL br e f g N pn (ptrTo d) a b vE σ) (srG vE σ)):
 nu h (keys (srL br e f g N pn (ptrTo d) a b vE σ) (srG vE σ)++F) br pn a b N σ:=
 ⟨e,f,g,d,F,vE,rfl,fun q j=>(S.own q j).2,(S.gown _ m0).1,S.apart,H,i⟩
theorem nu.open{h:Hp}(i:h.t.Sized h.n){B:List Nat}{br N:Nat}{pn a b:Value}{σ:SS}(r:nu h B br pn a b N σ): ∃e f g d F vE,B=keys (srL br e f g N pn (ptrTo d) a b vE σ) (srG vE σ)++F/\St (· ∈B) h h (srL br e f g N pn (ptrTo d) a b vE σ) (srG vE σ)/\bM h F (ptrTo d) N σ.K/\ ∀c∈F,c∉keys (srL br e f g N pn (ptrTo d) a b vE σ) (srG vE σ):=by
 obtain⟨e,f,g,d,F,vE,rfl,j,k,l,m,n⟩:=r
 exact⟨e,f,g,d,F,vE,rfl,St.ofHas i j (fun p o=>by cases o with|head=>exact k|tail _ h=>cases h) l (fun c q=>Xr _ q),m,n⟩
def IterW(E:Env)(g:FuncId)(post:List Value)(h0:Hp)(D W:Nat->Prop)(xs:List (List Value)):Prop:=
 ∀a J Z,(∀v h,¬Z (.pan v) h)->Yld E a J Z xs->(∀i h F c,J i h F->Mo W h c->J i c F)-> ∀h F,ItS h0 D h F->(∀b,W b->h.get b=h0.get b)->(∀b∈F,¬W b)->J 0 h F->eu E g ([]++[.func (.yield a) #[] #[]]++post) none h (YQ J Z xs.length)
theorem iter_w{E:Env}{g:FuncId}{post:List Value}{h0:Hp}{D:Nat->Prop}{xs:List (List Value)}(H:IterN E g [] post h0 D xs):IterW E g post h0 D NoM xs:=fun a J Z b Y _ h F s _ _ c=>H a J Z b Y h F s c
theorem ov(l:List Nat):(l.flatMap cB).length=l.length:=by rw [bw fj];omega
theorem my{h:Hp}{p:GL}(g:fL h p){c:Nat}(a:aq p.1 c):dM p=some c:=by
 rcases g with⟨e,_⟩|⟨b,n,e,_⟩
 . rw [e]at a;exact a.elim
 . obtain⟨v,k,d⟩:=p
   simp only []at e a
   subst e
   exact congrArg some a
def Tryz.FQ:=aj t1<|aj t2<|aj t3<|aj t4<|t33
def rvC(n k:Nat)(f:Nat->Value):List Value:=(Xa n).map fun p=>if p<k\/n<=p+k then f (n-1-p)else f p
theorem mj{n k:Nat}{f:Nat->Value}:(rvC n k f).length=n:=by simp [rvC]
theorem pR{n k i:Nat}{f:Nat->Value}(h:i<n):(rvC n k f)[i]? =some (if i<k\/n<=i+k then f (n-1-i)else f i):=kM (F:=fun p=>if p<k\/n<=p+k then f (n-1-p)else f p) h
theorem rvC_step{n k:Nat}{f:Nat->Value}(h:2*k+1<n):((rvC n k f).set k (f (n-1-k))).set (n-1-k) (f k)=rvC n (k+1) f:=by
 refine Xx fun i=>?_
 rw [XH,XH,Xo,mj]
 by_cases a:i<n
 . rw [pR a,pR a]
   by_cases b:n-1-k=i
   . subst b
     rw [if_pos rfl,if_pos a,if_pos (.inr (by omega)),show n-1-(n-1-k)=k by omega]
   . rw [if_neg b]
     by_cases d:k=i
     . subst d
       rw [if_pos rfl,if_pos a,if_pos (.inl (by omega))]
     . rw [if_neg d]
       congr 1
       by_cases c:i<k\/n<=i+k
       . rw [if_pos c,if_pos (by omega)]
       . rw [if_neg c,if_neg (by omega)]
 . rw [if_neg (by omega),if_neg (by omega)]
   rw [Xj (by rw [mj];omega),Xj (by rw [mj];omega)]
theorem rvC_zero{xs:List Nat}:xs.flatMap cB=rvC xs.length 0 fun p=>.int .i64 (xs.getD p 0:Nat):=by
 have e:xs.flatMap cB=xs.map fun(x:Nat)=>Value.int .i64 x:=by
  rw [Xg,XE,Xg];rfl
 rw [e]
 refine Xx fun i=>?_
 by_cases a:i<xs.length
 . rw [pR a,if_neg (by omega)];simp [a]
 . rw [Xj (by simpa using a),Xj (by rw [mj];omega)]
theorem rvC_done{xs:List Nat}{k:Nat}(h:xs.length<=2*k+1)(d:2*k<=xs.length):rvC xs.length k (fun p=>.int .i64 (xs.getD p 0:Nat))=xs.reverse.flatMap cB:=by
 have e:xs.reverse.flatMap cB=xs.reverse.map fun(x:Nat)=>Value.int .i64 x:=by
  rw [Xg,XE,Xg];rfl
 rw [e]
 refine Xx fun i=>?_
 by_cases b:i<xs.length
 . rw [pR b,Xy,List.getElem?_reverse b]
   have a:xs.length-1-i<xs.length:=by omega
   rw [Xm a]
   have g: ∀{j:Nat} (a:j<xs.length),xs.getD j 0=xs[j]:=fun a=>by simp [Xf,a]
   by_cases c:i<k\/xs.length<=i+k
   . rw [if_pos c,g a];rfl
   . rw [if_neg c]
     have:i=xs.length-1-i:=by omega
     rw [g b]
     simp only [Xw]
     congr 3
     simp only [<-this]
 . rw [Xj (by rw [mj];omega),Xj (by simpa using b)]
theorem zV{h0:Hp}(u:h0.t.Sized h0.n){v:Value}{xs:List Nat}(y:fL h0 (v,1,xs.flatMap cB))(L:xs.length<1000000):
 Ret zM 123 [v] h0 fun _ h'=>Mo (aq v) h0 h'/\fL h' (v,1,xs.reverse.flatMap cB):=by
 rcases y with⟨g,j⟩|⟨b,n,g,j,t⟩
 . simp only []at g j
   subst g
   have:xs=[]:=by
    cases xs with
    |nil=>rfl
    |cons a l=>simp [cB]at j
   subst this
   have S:=Si u
   refine ab (n:=28) (rs:=[]) rfl Tryz.e123 rfl rfl rfl (lbt rfl) ?_
   simp only [BS,LB,Nat.reduceLT,Nat.reduceEqDiff,Int.reduceSub,Xe,FQ]
   rw [bG]
   have z:an .i64 (-1)= -1:=rfl
   have A: ¬((0:Int)< -1):=by omega
   simp only [BS,LB,Nat.reduceLT,Nat.reduceEqDiff,z,A]
   exact⟨S.gr.fr,.inl ⟨rfl,rfl⟩⟩
 . simp only []at g j t
   subst g
   have B:n=xs.length:=by rw [ov]at j;omega
   subst B
   rw [rvC_zero]at t
   have S:=St.init1 u (o:=.row _ 1) t
   have C:an .i64 ((xs.length:Int)-1)=(xs.length:Int)-1:=by rw [wrap64]<;>omega
   refine ab (n:=28) (rs:=[]) rfl Tryz.e123 rfl rfl rfl (lbt rfl) ?_
   simp only [BS,LB,Nat.reduceLT,Nat.reduceEqDiff,FQ,C]
   refine bL (fun(k:Nat) r h=>2*k<=xs.length/\St (· =b) h0 h [(b,.row (rvC xs.length k fun p=>.int .i64 (xs.getD p 0:Nat)) 1)] []/\r 0=.slice (some ⟨b,0,some 1⟩) xs.length xs.length/\r 2=.int .i64 (k:Nat)/\r 3=.int .i64 ((xs.length:Int)-1-k)) (fun k=>xs.length-k) ?_ 0 _ _ ?_
   . clear S
     intro k D r M ⟨hk,S,r0,r2,r3⟩
     by_cases hlt:2*k+1<xs.length
     . have s:(k:Int)<(xs.length:Int)-1-k:=by omega
       have e:k<xs.length:=by omega
       have d:xs.length-1-k<xs.length:=by omega
       have E:(xs.length:Int)-1-k=((xs.length-1-k:Nat):Int):=by omega
       have F:an .i64 ((k:Int)+1)=((k+1:Nat):Int):=by rw [wrap64]<;>omega
       have G:an .i64 (((xs.length-1-k:Nat):Int)-1)=(xs.length:Int)-1-(k+1:Nat):=by rw [wrap64]<;>omega
       have w:=(S.row (b:=b) m0).load1 (pR e)
       have x:=(S.row (b:=b) m0).load1 (pR d)
       rw [if_neg (by omega)]at w x
       rw [E]at r3 s
       simp only [BS,LB,Nat.reduceLT,Nat.reduceEqDiff,r2,r3,s]
       refine aB (aG rfl) (q:=0) (ps:=[]) (by kernel_rfl) ?_
       simp only [BS,LB,cls,Nat.reduceLT,Nat.reduceEqDiff,Nat.reduceAdd,Nat.reducePow,Nat.reduceDiv,Nat.reduceMod,Nat.reduceLeDiff,FQ,r0,r2,r3,e,d,w,x]
       refine dS (aC S (i:=0) rfl Tryz.t3.2.2.1 aY (by rw [mj];exact e) ono) ?_
       clear S;rintro N ⟨S,H⟩
       simp only [LC]at S
       simp only [BS,LB,cls,Nat.reduceLT,Nat.reduceEqDiff,Nat.reduceAdd,Nat.reducePow,Nat.reduceDiv,Nat.reduceMod,Nat.reduceLeDiff,FQ,d]
       refine dS (aC S (i:=0) rfl Tryz.t3.2.2.1 aY (by rw [Xo,mj];exact d) ono) ?_
       clear S;rintro O ⟨S,I⟩
       simp only [LC]at S
       have J:=rvC_step (f:=fun p=>.int .i64 (xs.getD p 0:Nat)) hlt
       rw [J]at S
       simp only [BS,LB,Nat.reduceLT,Nat.reduceEqDiff,Nat.reduceAdd,r2,r3,F,G]
       exact D (k+1) _ _ (by omega) ⟨by omega,S,by simp [aa,r0],by simp [aa],by simp [aa]⟩
     . have s: ¬(k:Int)<(xs.length:Int)-1-k:=by omega
       simp only [BS,LB,Nat.reduceLT,Nat.reduceEqDiff,r2,r3,s]
       have m:=S.row m0
       rw [rvC_done (by omega) hk]at m
       exact⟨S.fr.mono (fun c K=>Eq.symm K),.inr ⟨b,xs.length,rfl,by show xs.length*1=(xs.reverse.flatMap cB).length;rw [ov,List.length_reverse];omega,m⟩⟩
   . exact⟨by omega,S,by simp [aa,aZ],by simp [aa],by simp [aa]⟩

def Tryz.FR:=aj t1<|aj t2<|aj t3<|aj t4<|aj t5<|aj t6<|aj Z3<|aj Z4<|aj t9<|aj t10<|aj t20<|aj t24<|t142
def Tryz.FS:=aj t1<|aj t2<|aj t3<|aj t4<|aj t5<|aj t6<|aj Z3<|aj Z4<|aj t9<|aj t10<|aj t20<|aj t33<|t142
theorem rep64_ok{h0:Hp}(t:h0.t.Sized h0.n){v:Value}{x:Int}{N:Nat}(u:au h0 1 (encI .i64) v [x])(a:1<=N)(y:N<1000):Ret zM 210 [v,.int .i64 N] h0 fun r h'=>Gr h0 h'/\ ∃b,r=.slice (some ⟨b,0,none⟩) N N/\h0.n<=b/\Row h' b (Xd N (.int .i64 x)) 1:=by
 have S:=Si t
 have z: ¬((N:Int)<0):=by omega
 have A: ¬((9223372036854775807:Int)<(N:Int)):=by omega
 have B:an .u64 (N:Int)=(N:Int):=ud (by omega) (by omega)
 have C:an .u64 1=1:=rfl
 have D:an .i64 (N:Int)=(N:Int):=by rw [wrap64]<;>omega
 obtain⟨J,K,L,M,rfl,E,F⟩: ∃b o s c,v=.slice (some ⟨b,o,s⟩) 1 c/\1<=c/\h0.load b o 1=some [.int .i64 x]:=by
  rcases u with⟨_,h⟩|⟨b,o,s,c,rfl,G,H⟩
  . cases h
  . exact⟨b,o,s,c,rfl,G,H⟩
 refine ab (n:=48) (rs:=[.tmp 4]) rfl Tryz.e210 rfl rfl rfl (lbt rfl) ?_
 simp only [BS,LB,jy,cv,jx,Nat.reduceLT,Nat.reduceEqDiff,Xe,FR,z,B,C]
 refine am (mul_ok S.ok y) ?_;intro h g;replace S:=S.call g;clear g
 simp only [BS,LB,jy,cv,jx,Nat.reduceLT,Nat.reduceEqDiff,Int.reduceLT,FR,A,D]
 refine ae (pQ (by exact Tryz.t24.1) (by exact XV) (by omega) (by omega)) S ?_;clear S;intro h j S d
 rw [Xn,qi]at S
 simp only [BS,LB,Nat.reduceLT,Nat.reduceEqDiff,Xn]
 refine eh (S.copyO (i:=0) (l:=Xd 1 (.int .i64 x)) rfl Tryz.t24.1 Tryz.t2.2.2.1 (by rw [i9 a];decide) (by rw [i9 a];exact S.old F (fun h=>h)) (by simp;omega) rfl) ?_
 clear S;rintro h w ⟨rfl,S⟩
 simp only [LC]at S
 rw [show Xd N (Value.int .i64 0)=Xd 0 (.int .i64 x)++Xd N (.int .i64 0) by simp,su a]at S
 rw [i9 a]
 simp only [BS,LB,Nat.reduceLT,Nat.reduceEqDiff,Xe]
 refine bL (fun(n:Nat) m h=>1<=n/\n<=N/\St NoM h0 h [(j,.row (Xd n (.int .i64 x)++Xd (N-n) (.int .i64 0)) 1)] []/\m 7=.slice (some ⟨j,0,none⟩) N N/\m 8=.int .i64 n) (fun n=>N-n) ?_ 1 _ _ ?_
 . clear S
   intro n I m h ⟨hn1,hn,S,r7,r8⟩
   by_cases hlt:n<N
   . simp only [BS,LB,Nat.reduceLT,Nat.reduceEqDiff,FR,r7,r8,aK,hlt]
     refine aB (aG rfl) (q:=0) (ps:=[]) (by kernel_rfl) ?_
     simp only [BS,LB,cls,Nat.reduceLT,Nat.reduceEqDiff,Nat.reduceAdd,Nat.reducePow,Nat.reduceDiv,Nat.reduceMod,Nat.reduceLeDiff,Xw,XT,r7,r8,xy Tryz.t24.1 Tryz.t2.2.2.1 hlt,wL Tryz.t24.1 Tryz.t2.2.2.1 (Nat.le_of_lt hlt)]
     have p:0<dO n (N-n):=by
      rcases XQ n (N-n)with h|h
      . rw [i9 h];omega
      . rw [rK h];omega
     have f:dO n (N-n)<=N-n/\dO n (N-n)<=n:=by
      rcases XQ n (N-n)with h|h
      . rw [i9 h];omega
      . rw [rK h];omega
     refine jF (S.copyO (i:=0) (l:=Xd (dO n (N-n)) (.int .i64 x)) rfl Tryz.t24.1 Tryz.t2.2.2.1 p ?_ (by simp;omega) (by simp;right;rfl)) ?_
     . rw [(S.row m0).load (by simp;omega),Xh,XG]
       congr 1
       rw [XL (by simp;omega),X6]
       congr 1
       omega
     clear S;rintro h w ⟨rfl,S⟩
     simp only [LC]at S
     rw [su f.1]at S
     generalize dO n (N-n)=k at S p f
     have w:an .i64 ((n:Int)+(k:Int))=((n+k:Nat):Int):=by rw [wrap64]<;>omega
     simp only [BS,LB,cls,Nat.reduceLT,Nat.reduceEqDiff,Nat.reduceAdd,Nat.reducePow,Nat.reduceDiv,Nat.reduceMod,Nat.reduceLeDiff,w]
     exact I (n+k) _ _ (by omega) ⟨by omega,by omega,by rw [show N-(n+k)=N-n-k by omega];exact S,by simp [aa,r7],by simp [aa]⟩
   . simp only [BS,LB,ac,Nat.reduceLT,Nat.reduceEqDiff,FR,r7,r8,aK,hlt]
     have e:n=N:=by omega
     subst e
     have R:=S.row (b:=j) m0
     rw [XP,X7,Xt]at R
     exact⟨S.gr,j,rfl,d,R⟩
 . exact⟨XI _,a,by simpa using S,by simp [aa],by simp [aa]⟩
theorem repI_ok{h0:Hp}(t:h0.t.Sized h0.n){v:Value}{x:Int}{N:Nat}(u:au h0 1 (encI .i64) v [x])(a:1<=N)(y:N<1000):Ret zM 211 [v,.int .i64 N] h0 fun r h'=>Gr h0 h'/\ ∃b,r=.slice (some ⟨b,0,none⟩) N N/\h0.n<=b/\Row h' b (Xd N (.int .i64 x)) 1:=by
 have S:=Si t
 have z: ¬((N:Int)<0):=by omega
 have A: ¬((9223372036854775807:Int)<(N:Int)):=by omega
 have B:an .u64 (N:Int)=(N:Int):=ud (by omega) (by omega)
 have C:an .u64 1=1:=rfl
 have D:an .i64 (N:Int)=(N:Int):=by rw [wrap64]<;>omega
 obtain⟨J,K,L,M,rfl,E,F⟩: ∃b o s c,v=.slice (some ⟨b,o,s⟩) 1 c/\1<=c/\h0.load b o 1=some [.int .i64 x]:=by
  rcases u with⟨_,h⟩|⟨b,o,s,c,rfl,G,H⟩
  . cases h
  . exact⟨b,o,s,c,rfl,G,H⟩
 refine ab (n:=48) (rs:=[.tmp 4]) rfl Tryz.e211 rfl rfl rfl (lbt rfl) ?_
 simp only [BS,LB,jy,cv,jx,Nat.reduceLT,Nat.reduceEqDiff,Xe,FS,z,B,C]
 refine am (mul_ok S.ok y) ?_;intro h g;replace S:=S.call g;clear g
 simp only [BS,LB,jy,cv,jx,Nat.reduceLT,Nat.reduceEqDiff,Int.reduceLT,FS,A,D]
 refine ae (pQ (by exact Tryz.t33.1) (by exact XJ) (by omega) (by omega)) S ?_;clear S;intro h j S d
 rw [Xn,qi]at S
 simp only [BS,LB,Nat.reduceLT,Nat.reduceEqDiff,Xn]
 refine eh (S.copyO (i:=0) (l:=Xd 1 (.int .i64 x)) rfl Tryz.t33.1 Tryz.t3.2.2.1 (by rw [i9 a];decide) (by rw [i9 a];exact S.old F (fun h=>h)) (by simp;omega) rfl) ?_
 clear S;rintro h w ⟨rfl,S⟩
 simp only [LC]at S
 rw [show Xd N (Value.int .i64 0)=Xd 0 (.int .i64 x)++Xd N (.int .i64 0) by simp,su a]at S
 rw [i9 a]
 simp only [BS,LB,Nat.reduceLT,Nat.reduceEqDiff,Xe]
 refine bL (fun(n:Nat) m h=>1<=n/\n<=N/\St NoM h0 h [(j,.row (Xd n (.int .i64 x)++Xd (N-n) (.int .i64 0)) 1)] []/\m 7=.slice (some ⟨j,0,none⟩) N N/\m 8=.int .i64 n) (fun n=>N-n) ?_ 1 _ _ ?_
 . clear S
   intro n I m h ⟨hn1,hn,S,r7,r8⟩
   by_cases hlt:n<N
   . simp only [BS,LB,Nat.reduceLT,Nat.reduceEqDiff,FS,r7,r8,aK,hlt]
     refine aB (aG rfl) (q:=0) (ps:=[]) (by kernel_rfl) ?_
     simp only [BS,LB,cls,Nat.reduceLT,Nat.reduceEqDiff,Nat.reduceAdd,Nat.reducePow,Nat.reduceDiv,Nat.reduceMod,Nat.reduceLeDiff,Xw,XT,r7,r8,xy Tryz.t33.1 Tryz.t3.2.2.1 hlt,wL Tryz.t33.1 Tryz.t3.2.2.1 (Nat.le_of_lt hlt)]
     have p:0<dO n (N-n):=by
      rcases XQ n (N-n)with h|h
      . rw [i9 h];omega
      . rw [rK h];omega
     have f:dO n (N-n)<=N-n/\dO n (N-n)<=n:=by
      rcases XQ n (N-n)with h|h
      . rw [i9 h];omega
      . rw [rK h];omega
     refine jF (S.copyO (i:=0) (l:=Xd (dO n (N-n)) (.int .i64 x)) rfl Tryz.t33.1 Tryz.t3.2.2.1 p ?_ (by simp;omega) (by simp;right;rfl)) ?_
     . rw [(S.row m0).load (by simp;omega),Xh,XG]
       congr 1
       rw [XL (by simp;omega),X6]
       congr 1
       omega
     clear S;rintro h w ⟨rfl,S⟩
     simp only [LC]at S
     rw [su f.1]at S
     generalize dO n (N-n)=k at S p f
     have w:an .i64 ((n:Int)+(k:Int))=((n+k:Nat):Int):=by rw [wrap64]<;>omega
     simp only [BS,LB,cls,Nat.reduceLT,Nat.reduceEqDiff,Nat.reduceAdd,Nat.reducePow,Nat.reduceDiv,Nat.reduceMod,Nat.reduceLeDiff,w]
     exact I (n+k) _ _ (by omega) ⟨by omega,by omega,by rw [show N-(n+k)=N-n-k by omega];exact S,by simp [aa,r7],by simp [aa]⟩
   . simp only [BS,LB,ac,Nat.reduceLT,Nat.reduceEqDiff,FS,r7,r8,aK,hlt]
     have e:n=N:=by omega
     subst e
     have R:=S.row (b:=j) m0
     rw [XP,X7,Xt]at R
     exact⟨S.gr,j,rfl,d,R⟩
 . exact⟨XI _,a,by simpa using S,by simp [aa],by simp [aa]⟩
def Tryz.F1b:=aj t1<|aj t2<|aj t3<|aj t4<|aj t24<|aj t29<|aj Z0<|aj t32<|aj t33<|aj Z2<|aj t189<|Z1
theorem ui{h0:Hp}(a:h0.t.Sized h0.n){p:Value}{γ:Gra}{d:Nat}(c:bI h0 d p γ):bz zM 149 [p] h0 (.int .i64 γ.arcs.length):=by
 have S:=Si a
 obtain⟨b,g,h,i,j,k,rfl,r,e,_⟩:=c.ex
 have f:=r.load1 (o:=3) rfl
 refine ab (n:=11) (rs:=[.tmp 2]) rfl Tryz.e149 rfl rfl rfl (lbt rfl) ?_
 simp only [BS,LB,ac,Nat.reduceLT,Nat.reduceEqDiff,F1b,f,e.A.lenq]
 exact S.gr
def vf(h:Hp)(p:Value)(m:List Int)(n:Int):Prop:=(p=.pointer none/\m=[]/\n=0)\/((∃k,mb h k p m)/\n=lmax m+1)
theorem vf.gr{h h':Hp}{p:Value}{m:List Int}{n:Int}(g:Gr h h')(c:vf h p m n):vf h' p m n:=c.imp (fun h=>h) (fun⟨⟨k,h⟩,e⟩=>⟨⟨k,h.gr g⟩,e⟩)
def BitsAt(h:Hp)(p:Value)(a w:Int)(c:Bool):Prop:=(p=.pointer none/\a=0/\w=0/\c=false)\/ ∃b x y,p=ptrTo b/\Row h b [.int .i64 a,.int .i64 w,x,y] 1/\c=true
theorem BitsAt.gr{h h':Hp}{p:Value}{a w:Int}{d:Bool}(g:Gr h h')(c:BitsAt h p a w d):BitsAt h' p a w d:=c.imp (fun h=>h) (fun⟨b,x,y,e,r,n⟩=>⟨b,x,y,e,r.gr g,n⟩)
theorem au.blt{α:Type}{h:Hp}{k:Nat}{enc:α->List Value}{v:Value}{xs:List α}(e:h.t.Sized h.n)(s:au h k enc v xs){c:Nat}(a:aq v c):c<h.n:=by
 rcases s with⟨rfl,_⟩|⟨b,o,_,_,rfl,_,f⟩
 . exact a.elim
 . have:b=c:=a
   subst this
   cases d:h.get b with
   |none=>simp [Hp.load,d]at f
   |some x=>exact fF e d
def Tryz.FF:=aj t1<|aj t2<|aj t3<|aj t4<|aj t5<|aj Z0<|aj t32<|aj t33<|aj Z2<|aj t189<|aj Z1<|aj t192<|t350
def nI(A:List Arc)(f:Arc->Nat)(a:List Nat):List (List Value):=a.map fun(id:Nat)=>[.int .i64 id,.agg ⟨ct ⟨0,f (A.getD id default),(A.getD id default).w⟩⟩]
theorem arcs_ok'{h0:Hp}(j:h0.t.Sized h0.n){p g i:Value}(k:Fl p)(l:Fl g)(m:Fl i):Ret zM 212 [p,g,i] h0 fun v h'=>Gr h0 h'/\ ∃a b c,v=.func (.func 251) #[] #[ptrTo a,ptrTo b,ptrTo c]/\h0.n<=a/\h0.n<=b/\h0.n<=c/\h'.load a 0 1=some [g]/\h'.load b 0 1=some [p]/\h'.load c 0 1=some [i]:=by
 have S:=Si j
 refine ab (n:=8) (rs:=[.tmp 6]) rfl Tryz.e212 rfl rfl rfl (lbt rfl) ?_
 simp only [BS,Nat.reduceLT]
 refine ae (cK (by assumption)) S ?_;clear S;intro h b S d
 simp only [BS,Nat.reduceLT,Nat.reduceEqDiff,if_false]
 refine ae (cK (by assumption)) S ?_;clear S;intro h a S e
 simp only [BS,Nat.reduceLT,Nat.reduceEqDiff,if_false]
 refine ae (cK (by assumption)) S ?_;clear S;intro h c S f
 simp only [BS,LB,ac,Nat.reduceLT,Nat.reduceEqDiff]
 exact⟨S.gr,a,b,c,rfl,e,d,f,S.ld m1 rfl,S.ld m2 rfl,S.ld m0 rfl⟩
theorem arcs_it{hq h0:Hp}(G:hq.t.Sized hq.n)(k:h0.t.Sized h0.n)(Q:iG hq h0)(R:hq.n<=h0.n){p r:Value}{γ:Gra}{K t u y:Nat}(T:bI hq K p γ){d:List Nat}(L:au h0 1 cB r d)(z: ∀id∈d,id<γ.arcs.length)(M:d.length<1000){g:FuncId}{f:Arc->Nat}(U:KeyF zM g f)
 (V:h0.load t 0 1=some [r]) (W:h0.load u 0 1=some [p]) (X:h0.load y 0 1=some [.func (.func g) #[] #[]]):
 IterN zM 251 [] [ptrTo t,ptrTo u,ptrTo y] h0 (fun c=>c=t\/c=u\/c=y\/aq r c\/c<hq.n) (nI γ.arcs f d):=by
 intro lb J Z hz Y h F s D
 refine enter (n:=32) (rs:=[]) rfl Tryz.e251 rfl rfl rfl (lbt rfl) ?_
 have N:=s.load k V (.inl rfl)
 simp only [BS,LB,Nat.reduceLT,FF,N,L.lenq]
 refine bL (fun(i:Nat) l h=>i<=d.length/\ ∃F,ItS h0 (fun c=>c=t\/c=u\/c=y\/aq r c\/c<hq.n) h F/\J i h F/\l 0=.func (.yield lb) #[] #[]/\l 1=ptrTo t/\l 2=ptrTo u/\l 3=ptrTo y/\l 9=r/\l 10=.int .i64 d.length/\l 11=.int .i64 i) (fun i=>d.length-i) ?_ 0 _ _ ?_
 . clear N
   intro i ih l h ⟨hi,F,s,D,r0,r1,r2,r3,r9,r10,r11⟩
   by_cases hlt:i<d.length
   . obtain⟨c,o,A,H⟩:=(s.sl k L (fun b h=>.inr (.inr (.inr (.inl h))))).ix (kd:=.i64) fj hlt
     have l2:=s.load k W (.inr (.inl rfl))
     have l3:=s.load k X (.inr (.inr (.inl rfl)))
     have B:=z _ (XB hlt)
     have nt:bI h K p γ:=T.keep G (s.keep Q R (fun c hc=>.inr (.inr (.inr (.inr hc)))))
     have w:an .i64 ((i:Int)+1)=((i+1:Nat):Int):=by rw [wrap64]<;>omega
     have S:=Si s.ok
     simp only [BS,LB,Nat.reduceLT,Nat.reduceEqDiff,FF,r2,r9,r10,r11,aK,hlt,A,H,cB,l2]
     refine step_ret (mZ S.ok nt B) ?_
     rintro v h2 ⟨m,rfl⟩
     replace S:=S.call m;clear m
     simp only [BS,LB,Nat.reduceLT,Nat.reduceEqDiff,FF]
     refine ae aA S ?_;clear S;intro h I S O
     simp only [BS,LB,Nat.reduceLT,Nat.reduceEqDiff,ct]
     refine az (S.store (i:=0) rfl ?_ ?_ rfl rfl ?_ ono) ?_
     . exact(by exact Tryz.t99.2.1)
     . exact(by intro x e;cases e)
     . exact lbt rfl
     clear S;rintro h ⟨S,mo⟩;clear mo;simp only [LC,ah,lay,Xb,Xc,Nat.reduceAdd]at S
     simp only [BS,LB,Nat.reduceLT,Nat.reduceEqDiff]
     refine aB (aG rfl) (q:=0) (ps:=[(4,6)]) (by kernel_rfl) ?_
     simp only [BS,LB,cls,Nat.reduceLT,Nat.reduceEqDiff,Nat.reduceAdd,Nat.reducePow,Nat.reduceDiv,Nat.reduceMod,Nat.reduceLeDiff,FF,r0,r3,S.old l3 (fun h=>h),S.lds (b:=I) (o:=0) (n:=3) m0 (lbt rfl)]
     have C:=(S.row (b:=I) m0).lt S.ok
     refine df (U _ γ.arcs[d[i]] S.ok) ?_
     intro P m
     have E:=ar m C
     replace S:=S.call m;clear m
     simp only [BS,LB,cls,Nat.reduceLT,Nat.reduceEqDiff,Nat.reduceAdd,Nat.reducePow,Nat.reduceDiv,Nat.reduceMod,Nat.reduceLeDiff,FF,S.ld (b:=I) (o:=2) m0 rfl]
     have gd:γ.arcs.getD d[i] default=γ.arcs[d[i]]:=by simp [Xf,B]
     have hx:(nI γ.arcs f d)[i]? =some [.int .i64 (d[i]:Nat),.agg ⟨[.int .i64 0,.int .i64 (f γ.arcs[d[i]]:Nat),.int .i64 (γ.arcs[d[i]].w:Nat)]⟩]:=by
      unfold nI
      rw [Xy,Xm hlt]
      simp only [Xw,gd]
      rfl
     refine dn_yield hz Y (s.gr S.gr) (Y.gr _ _ _ _ D S.gr) (j:=i) hx ?_ ?_
     . intro P F' a s' _ _
       simp only [BS,LB,cls,Nat.reduceLT,Nat.reduceEqDiff,Nat.reduceAdd,Nat.reducePow,Nat.reduceDiv,Nat.reduceMod,Nat.reduceLeDiff,r11,w]
       refine⟨by simp only [bn,bE,aT,bJ,aV,ne_eq,not_false_eq_true,bK,bZ,bg,aX,cb,cM,aO,Nat.reduceLT,Nat.reduceEqDiff,reduceIte,Xi,r0,r1,r2,r3,ag,aD E,av E],?_⟩
       exact ih (i+1) _ _ (by omega) ⟨by omega,F',s',a,by simp [aa,r0],by simp [aa,r1,ag],by simp [aa,r2,ag],by simp [aa,r3,ag],by simp [aa,r9],by simp [aa,r10],by simp [aa]⟩
     . intro P a _
       simp only [BS,LB,cls,Nat.reduceLT,Nat.reduceEqDiff,Nat.reduceAdd,Nat.reducePow,Nat.reduceDiv,Nat.reduceMod,Nat.reduceLeDiff]
       refine⟨by simp only [bn,bE,aT,bJ,aV,ne_eq,not_false_eq_true,bK,bZ,bg,aX,cb,cM,aO,Nat.reduceLT,Nat.reduceEqDiff,reduceIte,Xi,r0,r1,r2,r3,ag,aD E,av E],?_⟩
       exact jb rfl ⟨rfl,.inr (.inl ⟨_,rfl,a⟩)⟩
   . simp only [BS,LB,Nat.reduceLT,r10,r11,aK,hlt]
     have:i=d.length:=by omega
     subst this
     exact dP (c9 ⟨rfl,_,rfl,rfl,.inl ⟨_,F,rfl,by simpa [nI]using D⟩⟩)
 . exact⟨by omega,F,s,D,by simp [aa,cD],by simp [aa,cD,ag],by simp [aa,cD,ag],by simp [aa,cD,ag],by simp [aa],by simp [aa],by simp [aa]⟩
def Tryz.Ft:=aj t1<|aj t2<|aj t3<|aj t4<|aj t5<|aj t24<|aj t33<|aj t45<|aj t218<|aj Z21<|aj t275<|aj t292<|aj t296<|aj r296<|aj Z6<|Z7
theorem ints_set(l:List Int)(i:Nat)(x:Int):(ints l).set i (.int .i64 x)=ints (l.set i x):=by
 have a: ∀l:List Int,ints l=l.map fun x=>Value.int .i64 x:=fun l=>by
  unfold ints;rw [Xg,XE,Xg];rfl
 rw [a,a,List.map_set]
theorem reach_ok{h0:Hp}(Z:h0.t.Sized h0.n){br d G c N v arc far:Nat}{p U V:Value}{F:List Nat}{K:Nat->Option Int}{O:List Nat}{W:List (Value×Value×Nat)}{f:Int->Option Value}{j:List Int}
 (R:Row h0 br [p,U,.slice (some ⟨d,0,none⟩) N N,V,.map (some G)] 1) (H:bM h0 F p N K) (hN:N<=1000) (a:h0.get G=some (.map W c)) (MI:c7 W c f) (CF:ClF O f) (t:Row h0 d (ints j) 1) (D:j.length=N) (I:v<N)
 (Q:d∉F) (d2:br∉F) (d3:br≠d):
 Ret zM 213 [ptrTo br,.int .i64 v,.int .i64 arc,.int .i64 far] h0 fun _ h'=>Mo (fun c=>c∈F\/c=d) h0 h'/\ ∃F' m,bM h' F' p N (iN O K v far)/\(∀b∈F',b∈F\/h0.n<=b)/\Row h' d (ints m) 1/\m.length=N/\((iN O K v far=K/\m=j)\/(v∉O/\iN O K v far=cE K v (some (far:Int))/\m=j.set v arc)):=by
 have S:=Si Z
 have ad:=t.lt Z
 have J:=R.load1 (o:=0) rfl
 have E:=R.load1 (o:=4) rfl
 have l2:=R.load1 (o:=2) rfl
 have pp: ∃b,p=ptrTo b:=by obtain⟨b,_,_,e,_⟩:=H.ex;exact⟨b,e⟩
 obtain⟨bp,rfl⟩:=pp
 refine ab (n:=59) (rs:=[]) rfl Tryz.e213 rfl rfl rfl (lbt rfl) ?_
 simp only [BS,LB,Nat.reduceLT,Nat.reduceEqDiff,Ft,J]
 refine am (AB S.ok H) ?_
 intro h g;replace S:=S.call g;clear g
 replace a:h.get G=some (.map W c):=S.gr.at a
 have T:=H.gr S.gr
 have y:=jR (x:=(v:Int)) Tryz.t218.1 Tryz.t3.1 (z:=.int .i64 0) (by kernel_rfl) a MI
 rw [CF v]at y
 replace J:=S.old J (fun h=>h)
 replace E:=S.old E (fun h=>h)
 replace l2:=S.old l2 (fun h=>h)
 replace t:Row h d (ints j) 1:=t.gr S.gr
 have R1:=R.gr S.gr
 have u:=S.gr
 by_cases q:v∈O
 . rw [if_pos q,XD]at y
   simp only [BS,LB,Nat.reduceLT,Nat.reduceEqDiff,Int.reduceLT,Ft,E,y]
   exact⟨u.fr,F,j,by unfold iN;rw [if_pos q];exact T,fun b l=>.inl l,t,D,.inl ⟨by unfold iN;rw [if_pos q],rfl⟩⟩
 . rw [if_neg q,XC]at y
   have af:=t.lt u.ok
   cases L:K v with
   | none=>
     have w:iN O K v far=cE K v (some (far:Int)):=by unfold iN;rw [if_neg q,L]
     simp only [BS,LB,Nat.reduceLT,Nat.reduceEqDiff,Int.reduceLT,Ft,J,E,y,XC,XF]
     refine step_ret (pH u.ok T I hN L) ?_
     rintro r A ⟨s,F',X,M⟩
     have B:Row A d (ints j) 1:=s.has (o:=.row _ 1) t Q
     have Y:Row A br [ptrTo bp,U,.slice (some ⟨d,0,none⟩) N N,V,.map (some G)] 1:=s.has (o:=.row _ 1) R1 d2
     have C:=Y.load1 (o:=2) rfl
     have S:=St.init1 s.ok (o:=.row _ 1) B
     simp only [BS,LB,Nat.reduceLT,Nat.reduceEqDiff,Nat.reduceAdd,Ft,C,I]
     refine az (aC S (i:=0) rfl Tryz.t3.2.2.1 aY (by rw [cC,D];exact I) ono) ?_
     clear S;rintro h3 ⟨S,P⟩
     simp only [LC]at S
     rw [ints_set]at S
     simp only [BS]
     refine⟨(u.fr.trans (s.mono (fun c a=>.inl a)) (fun c a=>.inl a):Mo (fun c=>c∈F\/c=d) h0 A).trans P (fun c a=>.inl (.inr a)),F',j.set v arc,by rw [w];exact X.mo P (fun b l e=>by subst e;rcases M b l with h|h;exact Q h;omega),fun b l=>(M b l).imp (fun h=>h) (fun h=>Xl u.n h),S.row m0,by rw [Xo];exact D,.inr ⟨q,w,rfl⟩⟩
   | some k=>
     by_cases hle:k<=(far:Int)
     . have w:iN O K v far=K:=by unfold iN;rw [if_neg q,L];simp only [];rw [if_pos hle]
       simp only [BS,LB,Nat.reduceLT,Nat.reduceEqDiff,Int.reduceLT,Ft,E,y,hle,XD]
       exact⟨u.fr,F,j,by rw [w];exact T,fun b l=>.inl l,t,D,.inl ⟨w,rfl⟩⟩
     . have w:iN O K v far=cE K v (some (far:Int)):=by unfold iN;rw [if_neg q,L];simp only [];rw [if_neg hle]
       simp only [BS,LB,Nat.reduceLT,Nat.reduceEqDiff,Int.reduceLT,Ft,J,E,y,hle,XD]
       refine step_ret (qP u.ok T hN L (by omega)) ?_
       rintro r A ⟨s,X⟩
       have B:Row A d (ints j) 1:=s.has (o:=.row _ 1) t Q
       have Y:Row A br [ptrTo bp,U,.slice (some ⟨d,0,none⟩) N N,V,.map (some G)] 1:=s.has (o:=.row _ 1) R1 d2
       have C:=Y.load1 (o:=2) rfl
       have S:=St.init1 s.ok (o:=.row _ 1) B
       simp only [BS,LB,Nat.reduceLT,Nat.reduceEqDiff,Nat.reduceAdd,Ft,C,I]
       refine az (aC S (i:=0) rfl Tryz.t3.2.2.1 aY (by rw [cC,D];exact I) ono) ?_
       clear S;rintro h3 ⟨S,P⟩
       simp only [LC]at S
       rw [ints_set]at S
       simp only [BS]
       refine⟨(u.fr.trans (s.mono (fun c a=>.inl a)) (fun c a=>.inl a):Mo (fun c=>c∈F\/c=d) h0 A).trans P (fun c a=>.inl (.inr a)),F,j.set v arc,by rw [w];exact X.mo P (fun b l e=>by subst e;exact Q l),fun b l=>.inl l,S.row m0,by rw [Xo];exact D,.inr ⟨q,w,rfl⟩⟩
end Go.Ab
end

/- Nets, cells, flags: what the functions do (part 5). -/
import Derived.Test.YtdicllcgofpggaaGreatDoorNetD
open Go.Ab.Tryz
open Go.Ab.Tryz renaming abEnv->zB,e3E->XS,e2E->XX,e23E->Yd,e15->Yf
open List renaming flatMap_cons->zM,range->zO,flatMap_nil->Xa,length_append->Xb,take_of_length_le->Xc,take_succ_eq_append_getElem->Xe,getD_eq_getElem?_getD->Xh,map_congr_left->Xj,getElem_mem->Xl,drop_zero->Xn,append_assoc->Xp,getElem?_append_right->Xq,set_cons_zero->Xr,length_map->Xs,flatMap_append->Xt,length_take->Xu,take->Xv,drop->Xw,map_append->Xx,mem_append_right->Xy,drop_drop->XB,getElem?_eq_getElem->XC,take_succ_cons->XD,set_append_right->XG,mem_of_getElem?->XH,map_cons->XI,range_succ->XJ,mem_singleton->XK,replicate->XL,take_length->XM,getElem_map->XN,getElem?_eq_none->XO,map_map->XQ,take_zero->XR,take_take->XT,drop_eq_getElem_cons->XW,append_nil->X3,drop_take->X7,getElem?_range->Ya,range'->Ye
open Nat renaming zero_le->Xd,mul_one->Xf,zero_add->Xi,zero_mul->Xk,one_mul->Xm,lt_of_succ_le->Xo,le_refl->XA,lt_of_lt_of_le->XE,le_trans->XP,lt_succ_self->XY,le_mul_of_pos_right->X2,mul_add->X4,mul_le_mul->X5,ble_eq_true_of_le->X6,mul_le_mul_right->X8,add_assoc->X9,beq_refl->Yb,mul_comm->Yc
open Bool renaming and_true->Xg
open Int renaming toNat_natCast->Xz,cast_ofNat_Int->XF,tmod_eq_emod_of_nonneg->XV,eq_ofNat_of_zero_le->XZ
open Function renaming comp->XU
set_option maxHeartbeats 4000000
set_option linter.defProp false
set_option linter.unusedVariables false
set_option linter.unusedSimpArgs false
section
namespace Go.Ab
open Go.Proofs
set_option maxRecDepth 10000
def Tryz.F0w:=aj t1<|aj t2<|aj t3<|aj t4<|aj t5<|aj t6<|aj Z0<|aj t23<|t143
def Tryz.F1k:=aj t1<|aj t2<|aj t3<|aj t4<|aj t23<|t143
def Tryz.F0x:=aj t1<|aj t2<|aj t3<|aj t4<|aj t5<|aj t6<|aj Z0<|aj t23<|aj t39<|t144
def Tryz.F1l:=aj t1<|aj t2<|aj t3<|aj t4<|aj t23<|aj t38<|aj t39<|t144
def Tryz.FL:=aj t1<|aj t2<|aj t3<|aj t4<|aj t5<|aj t23<|aj t38<|aj t39<|aj t72<|aj Z9<|aj t144<|t146
def iX(N:Nat)(l:List Int):Prop:=l.length=N/\ ∀x∈l,0<=x/\x<=72057594037927936
theorem mk11_ok{a:Hp}(b:a.t.Sized a.n){x:Int}(e:0<=x/\x<=72057594037927936):bG zB 76 [.int .i64 x] a (.bool false):=by
 have S:=Si b
 have c: ¬x<0:=by omega
 have d: ¬72057594037927936<x:=by omega
 refine ab (n:=9) (rs:=[.tmp 2]) rfl Tryz.e76 rfl rfl rfl (lbt rfl) ?_
 simp only [BS,LB,ae,Nat.reduceLT,Nat.reduceEqDiff,c,d]
 exact S.gr
theorem mkIdx_ok{a:Hp}(e:a.t.Sized a.n){v:Value}{l:List Int}(f:ay a 1 (encI .i64) v l)(m:l.length<=1000000)(j: ∀x∈l,0<=x/\x<=72057594037927936):bG zB 143 [v,.func (.func 76) #[] #[]] a (.int .i64 (-1)):=by
 have S:=Si e
 refine ab (n:=19) (rs:=[.tmp 4]) rfl Tryz.e143 rfl rfl rfl (lbt rfl) ?_
 simp only [BS,LB,Nat.reduceLT,Nat.reduceEqDiff,F0w,f.lenq]
 refine az (fun(i:Nat) b h=>i<=l.length/\Gr a h/\b 0=v/\b 1=.func (.func 76) #[] #[]/\b 7=.int .i64 l.length/\b 8=.int .i64 i) (fun i=>l.length-i) ?_ 0 _ _ ?_
 . clear S
   intro i k b h ⟨hi,S,r0,r1,r7,r8⟩
   by_cases hlt:i<l.length
   . obtain⟨q,o,c,d⟩:=(f.gr S).ix (kd:=.i64) (aH .i64) hlt
     have w:am .i64 ((i:Int)+1)=((i+1:Nat):Int):=by rw [wrap64]<;>omega
     simp only [BS,LB,Nat.reduceLT,Nat.reduceEqDiff,F0w,r0,r1,r7,r8,an,hlt,c,d,encI]
     refine al (mk11_ok S.ok (j _ (Xl hlt))) ?_
     intro p g
     simp only [BS,LB,Nat.reduceLT,Nat.reduceEqDiff,r8,w]
     exact k (i+1) _ _ (by omega) ⟨by omega,S.trans g,by simp [aa,r0],by simp [aa,r1],by simp [aa,r7],by simp [aa]⟩
   . simp only [BS,LB,ae,Nat.reduceLT,Nat.reduceEqDiff,r7,r8,an,hlt]
     exact S
 . exact⟨Xd _,Gr.refl e,by simp [aa,aG],by simp [aa,aG,bK],by simp [aa],by simp [aa]⟩
theorem mkCf_ok{a:Hp}(b:a.t.Sized a.n){v:Value}{l:List Int}(c:ay a 1 (encI .i64) v l)(d:l.length<=1000000)(e: ∀x∈l,0<=x/\x<=72057594037927936):bG zB 75 [v,.func (.func 76) #[] #[]] a (.bool false):=by
 have S:=Si b
 refine ab (n:=9) (rs:=[.tmp 4]) rfl Tryz.e75 rfl rfl rfl (lbt rfl) ?_
 simp only [BS,LB,Nat.reduceLT,Nat.reduceEqDiff]
 refine al (mkIdx_ok S.ok c d e) ?_;intro h g;replace S:=S.call g;clear g
 simp only [BS,LB,ae,Nat.reduceLT,Nat.reduceEqDiff,Int.reduceLE]
 exact S.gr
theorem mk1_ok{a:Hp}(f:a.t.Sized a.n){b N:Nat}{v:Value}{l:List Int}(i:a.load b 0 1=some [.int .i64 N])(c:ay a 1 (encI .i64) v l)(d:iX N l)(j:N<=1000000):bG zB 74 [v,ptrTo b] a (.bool false):=by
 have S:=Si f
 have e:=d.1
 subst e
 refine ab (n:=12) (rs:=[.tmp 3]) rfl Tryz.e74 rfl rfl rfl (lbt rfl) ?_
 simp only [BS,LB,Nat.reduceLT,Nat.reduceEqDiff,F1k,c.lenq,i]
 refine al (mkCf_ok S.ok c j d.2) ?_;intro h g;replace S:=S.call g;clear g
 simp only [BS,LB,ae,Nat.reduceLT,Nat.reduceEqDiff]
 exact S.gr
theorem mkIdxR_ok{a:Hp}(f:a.t.Sized a.n){b N m n:Nat}{v:Value}{R:Nat->List Int}(l:a.load b 0 1=some [.int .i64 N])(j:eS a m v n R)(t:n<=1000000)(p: ∀i,i<n->iX N (R i))(r:N<=1000000):bG zB 144 [v,.func (.func 74) #[] #[ptrTo b]] a (.int .i64 (-1)):=by
 have S:=Si f
 refine ab (n:=19) (rs:=[.tmp 4]) rfl Tryz.e144 rfl rfl rfl (lbt rfl) ?_
 simp only [BS,LB,Nat.reduceLT,Nat.reduceEqDiff,F0x,j.lenq]
 refine az (fun(i:Nat) c h=>i<=n/\Gr a h/\c 0=v/\c 1=.func (.func 74) #[] #[ptrTo b]/\c 7=.int .i64 n/\c 8=.int .i64 i) (fun i=>n-i) ?_ 0 _ _ ?_
 . clear S
   intro i s c h ⟨hi,S,r0,r1,r7,r8⟩
   by_cases hlt:i<n
   . obtain⟨x,⟨q,o,d,e⟩,k,_⟩:=(j.gr S).row hlt
     have u:=k.fl
     have w:am .i64 ((i:Int)+1)=((i+1:Nat):Int):=by rw [wrap64]<;>omega
     simp only [BS,LB,Nat.reduceLT,Nat.reduceEqDiff,F0x,r0,r1,r7,r8,an,hlt,d,e]
     refine al (mk1_ok S.ok (S.load l) k (p i hlt) r) ?_
     intro y g
     simp only [BS,LB,Nat.reduceLT,Nat.reduceEqDiff,r8,w]
     exact s (i+1) _ _ (by omega) ⟨by omega,S.trans g,by simp [aa,r0],by simp [aa,r1,ac],by simp [aa,r7],by simp [aa]⟩
   . simp only [BS,LB,ae,Nat.reduceLT,Nat.reduceEqDiff,r7,r8,an,hlt]
     exact S
 . exact⟨Xd _,Gr.refl f,by simp [aa,aG],by simp [aa,aG,bK,ac],by simp [aa],by simp [aa]⟩
theorem mkCfR_ok{a:Hp}(c:a.t.Sized a.n){b N m n:Nat}{v:Value}{R:Nat->List Int}(d:a.load b 0 1=some [.int .i64 N])(e:eS a m v n R)(f:n<=1000000)(j: ∀i,i<n->iX N (R i))(k:N<=1000000):bG zB 78 [v,.func (.func 74) #[] #[ptrTo b]] a (.bool false):=by
 have S:=Si c
 refine ab (n:=9) (rs:=[.tmp 4]) rfl Tryz.e78 rfl rfl rfl (lbt rfl) ?_
 simp only [BS,LB,Nat.reduceLT,Nat.reduceEqDiff]
 refine al (mkIdxR_ok S.ok d e f j k) ?_;intro h g;replace S:=S.call g;clear g
 simp only [BS,LB,ae,Nat.reduceLT,Nat.reduceEqDiff,Int.reduceLE]
 exact S.gr
theorem mk2_ok{a:Hp}(o:a.t.Sized a.n){b d e N m n:Nat}{v f:Value}{l:List Int}{R:Nat->List Int}(p:a.load d 0 1=some [f])(q:a.load e 0 1=some [.func (.func 74) #[] #[ptrTo b]])(j:ay a 1 (encI .i64) f l)(r:a.load b 0 1=some [.int .i64 N])(k:eS a m v n R)(s:n<=1000000)(c:l.length=n)(t: ∀i,i<n->iX N (R i))(u:N<=1000000):bG zB 77 [v,ptrTo d,ptrTo e] a (.bool false):=by
 have S:=Si o
 have w:=j.fl
 subst c
 refine ab (n:=15) (rs:=[.tmp 4]) rfl Tryz.e77 rfl rfl rfl (lbt rfl) ?_
 simp only [BS,LB,Nat.reduceLT,Nat.reduceEqDiff,F1l,k.lenq,j.lenq,p,q]
 refine al (mkCfR_ok S.ok r k s t u) ?_;intro h g;replace S:=S.call g;clear g
 simp only [BS,LB,ae,Nat.reduceLT,Nat.reduceEqDiff]
 exact S.gr
theorem make_ok{k:Hp}(ok:k.t.Sized k.n){N mT mF:Nat}{O P T:Value}{l:List Int}{R Q:Nat->List Int}(t:ay k 1 (encI .i64) O l)(U:eS k mT P l.length R)(V:eS k mF T l.length Q)(n1:1<=N)(hN:N<=100)(W:gQ N l)(X: ∀i,i<l.length->iX N (R i))(Y: ∀i,i<l.length->iX N (Q i)):
 Ret zB 24 [.int .i64 N,O,P,T] k fun r Z=>Gr k Z/\TabAt Z k.n r N l R Q:=by
 have S:=Si ok
 have ad:=W.1
 have m:l.length<1000:=by omega
 have c1: ¬(N:Int)<1:=by omega
 have cm:decide (gQ N l)=true:=decide_eq_true W
 have fM:=t.fl
 obtain⟨ma,mn,mc,rfl⟩:=t.form
 refine ab (n:=40) (rs:=[.tmp 8]) rfl Tryz.e24 rfl rfl rfl (lbt rfl) ?_
 simp only [BS,Nat.reduceLT]
 refine ag (bU (by intro x e;cases e)) S ?_;clear S;intro h d S af;simp only [ah]at S
 simp only [BS,Nat.reduceLT,Nat.reduceEqDiff,if_false]
 refine ag (bU (by intro x e;cases e)) S ?_;clear S;intro h f S ai;simp only [ah]at S
 simp only [BS,LB,Nat.reduceLT,Nat.reduceEqDiff,FL]
 refine ag av S ?_;clear S;intro h B S ak
 simp only [BS,LB,Nat.reduceLT,Nat.reduceEqDiff]
 refine aw (ar S (i:=0) rfl ?_ ?_ ?_ ono) ?_
 . exact(by simp only [FL])
 . exact(by exact ic)
 . exact Xo (lbt rfl)
 clear S;rintro h ⟨S,mo⟩;clear mo;simp only [LC,ah,lay,Xv,Xw,Nat.reduceAdd]at S
 have p:=S.ld (b:=d) (o:=0) m2 rfl
 have s:=S.ld (b:=f) (o:=0) m1 rfl
 have z:=S.ld (b:=B) (o:=0) m0 rfl
 simp only [BS,LB,Nat.reduceLT,Nat.reduceEqDiff,FL,p,s,c1]
 refine al (may_ok S.ok (t.gr S.gr) (by omega)) ?_;intro h g;replace S:=S.call g;clear g
 rw [cm]
 simp only [BS,LB,Nat.reduceLT,Nat.reduceEqDiff]
 have p:=S.ld (b:=d) (o:=0) m2 rfl
 have s:=S.ld (b:=f) (o:=0) m1 rfl
 have z:=S.ld (b:=B) (o:=0) m0 rfl
 refine al (mk2_ok S.ok s z (t.gr S.gr) p (U.gr S.gr) (by omega) rfl X (by omega)) ?_;intro h g;replace S:=S.call g;clear g
 simp only [BS,LB,Nat.reduceLT,Nat.reduceEqDiff]
 have p:=S.ld (b:=d) (o:=0) m2 rfl
 have s:=S.ld (b:=f) (o:=0) m1 rfl
 have z:=S.ld (b:=B) (o:=0) m0 rfl
 refine al (mk2_ok S.ok s z (t.gr S.gr) p (V.gr S.gr) (by omega) rfl Y (by omega)) ?_;intro h g;replace S:=S.call g;clear g
 have p:=S.ld (b:=d) (o:=0) m2 rfl
 have s:=S.ld (b:=f) (o:=0) m1 rfl
 simp only [BS,LB,Nat.reduceLT,Nat.reduceEqDiff]
 refine au (ax rfl) (q:=256) (ps:=[(0,6),(0,4),(0,2)]) (by kernel_rfl) ?_
 simp only [BS,LB,cls,Nat.reduceLT,Nat.reduceEqDiff,Nat.reduceAdd,Nat.reducePow,Nat.reduceDiv,Nat.reduceMod,Nat.reduceLeDiff,FL,p,s]
 refine ce (g9 S.ok (aH .i64) (t.gr S.gr) (by omega)) ?_
 rintro v h ⟨g,a,nM⟩
 have e41:leaves _ _ d=true:=aP g ((S.row (b:=d) m2).lt S.ok)
 have e51:leaves _ _ f=true:=aP g ((S.row (b:=f) m1).lt S.ok)
 have k1:=S.fr.n
 have C:=fun c (j:c∈keys _ _)=>S.key_lt j
 replace S:=S.call g;clear g
 obtain⟨va,vn,vc,rfl⟩:=a.form
 simp only [BS,LB,cls,Nat.reduceLT,Nat.reduceEqDiff,Nat.reduceAdd,Nat.reducePow,Nat.reduceDiv,Nat.reduceMod,Nat.reduceLeDiff]
 refine ce (qy S.ok (U.gr S.gr) m (fun i D=>by have:=(X i D).1;omega)) ?_
 rintro v h ⟨g,A⟩
 have e42:leaves _ _ d=true:=aP g ((S.row (b:=d) m2).lt S.ok)
 have e52:leaves _ _ f=true:=aP g ((S.row (b:=f) m1).lt S.ok)
 have k2:=S.fr.n
 have E:=fun c (j:c∈keys _ _)=>S.key_lt j
 replace S:=S.call g;replace a:=a.gr g;clear g
 obtain⟨ta,tn,tc,rfl⟩:=A.form
 simp only [BS,LB,cls,Nat.reduceLT,Nat.reduceEqDiff,Nat.reduceAdd,Nat.reducePow,Nat.reduceDiv,Nat.reduceMod,Nat.reduceLeDiff]
 refine ce (qy S.ok (V.gr S.gr) m (fun i D=>by have:=(Y i D).1;omega)) ?_
 rintro v h ⟨g,L2⟩
 have e43:leaves _ _ d=true:=aP g ((S.row (b:=d) m2).lt S.ok)
 have e53:leaves _ _ f=true:=aP g ((S.row (b:=f) m1).lt S.ok)
 have k3:=S.fr.n
 have F:=fun c (j:c∈keys _ _)=>S.key_lt j
 replace S:=S.call g;replace a:=a.gr g;replace A:=A.gr g;clear g
 obtain⟨fa,fn,fc,rfl⟩:=L2.form
 simp only [BS,LB,cls,Nat.reduceLT,Nat.reduceEqDiff,Nat.reduceAdd,Nat.reducePow,Nat.reduceDiv,Nat.reduceMod,Nat.reduceLeDiff,FL]
 have u:=S
 replace S:=S.base
 have q4:=(u.row (b:=d) m2).lt u.ok
 have q5:=(u.row (b:=f) m1).lt u.ok
 refine ec (bU (by intro x e;cases e)) S ?_;clear S;intro h b S aL G;simp only [ah]at S
 have H:d≠b:=by omega
 have I:f≠b:=by omega
 simp only [BS,LB,cls,ae,Nat.reduceLT,Nat.reduceEqDiff,Nat.reduceAdd,Nat.reducePow,Nat.reduceDiv,Nat.reduceMod,Nat.reduceLeDiff]
 refine⟨by simp only [aX,bo,aS,bD,aV,ne_eq,not_false_eq_true,bC,bR,aZ,aW,bZ,cu,aT,Nat.reduceLT,Nat.reduceEqDiff,reduceIte,Xg,ac,aD e41,aD e42,aD e43,aD e51,aD e52,aD e53,ja H,ja I,<-G],?_⟩
 have J:=S.fr
 have w:=a.mo J (fun c j y=>by have:=nM c j;have:=C c y;omega)
 have K:=A.mo J (fun c y=>.inl (E c y))
 have L:=L2.mo J (fun c y=>.inl (F c y))
 have M:=S.row (b:=b) m0
 replace S:=u.rebase S
 exact⟨S.gr,⟨b,_,_,_,rfl,M,w,K.ll.low k2,L.ll.low k3,(S.own _ m0).1.elim (fun h=>h) (fun h=>h.elim),fun c j=>XP k1 (nM c j)⟩⟩
def Tryz.F0b:=aj t1<|aj t2<|aj t3<|aj t4<|aj t23<|aj t38<|aj t39<|aj t72<|Z9
theorem vJ{a:Hp}(x:a.t.Sized a.n){m N:Nat}{p:Value}{l:List Int}{R Q:Nat->List Int}(t:TabAt a m p N l R Q)(s:l.length<1000)(y: ∀i,i<l.length->(R i).length<1000000)(z: ∀i,i<l.length->(Q i).length<1000000):
 Ret zB 23 [p] a fun r c=>Gr a c/\ ∃f j k,r=.tuple #[f,j]/\LLD c a.n k f l.length R/\LLD c k c.n j l.length Q/\a.n<=k/\k<=c.n:=by
 have S:=Si x
 obtain⟨b,G,f,j,rfl,d,_,A,B,_⟩:=t.ex
 have C:=d.load1 (o:=2) rfl
 refine ab (n:=16) (rs:=[.tmp 2,.tmp 3]) rfl Tryz.e23 rfl rfl rfl (lbt rfl) ?_
 simp only [BS,LB,Nat.reduceLT,Nat.reduceEqDiff,F0b]
 refine au (ax rfl) (q:=0) (ps:=[(4,8)]) (by kernel_rfl) ?_
 simp only [BS,LB,cls,Nat.reduceLT,Nat.reduceEqDiff,Nat.reduceAdd,Nat.reducePow,Nat.reduceDiv,Nat.reduceMod,Nat.reduceLeDiff,F0b,C]
 refine ce (qy S.ok (A.gr S.gr) s y) ?_
 rintro v h ⟨g,e⟩
 have H:=S.fr.n
 have u:leaves _ _ b=true:=aP g (d.lt S.ok)
 replace S:=S.call g;replace d:=d.gr g;clear g
 obtain⟨I,J,K,rfl⟩:=e.form
 have D:=d.load1 (o:=3) rfl
 simp only [BS,LB,cls,Nat.reduceLT,Nat.reduceEqDiff,Nat.reduceAdd,Nat.reducePow,Nat.reduceDiv,Nat.reduceMod,Nat.reduceLeDiff,F0b,D]
 refine ce (qy S.ok (B.gr S.gr) s z) ?_
 rintro v h ⟨g,w⟩
 have E:=S.fr.n
 have F:=S.ok
 replace S:=S.call g;replace e:=e.gr g
 obtain⟨L,M,O,rfl⟩:=w.form
 simp only [BS,LB,cls,ae,Nat.reduceLT,Nat.reduceEqDiff,Nat.reduceAdd,Nat.reducePow,Nat.reduceDiv,Nat.reduceMod,Nat.reduceLeDiff]
 refine⟨by simp only [aX,bo,aS,bD,aV,ne_eq,not_false_eq_true,bC,bR,aZ,aW,bZ,cu,aT,Nat.reduceLT,Nat.reduceEqDiff,reduceIte,Xg,ac,aD u,aQ u],?_⟩
 exact⟨S.gr,_,_,_,rfl,e,w,E,g.n⟩
def Tryz.F1m:=aj t1<|aj t2<|aj t3<|aj t4<|aj t5<|aj t9<|aj t22<|aj t74<|Z8
def byB(n:Nat)(B:Nat->Nat):Bs:=(zO n).map fun j=>UInt8.ofNat (B j)
theorem yQ{n:Nat}{B:Nat->Nat}(h: ∀j,B j<256):gc n B=aY (byB n B):=by
 unfold gc aY byB
 rw [XQ]
 refine Xj fun j _=>?_
 simp [Nat.mod_eq_of_lt (h j)]
def cI(l:List (List Int))(i:Nat):List Int:=l.getD i []
def TabM(h:Hp)(p:Value)(N:Nat)(T:Tab):Prop:=(∃m,TabAt h m p N T.l (cI T.to) (cI T.fr))/\TabL N T
theorem TabM.gr{h a:Hp}{p:Value}{N:Nat}{T:Tab}(t:TabM h p N T)(g:Gr h a):TabM a p N T:=⟨by obtain⟨m,x⟩:=t.1;exact⟨m,x.gr g⟩,t.2⟩
def kQ(h:Hp)(e f:Value)(c:Gra)(m:List Int)(F:Bs):Prop:= ∃k d g b a B,iA h k e m/\m.length=c.nodes/\f=ptrTo d/\gK m+1=((b:Nat):Int)/\ij h d g b c.arcs.length a B/\F=byB (b*a) B/\(∀x∈m,0<=x/\x<256)/\ ¬q7 m/\a=(c.arcs.length+7)/8/\Tz c.arcs.length a B
theorem kQ.gr{h n:Hp}{o p:Value}{q:Gra}{m:List Int}{F:Bs}(c:kQ h o p q m F)(g:Gr h n):kQ n o p q m F:=by
 obtain⟨k,r,s,j,l,B,a,b,c,d,e,f,i⟩:=c
 exact⟨k,r,s,j,l,B,a.gr g,b,c,d,e.gr g,f,i⟩
def TabX(h:Hp)(p:Value)(N:Nat):Option Tab->Prop
 |none=>p=.pointer none
 |some T=>TabM h p N T
def CelX(h:Hp)(a b:Value)(c:Gra):Option (List Int×Bs)->Prop
 |none=>a=.pointer none/\b=.pointer none
 |some (m,F)=>kQ h a b c m F
theorem TabX.gr{h a:Hp}{p:Value}{N:Nat}{T:Option Tab}(t:TabX h p N T)(g:Gr h a):TabX a p N T:=by
 cases T with
 |none=>exact t
 |some T=>exact TabM.gr t g
theorem CelX.gr{h a:Hp}{b d:Value}{e:Gra}{C:Option (List Int×Bs)}(t:CelX h b d e C)(g:Gr h a):CelX a b d e C:=by
 cases C with
 |none=>exact t
 |some c=>exact kQ.gr t g
def ImC(h:Hp)(a b c d:Value)(I:Img):Prop:=(∃e,bW h e a I.g)/\fo I.g/\TabX h b I.g.nodes I.T/\CelX h c d I.g I.C
theorem ImC.gr{h a:Hp}{b c d e:Value}{I:Img}(i:ImC h b c d e I)(g:Gr h a):ImC a b c d e I:=⟨by obtain⟨f,n⟩:=i.1;exact⟨f,n.gr g⟩,i.2.1,i.2.2.1.gr g,i.2.2.2.gr g⟩
def kC(h:Hp)(b:Nat)(I:Img):Prop:= ∃a c d e,Row h b [a,c,d,e] 1/\ImC h a c d e I
theorem kC.gr{h a:Hp}{b:Nat}{I:Img}(i:kC h b I)(g:Gr h a):kC a b I:=by
 obtain⟨d,e,f,j,r,c⟩:=i;exact⟨d,e,f,j,r.gr g,c.gr g⟩
theorem TabM.ptr{h:Hp}{p:Value}{N:Nat}{T:Tab}(t:TabM h p N T): ∃b,p=ptrTo b:=by
 obtain⟨⟨m,t⟩,_⟩:=t;obtain⟨b,_,_,_,e,_⟩:=t.ex;exact⟨b,e⟩
theorem kQ.ptr{h:Hp}{a d:Value}{i:Gra}{m:List Int}{F:Bs}(c:kQ h a d i m F): ∃b c,a=ptrTo b/\d=ptrTo c:=by
 obtain⟨k,j,n,f,g,B,⟨b,_,e,_⟩,_,l,_⟩:=c;exact⟨b,j,e,l⟩
theorem bW.ptr{h:Hp}{a:Nat}{p:Value}{c:Gra}(n:bW h a p c): ∃b,p=ptrTo b:=by
 obtain⟨b,_,_,_,_,_,e,_⟩:=n.ex;exact⟨b,e⟩
theorem zD{d:Hp}(i:d.t.Sized d.n){h f a e c:Nat}{B:Nat->Nat}(b:ij d h f a e c B):bG zB 35 [ptrTo h] d (sv (byB (a*c) B)):=by
 have S:=Si i
 have j:=b.r.load1 (o:=3) rfl
 have g:(byB (a*c) B).length=a*c:=by simp [byB]
 have k:BySl d (.slice (some ⟨f,0,none⟩) (a*c) (a*c)) (byB (a*c) B):=.inr ⟨f,0,none,a*c,by rw [g],by rw [g];exact XA _,by
  rw [g,byF,<-yQ b.lt,b.b.load (by rw [mN];omega),Xn,Xf,Xc (by rw [mN];omega)]⟩
 refine ab (n:=10) (rs:=[.tmp 2]) rfl Tryz.e35 rfl rfl rfl (lbt rfl) ?_
 simp only [BS,LB,ck,aF,ae,Nat.reduceLT,Nat.reduceEqDiff,F1m,j,A3 k]
 exact S.gr
def Tryz.Fb:=aj t1<|aj t2<|aj t3<|aj t4<|aj t5<|aj t22<|aj t27<|aj Z1<|aj t38<|aj t39<|aj t67<|aj t72<|aj t73<|aj t74<|aj Z14<|aj Z9<|aj Z5<|aj t162<|aj Z3<|Z8
theorem fits_im{a:Hp}(i:a.t.Sized a.n){d e f:Value}{b:Gra}{j:Nat}{m:List Int}{F:Bs}(l:bW a j d b)(n:1<=b.nodes)(s:b.nodes<1000000)(c:kQ a e f b m F):bG zB 48 [d,e,f] a (.bool true):=by
 obtain⟨k,t,u,g,h,B,o,p,rfl,q,r,_⟩:=c
 have:=BU i l (.inr ⟨⟨k,o⟩,rfl⟩) r.bits n (by omega)
 simpa [p,q]using this
theorem qa{f:Hp}(H:f.t.Sized f.n){b:Nat}{I:Img}(i:kC f b I):bG zB 15 [ptrTo b] f (.bool true):=by
 have S:=Si H
 obtain⟨V,J,K,L,r,⟨W,x⟩,y,j,a⟩:=i
 obtain⟨X,rfl⟩:=x.ptr
 have M:=r.lt H
 have c:=r.load1 (o:=0) rfl
 have d:=r.load1 (o:=1) rfl
 have l:=r.load1 (o:=2) rfl
 have s:=r.load1 (o:=3) rfl
 have N:=y.n1
 have Y:=y.n2
 cases O:I.T with
 | none=>
   rw [O]at j
   have j:J=.pointer none:=j
   subst j
   cases z:I.C with
   | none=>
     rw [z]at a
     obtain⟨rfl,rfl⟩:=a
     refine ab (n:=72) (rs:=[.tmp 2]) rfl Yf rfl rfl rfl (lbt rfl) ?_
     simp only [BS,LB,Nat.reduceLT,Nat.reduceEqDiff,Fb,c]
     refine au (ax rfl) (q:=0) (ps:=[(10,14)]) (by kernel_rfl) ?_
     simp only [BS,LB,cls,Nat.reduceLT,Nat.reduceEqDiff,Nat.reduceAdd,Nat.reducePow,Nat.reduceDiv,Nat.reduceMod,Nat.reduceLeDiff,Fb,d,l,s]
     refine⟨by simp only [aX,bo,aS,bD,aV,ne_eq,not_false_eq_true,bC,bR,aZ,aW,bZ,cu,aT,Nat.reduceLT,Nat.reduceEqDiff,reduceIte,Xg,ac,cw];rfl,?_⟩
     refine au (ax rfl) (q:=0) (ps:=[]) (by kernel_rfl) ?_
     simp only [BS,LB,cls,ae,Nat.reduceLT,Nat.reduceEqDiff,Nat.reduceAdd,Nat.reducePow,Nat.reduceDiv,Nat.reduceMod,Nat.reduceLeDiff]
     exact S.gr
   | some E=>
     obtain⟨m,F⟩:=E
     rw [z]at a
     have a:kQ f K L I.g m F:=a
     obtain⟨R,U,rfl,rfl⟩:=a.ptr
     refine ab (n:=72) (rs:=[.tmp 2]) rfl Yf rfl rfl rfl (lbt rfl) ?_
     simp only [BS,LB,Nat.reduceLT,Nat.reduceEqDiff,Fb,c]
     refine au (ax rfl) (q:=0) (ps:=[(10,14)]) (by kernel_rfl) ?_
     simp only [BS,LB,cls,Nat.reduceLT,Nat.reduceEqDiff,Nat.reduceAdd,Nat.reducePow,Nat.reduceDiv,Nat.reduceMod,Nat.reduceLeDiff,Fb,d,l]
     refine⟨by simp only [aX,bo,aS,bD,aV,ne_eq,not_false_eq_true,bC,bR,aZ,aW,bZ,cu,aT,Nat.reduceLT,Nat.reduceEqDiff,reduceIte,Xg,ac,cw];rfl,?_⟩
     refine au (ax rfl) (q:=0) (ps:=[]) (by kernel_rfl) ?_
     simp only [BS,LB,cls,Nat.reduceLT,Nat.reduceEqDiff,Nat.reduceAdd,Nat.reducePow,Nat.reduceDiv,Nat.reduceMod,Nat.reduceLeDiff,Fb,c,l,s]
     refine eZ (fits_im S.ok x N (by omega) a) ?_
     intro h g
     have t:=aP g M
     replace S:=S.call g
     simp only [BS,LB,cls,ae,Nat.reduceLT,Nat.reduceEqDiff,Nat.reduceAdd,Nat.reducePow,Nat.reduceDiv,Nat.reduceMod,Nat.reduceLeDiff]
     exact S.gr
 | some T=>
   rw [O]at j
   have j:TabM f J I.g.nodes T:=j
   obtain⟨Z,rfl⟩:=j.ptr
   obtain⟨⟨mt,C⟩,P⟩:=j
   have t1:=P.l1
   have t2:=P.l2
   have Q:(0:Int)<(T.l.length:Int):=by omega
   have q: ∀{u w D:Hp},Gr f u->Gr u w->Gr w D->leaves f u b=true/\leaves u w b=true/\leaves w D b=true:=fun e k p=>by
    have:=e.n
    have:=k.n
    exact⟨aP e M,aP k (by omega),aP p (by omega)⟩
   cases z:I.C with
   | none=>
     rw [z]at a
     obtain⟨rfl,rfl⟩:=a
     refine ab (n:=72) (rs:=[.tmp 2]) rfl Yf rfl rfl rfl (lbt rfl) ?_
     simp only [BS,LB,Nat.reduceLT,Nat.reduceEqDiff,Fb,c]
     refine au (ax rfl) (q:=0) (ps:=[(10,14)]) (by kernel_rfl) ?_
     simp only [BS,LB,cls,Nat.reduceLT,Nat.reduceEqDiff,Nat.reduceAdd,Nat.reducePow,Nat.reduceDiv,Nat.reduceMod,Nat.reduceLeDiff,Fb,d]
     refine eZ (uF S.ok C) ?_
     intro u e
     replace S:=S.call e
     simp only [BS,LB,cls,Nat.reduceLT,Nat.reduceEqDiff,Nat.reduceAdd,Nat.reducePow,Nat.reduceDiv,Nat.reduceMod,Nat.reduceLeDiff,Fb,e.load c]
     refine eZ (cK S.ok (x.gr S.gr)) ?_
     intro w k
     replace S:=S.call k
     simp only [BS,LB,cls,Nat.reduceLT,Nat.reduceEqDiff,Nat.reduceAdd,Nat.reducePow,Nat.reduceDiv,Nat.reduceMod,Nat.reduceLeDiff,Fb,S.gr.load d]
     refine ce (qV S.ok (C.gr S.gr) (by omega)) ?_
     rintro v D ⟨p,G,_⟩
     obtain⟨t,A,B⟩:=q e k p
     replace S:=S.call p
     simp only [BS,LB,cls,Nat.reduceLT,Nat.reduceEqDiff,Nat.reduceAdd,Nat.reducePow,Nat.reduceDiv,Nat.reduceMod,Nat.reduceLeDiff,Fb,G.lenq,Q,S.gr.load c,S.gr.load d,S.gr.load l,S.gr.load s]
     refine⟨by simp only [aX,bo,aS,bD,aV,ne_eq,not_false_eq_true,bC,bR,aZ,aW,bZ,cu,aT,Nat.reduceLT,Nat.reduceEqDiff,reduceIte,Xg,ac,cw,aQ t,aD t,aQ A,aD A,aQ B,aD B],?_⟩
     refine au (ax rfl) (q:=0) (ps:=[]) (by kernel_rfl) ?_
     simp only [BS,LB,cls,ae,Nat.reduceLT,Nat.reduceEqDiff,Nat.reduceAdd,Nat.reducePow,Nat.reduceDiv,Nat.reduceMod,Nat.reduceLeDiff,S.gr.load c,S.gr.load d,S.gr.load l,S.gr.load s]
     exact S.gr
   | some E=>
     obtain⟨m,F⟩:=E
     rw [z]at a
     have a:kQ f K L I.g m F:=a
     obtain⟨R,U,rfl,rfl⟩:=a.ptr
     refine ab (n:=72) (rs:=[.tmp 2]) rfl Yf rfl rfl rfl (lbt rfl) ?_
     simp only [BS,LB,Nat.reduceLT,Nat.reduceEqDiff,Fb,c]
     refine au (ax rfl) (q:=0) (ps:=[(10,14)]) (by kernel_rfl) ?_
     simp only [BS,LB,cls,Nat.reduceLT,Nat.reduceEqDiff,Nat.reduceAdd,Nat.reducePow,Nat.reduceDiv,Nat.reduceMod,Nat.reduceLeDiff,Fb,d]
     refine eZ (uF S.ok C) ?_
     intro u e
     replace S:=S.call e
     simp only [BS,LB,cls,Nat.reduceLT,Nat.reduceEqDiff,Nat.reduceAdd,Nat.reducePow,Nat.reduceDiv,Nat.reduceMod,Nat.reduceLeDiff,Fb,e.load c]
     refine eZ (cK S.ok (x.gr S.gr)) ?_
     intro w k
     replace S:=S.call k
     simp only [BS,LB,cls,Nat.reduceLT,Nat.reduceEqDiff,Nat.reduceAdd,Nat.reducePow,Nat.reduceDiv,Nat.reduceMod,Nat.reduceLeDiff,Fb,S.gr.load d]
     refine ce (qV S.ok (C.gr S.gr) (by omega)) ?_
     rintro v D ⟨p,G,_⟩
     obtain⟨t,A,B⟩:=q e k p
     replace S:=S.call p
     simp only [BS,LB,cls,Nat.reduceLT,Nat.reduceEqDiff,Nat.reduceAdd,Nat.reducePow,Nat.reduceDiv,Nat.reduceMod,Nat.reduceLeDiff,Fb,G.lenq,Q,S.gr.load c,S.gr.load d,S.gr.load l,S.gr.load s]
     refine⟨by simp only [aX,bo,aS,bD,aV,ne_eq,not_false_eq_true,bC,bR,aZ,aW,bZ,cu,aT,Nat.reduceLT,Nat.reduceEqDiff,reduceIte,Xg,ac,cw,aQ t,aD t,aQ A,aD A,aQ B,aD B],?_⟩
     refine au (ax rfl) (q:=0) (ps:=[]) (by kernel_rfl) ?_
     simp only [BS,LB,cls,Nat.reduceLT,Nat.reduceEqDiff,Nat.reduceAdd,Nat.reducePow,Nat.reduceDiv,Nat.reduceMod,Nat.reduceLeDiff,Fb,S.gr.load c,S.gr.load d,S.gr.load l,S.gr.load s]
     have k1:=S.gr.n
     refine eZ (fits_im S.ok (x.gr S.gr) N (by omega) (a.gr S.gr)) ?_
     intro h g
     have e4:=aP g (show b<_ by omega)
     replace S:=S.call g
     simp only [BS,LB,cls,ae,Nat.reduceLT,Nat.reduceEqDiff,Nat.reduceAdd,Nat.reducePow,Nat.reduceDiv,Nat.reduceMod,Nat.reduceLeDiff]
     exact S.gr
def Tryz.Fq:=aj t1<|aj t2<|aj t3<|aj t4<|aj t5<|aj t6<|aj Z0<|aj Z2<|aj t9<|aj t10<|aj t11<|aj t12<|aj Z6<|aj Z10<|aj t22<|aj t23<|aj t27<|aj t35<|aj Z1<|aj t58<|aj t67<|aj t72<|aj t73<|aj t74<|aj Z14<|aj Z4<|aj t97<|aj Z9<|aj Z5<|aj t162<|aj Z3<|aj Z8<|aj Z13<|t180
theorem graphS_ok{C:Hp}(Y:C.t.Sized C.n){b:Nat}{I:Img}(i:kC C b I):Ret zB 89 [ptrTo b] C fun r Z=>Gr C Z/\r=sv (fj I.g):=by
 have S:=Si Y
 obtain⟨pn,pt,pc,pf,r,⟨nb,H⟩,l,_,_⟩:=i
 obtain⟨bn,rfl⟩:=H.ptr
 have l0:=r.load1 (o:=0) rfl
 obtain⟨d,_,_⟩:=I
 simp only []at H l
 have n2:=l.n2
 have Q:=l.many
 have lX:=l.lX
 have lY:=l.lY
 refine ab (n:=65) (rs:=[.tmp 2]) rfl Tryz.e89 rfl rfl rfl (lbt rfl) ?_
 simp only [BS,LB]
 refine step_ret (oK S) ?_
 rintro _ h ⟨t,rfl,S⟩
 simp only [BS,LB,Nat.reduceLT,Nat.reduceEqDiff,Fq,S.gr.load l0]
 have kb:=S.key_lt (b:=t) (by simp [keys])
 refine step_ret (netRaw_ok S.ok l (H.gr S.gr)) ?_
 rintro _ J ⟨g,K,L,E,rfl,B,hz,_⟩
 replace S:=S.call g
 have fx:=B.X.fl
 have fy:=B.Y.fl
 have fa:=B.A.fl
 have S0:=S
 replace S:=S.base
 have R: ∀{v:Hp},Mo (· ∈[t]) J v->cZ v K L E d:=fun f=>B.mo f (fun c hc e=>by simp only [XK]at e;have:=hz c hc;omega)
 simp only [BS,Fq,iP]
 refine ag av S ?_;clear S;intro h u S T
 simp only [BS,LB,Nat.reduceLT,Nat.reduceEqDiff]
 refine aw (S.store (i:=0) rfl Tryz.t37.2.1 (by intro x e;cases e) rfl (by simp only [ah,List.all_cons,List.all_nil,fx.2.1,fy.2.1,fa.2.1,Xg];rfl) (lbt rfl) ono) ?_
 clear S;rintro h ⟨S,_⟩
 simp only [LC,ah,lay,Xv,Xw,Nat.reduceAdd]at S
 have wn:=cC (k:=.u32) rfl (n:=d.nodes) (by simp only [pw];omega)
 have wa:=cC (k:=.u32) rfl (n:=d.arcs.length) (by simp only [pw];omega)
 simp only [BS,LB,ck,aF,cq,Nat.reduceLT,Nat.reduceEqDiff,Fq,B.A.lenq,wn,wa,S.ld (b:=u) (o:=0) m0 rfl,S.ld (b:=u) (o:=3) m0 rfl]
 refine ag (bj (by exact Tryz.t180.1) (by exact Tryz.e58E) (by decide) (by rfl)) S ?_;clear S;intro h U S y;simp only [LC,aU,bA,ah,Nat.reduceMul,Nat.reduceAdd,Xk,Xi,Xf,Xm]at S
 obtain⟨S,z,A⟩:=S.bsl (kd:=.u32) (xs:=[(d.nodes:Int),(d.arcs.length:Int)])
 simp only [BS,LB,Nat.reduceLT,Nat.reduceEqDiff]
 refine step_ret (rf S (i:=1) (j:=0) rfl rfl z A (by simp)) ?_
 clear S z A;rintro _ h ⟨m,S⟩
 simp only [LC,zM,Xa]at S
 rw [gD (by omega),gD (by omega)]at S;try rw [List.nil_append]at S
 simp only [BS,LB,Nat.reduceLT,Nat.reduceEqDiff,Fq,S.ld (b:=u) (o:=0) m0 rfl]
 have lz:(d.X.zip d.Y).length=d.nodes:=by rw [List.length_zip];omega
 have lk: ∀k,((d.X.zip d.Y).take k).length<=300:=fun k=>by rw [Xu];omega
 refine az (fun(k:Nat) p v=>k<=d.nodes/\ ∃m,St (· ∈keys [(t,Ob.row [.slice none 0 0] 1)] [(.slice none 0 0,1,aY [])]) J v [(u,.row [.int .i64 d.nodes,K,L,E] 1),(t,.row [m] 1)] [(m,1,aY (aR 4 d.nodes++aR 4 d.arcs.length++((d.X.zip d.Y).take k).flatMap xyB))]/\p 3=ptrTo t/\p 4=ptrTo u/\p 25=.int .i64 d.nodes/\p 26=.int .i64 k) (fun k=>d.nodes-k) ?_ 0 _ _ ⟨Xd _,m,by simpa using S,by simp [aa,ac],by simp [aa,ac],by simp [aa],by simp [aa]⟩
 clear S
 intro k F p v ⟨hk,m,S,r3,r4,r25,r26⟩
 have w:am .i64 ((k:Int)+1)=((k+1:Nat):Int):=by rw [wrap64]<;>omega
 have s:=R S.fr
 by_cases hlt:k<d.nodes
 . obtain⟨c1,o1,M,G⟩:=s.X.ix (kd:=.i64) (aH .i64) (i:=k) (by omega)
   obtain⟨c2,o2,i2,d2⟩:=s.Y.ix (kd:=.i64) (aH .i64) (i:=k) (by omega)
   have N:k<(d.X.zip d.Y).length:=by omega
   have D:(d.X.zip d.Y).take (k+1)=(d.X.zip d.Y).take k++[(d.X[k],d.Y[k])]:=by rw [Xe N,List.getElem_zip]
   have tb:(d.X.zip d.Y).take (k+1)=(d.X.zip d.Y).take k++[(d.X[k],d.Y[k])]:=D
   have bl:=lk k
   simp only [BS,LB,Nat.reduceLT,Nat.reduceEqDiff,r25,r26,an,hlt]
   refine au (ax rfl) (q:=2048) (ps:=[]) (by kernel_rfl) ?_
   simp only [BS,LB,cls,Nat.reduceLT,Nat.reduceEqDiff,Nat.reduceAdd,Nat.reducePow,Nat.reduceDiv,Nat.reduceMod,Nat.reduceLeDiff,Fq,r3,r4,M,i2,G,d2,encI,S.ld (b:=u) (o:=1) m0 rfl,S.ld (b:=u) (o:=2) m0 rfl]
   refine ec (bj (by exact Tryz.t23.1) (by exact XX) (by decide) (by rfl)) S ?_;clear S;intro h U S y V;simp only [LC,aU,bA,ah,Nat.reduceMul,Nat.reduceAdd,Xk,Xi,Xf,Xm]at S
   obtain⟨S,z,A⟩:=S.bsl (kd:=.i64) (xs:=[d.X[k],d.Y[k]])
   simp only [BS,LB,cls,Nat.reduceLT,Nat.reduceEqDiff,Nat.reduceAdd,Nat.reducePow,Nat.reduceDiv,Nat.reduceMod,Nat.reduceLeDiff]
   refine ce (xU S (i:=1) (j:=0) rfl rfl z A (by rw [Xb,Xb,aJ,aJ,dJ pN];simp;omega)) ?_
   clear S z A;rintro _ h ⟨m,S⟩
   simp only [LC,zM,Xa]at S
   rw [Xp,show((d.X.zip d.Y).take k).flatMap xyB++(aR 8 (u64 d.X[k])++aR 8 (u64 d.Y[k]))=((d.X.zip d.Y).take (k+1)).flatMap xyB by rw [D,Xt];simp [xyB,put8]]at S
   simp only [BS,LB,Nat.reduceLT,Nat.reduceEqDiff,Nat.reduceAdd,r26,w]
   exact F (k+1) _ _ (by omega) ⟨by omega,m,S,by simp [aa,r3],by simp [aa,r4],by simp [aa,r25],by simp [aa]⟩
 . have:k=d.nodes:=by omega
   subst this
   rw [Xc (by omega)]at S
   generalize W:aR 4 d.nodes++aR 4 d.arcs.length++(d.X.zip d.Y).flatMap xyB=P at S
   have lP:P.length<=5000:=by rw [<-W,Xb,Xb,aJ,aJ,dJ pN,lz];omega
   simp only [BS,LB,Nat.reduceLT,Nat.reduceEqDiff,Fq,r4,r25,r26,an,hlt,B.A.lenq,S.ld (b:=u) (o:=3) m0 rfl]
   refine az (fun(k:Nat) p v=>k<=d.arcs.length/\ ∃m,St (· ∈keys [(t,Ob.row [.slice none 0 0] 1)] [(.slice none 0 0,1,aY [])]) J v [(u,.row [.int .i64 d.nodes,K,L,E] 1),(t,.row [m] 1)] [(m,1,aY (P++(d.arcs.take k).flatMap ju))]/\p 3=ptrTo t/\p 44=E/\p 45=.int .i64 d.arcs.length/\p 46=.int .i64 k) (fun k=>d.arcs.length-k) ?_ 0 _ _ ⟨Xd _,m,by simpa using S,by simp [aa,r3],by simp [aa],by simp [aa],by simp [aa]⟩
   clear S s r3 r4 r25 r26 F w
   intro k F p v ⟨hk,m,S,r3,r44,r45,r46⟩
   have w:am .i64 ((k:Int)+1)=((k+1:Nat):Int):=by rw [wrap64]<;>omega
   have s:=R S.fr
   by_cases hlt:k<d.arcs.length
   . obtain⟨c1,o1,M,G⟩:=s.A.ix (kd:=.i64) eo hlt
     have ha:=l.arcs d.arcs[k] (Xl hlt)
     have D:d.arcs.take (k+1)=d.arcs.take k++[d.arcs[k]]:=Xe hlt
     have bl:(d.arcs.take k).length<=400:=by rw [Xu];omega
     generalize d.arcs[k]=a at G ha D
     have w1:=cC (k:=.u32) rfl (n:=a.s) (by simp only [pw];omega)
     have w2:=cC (k:=.u32) rfl (n:=a.t) (by simp only [pw];omega)
     have w3:=cC (k:=.u32) rfl (n:=a.w) (by simp only [pw];omega)
     simp only [BS,LB,Nat.reduceLT,Nat.reduceEqDiff,Fq,r44,r45,r46,an,hlt,M,G,cD]
     refine ag av S ?_;clear S;intro h O S X
     simp only [BS,LB,Nat.reduceLT,Nat.reduceEqDiff]
     refine aw (S.store (i:=0) rfl ?_ ?_ rfl rfl ?_ ono) ?_
     . exact(by exact Tryz.t90.2.1)
     . exact(by intro x e;cases e)
     . exact lbt rfl
     clear S;rintro h ⟨S,mo⟩;clear mo;simp only [LC,ah,lay,Xv,Xw,Nat.reduceAdd]at S
     simp only [BS,LB,ck,aF,cq,Nat.reduceLT,Nat.reduceEqDiff,Fq,r3,w1,w2,w3,S.ld (b:=O) (o:=0) m0 rfl,S.ld (b:=O) (o:=1) m0 rfl,S.ld (b:=O) (o:=2) m0 rfl]
     refine ag (bj (by exact Tryz.t180.1) (by exact Tryz.e58E) (by decide) (by rfl)) S ?_;clear S;intro h U S y;simp only [LC,aU,bA,ah,Nat.reduceMul,Nat.reduceAdd,Xk,Xi,Xf,Xm]at S
     obtain⟨S,z,A⟩:=S.bsl (kd:=.u32) (xs:=[(a.s:Int),(a.t:Int),(a.w:Int)])
     simp only [BS,LB,Nat.reduceLT,Nat.reduceEqDiff]
     refine step_ret (rf S (i:=2) (j:=0) rfl rfl z A (by rw [Xb,dJ rO];simp;omega)) ?_
     clear S z A;rintro _ h ⟨m,S⟩
     simp only [LC,zM,Xa]at S
     rw [gD (by omega),gD (by omega),gD (by omega),Xp,show(d.arcs.take k).flatMap ju++(aR 4 a.s++(aR 4 a.t++aR 4 a.w))=(d.arcs.take (k+1)).flatMap ju by rw [D,Xt];simp [ju]]at S
     simp only [BS,LB,Nat.reduceLT,Nat.reduceEqDiff,r46,w]
     exact F (k+1) _ _ (by omega) ⟨by omega,m,S.drop1,by simp [aa,r3],by simp [aa,r44],by simp [aa,r45],by simp [aa]⟩
   . have:k=d.arcs.length:=by omega
     subst this
     rw [XM]at S
     have gw:=(S.gown _ m0).1
     simp only [BS,LB,Nat.reduceLT,Nat.reduceEqDiff,r3,r45,r46,an,hlt]
     refine al (kE S.ok (S.ld (b:=t) (o:=0) m1 rfl) gw) ?_
     intro h g
     replace S:=S0.rebase (S.call g)
     simp only [BS,LB,ae,Nat.reduceLT,Nat.reduceEqDiff]
     exact⟨S.gr,by rw [<-W];unfold fj;simp only [Xp]⟩
def Tryz.F1n:=aj t1<|aj t2<|aj t3<|aj t4<|aj t38<|aj t73<|Z5
def Tryz.Fs:=aj t1<|aj t2<|aj t3<|aj t4<|aj t5<|aj t6<|aj Z0<|aj Z2<|aj t9<|aj t10<|aj t11<|aj t12<|aj Z6<|aj Z10<|aj t15<|aj t16<|aj t17<|aj t22<|aj t23<|aj t27<|aj t38<|aj t39<|aj t58<|aj t67<|aj t72<|aj t73<|aj t74<|aj Z14<|aj t97<|aj Z9<|aj Z5<|aj Z3<|aj Z8<|aj Z13<|aj t180<|aj Z15<|aj t355<|t357
def Tryz.F0c:=aj t1<|aj t2<|aj t3<|aj t4<|aj t5<|aj t6<|aj Z0<|aj t9<|aj t22<|aj t27<|aj t38<|aj t67<|aj t72<|aj t73<|aj t74<|aj Z14<|aj t97<|aj Z9<|aj Z5<|aj Z3<|aj Z8<|Z13
theorem cmapN_ok{a:Hp}(e:a.t.Sized a.n){p:Value}{m:List Int}{k:Nat}(c:iA a k p m)(f:m.length<1000000):Ret zB 34 [p] a fun r d=>Gr a d/\ay d 1 (encI .i64) r m/\ ∀c,aq r c->a.n<=c:=by
 have S:=Si e
 obtain⟨b,v,rfl,r,s,_,_⟩:=c
 have i:=r.load1 (o:=0) rfl
 refine ab (n:=10) (rs:=[.tmp 2]) rfl Tryz.e34 rfl rfl rfl (lbt rfl) ?_
 simp only [BS,LB,Nat.reduceLT,Nat.reduceEqDiff,F1n,i]
 refine step_ret (g9 S.ok (aH .i64) s f) ?_;intro v h ⟨g,sl,q⟩;replace S:=S.call g;clear g
 simp only [BS,LB,ae,Nat.reduceLT,Nat.reduceEqDiff]
 exact⟨S.gr,sl,q⟩
theorem mix_take{l m:List (List Int)}(h:l.length=m.length){k:Nat}(c:k<l.length):(mix l m).take (2*(k+1))=(mix l m).take (2*k)++[l[k],m[k]'(h▸c)]:=by
 induction l generalizing m k with
 |nil=>simp at c
 | cons a l d=>
   cases m with
   |nil=>simp at h
   | cons b m=>
     cases k with
     |zero=>simp [mix]
     | succ k=>
       have:=d (m:=m) (by simpa using h) (k:=k) (by simpa using c)
       rw [show 2*(k+1+1)=2*(k+1)+2 by omega,show 2*(k+1)=2*k+2 by omega]at*
       simp only [mix,XD,List.getElem_cons_succ,List.cons_append]
       rw [this]
theorem rows_len{N:Nat}(l:List (List Int))(h: ∀r∈l,r.length=N):(l.flatMap oR).length=8*N*l.length:=yu l fun r a=>uO (h r a)
theorem LLD.rd{M:Nat->Prop}{h e:Hp}{m k n i:Nat}{v:Value}{R:Nat->List Int}(r:LLD h m k v n R)(u:i<n)(f:Mo M h e)(p: ∀b,M b->b<m\/k<=b):
 ∃w c o,iQ (some 1) v (.int .i64 (i:Nat))=some (.pointer (some ⟨c,o,none⟩))/\e.load c o 1=some [w]/\ay e 1 (encI .i64) w (R i)/\ ∀c,aq w c->m<=c/\c<k:=by
 obtain⟨g,a,b,c,d,_⟩:=r.mo f p
 obtain⟨q,o,s,t⟩:=a.ix (kd:=.i64) qf (i:=i) (by omega)
 have j:g[i]? =some g[i]:=XC (by omega)
 exact⟨g[i],q,o,s,t,(d i _ j).1.1,fun x l=>⟨((d i _ j).2 x l).1,((d i _ j).2 x l).2.1⟩⟩
theorem marksS_ok{v:Hp}(ok:v.t.Sized v.n){b:Nat}{I:Img}{T:Tab}(hT:I.T=some T)(i:kC v b I):Ret zB 90 [ptrTo b] v fun r h'=>Gr v h'/\r=sv (fK T):=by
 have S:=Si ok
 obtain⟨pn,pt,pc,pf,r,_,L,B,_⟩:=i
 rw [hT]at B
 have B:TabM v pt I.g.nodes T:=B
 obtain⟨bt,rfl⟩:=B.ptr
 obtain⟨⟨mt,Y⟩,t⟩:=B
 have n2:=L.n2
 have Z:=r.load1 (o:=1) rfl
 have t1:=t.l1
 have t2:=t.l2
 have t3:=t.to
 have t4:=t.fr
 have M: ∀{i:Nat},(h:i<T.l.length)->cI T.to i=T.to[i]/\cI T.fr i=T.fr[i]:=fun {i} h=>by
  unfold cI;simp [Xh,show i<T.to.length by omega,show i<T.fr.length by omega]
 have N: ∀i,i<T.l.length->(cI T.to i).length=I.g.nodes/\(cI T.fr i).length=I.g.nodes:=fun i h=>by
  rw [(M h).1,(M h).2];exact⟨(t.rTo _ (Xl _)).1,(t.rFr _ (Xl _)).1⟩
 refine ab (n:=62) (rs:=[.tmp 2]) rfl Tryz.e90 rfl rfl rfl (lbt rfl) ?_
 simp only [BS,LB]
 refine step_ret (oK S) ?_
 rintro _ h ⟨q,rfl,S⟩
 simp only [BS,LB,Nat.reduceLT,Nat.reduceEqDiff,Fs,S.gr.load Z]
 have kb:=S.key_lt (b:=q) (by simp [keys])
 refine step_ret (qV S.ok (Y.gr S.gr) (by omega)) ?_
 rintro O Q ⟨g,H,hM⟩
 replace S:=S.call g
 have R:=S
 replace S:=S.base
 have gB:=R.gr
 have U: ∀{s:Hp},Mo (· ∈[q]) Q s->ay s 1 (encI .i64) O T.l:=fun f=>H.mo f (fun c d e=>by simp only [XK]at e;have:=hM c d;omega)
 have w0:=cC (k:=.u8) rfl (n:=T.l.length) (by simp only [pw];omega)
 simp only [BS,LB,ck,aF,cq,Nat.reduceLT,Nat.reduceEqDiff,Fs,H.lenq,w0]
 refine ag (bj (by exact Tryz.t22.1) (by exact Tryz.e5E) (by decide) (by rfl)) S ?_;clear S;intro h bs S C;simp only [LC,aU,bA,ah,Nat.reduceMul,Nat.reduceAdd,Xk,Xi,Xf,Xm]at S
 obtain⟨S,D,E⟩:=S.bsl (kd:=.u8) (xs:=[(T.l.length:Int)])
 simp only [BS,LB,Nat.reduceLT,Nat.reduceEqDiff]
 refine step_ret (xc S (i:=0) (j:=0) rfl rfl D E (by simp)) ?_
 clear S D E;rintro _ h ⟨p,S⟩
 simp only [LC,zM,Xa]at S
 rw [gD (by omega)]at S;try rw [List.nil_append]at S
 simp only [BS,LB,Nat.reduceLT,Nat.reduceEqDiff,Fs,H.lenq]
 refine az (fun(k:Nat) a s=>k<=T.l.length/\ ∃p,St (· ∈keys [(q,Ob.row [.slice none 0 0] 1)] [(.slice none 0 0,1,aY [])]) Q s [(q,.row [p] 1)] [(p,1,aY (aR 1 T.l.length++(T.l.take k).flatMap oh))]/\a 0=ptrTo b/\a 3=ptrTo q/\a 4=O/\a 22=O/\a 23=.int .i64 T.l.length/\a 24=.int .i64 k) (fun k=>T.l.length-k) ?_ 0 _ _ ⟨Xd _,p,by simpa using S,by simp [aa,aG,ac],by simp [aa,ac],by simp [aa],by simp [aa],by simp [aa],by simp [aa]⟩
 clear S
 intro k J a s ⟨hk,p,S,r0,r3,r4,r22,r23,r24⟩
 have w:am .i64 ((k:Int)+1)=((k+1:Nat):Int):=by rw [wrap64]<;>omega
 by_cases hlt:k<T.l.length
 . obtain⟨c1,o1,z,y⟩:=(U S.fr).ix (kd:=.i64) (aH .i64) hlt
   have hx:=t.rl _ (Xl hlt)
   have tk:T.l.take (k+1)=T.l.take k++[T.l[k]]:=Xe hlt
   have bl:(T.l.take k).length<=16:=by rw [Xu];omega
   generalize T.l[k]=x at y hx tk
   obtain⟨x,rfl⟩:=XZ hx.1
   have wx:=cC (k:=.u32) rfl (n:=x) (by simp only [pw];omega)
   simp only [BS,LB,ck,aF,cq,Nat.reduceLT,Nat.reduceEqDiff,Fs,r3,r22,r23,r24,an,hlt,z,y,encI,wx]
   refine ag (bj (by exact Tryz.t180.1) (by exact Tryz.e58E) (by decide) (by rfl)) S ?_;clear S;intro h bs S C;simp only [LC,aU,bA,ah,Nat.reduceMul,Nat.reduceAdd,Xk,Xi,Xf,Xm]at S
   obtain⟨S,D,E⟩:=S.bsl (kd:=.u32) (xs:=[(x:Int)])
   simp only [BS,LB,Nat.reduceLT,Nat.reduceEqDiff]
   refine step_ret (rf S (i:=0) (j:=0) rfl rfl D E (by rw [Xb,aJ,dJ oF];simp;omega)) ?_
   clear S D E;rintro _ h ⟨p,S⟩
   simp only [LC,zM,Xa]at S
   rw [gD (by omega),Xp,show(T.l.take k).flatMap oh++aR 4 x=(T.l.take (k+1)).flatMap oh by rw [tk,Xt];simp [oh]]at S
   simp only [BS,LB,Nat.reduceLT,Nat.reduceEqDiff,r24,w]
   exact J (k+1) _ _ (by omega) ⟨by omega,p,S,by simp [aa,r0],by simp [aa,r3],by simp [aa,r4],by simp [aa,r22],by simp [aa,r23],by simp [aa]⟩
 . have:k=T.l.length:=by omega
   subst this
   rw [XM]at S
   generalize hP:aR 1 T.l.length++T.l.flatMap oh=P at S
   have lP:P.length<=100:=by rw [<-hP,Xb,aJ,dJ oF];omega
   have F: ∀{s:Hp},Mo (· ∈[q]) Q s->Gr v s:=fun f=>(gB.fr.trans f (fun c d=>by simp only [XK]at d;subst d;exact R.key_own (by simp [keys])|>.elim .inr .inl):Mo NoM v _).gr
   have ad:=S.fr.n
   simp only [BS,LB,Nat.reduceLT,Nat.reduceEqDiff,Fs,r0,r23,r24,an,hlt,(F S.fr).load Z]
   refine step_ret (vJ S.ok (Y.gr (F S.fr)) (by omega) (fun i h=>by have:=N i h;omega) (fun i h=>by have:=N i h;omega)) ?_
   rintro _ hC ⟨g,vT,vF,kk,rfl,DT,DF,y1,y2⟩
   have K: ∀c∈keys [(q,Ob.row [p] 1)] [(p,1,aY P)],c<_:=fun c d=>S.key_lt d
   replace S:=R.rebase (S.call g)
   have S1:=S
   replace S:=S.base
   have LT: ∀k,((mix T.to T.fr).take k).length<=32:=fun k=>by rw [Xu,uc (by omega)];omega
   have LM: ∀k,∀r∈(mix T.to T.fr).take k,r.length=I.g.nodes:=fun k r hr=>(xN (List.mem_of_mem_take hr)).elim (fun h=>(t.rTo r h).1) (fun h=>(t.rFr r h).1)
   obtain⟨ta,tn,tc,eT⟩:=DT.form
   obtain⟨fa,fn,fc,eF⟩:=DF.form
   simp only [BS,LB,Nat.reduceLT,Nat.reduceEqDiff,Fs,r4,H.lenq]
   refine az (fun(k:Nat) a s=>k<=T.l.length/\ ∃V,St (· ∈keys [(q,Ob.row [p] 1)] [(p,1,aY P)]) hC s [(q,.row [V] 1)] [(V,1,aY (P++((mix T.to T.fr).take (2*k)).flatMap oR))]/\a 3=ptrTo q/\a 7=vT/\a 8=vF/\a 43=.int .i64 T.l.length/\a 44=.int .i64 k) (fun k=>T.l.length-k) ?_ 0 _ _ ⟨Xd _,p,by simpa using S,by simp [aa,r3],by simp [aa],by simp [aa],by simp [aa],by simp [aa]⟩
   clear S r0 r3 r4 r22 r23 r24 J w hlt hk
   intro k J a s ⟨hk,V,S,r3,r7,r8,r43,r44⟩
   have w:am .i64 ((k:Int)+1)=((k+1:Nat):Int):=by rw [wrap64]<;>omega
   by_cases hlt:k<T.l.length
   . obtain⟨g1,g2⟩:=M hlt
     obtain⟨q1,q2⟩:=N k hlt
     have mt:=mix_take (l:=T.to) (m:=T.fr) (by omega) (k:=k) (by omega)
     rw [<-g1,<-g2]at mt
     have l0:=LT (2*k)
     have lr:=rows_len _ (LM (2*k))
     have l8:8*I.g.nodes*((mix T.to T.fr).take (2*k)).length<=8*300*32:=X5 (by omega) l0
     obtain⟨u,c1,o1,z,y,G,A⟩:=DT.rd hlt S.fr (fun b W=>.inl (K b W))
     simp only [BS,LB,Nat.reduceLT,Nat.reduceEqDiff,Fs,r3,r7,r43,r44,an,hlt,z,y]
     refine step_ret (xU S (i:=0) (j:=0) rfl rfl G (fun c d X=>?_) (by rw [Xb,lr];omega)) ?_
     . rcases S.key_own X with h|h
       . have:=A c d;omega
       . have:=K c h;have:=A c d;omega
     clear S G A z y;rintro _ h ⟨v3,S⟩
     simp only [LC,zM,Xa]at S
     obtain⟨u2,c1,o1,z,y,G,A⟩:=DF.rd hlt S.fr (fun b W=>.inl (XE (K b W) y1))
     simp only [BS,LB,Nat.reduceLT,Nat.reduceEqDiff,Fs,r3,r8,z,y]
     refine step_ret (xU S (i:=0) (j:=0) rfl rfl G (fun c d X=>?_) (by rw [Xb,Xb,lr,show(fun x=>aR 8 (u64 x))=put8 from rfl,dJ nv];omega)) ?_
     . rcases S.key_own X with h|h
       . have:=A c d;omega
       . have:=K c h;have:=A c d;omega
     clear S G A z y;rintro _ h ⟨v3,S⟩
     simp only [LC,zM,Xa]at S
     rw [Xp,Xp,show((mix T.to T.fr).take (2*k)).flatMap oR++((cI T.to k).flatMap (fun x=>aR 8 (u64 x))++(cI T.fr k).flatMap (fun x=>aR 8 (u64 x)))=((mix T.to T.fr).take (2*(k+1))).flatMap oR by rw [mt,Xt];simp only [zM,Xa,X3];rfl]at S
     simp only [BS,LB,Nat.reduceLT,Nat.reduceEqDiff,r44,w]
     exact J (k+1) _ _ (by omega) ⟨by omega,v3,S,by simp [aa,r3],by simp [aa,r7],by simp [aa,r8],by simp [aa,r43],by simp [aa]⟩
   . have:k=T.l.length:=by omega
     subst this
     rw [Xc (by rw [uc (by omega)];omega)]at S
     have gw:=(S.gown _ m0).1
     simp only [BS,LB,Nat.reduceLT,Nat.reduceEqDiff,r3,r43,r44,an,hlt]
     refine al (kE S.ok (S.ld (b:=q) (o:=0) m0 rfl) gw) ?_
     intro h g
     replace S:=S1.rebase (S.call g)
     simp only [BS,LB,ae,Nat.reduceLT,Nat.reduceEqDiff]
     exact⟨S.gr,by rw [<-hP];unfold fK;simp only [Xp]⟩
theorem cellsS_ok{a:Hp}(L:a.t.Sized a.n){b:Nat}{I:Img}{m:List Int}{F:Bs}(M:I.C=some (m,F))(i:kC a b I):Ret zB 91 [ptrTo b] a fun r N=>Gr a N/\r=sv (fU m):=by
 have S:=Si L
 obtain⟨pn,pt,O,P,r,_,s,_,u⟩:=i
 rw [M]at u
 obtain⟨k,fp,fb,v,y,B,Q,lm,_,_,_,_,R,_⟩:=(u:kQ a O P I.g m F)
 have n2:=s.n2
 have T:=r.load1 (o:=2) rfl
 refine ab (n:=25) (rs:=[.tmp 2]) rfl Tryz.e91 rfl rfl rfl (lbt rfl) ?_
 simp only [BS,LB]
 refine step_ret (oK S) ?_
 rintro _ h ⟨d,rfl,S⟩
 simp only [BS,LB,Nat.reduceLT,Nat.reduceEqDiff,F0c,S.gr.load T]
 have kb:=S.key_lt (b:=d) (by simp [keys])
 refine step_ret (cmapN_ok S.ok (Q.gr S.gr) (by omega)) ?_
 rintro z A ⟨g,C,U⟩
 replace S:=S.call g
 have V:=S
 replace S:=S.base
 have t: ∀{l:Hp},Mo (· ∈[d]) A l->ay l 1 (encI .i64) z m:=fun f=>C.mo f (fun c W e=>by simp only [XK]at e;have:=U c W;omega)
 simp only [BS,LB,Nat.reduceLT,Nat.reduceEqDiff,F0c,C.lenq]
 refine az (fun(k:Nat) p l=>k<=m.length/\ ∃q,St (· ∈keys [(d,Ob.row [.slice none 0 0] 1)] [(.slice none 0 0,1,aY [])]) A l [(d,.row [q] 1)] [(q,1,aY (fU (m.take k)))]/\p 3=ptrTo d/\p 11=z/\p 12=.int .i64 m.length/\p 13=.int .i64 k) (fun k=>m.length-k) ?_ 0 _ _ ⟨Xd _,_,S,by simp [aa,ac],by simp [aa],by simp [aa],by simp [aa]⟩
 clear S
 intro k X p l ⟨hk,q,S,r3,r11,r12,r13⟩
 have w:am .i64 ((k:Int)+1)=((k+1:Nat):Int):=by rw [wrap64]<;>omega
 by_cases hlt:k<m.length
 . obtain⟨c1,o1,Y,D⟩:=(t S.fr).ix (kd:=.i64) (aH .i64) hlt
   have E:=R _ (Xl hlt)
   have G:m.take (k+1)=m.take k++[m[k]]:=Xe hlt
   have Z:(fU (m.take k)).length=k:=by simp [fU];omega
   generalize m[k]=x at D E G
   obtain⟨x,rfl⟩:=XZ E.1
   have wx:=cC (k:=.u8) rfl (n:=x) (by simp only [pw];omega)
   simp only [BS,LB,ck,aF,cq,Nat.reduceLT,Nat.reduceEqDiff,F0c,r3,r11,r12,r13,an,hlt,Y,D,encI,wx]
   refine ag (bj (by exact Tryz.t22.1) (by exact Tryz.e5E) (by decide) (by rfl)) S ?_;clear S;intro h bs S H;simp only [LC,aU,bA,ah,Nat.reduceMul,Nat.reduceAdd,Xk,Xi,Xf,Xm]at S
   obtain⟨S,J,K⟩:=S.bsl (kd:=.u8) (xs:=[(x:Int)])
   simp only [BS,LB,Nat.reduceLT,Nat.reduceEqDiff]
   refine step_ret (xc S (i:=0) (j:=0) rfl rfl J K (by rw [Z];simp;omega)) ?_
   clear S J K;rintro _ h ⟨q,S⟩
   simp only [LC,zM,Xa]at S
   rw [gD (by omega),show fU (m.take k)++aR 1 x=fU (m.take (k+1)) by rw [G];simp [fU,aR]]at S
   simp only [BS,LB,Nat.reduceLT,Nat.reduceEqDiff,r13,w]
   exact X (k+1) _ _ (by omega) ⟨by omega,q,S,by simp [aa,r3],by simp [aa,r11],by simp [aa,r12],by simp [aa]⟩
 . have:k=m.length:=by omega
   subst this
   rw [XM]at S
   have gw:=(S.gown _ m0).1
   simp only [BS,LB,Nat.reduceLT,Nat.reduceEqDiff,r3,r12,r13,an,hlt]
   refine al (kE S.ok (S.ld (b:=d) (o:=0) m0 rfl) gw) ?_
   intro h g
   replace S:=V.rebase (S.call g)
   simp only [BS,LB,ae,Nat.reduceLT,Nat.reduceEqDiff]
   exact S.gr
def Tryz.F1o:=aj t1<|aj t3<|aj t9<|aj t22<|aj t27<|aj t67<|aj t72<|aj t73<|aj t74<|aj Z14<|aj Z9<|aj Z5<|aj Z3<|Z8
def Tryz.FB:=aj t1<|aj t2<|aj t3<|aj t4<|aj t5<|aj t6<|aj Z0<|aj t9<|aj t27<|aj t33<|aj t38<|aj t39<|aj Z11<|aj t67<|aj t72<|aj t73<|aj t74<|aj Z14<|aj t92<|aj Z9<|aj Z5<|aj t159<|aj r159<|aj t160<|aj Z3<|Z8
structure Qd where
 kd:Nat
 is:Bool
 f:Value
 body:Bs
def encQ(q:Qd):List Value:=[.int .i64 (q.kd:Nat),.bool q.is,q.f]
theorem AU(q:Qd):(encQ q).length=3:=rfl
def kG(l:List Qd):List Sec:=(l.filter Qd.is).map fun q=>(q.kd,q.body)
theorem Ck(l:List Qd)(q:Qd):kG (l++[q])=kG l++if q.is=true then [(q.kd,q.body)]else []:=by
 unfold kG
 rw [List.filter_append,Xx]
 cases h:q.is<;>simp [h]
theorem build_q4{a b c d e f g h i j k l:Value}:kW zB 160 [(0,.agg ⟨[a,b,c]⟩),(1,.agg ⟨[d,e,f]⟩),(2,.agg ⟨[g,h,i]⟩),(3,.agg ⟨[j,k,l]⟩)]=some (.agg ⟨[a,b,c,d,e,f,g,h,i,j,k,l]⟩):=by
 unfold kW
 rw [Tryz.t160.2.2.2.1,Tryz.t160.1]
 simp only [Tryz.t159.2.1]
 rfl
theorem index_q4{l:List Qd}(a:l.length=4){i:Nat}(b:i<4):kj zB 160 (.agg ⟨l.flatMap encQ⟩) (.int .i64 (i:Nat))=some (.agg ⟨encQ (l[i]'(by omega))⟩):=by
 unfold kj
 rw [Tryz.t160.1]
 simp only [Tryz.t159.2.1,fE b,partOf,Tryz.t159.1,aI AU,a]
 rw [X6 (by omega),cond_true,wi AU]
theorem pP{E:Env}{t:TypeId}{x y:Operand}{p:Value}{s:Bool}(a:n8 E t=true)(h:(p=.pointer none/\s=false)\/((∃b,p=ptrTo b)/\s=true)):a9 E .neq t x y p (.pointer none)=some (.bool s):=by
 rcases h with⟨rfl,rfl⟩|⟨⟨b,rfl⟩,rfl⟩
 . exact n_pnil a
 . exact n_ptr a
theorem sec1_ok{a:Hp}(j:a.t.Sized a.n){b c:Nat}{I:Img}{m:List Int}{F:Bs}(l:I.C=some (m,F))(i:kC a b I)(p:a.load c 0 1=some [ptrTo b]):bG zB 92 [ptrTo c] a (sv F):=by
 have S:=Si j
 obtain⟨w,x,q,s,r,_,t,_,d⟩:=i
 rw [l]at d
 obtain⟨k,y,z,e,f,B,_,_,rfl,_,u,rfl,_⟩:=(d:kQ a q s I.g m F)
 have v:=r.load1 (o:=3) rfl
 refine ab (n:=7) (rs:=[.tmp 1]) rfl Tryz.e92 rfl rfl rfl (lbt rfl) ?_
 simp only [BS,LB,Nat.reduceLT,Nat.reduceEqDiff,F1o,p,v]
 refine al (zD S.ok u) ?_;intro h g;replace S:=S.call g;clear g
 simp only [BS,LB,ae,Nat.reduceLT,Nat.reduceEqDiff]
 exact S.gr
def tabO:Option Tab->Bs
 |some T=>fK T
 |none=>[]
theorem qU{B:Hp}(ok:B.t.Sized B.n){b:Nat}{I:Img}(i:kC B b I):Ret zB 29 [ptrTo b] B fun r s=>Gr B s/\ay s 2 encS r (dP I):=by
 have S:=Si ok
 have K:=i
 obtain⟨pn,X,Y,pf,r,_,aL,L,M⟩:=i
 have l1:=r.load1 (o:=1) rfl
 have l2:=r.load1 (o:=2) rfl
 have nT:(X=.pointer none/\I.T.isSome=false)\/((∃b,X=ptrTo b)/\I.T.isSome=true):=by
  cases C:I.T with
  |none=>rw [C]at L;exact .inl ⟨L,rfl⟩
  |some T=>rw [C]at L;exact .inr ⟨TabM.ptr L,rfl⟩
 have nC:(Y=.pointer none/\I.C.isSome=false)\/((∃b,Y=ptrTo b)/\I.C.isSome=true):=by
  cases u:I.C with
  |none=>rw [u]at M;exact .inl ⟨M.1,rfl⟩
  |some c=>obtain⟨m,F⟩:=c;rw [u]at M;obtain⟨x,y,e,_⟩:=kQ.ptr M;exact .inr ⟨⟨x,e⟩,rfl⟩
 have eT:=fun(x y:Operand)=>pP (x:=x) (y:=y) Tryz.t72.2.2.2.2.1 nT
 have eC:=fun(x y:Operand)=>pP (x:=x) (y:=y) Tryz.t73.2.2.2.2.1 nC
 refine ab (n:=48) (rs:=[.tmp 2]) rfl Tryz.e29 rfl rfl rfl (lbt rfl) ?_
 simp only [BS,Nat.reduceLT]
 refine ag (da (by exact cP)) S ?_;clear S;intro h Z S ad
 have R1:=S.row (b:=Z) m0
 have z:=S.gr
 have D:=R1.load1 (o:=0) rfl
 obtain⟨Q,E⟩: ∃Q:List Qd,Q=[⟨1,true,.func (.func 89) #[ptrTo b] #[],fj I.g⟩,⟨2,I.T.isSome,.func (.func 90) #[ptrTo b] #[],tabO I.T⟩,⟨3,I.C.isSome,.func (.func 91) #[ptrTo b] #[],match I.C with|some c=>fU c.1|none=>[]⟩,⟨4,I.C.isSome,.func (.func 92) #[] #[ptrTo Z],match I.C with|some c=>c.2|none=>[]⟩]:=⟨_,rfl⟩
 have lQ:Q.length=4:=by rw [E];rfl
 have sQ:kG Q=dP I:=by
  rw [E];unfold kG dP tabO
  cases I.T<;>cases I.C<;>rfl
 have fQ: ∀q∈Q,Fl q.f:=by
  intro q A;rw [E]at A
  simp only [List.mem_cons,List.not_mem_nil,or_false]at A
  rcases A with rfl|rfl|rfl|rfl<;>exact ic
 rename Hp=>hS
 have cQ: ∀q∈Q,q.is=true-> ∃g a c,q.f=.func (.func g) a c/\ ∀s,Gr hS s->Ret zB g (a.toList++c.toList) s fun r O=>Gr s O/\r=sv q.body:=by
  intro q A p;rw [E]at A
  simp only [List.mem_cons,List.not_mem_nil,or_false]at A
  rcases A with rfl|rfl|rfl|rfl
  . exact⟨_,_,_,rfl,fun s g=>graphS_ok g.ok (K.gr (z.trans g))⟩
  . cases C:I.T with
    |none=>rw [C]at p;cases p
    |some T=>exact⟨_,_,_,rfl,fun s g=>marksS_ok g.ok C (K.gr (z.trans g))⟩
  . cases u:I.C with
    |none=>rw [u]at p;cases p
    |some c=>obtain⟨m,F⟩:=c;exact⟨_,_,_,rfl,fun s g=>cellsS_ok g.ok u (K.gr (z.trans g))⟩
  . cases u:I.C with
    |none=>rw [u]at p;cases p
    |some c=>obtain⟨m,F⟩:=c;exact⟨_,_,_,rfl,fun s g=>iS (sec1_ok g.ok u (K.gr (z.trans g)) (g.load D)) fun v s e=>⟨e.2,e.1⟩⟩
 simp only [BS]
 refine au (ax rfl) (q:=0) (ps:=[]) (by kernel_rfl) ?_
 simp only [BS,LB,cls,Nat.reduceLT,Nat.reduceEqDiff,Nat.reduceAdd,Nat.reducePow,Nat.reduceDiv,Nat.reduceMod,Nat.reduceLeDiff,FB,D,z.load l1,z.load l2,eT,eC,build_q4]
 replace S:=S.nilG (k:=2)
 refine az (fun(k:Nat) N h=>k<=4/\ ∃v,St NoM hS h [] [(v,2,(kG (Q.take k)).flatMap encS)]/\N 2=v/\N 31=.agg ⟨Q.flatMap encQ⟩/\N 32=.int .i64 k) (fun k=>4-k) ?_ 0 _ _ ⟨Xd _,_,(St.init z.ok).nilG,by simp [aa],by rw [E];simp [aa,encQ,ac],by simp [aa]⟩
 clear S
 intro k ih N h ⟨hk,v,S,r2,r31,r32⟩
 have w:am .i64 ((k:Int)+1)=((k+1:Nat):Int):=by rw [wrap64]<;>omega
 by_cases hlt:k<4
 . have t:(k:Int)<4:=by omega
   have G:k<Q.length:=by omega
   have mQ:=Xl G
   have P:=index_q4 lQ hlt
   have R:=fQ _ mQ
   have U:=cQ _ mQ
   have tk:Q.take (k+1)=Q.take k++[Q[k]]:=Xe G
   have V:=(congrArg kG tk).trans (Ck _ _)
   have ln:(kG (Q.take k)).length<=4:=by unfold kG;rw [Xs];exact XP (List.length_filter_le _ _) (by rw [Xu];omega)
   generalize Q[k]=q at P R U V
   obtain⟨W,is,f,d⟩:=q
   simp only [encQ]at P
   simp only []at R U
   simp only [BS,LB,Nat.reduceLT,Nat.reduceEqDiff,FB,r31,r32,t,P]
   refine ag av S ?_;clear S;intro h H S af
   simp only [BS,LB,Nat.reduceLT,Nat.reduceEqDiff]
   refine aw (S.store (i:=0) rfl Tryz.t159.2.1 (by intro x e;cases e) rfl (by simp only [ah,List.all_cons,List.all_nil,R.2.1,Xg];rfl) (lbt rfl) ono) ?_
   clear S;rintro h ⟨S,_⟩
   simp only [LC,ah,lay,Xv,Xw,Nat.reduceAdd]at S
   cases is with
   | false=>
     simp only [BS,LB,Nat.reduceLT,Nat.reduceEqDiff,FB,r32,w,S.ld (b:=H) (o:=1) m0 rfl]
     have S:=S.drop1
     rw [show kG (Q.take k)=kG (Q.take (k+1)) by rw [V];simp]at S
     exact ih (k+1) _ _ (by omega) ⟨by omega,v,S,by simp [aa,r2],by simp [aa,r31],by simp [aa]⟩
   | true=>
     obtain⟨g,a,c,rfl,hr⟩:=U rfl
     simp only [BS,LB,Nat.reduceLT,Nat.reduceEqDiff,FB,S.ld (b:=H) (o:=1) m0 rfl]
     refine au (ax rfl) (q:=128) (ps:=[(2,5)]) (by kernel_rfl) ?_
     simp only [BS,LB,cls,Nat.reduceLT,Nat.reduceEqDiff,Nat.reduceAdd,Nat.reducePow,Nat.reduceDiv,Nat.reduceMod,Nat.reduceLeDiff,FB,r2,S.ld (b:=H) (o:=0) m0 rfl,S.ld (b:=H) (o:=2) m0 rfl]
     have k4:=S.key_lt (b:=H) (by simp [keys])
     refine ce (hr _ S.gr) ?_
     rintro _ h5 ⟨g5,rfl⟩
     have e5:=aP g5 k4
     replace S:=S.call g5
     simp only [BS,LB,cls,Nat.reduceLT,Nat.reduceEqDiff,Nat.reduceAdd,Nat.reducePow,Nat.reduceDiv,Nat.reduceMod,Nat.reduceLeDiff,FB,qq (l:=d)]
     refine ec (bj (by exact Tryz.t33.1) (by exact Tryz.e50E) (by decide) (by rfl)) S ?_;clear S;intro h bs S ai ak;simp only [LC,aU,bA,ah,Nat.reduceMul,Nat.reduceAdd,Xk,Xi,Xf,Xm]at S
     have J:aA h 2 (.slice (some ⟨bs,0,none⟩) 1 1)=some (1,encS (W,d)):=by simp only [aA];rw [S.lds (b:=bs) (o:=0) (n:=1*2) m0 (lbt rfl)];rfl
     replace S:=S.drop1
     simp only [BS,LB,cls,Nat.reduceLT,Nat.reduceEqDiff,Nat.reduceAdd,Nat.reducePow,Nat.reduceDiv,Nat.reduceMod,Nat.reduceLeDiff]
     refine jx (S.grow (j:=0) (m:=1) (new:=encS (W,d)) rfl Tryz.t33.1 Tryz.e50E (by decide) Tryz.t33.2.2.2.2.2 J rfl (by decide) rfl (by rw [aI dk,dk];omega)) ?_
     clear S J;rintro h v2 S
     simp only [LC]at S
     rw [show(kG (Q.take k)).flatMap encS++encS (W,d)=(kG (Q.take (k+1))).flatMap encS by rw [V,Xt];simp]at S
     simp only [BS,LB,cls,Nat.reduceLT,Nat.reduceEqDiff,Nat.reduceAdd,Nat.reducePow,Nat.reduceDiv,Nat.reduceMod,Nat.reduceLeDiff,r32]
     refine⟨by simp only [aX,bo,aS,bD,aV,ne_eq,not_false_eq_true,bC,bR,aZ,aW,bZ,cu,aT,Nat.reduceLT,Nat.reduceEqDiff,reduceIte,Xg,r2,r31,r32,ac,aQ e5,aD e5],?_⟩
     simp only [w]
     exact ih (k+1) _ _ (by omega) ⟨by omega,v2,S.drop1,by simp [aa],by simp [aa,r31],by simp [aa]⟩
 . have t: ¬(k:Int)<4:=by omega
   rw [Xc (by omega),sQ]at S
   simp only [BS,LB,ae,Nat.reduceLT,Nat.reduceEqDiff,r2,r32,t]
   exact⟨z.trans S.gr,(S.gown _ m0).1.sl rfl dk (by decide)⟩
def Tryz.FU:=aj t1<|aj t2<|aj t3<|aj t4<|aj t5<|aj t6<|aj Z0<|aj Z2<|aj t9<|aj t33<|Z11
def Tryz.F1p:=aj t1<|aj t2<|aj t3<|aj t4<|aj t5<|aj t9<|aj t27<|aj t29<|aj t33<|aj Z11<|aj t67<|aj t72<|aj t73<|aj t74<|Z14
def andQ(x y:Option Bool):Option Bool:=match x with
 |some true=>y
 |r=>r
theorem eq_sec(a b:Int)(s t:ByteArray):dI zB 40 50 (.agg ⟨[.int .i64 a,.string s]⟩) (.agg ⟨[.int .i64 b,.string t]⟩)=andQ (some (io a b)) (andQ (some (ez (aB s) (aB t))) (some true)):=by kernel_rfl
theorem ok_sec:Tryz.abEnv.eqok 50=true:=by kernel_rfl
theorem n_sec{x y:Operand}{a b:Sec}:a9 zB .neq 50 x y (.agg ⟨encS a⟩) (.agg ⟨encS b⟩)=some (.bool (!decide (a=b))):=by
 obtain⟨c,e⟩:=a
 obtain⟨d,f⟩:=b
 have g:fD zB 50 x y (.agg ⟨encS (c,e)⟩) (.agg ⟨encS (d,f)⟩)=(bif Tryz.abEnv.eqok 50 then dI zB 40 50 (.agg ⟨encS (c,e)⟩) (.agg ⟨encS (d,f)⟩)else none):=rfl
 show(fD zB 50 x y (.agg ⟨encS (c,e)⟩) (.agg ⟨encS (d,f)⟩)).map (fun r=>Value.bool (!r))=_
 rw [g,ok_sec,cond_true,show dI zB 40 50 (.agg ⟨encS (c,e)⟩) (.agg ⟨encS (d,f)⟩)=_ from eq_sec c d (eV e) (eV f),lG,uA,fm,fm,show decide ((c:Int)=(d:Int))=decide (c=d)from decide_eq_decide.2 (by omega)]
 by_cases h:c=d<;>by_cases i:e=f<;>simp [andQ,h,i]
theorem eqSec_ok{g:Hp}(t:g.t.Sized g.n){u v:Value}{l m:List Sec}(r:ay g 2 encS u l)(s:ay g 2 encS v m)(B:l.length<1000000):bG zB 49 [u,v] g (.bool (decide (l=m))):=by
 have S:=Si t
 by_cases a:l.length=m.length
 . have hle:((l.length:Int)=(m.length:Int)):=by omega
   refine ab (n:=26) (rs:=[.tmp 4]) rfl Tryz.e49 rfl rfl rfl (lbt rfl) ?_
   simp only [BS,LB,Nat.reduceLT,Nat.reduceEqDiff,FU,r.lenq,s.lenq,hle]
   refine az (fun(i:Nat) j h=>i<=l.length/\l.take i=m.take i/\Gr g h/\j 0=u/\j 1=v/\j 12=.int .i64 l.length/\j 13=.int .i64 i) (fun i=>l.length-i) ?_ 0 _ _ ⟨Xd _,rfl,Gr.refl t,by simp [aa,aG],by simp [aa,aG,bK],by simp [aa,a],by simp [aa]⟩
   clear S
   intro i x j h ⟨hi,ht,S,r0,r1,r12,r13⟩
   by_cases hlt:i<l.length
   . obtain⟨c,o,d,k⟩:=(r.gr S).ix (kd:=.i64) dk hlt
     obtain⟨C,D,b,e⟩:=(s.gr S).ix (kd:=.i64) dk (a▸hlt)
     have w:am .i64 ((i:Int)+1)=((i+1:Nat):Int):=by rw [wrap64]<;>omega
     by_cases p:l[i]=m[i]
     . simp only [BS,LB,Nat.reduceLT,Nat.reduceEqDiff,r12,r13,an,hlt]
       refine au (ax rfl) (q:=0) (ps:=[]) (by kernel_rfl) ?_
       simp only [BS,LB,cls,Nat.reduceLT,Nat.reduceEqDiff,Nat.reduceAdd,Nat.reducePow,Nat.reduceDiv,Nat.reduceMod,Nat.reduceLeDiff,FU,r0,r1,r13,d,k,b,e,n_sec,p,w]
       refine x (i+1) _ _ (by omega) ⟨by omega,?_,S,by simp [aa,r0],by simp [aa,r1],by simp [aa,r12],by simp [aa]⟩
       rw [Xe hlt,Xe (a▸hlt),ht,p]
     . have f:l≠m:=by rintro rfl;exact p rfl
       simp only [BS,LB,Nat.reduceLT,Nat.reduceEqDiff,r12,r13,an,hlt]
       refine au (ax rfl) (q:=0) (ps:=[]) (by kernel_rfl) ?_
       simp only [BS,LB,cls,ae,Nat.reduceLT,Nat.reduceEqDiff,Nat.reduceAdd,Nat.reducePow,Nat.reduceDiv,Nat.reduceMod,Nat.reduceLeDiff,FU,r0,r1,d,k,b,e,n_sec,p,f]
       exact S
   . have y:l=m:=by
      have z:l.take i=l:=Xc (by omega)
      have A:m.take i=m:=Xc (by omega)
      rw [z,A]at ht;exact ht
     subst y
     simp only [BS,LB,ae,Nat.reduceLT,Nat.reduceEqDiff,r12,r13,an,hlt]
     exact S
 . have f:l≠m:=by rintro rfl;exact a rfl
   have hle: ¬((l.length:Int)=(m.length:Int)):=by omega
   refine ab (n:=26) (rs:=[.tmp 4]) rfl Tryz.e49 rfl rfl rfl (lbt rfl) ?_
   simp only [BS,LB,ae,Nat.reduceLT,Nat.reduceEqDiff,FU,r.lenq,s.lenq,hle,f]
   exact S.gr
theorem yW(I:Img):(dP I).length<=4:=by
 unfold dP;cases I.T<;>cases I.C<;>simp
theorem same_ok{a:Hp}(e:a.t.Sized a.n){b c:Nat}{I J:Img}(i:kC a b I)(j:kC a c J):bG zB 16 [ptrTo b,ptrTo c] a (.bool (decide (dP I=dP J))):=by
 have S:=Si e
 refine ab (n:=18) (rs:=[.tmp 4]) rfl Tryz.e16 rfl rfl rfl (lbt rfl) ?_
 simp only [BS,LB,Nat.reduceLT,Nat.reduceEqDiff]
 refine al (qa S.ok (i.gr S.gr)) ?_;intro h g;replace S:=S.call g;clear g
 simp only [BS,LB,Nat.reduceLT,Nat.reduceEqDiff]
 refine al (qa S.ok (j.gr S.gr)) ?_;intro h g;replace S:=S.call g;clear g
 simp only [BS,LB,Nat.reduceLT,Nat.reduceEqDiff]
 refine step_ret (qU S.ok (i.gr S.gr)) ?_;intro v h ⟨g,d⟩;replace S:=S.call g;clear g
 simp only [BS,LB,Nat.reduceLT,Nat.reduceEqDiff]
 refine step_ret (qU S.ok (j.gr S.gr)) ?_;intro v h ⟨g,s2⟩;replace S:=S.call g;replace d:=d.gr g;clear g
 simp only [BS,LB,Nat.reduceLT,Nat.reduceEqDiff]
 refine al (eqSec_ok S.ok d s2 (by have:=yW I;omega)) ?_;intro h g;replace S:=S.call g;clear g
 simp only [BS,LB,ae,Nat.reduceLT,Nat.reduceEqDiff]
 exact S.gr
theorem yk(I:Img): ∀x∈dP I,x.1<256:=by
 unfold dP;cases I.T<;>cases I.C<;>simp
theorem uJ{a:Hp}(c:a.t.Sized a.n){b:Nat}{I:Img}(i:kC a b I)(d:((dP I).flatMap Prod.snd).length<=100000):Ret zB 8 [ptrTo b] a fun r f=>Gr a f/\r=.tuple #[sv (oX (dP I)),.int .i64 0]:=by
 have S:=Si c
 refine ab (n:=16) (rs:=[.tmp 2,.tmp 3]) rfl Tryz.e8 rfl rfl rfl (lbt rfl) ?_
 simp only [BS,LB,Nat.reduceLT,Nat.reduceEqDiff,F1p]
 refine al (qa S.ok (i.gr S.gr)) ?_;intro h g;replace S:=S.call g;clear g
 simp only [BS,LB,Nat.reduceLT,Nat.reduceEqDiff]
 refine step_ret (qU S.ok (i.gr S.gr)) ?_;intro v h ⟨g,s1⟩;replace S:=S.call g;clear g
 simp only [BS,LB,Nat.reduceLT,Nat.reduceEqDiff]
 refine step_ret (encode_ok S.ok s1 (by have:=yW I;omega) (yk I) d) ?_;intro v h ⟨g,e⟩;replace S:=S.call g;clear g
 subst e
 simp only [BS,LB,ae,Nat.reduceLT,Nat.reduceEqDiff]
 exact S.gr
def Tryz.F1q:=aj t1<|aj t3<|aj t4<|aj t9<|Z11
def Tryz.FV:=aj t1<|aj t2<|aj t3<|aj t4<|aj t5<|aj t6<|aj Z0<|aj Z2<|aj t9<|aj t10<|aj t33<|aj t38<|aj Z11<|t110
def Tryz.F0y:=aj t1<|aj t3<|aj t4<|aj t9<|aj t33<|aj t38<|aj Z11<|t110
theorem gL{a:Hp}(b:a.t.Sized a.n){c:Int}:bG zB 54 [.bool true,.int .i64 c] a (.tuple #[]):=by
 have S:=Si b
 refine ab (n:=9) (rs:=[]) rfl Tryz.e54 rfl rfl rfl (lbt rfl) ?_
 simp only [BS,LB,ae,Nat.reduceLT,Nat.reduceEqDiff]
 exact S.gr
theorem kind1_ok{a:Hp}(d:a.t.Sized a.n){x:Sec}{k:Int}:bG zB 53 [.agg ⟨encS x⟩,.int .i64 k] a (.bool (decide ((x.1:Int)=k))):=by
 have S:=Si d
 refine ab (n:=9) (rs:=[.tmp 4]) rfl Tryz.e53 rfl rfl rfl (lbt rfl) ?_
 simp only [BS,Nat.reduceLT,encS]
 refine ag (bU (by intro x e;cases e)) S ?_;clear S;intro h f S c;simp only [ah]at S
 simp only [BS,LB,ae,Nat.reduceLT,Nat.reduceEqDiff,F1q,S.ld (b:=f) (o:=0) m0 rfl]
 exact S.gr
theorem eqF_ok {p:Hp} (H:p.t.Sized p.n) {u v:Value} {l:List Sec} {m:List Int} (A:ay p 2 encS u l) (B:ay p 1 (encI .i64) v m) (L:l.length<1000):
 bG zB 52 [u,v,.func (.func 53) #[] #[]] p (.bool (decide (l.map (fun x=>(x.1:Int))=m))):=by
 have S:=Si H
 by_cases a:l.length=m.length
 . have hle:(l.length:Int)=(m.length:Int):=by omega
   refine ab (n:=32) (rs:=[.tmp 6]) rfl Tryz.e52 rfl rfl rfl (lbt rfl) ?_
   simp only [BS,LB,Nat.reduceLT,Nat.reduceEqDiff,FV,A.lenq,B.lenq,hle]
   refine az (fun(i:Nat) q h=>i<=l.length/\St NoM p h [] []/\(∀j (r:j<i) (y:j<l.length) (F:j<m.length),(l[j].1:Int)=m[j])/\q 1=v/\q 2=.func (.func 53) #[] #[]/\q 15=u/\q 16=.int .i64 l.length/\q 17=.int .i64 i) (fun i=>l.length-i) ?_ 0 _ _ ⟨Xd _,S,fun j h=>absurd h (Nat.not_lt_zero _),by simp [aa,cw],by simp [aa,cw],by simp [aa],by simp [aa,a],by simp [aa]⟩
   clear S
   intro i I q h ⟨hi,S,he,r1,r2,r15,r16,r17⟩
   have w:am .i64 ((i:Int)+1)=((i+1:Nat):Int):=by rw [wrap64]<;>omega
   by_cases hlt:i<l.length
   . have s:i<m.length:=by omega
     obtain⟨c,o,t,C⟩:=(A.gr S.gr).ix (kd:=.i64) dk hlt
     obtain⟨M,N,f,d⟩:=(B).ix (kd:=.i64) (aH .i64) s
     simp only [encI]at d
     have O:=S.gr
     simp only [BS,LB,Nat.reduceLT,Nat.reduceEqDiff,FV,r15,r16,r17,an,hlt,t,C]
     refine ag av S ?_;clear S;intro h J S G
     simp only [BS,LB,Nat.reduceLT,Nat.reduceEqDiff,encS]
     refine aw (S.store (i:=0) rfl ?_ ?_ rfl rfl ?_ ono) ?_
     . exact(by exact Tryz.t50.2.1)
     . exact(by intro x e;cases e)
     . exact lbt rfl
     clear S;rintro h ⟨S,K⟩;clear K;simp only [LC,ah,lay,Xv,Xw,Nat.reduceAdd]at S
     simp only [BS,LB,Nat.reduceLT,Nat.reduceEqDiff,FV,r1,r2,f,S.gr.load d,XD,XR,Xn,S.lds (b:=J) (o:=0) (n:=2) m0 (lbt rfl)]
     refine al (kind1_ok S.ok (x:=l[i]) (k:=m[i])) ?_;intro h g;replace S:=S.call g;clear g
     replace S:=S.drop1
     by_cases z:(l[i].1:Int)=m[i]
     . simp only [BS,LB,Nat.reduceLT,Nat.reduceEqDiff,r17,z,w]
       exact I (i+1) _ _ (by omega) ⟨by omega,S,fun j r y F=>by
        rcases Nat.lt_or_eq_of_le (Nat.le_of_lt_succ r)with h|rfl
        . exact he j h y F
        . exact z,by simp [aa,r1],by simp [aa,r2],by simp [aa,r15],by simp [aa,r16],by simp [aa]⟩
     . have D: ¬(l.map (fun x=>(x.1:Int))=m):=fun e=>z (by subst e;rw [XN])
       simp only [BS,LB,ae,Nat.reduceLT,Nat.reduceEqDiff,z,D]
       exact S.gr
   . have D:l.map (fun x=>(x.1:Int))=m:=by
      refine List.ext_getElem (by rw [Xs];exact a) fun j r y=>?_
      rw [XN]
      exact he j (by rw [Xs]at r;omega) (by rw [Xs]at r;exact r) y
     simp only [BS,LB,ae,Nat.reduceLT,Nat.reduceEqDiff,r16,r17,an,hlt,D]
     exact S.gr
 . have hle: ¬((l.length:Int)=(m.length:Int)):=by omega
   have E: ¬(l.map (fun x=>(x.1:Int))=m):=fun e=>a (by rw [<-e,Xs])
   refine ab (n:=32) (rs:=[.tmp 6]) rfl Tryz.e52 rfl rfl rfl (lbt rfl) ?_
   simp only [BS,LB,ae,Nat.reduceLT,Nat.reduceEqDiff,FV,A.lenq,B.lenq,hle,E]
   exact S.gr
theorem is_ok{a:Hp}(j:a.t.Sized a.n){f:Nat}{i v:Value}{l:List Sec}{m:List Int}(R:a.load f 0 1=some [i])(s:SlK a 2 encS i l)(c:ay a 1 (encI .i64) v m)(p:l.length<1000):
 bG zB 51 [v,ptrTo f] a (.bool (decide ((l.take m.length).map (fun x=>(x.1:Int))=m))):=by
 have S:=Si j
 by_cases b:m.length<=l.length
 . have hle:(m.length:Int)<=(l.length:Int):=by omega
   obtain⟨q,k,o⟩:=s.to (kd:=.i64) Tryz.t33.1 Tryz.t50.2.1 dk b
   refine ab (n:=17) (rs:=[.tmp 3]) rfl Tryz.e51 rfl rfl rfl (lbt rfl) ?_
   simp only [BS,LB,Nat.reduceLT,Nat.reduceEqDiff,Option.map_some,Option.map_none,F0y,R,s.sl.lenq,c.lenq,hle,k]
   refine al (eqF_ok S.ok o.sl c (by rw [Xu];omega)) ?_;intro h g;replace S:=S.call g;clear g
   simp only [BS,LB,ae,Nat.reduceLT,Nat.reduceEqDiff]
   exact S.gr
 . have hle: ¬((m.length:Int)<=(l.length:Int)):=by omega
   have d: ¬((l.take m.length).map (fun x=>(x.1:Int))=m):=fun e=>by have:=congrArg List.length e;rw [Xs,Xu]at this;omega
   refine ab (n:=17) (rs:=[.tmp 3]) rfl Tryz.e51 rfl rfl rfl (lbt rfl) ?_
   simp only [BS,LB,ae,Nat.reduceLT,Nat.reduceEqDiff,F0y,R,s.sl.lenq,c.lenq,hle,d]
   exact S.gr
def Tryz.F0z:=aj t1<|aj t2<|aj t3<|aj t4<|aj t5<|aj t6<|aj Z0<|aj t38<|t103
def Tryz.F0A:=aj t1<|aj t2<|aj t3<|aj t4<|aj t5<|aj t6<|aj Z0<|aj t23<|t123
def Tryz.F0B:=aj t1<|aj t3<|aj t9<|aj t58<|aj t119<|aj t128<|Z7
def Tryz.F0C:=aj t1<|aj t3<|aj t5<|aj t9<|aj t119<|aj t128<|Z7
def jd(n k:Nat)(val:Nat->Int):List Value:=((zO k).map fun j=>Value.int .i64 (val j))++XL (n-k) (.int .i64 0)
theorem vS{n k:Nat}{val:Nat->Int}(h:k<=n):(jd n k val).length=n:=by simp [jd];omega
theorem w7{n k:Nat}{val:Nat->Int}(h:k<n):(jd n k val).set k (.int .i64 (val k))=jd n (k+1) val:=by
 unfold jd
 obtain⟨m,a⟩: ∃m,n-k=m+1:=⟨n-k-1,by omega⟩
 rw [a,List.replicate_succ,XG _ _ (by simp),show n-(k+1)=m by omega,XJ,Xx]
 simp
theorem wZ{n:Nat}{val:Nat->Int}:jd n n val=((zO n).map val).flatMap (encI .i64):=by
 unfold jd
 rw [Nat.sub_self,List.replicate_zero,X3,List.flatMap_map]
 induction(zO n)with
 |nil=>rfl
 |cons a l b=>rw [XI,zM,<-b];rfl
theorem AV{M:Nat->Prop}{d hq:Hp}{G:List GL}{g:FuncId}{a c:Array Value}{n:Nat}{val:Nat->Int}(e:Nat->List (Nat×Ob))(S:St M d hq (e 0) G)(s:n<=1000)
 (o: ∀k p h,k<n->St M d h (p::e k) G->Ret zB g (a.toList++c.toList) h fun r j=>r=.int .i64 (val k)/\St M d j (p::e (k+1)) G):
 Ret zB 113 [.int .i64 (n:Nat),.func (.func g) a c] hq fun r j=> ∃b,r=.slice (some ⟨b,0,none⟩) n n/\St M d j ((b,.row (((zO n).map val).flatMap (encI .i64)) 1)::e n) G:=by
 have t:=S.ok
 refine ab (n:=21) (rs:=[.tmp 4]) rfl Tryz.e113 rfl rfl rfl (lbt rfl) ?_
 simp only [BS,LB,Nat.reduceLT,Nat.reduceEqDiff]
 refine ag (j8 (by exact Tryz.t38.1) (by exact XS) (by omega) (by omega)) S ?_;clear S;intro h b S m
 rw [Xz,lE,show XL n (Value.int .i64 0)=jd n 0 val by simp [jd]]at S
 simp only [BS,LB,Nat.reduceLT,Nat.reduceEqDiff,F0z,Xz]
 refine az (fun(k:Nat) f h=>k<=n/\St M d h ((b,.row (jd n k val) 1)::e k) G/\f 1=.func (.func g) a c/\f 5=.slice (some ⟨b,0,none⟩) n n/\f 10=.int .i64 n/\f 11=.int .i64 k) (fun k=>n-k) ?_ 0 _ _ ⟨Xd _,S,by simp [aa,cw],by simp [aa],by simp [aa],by simp [aa]⟩
 clear S
 intro k q f h ⟨hk,S,r1,r5,r10,r11⟩
 have w:am .i64 ((k:Int)+1)=((k+1:Nat):Int):=by rw [wrap64]<;>omega
 by_cases hlt:k<n
 . simp only [BS,LB,Nat.reduceLT,Nat.reduceEqDiff,r1,r5,r10,r11,an,hlt]
   refine step_ret (o k _ _ hlt S) ?_
   rintro _ h ⟨rfl,S⟩
   simp only [BS,LB,Nat.reduceLT,Nat.reduceEqDiff,F0z,fE hlt]
   refine aw (ar S (i:=0) rfl Tryz.t3.2.2.1 cg (by rw [vS hk];exact hlt) ono) ?_
   clear S;rintro h ⟨S,_⟩
   simp only [LC]at S
   rw [w7 hlt]at S
   simp only [BS,LB,Nat.reduceLT,Nat.reduceEqDiff,r11,w]
   exact q (k+1) _ _ (by omega) ⟨by omega,S,by simp [aa,r1],by simp [aa,r5],by simp [aa,r10],by simp [aa]⟩
 . have l:k=n:=by omega
   subst l
   simp only [BS,LB,ae,Nat.reduceLT,Nat.reduceEqDiff,r5,r10,r11,an,hlt]
   rw [wZ]at S
   exact⟨b,rfl,S⟩
theorem As{M:Nat->Prop}{d hq:Hp}{G:List GL}{g:FuncId}{a c:Array Value}{n:Nat}{val:Nat->Int}(e:Nat->List (Nat×Ob))(S:St M d hq (e 0) G)(s:n<=1000)
 (o: ∀k p h,k<n->St M d h (p::e k) G->Ret zB g (a.toList++c.toList) h fun r j=>r=.int .i64 (val k)/\St M d j (p::e (k+1)) G):
 Ret zB 114 [.int .i64 (n:Nat),.func (.func g) a c] hq fun r j=> ∃b,r=.slice (some ⟨b,0,none⟩) n n/\St M d j ((b,.row (((zO n).map val).flatMap (encI .i64)) 1)::e n) G:=by
 have t:=S.ok
 refine ab (n:=21) (rs:=[.tmp 4]) rfl Tryz.e114 rfl rfl rfl (lbt rfl) ?_
 simp only [BS,LB,Nat.reduceLT,Nat.reduceEqDiff]
 refine ag (j8 (by exact Tryz.t23.1) (by exact XX) (by omega) (by omega)) S ?_;clear S;intro h b S m
 rw [Xz,lE,show XL n (Value.int .i64 0)=jd n 0 val by simp [jd]]at S
 simp only [BS,LB,Nat.reduceLT,Nat.reduceEqDiff,F0A,Xz]
 refine az (fun(k:Nat) f h=>k<=n/\St M d h ((b,.row (jd n k val) 1)::e k) G/\f 1=.func (.func g) a c/\f 5=.slice (some ⟨b,0,none⟩) n n/\f 10=.int .i64 n/\f 11=.int .i64 k) (fun k=>n-k) ?_ 0 _ _ ⟨Xd _,S,by simp [aa,cw],by simp [aa],by simp [aa],by simp [aa]⟩
 clear S
 intro k q f h ⟨hk,S,r1,r5,r10,r11⟩
 have w:am .i64 ((k:Int)+1)=((k+1:Nat):Int):=by rw [wrap64]<;>omega
 by_cases hlt:k<n
 . simp only [BS,LB,Nat.reduceLT,Nat.reduceEqDiff,r1,r5,r10,r11,an,hlt]
   refine step_ret (o k _ _ hlt S) ?_
   rintro _ h ⟨rfl,S⟩
   simp only [BS,LB,Nat.reduceLT,Nat.reduceEqDiff,F0A,fE hlt]
   refine aw (ar S (i:=0) rfl Tryz.t2.2.2.1 cg (by rw [vS hk];exact hlt) ono) ?_
   clear S;rintro h ⟨S,_⟩
   simp only [LC]at S
   rw [w7 hlt]at S
   simp only [BS,LB,Nat.reduceLT,Nat.reduceEqDiff,r11,w]
   exact q (k+1) _ _ (by omega) ⟨by omega,S,by simp [aa,r1],by simp [aa,r5],by simp [aa,r10],by simp [aa]⟩
 . have l:k=n:=by omega
   subst l
   simp only [BS,LB,ae,Nat.reduceLT,Nat.reduceEqDiff,r5,r10,r11,an,hlt]
   rw [wZ]at S
   exact⟨b,rfl,S⟩
theorem ye{M:Nat->Prop}{b hq:Hp}{L:List (Nat×Ob)}{G:List GL}(S:St M b hq L G){c:Nat}:
 Ret zB 108 [ptrTo c] hq fun r f=> ∃a,r=.func (.func 164) #[] #[ptrTo a]/\St M b f ((a,.row [ptrTo c] 1)::L) G:=by
 have g:=S.ok
 refine ab (n:=4) (rs:=[.tmp 2]) rfl Tryz.e108 rfl rfl rfl (lbt rfl) ?_
 simp only [BS,Nat.reduceLT]
 refine ag (bU (by intro x e;cases e)) S ?_;clear S;intro h a S d;simp only [ah]at S
 simp only [BS,LB,ae,Nat.reduceLT,Nat.reduceEqDiff]
 exact⟨_,rfl,S⟩
theorem kP{M:Nat->Prop}{d hq:Hp}{L:List (Nat×Ob)}{G:List GL}(S:St M d hq L G){e c j a:Nat}{s:Bs}(f:hq.load e 0 1=some [ptrTo c])(g:L[j]? =some (c,.row (rdC s a (.pointer none)) 1))(i:a+4<=s.length)(l:s.length<=1000000):
 Ret zB 164 [ptrTo e] hq fun r m=>r=.int .i64 (bz ((s.drop a).take 4):Nat)/\St M d m (L.set j (c,.row (rdC s (a+4) (.pointer none)) 1)) G:=by
 have q:=S.ok
 refine ab (n:=5) (rs:=[.tmp 1]) rfl Tryz.e164 rfl rfl rfl (lbt rfl) ?_
 simp only [BS,LB,Nat.reduceLT,Nat.reduceEqDiff,F0B,f]
 refine step_ret (xG (bad:=false) S g rfl (by omega) l) ?_
 rintro _ h ⟨rfl,o,b,S⟩
 rw [cV i]at b S⊢
 obtain rfl:o=.pointer none:=b.1
 simp only []at S⊢
 have p:bz ((s.drop a).take 4)<4294967296:=pU (k:=4) (by simp;omega)
 generalize bz ((s.drop a).take 4)=x at p
 have w:am .i64 (x:Int)=(x:Int):=by rw [wrap64]<;>omega
 simp only [BS,LB,ck,aF,cq,ae,Nat.reduceLT,Nat.reduceEqDiff,F0B,w]
 exact S
theorem cells1_ok{M:Nat->Prop}{d hq:Hp}{L:List (Nat×Ob)}{G:List GL}(S:St M d hq L G){e c j a:Nat}{s:Bs}(f:hq.load e 0 1=some [ptrTo c])(g:L[j]? =some (c,.row (rdC s a (.pointer none)) 1))(i:a+1<=s.length)(l:s.length<=1000000):
 Ret zB 117 [ptrTo e] hq fun r m=>r=.int .i64 (bz ((s.drop a).take 1):Nat)/\St M d m (L.set j (c,.row (rdC s (a+1) (.pointer none)) 1)) G:=by
 have q:=S.ok
 refine ab (n:=5) (rs:=[.tmp 1]) rfl Tryz.e117 rfl rfl rfl (lbt rfl) ?_
 simp only [BS,LB,Nat.reduceLT,Nat.reduceEqDiff,F0C,f]
 refine step_ret (wP (bad:=false) S g rfl (by omega) l) ?_
 rintro _ h ⟨rfl,o,b,S⟩
 rw [cV i]at b S⊢
 obtain rfl:o=.pointer none:=b.1
 simp only []at S⊢
 have p:bz ((s.drop a).take 1)<256:=pU (k:=1) (by simp;omega)
 generalize bz ((s.drop a).take 1)=x at p
 have w:am .i64 (x:Int)=(x:Int):=by rw [wrap64]<;>omega
 simp only [BS,LB,ck,aF,cq,ae,Nat.reduceLT,Nat.reduceEqDiff,F0C,w]
 exact S
def Tryz.FM:=aj t1<|aj t2<|aj t3<|aj Z4<|t103
def Tryz.F0D:=aj t1<|aj t2<|aj t3<|aj t4<|aj t5<|aj t6<|aj Z0<|aj t35<|aj Z4<|t185
def g4(s:Bs)(a:Nat):Nat:=bz ((s.drop a).take 4)
theorem graph1_ok{M:Nat->Prop}{p hq:Hp}{L:List (Nat×Ob)}{G:List GL}(S:St M p hq L G){d k f j a:Nat}{s:Bs}(c:hq.load d 0 1=some [.func (.func 164) #[] #[ptrTo k]])(g:hq.load k 0 1=some [ptrTo f])(b:d≠f)(l:k≠f)(t:L[j]? =some (f,.row (rdC s a (.pointer none)) 1))(D:a+12<=s.length)(m:s.length<=1000000):
 Ret zB 111 [ptrTo d] hq fun r A=>r=.agg ⟨[.int .i64 (g4 s a:Nat),.int .i64 (g4 s (a+4):Nat),.int .i64 (g4 s (a+8):Nat)]⟩/\St M p A (L.set j (f,.row (rdC s (a+12) (.pointer none)) 1)) G:=by
 have u:=S.ok
 have B:=S
 replace S:=St.init1 S.ok (S.own _ (XH t)).2
 have E:=bJ u c
 have F:=bJ u g
 refine ab (n:=9) (rs:=[.cell 1 90]) rfl Tryz.e111 rfl rfl rfl (lbt rfl) ?_
 simp only [BS,FM]
 refine ag av S ?_;clear S;intro h H S v
 simp only [BS]
 refine au (ax rfl) (q:=0) (ps:=[(3,4),(1,4),(1,2)]) (by kernel_rfl) ?_
 simp only [BS,LB,cls,Nat.reduceLT,Nat.reduceEqDiff,Nat.reducePow,Nat.reduceDiv,Nat.reduceMod,Nat.reduceLeDiff,FM,S.old c b]
 refine ce (kP (St.init1 S.ok (S.own _ m1).2) (j:=0) (S.old g l) rfl (by omega) m) ?_
 rintro _ h ⟨rfl,T⟩
 simp only [Xr]at T
 have w:=gp (T.fr.get d (bJ S.ok (S.old c b)) b)
 replace S:=S.call1 (i:=1) rfl T.fr (T.own _ m0).2
 simp only [LC,zM,Xa]at S
 clear T
 simp only [BS,LB,cls,Nat.reduceLT,Nat.reduceEqDiff,Nat.reduceAdd,Nat.reducePow,Nat.reduceDiv,Nat.reduceMod,Nat.reduceLeDiff,FM,S.old c b]
 refine ce (kP (St.init1 S.ok (S.own _ m1).2) (j:=0) (S.old g l) rfl (by omega) m) ?_
 rintro _ h ⟨rfl,T⟩
 simp only [Xr]at T
 have y:=gp (T.fr.get d (bJ S.ok (S.old c b)) b)
 replace S:=S.call1 (i:=1) rfl T.fr (T.own _ m0).2
 simp only [LC,zM,Xa]at S
 clear T
 simp only [BS,LB,cls,Nat.reduceLT,Nat.reduceEqDiff,Nat.reduceAdd,Nat.reducePow,Nat.reduceDiv,Nat.reduceMod,Nat.reduceLeDiff,FM,S.old c b]
 refine ce (kP (St.init1 S.ok (S.own _ m1).2) (j:=0) (S.old g l) rfl (by omega) m) ?_
 rintro _ h ⟨rfl,T⟩
 simp only [Xr]at T
 have z:=gp (T.fr.get d (bJ S.ok (S.old c b)) b)
 replace S:=S.call1 (i:=1) rfl T.fr (T.own _ m0).2
 simp only [LC,zM,Xa]at S
 clear T
 simp only [BS,LB,cls,Nat.reduceLT,Nat.reduceEqDiff,Nat.reduceAdd,Nat.reducePow,Nat.reduceDiv,Nat.reduceMod,Nat.reduceLeDiff,FM]
 refine d9 (S.store (i:=0) rfl ?_ ?_ rfl rfl ?_ ono) ?_
 . exact(by exact Tryz.t90.2.1)
 . exact(by intro x e;cases e)
 . exact lbt rfl
 clear S;rintro h ⟨S,C⟩;clear C;simp only [LC,ah,lay,Xv,Xw,Nat.reduceAdd]at S
 simp only [BS,ae,Nat.reduceAdd]
 refine⟨by simp only [aX,bo,aS,bD,aV,ne_eq,not_false_eq_true,bC,bR,aZ,aW,bZ,cu,aT,Nat.reduceLT,Nat.reduceEqDiff,reduceIte,Xg,cw,ac,aD w,aQ w,aD y,aQ y,aD z,aQ z],?_⟩
 refine(gf (by decide) (by simp only [aT,ac,Nat.reduceEqDiff,reduceIte];exact gu Tryz.t90.1 Tryz.t90.2.1 (S.lds (o:=0) (n:=3) m0 (lbt rfl)))).2 ?_
 refine ib.2 ⟨rfl,?_⟩
 exact B.call1 t S.drop1.fr (S.own _ m1).2
def kT(n k:Nat)(val:Nat->Arc):List Value:=(((zO k).map val).flatMap cD)++XL (3*(n-k)) (.int .i64 0)
theorem CR{n k:Nat}{val:Nat->Arc}(h:k<=n):(kT n k val).length=3*n:=by
 unfold kT;rw [Xb,aI eo,Xs,List.length_range,List.length_replicate];omega
theorem B6{n k:Nat}{val:Nat->Arc}(h:k<n):lay (kT n k val) (k*3) (cD (val k))=kT n (k+1) val:=by
 unfold kT
 obtain⟨m,b⟩: ∃m,n-k=m+1:=⟨n-k-1,by omega⟩
 have a:(((zO k).map val).flatMap cD).length=k*3:=by rw [aI eo,Xs,List.length_range]
 have c:((zO (k+1)).map val).flatMap cD=((zO k).map val).flatMap cD++cD (val k):=by rw [XJ,Xx,Xt];simp
 rw [b,show n-(k+1)=m by omega,c]
 generalize((zO k).map val).flatMap cD=A at a
 unfold lay
 rw [List.take_left' a,eo,<-XB,List.drop_left' a,List.drop_replicate,show 3*(m+1)-3=3*m by omega]
theorem repL_3{z:Value}(n:Nat):aU [z,z,z] n=XL (3*n) z:=by
 induction n with
 |zero=>rfl
 |succ n a=>rw [aU,a,show 3*(n+1)=3*n+1+1+1 by omega];rfl
theorem someA_ok{M:Nat->Prop}{d hq:Hp}{G:List GL}{g:FuncId}{a c:Array Value}{n:Nat}{val:Nat->Arc}(f:Nat->List (Nat×Ob))(S:St M d hq (f 0) G)(t:n<=1000)
 (q: ∀k p h,k<n->St M d h (p::f k) G->Ret zB g (a.toList++c.toList) h fun r l=>r=.agg ⟨cD (val k)⟩/\St M d l (p::f (k+1)) G):
 Ret zB 110 [.int .i64 (n:Nat),.func (.func g) a c] hq fun r l=> ∃b,r=.slice (some ⟨b,0,none⟩) n n/\St M d l ((b,.row (((zO n).map val).flatMap cD) 1)::f n) G:=by
 have u:=S.ok
 refine ab (n:=21) (rs:=[.tmp 4]) rfl Tryz.e110 rfl rfl rfl (lbt rfl) ?_
 simp only [BS,LB,Nat.reduceLT,Nat.reduceEqDiff]
 refine ag (j8 (by exact Tryz.t35.1) (by exact Tryz.e90E) (by omega) (by omega)) S ?_;clear S;intro h b S o
 simp only [BS,LB,Nat.reduceLT,Nat.reduceEqDiff,F0D,Xz]
 rw [show aU [Value.int .i64 0,.int .i64 0,.int .i64 0] (n:Int).toNat=kT n 0 val by rw [Xz,repL_3];simp [kT]]at S
 refine az (fun(k:Nat) j h=>k<=n/\St M d h ((b,.row (kT n k val) 1)::f k) G/\j 1=.func (.func g) a c/\j 5=.slice (some ⟨b,0,none⟩) n n/\j 10=.int .i64 n/\j 11=.int .i64 k) (fun k=>n-k) ?_ 0 _ _ ⟨Xd _,S,by simp [aa,cw],by simp [aa],by simp [aa],by simp [aa]⟩
 clear S
 intro k s j h ⟨hk,S,r1,r5,r10,r11⟩
 have w:am .i64 ((k:Int)+1)=((k+1:Nat):Int):=by rw [wrap64]<;>omega
 by_cases hlt:k<n
 . simp only [BS,LB,Nat.reduceLT,Nat.reduceEqDiff,r1,r5,r10,r11,an,hlt]
   refine step_ret (q k _ _ hlt S) ?_
   rintro _ h ⟨rfl,S⟩
   simp only [BS,LB,Nat.reduceLT,Nat.reduceEqDiff,F0D,fE hlt]
   refine aw (S.store (i:=0) rfl Tryz.t90.2.1 (by intro x e;cases e) rfl rfl (by rw [CR hk];show k*3+3<=_;omega) ono) ?_
   clear S;rintro h ⟨S,_⟩
   simp only [LC,ah]at S
   rw [B6 hlt]at S
   simp only [BS,LB,Nat.reduceLT,Nat.reduceEqDiff,r11,w]
   exact s (k+1) _ _ (by omega) ⟨by omega,S,by simp [aa,r1],by simp [aa,r5],by simp [aa,r10],by simp [aa]⟩
 . have m:k=n:=by omega
   subst m
   simp only [BS,LB,ae,Nat.reduceLT,Nat.reduceEqDiff,r5,r10,r11,an,hlt]
   rw [show kT k k val=((zO k).map val).flatMap cD by simp [kT]]at S
   exact⟨b,rfl,S⟩
def Tryz.Fa:=aj t1<|aj t2<|aj t3<|aj t4<|aj t5<|aj t6<|aj Z0<|aj Z2<|aj t9<|aj t10<|aj t11<|aj t12<|aj Z6<|aj Z10<|aj t15<|aj t17<|aj t23<|aj t29<|aj t35<|aj Z1<|aj t67<|aj t69<|aj Z4<|aj t103<|aj t119<|aj t128<|aj t162<|aj Z3<|aj t185<|aj Z7<|Z15
theorem jN{a:Type}(f:Bs->a)(w k:Nat)(s:Bs):d7 f w k s=(zO k).map fun j=>f ((s.drop (w*j)).take w):=by
 refine List.ext_getElem? fun i=>?_
 by_cases h:i<k
 . rw [numsD_at f w s h,List.getElem?_map,Ya h];rfl
 . rw [XO (by rw [yC];omega),XO (by simp;omega)]
def xAt(s:Bs)(j:Nat):Int:=la ((s.drop (8+16*j)).take 8)
def yAt(s:Bs)(j:Nat):Int:=la ((s.drop (8+16*j+8)).take 8)
def aAt(s:Bs)(N j:Nat):Arc:=⟨g4 s (8+16*N+12*j),g4 s (8+16*N+12*j+4),g4 s (8+16*N+12*j+8)⟩
theorem graB_rd{a:Gra}(h:fo a):(fj a).length=8+16*a.nodes+12*a.arcs.length/\g4 (fj a) 0=a.nodes/\g4 (fj a) 4=a.arcs.length/\a.X=(zO a.nodes).map (xAt (fj a))/\a.Y=(zO a.nodes).map (yAt (fj a))/\a.arcs=(zO a.arcs.length).map (aAt (fj a) a.nodes):=by
 have i:=h.n2
 have m2:=h.many
 obtain⟨B,e⟩:=graG_graB h.lX h.lY ⟨h.n1,h.cX,h.cY,h.arcs⟩ (by omega) (by omega)
 generalize fj a=s at B e
 have b:jC s=a.nodes:=congrArg Gra.nodes e
 have c:d7 arcG 12 (rX s) (s.drop (8+16*jC s))=a.arcs:=congrArg Gra.arcs e
 have d:rX s=a.arcs.length:=by have:=congrArg List.length c;rwa [yC]at this
 have f:(d7 xyG 16 (jC s) (s.drop 8)).map Prod.fst=a.X:=congrArg Gra.X e
 have g:(d7 xyG 16 (jC s) (s.drop 8)).map Prod.snd=a.Y:=congrArg Gra.Y e
 have l:=B.len
 rw [b,d]at l
 refine⟨l,b,d,?_,?_,?_⟩
 . rw [<-f,b,jN,XQ]
   refine Xj fun j _=>?_
   simp only [XU,xyG,xAt,XB,XT]
   rfl
 . rw [<-g,b,jN,XQ]
   refine Xj fun j _=>?_
   simp only [XU,xyG,yAt,X7,XB,XT]
   rfl
 . rw [<-d,<-c,d,b,jN]
   refine Xj fun j _=>?_
   simp only [arcG,aAt,g4,X7,XB,XT]
   rfl
theorem St.ne{M:Nat->Prop}{d h:Hp}{L:List (Nat×Ob)}{G:List GL}(S:St M d h L G){b c i j:Nat}{o o':Ob}(e:L[i]? =some (b,o))(f:L[j]? =some (c,o'))(a:i≠j):b≠c:=by
 rintro rfl
 obtain⟨l,g⟩:=List.getElem?_eq_some_iff.1 (jM (G:=G) e)
 obtain⟨m,k⟩:=List.getElem?_eq_some_iff.1 (jM (G:=G) f)
 exact a ((List.getElem_inj S.apart).1 (g.trans k.symm))
theorem note_gl{M:Nat->Prop}{d h:Hp}{L:List (Nat×Ob)}{G:List GL}(S:St M d h L G){v:Value}{k:Nat}{vs:List Value}{b:Nat}{o:Ob}(a:(v,k,vs)∈G)(f:(b,o)∈L):sI v=none\/ ∃c,sI v=some (.blk c)/\c≠b:=by
 rcases(S.gown _ a).1 with⟨e,_⟩|⟨c,n,e,_,_⟩
 . simp only []at e;subst e;exact .inl rfl
 . simp only []at e
   refine .inr ⟨c,by rw [e];rfl,fun g=>(S.gblk a (c:=c) (by rw [e];rfl)).2 ?_⟩
   rw [g];exact List.mem_map.2 ⟨_,f,rfl⟩
theorem zA{G:Hp}(ok:G.t.Sized G.n){d:Gra}(f:fo d):Ret zB 55 [sv (fj d)] G fun r U=>Gr G U/\ ∃m,G.n<=m/\bW U m r d:=by
 obtain⟨el,e0,e4,eX,eY,eA⟩:=graB_rd f
 have ad:=f.n2
 have af:=f.many
 generalize fj d=s at*
 have I:s.length<=1000000:=by omega
 have S:=Si ok
 have c8:(8:Int)<=(s.length:Int):=by omega
 refine ab (n:=77) (rs:=[.tmp 2]) rfl Tryz.e55 rfl rfl rfl (lbt rfl) ?_
 simp only [BS,LB,Nat.reduceLT,Nat.reduceEqDiff,Fa,fV,c8]
 refine al (gL S.ok) ?_;intro h g;replace S:=S.call g;clear g
 simp only [BS,LB,Nat.reduceLT,Nat.reduceEqDiff,qq (l:=s)]
 refine step_ret (pJ S) ?_
 rintro _ h ⟨t,rfl,S⟩
 simp only [BS,LB,Nat.reduceLT,Nat.reduceEqDiff]
 refine step_ret (ye S) ?_
 rintro _ h ⟨Q,rfl,S⟩
 simp only [BS,Fa]
 refine ag av S ?_;clear S;intro h J S Y
 simp only [BS,LB,Nat.reduceLT,Nat.reduceEqDiff]
 refine aw (ar S (i:=0) rfl ?_ ?_ ?_ ono) ?_
 . exact(by simp only [Fa])
 . exact(by exact ic)
 . exact Xo (lbt rfl)
 clear S;rintro h ⟨S,z⟩;clear z;simp only [LC,ah,lay,Xv,Xw,Nat.reduceAdd]at S
 simp only [BS]
 refine au (ax rfl) (q:=0) (ps:=[(1,2)]) (by kernel_rfl) ?_
 simp only [BS,LB,cls,Nat.reduceLT,Nat.reduceEqDiff,Nat.reducePow,Nat.reduceDiv,Nat.reduceMod,Nat.reduceLeDiff,Fa,S.ld (b:=J) (o:=0) m0 rfl]
 refine ce (kP (s:=s) (a:=0) (St.init1 S.ok (S.own (t,.row (rdC s 0 (.pointer none)) 1) m2).2) (j:=0) (S.ld m1 rfl) rfl (by omega) I) ?_
 rintro _ h ⟨rfl,T⟩
 simp only [Xr]at T
 have A:=fI S (i:=0) (j:=2) rfl rfl (by decide) T.fr
 replace S:=S.call1 (i:=2) rfl T.fr (T.own _ m0).2
 simp only [LC,zM,Xa]at S
 clear T
 simp only [BS,LB,cls,Nat.reduceLT,Nat.reduceEqDiff,Nat.reduceAdd,Nat.reducePow,Nat.reduceDiv,Nat.reduceMod,Nat.reduceLeDiff,Fa,S.ld (b:=J) (o:=0) m0 rfl]
 refine ce (kP (s:=s) (a:=0+4) (St.init1 S.ok (S.own (t,.row (rdC s (0+4) (.pointer none)) 1) m2).2) (j:=0) (S.ld m1 rfl) rfl (by omega) I) ?_
 rintro _ h ⟨rfl,T⟩
 simp only [Xr]at T
 have B:=fI S (i:=0) (j:=2) rfl rfl (by decide) T.fr
 replace S:=S.call1 (i:=2) rfl T.fr (T.own _ m0).2
 simp only [LC,zM,Xa]at S
 clear T
 rw [show bz ((s.drop 0).take 4)=d.nodes from e0,show bz ((s.drop (0+4)).take 4)=d.arcs.length from e4]
 simp only [BS,LB,cls,Nat.reduceLT,Nat.reduceEqDiff,Nat.reduceAdd,Nat.reducePow,Nat.reduceDiv,Nat.reduceMod,Nat.reduceLeDiff]
 refine⟨by simp only [aX,bo,aS,bD,aV,ne_eq,not_false_eq_true,bC,bR,aZ,aW,bZ,cu,aT,Nat.reduceLT,Nat.reduceEqDiff,reduceIte,Xg,ac,aD A,aQ A,aD B,aQ B],?_⟩
 clear A B
 have c1:(d.nodes:Int)<=16777216:=by omega
 have c2:(d.arcs.length:Int)<=67108864:=by omega
 have w1:am .i64 (16*(d.nodes:Int))=((16*d.nodes:Nat):Int):=by rw [wrap64]<;>omega
 have w2:am .i64 (8+((16*d.nodes:Nat):Int))=((8+16*d.nodes:Nat):Int):=by rw [wrap64]<;>omega
 have w3:am .i64 (12*(d.arcs.length:Int))=((12*d.arcs.length:Nat):Int):=by rw [wrap64]<;>omega
 have w4:am .i64 (((8+16*d.nodes:Nat):Int)+((12*d.arcs.length:Nat):Int))=((8+16*d.nodes+12*d.arcs.length:Nat):Int):=by rw [wrap64]<;>omega
 simp only [BS,LB,Nat.reduceLT,Nat.reduceEqDiff,Fa,fV,el,c1,c2,w1,w2,w3,w4]
 refine al (gL S.ok) ?_;intro h g;replace S:=S.call g;clear g
 simp only [BS,LB,Nat.reduceLT,Nat.reduceEqDiff,Nat.reduceAdd,Fa]
 refine ag av S ?_;clear S;intro h C S Z
 simp only [BS,LB,Nat.reduceLT,Nat.reduceEqDiff]
 refine aw (S.store (i:=0) rfl ?_ ?_ rfl rfl ?_ ono) ?_
 . exact(by exact Tryz.t7.2.1)
 . exact(by intro x e;cases e)
 . exact lbt rfl
 clear S;rintro h ⟨S,z⟩;clear z;simp only [LC,ah,lay,Xv,Xw,Nat.reduceAdd]at S
 simp only [BS,LB,Nat.reduceLT,Nat.reduceEqDiff]
 replace S:=(S.nilG (k:=1)).nilG (k:=1)
 refine az (fun(k:Nat) D h=>k<=d.nodes/\ ∃E F:Value,St NoM G h [(C,.row [.int .i64 d.nodes,E,F,.slice none 0 0] 1),(J,.row [.func (.func 164) #[] #[ptrTo Q]] 1),(Q,.row [ptrTo t] 1),(t,.row (rdC s (8+16*k) (.pointer none)) 1)] [(E,1,ints ((zO k).map (xAt s))),(F,1,ints ((zO k).map (yAt s)))]/\
  D 3=ptrTo t/\D 4=ptrTo J/\D 6=.int .i64 d.arcs.length/\D 7=ptrTo C/\D 42=.int .i64 d.nodes/\D 43=.int .i64 k) (fun k=>d.nodes-k) ?_ 0 _ _ ⟨Xd _,_,_,S,by simp [aa,ac],by simp [aa,ac],by simp [aa],by simp [aa,ac],by simp [aa],by simp [aa]⟩
 clear S
 intro k ih D h ⟨hk,E,F,S,r3,r4,r6,r7,r42,r43⟩
 have w:am .i64 ((k:Int)+1)=((k+1:Nat):Int):=by rw [wrap64]<;>omega
 have fX:Fl E:=(S.gown _ m0).1.fl
 have fY:Fl F:=(S.gown _ m1).1.fl
 by_cases hlt:k<d.nodes
 . simp only [BS,LB,Nat.reduceLT,r42,r43,an,hlt]
   have K:=note_gl S m0 m0
   refine au (ax rfl) (q:=1040) (ps:=[(7,9),(5,7),(3,7),(1,3)]) (by kernel_rfl) ?_
   simp only [BS,LB,cls,Nat.reduceLT,Nat.reduceEqDiff,Nat.reduceAdd,Nat.reducePow,Nat.reduceDiv,Nat.reduceMod,Nat.reduceLeDiff,Fa,r3,r7,S.ld (b:=C) (o:=1) m0 rfl]
   refine ce (uh (bad:=false) (s:=s) (a:=8+16*k) (St.init1 S.ok (S.own (t,.row (rdC s (8+16*k) (.pointer none)) 1) m3).2) (i:=0) rfl rfl (by omega) I) ?_
   rintro _ h ⟨rfl,V,u,T⟩
   rw [cV (by omega)]at u T⊢
   obtain rfl:V=.pointer none:=u.1
   simp only [Xr]at T
   have A:=fI S (i:=0) (j:=3) rfl rfl (by decide) T.fr
   replace S:=S.call1 (i:=3) rfl T.fr (T.own _ m0).2
   simp only [LC,zM,Xa]at S
   clear T
   simp only [BS,LB,cls,Nat.reduceLT,Nat.reduceEqDiff,Nat.reduceAdd,Nat.reducePow,Nat.reduceDiv,Nat.reduceMod,Nat.reduceLeDiff]
   refine ec (bj (by exact Tryz.t23.1) (by exact XX) (by decide) (by rfl)) S ?_;clear S;intro h L S M N;simp only [LC,aU,bA,ah,Nat.reduceMul,Nat.reduceAdd,Xk,Xi,Xf,Xm]at S
   simp only [BS,LB,cls,Nat.reduceLT,Nat.reduceEqDiff,Nat.reduceAdd,Nat.reducePow,Nat.reduceDiv,Nat.reduceMod,Nat.reduceLeDiff]
   have y:aA h 1 (.slice (some ⟨L,0,none⟩) 1 1)=some (1,ints [xAt s k]):=by simp only [aA];rw [S.lds (b:=L) (o:=0) (n:=1*1) m0 (lbt rfl)];rfl
   replace S:=S.drop1
   refine jx (S.grow (j:=0) (m:=1) (new:=ints [xAt s k]) rfl Tryz.t23.1 XX (by decide) Tryz.t23.2.2.2.2.2 y rfl (by decide) rfl (by rw [bQ,bQ];simp;omega)) ?_
   clear S y
   rintro h O S
   simp only [LC]at S
   rw [<-gM,show(zO k).map (xAt s)++[xAt s k]=(zO (k+1)).map (xAt s) by rw [XJ,Xx];rfl]at S
   simp only [BS,LB,cls,Nat.reduceLT,Nat.reduceEqDiff,Nat.reduceAdd,Nat.reducePow,Nat.reduceDiv,Nat.reduceMod,Nat.reduceLeDiff,Fa,r3,r7,S.ld (b:=C) (o:=2) m0 rfl]
   refine ce (uh (bad:=false) (s:=s) (a:=8+16*k+8) (St.init1 S.ok (S.own (t,.row (rdC s (8+16*k+8) (.pointer none)) 1) m3).2) (i:=0) rfl rfl (by omega) I) ?_
   rintro _ h ⟨rfl,V,u,T⟩
   rw [cV (by omega)]at u T⊢
   obtain rfl:V=.pointer none:=u.1
   simp only [Xr]at T
   have B:=fI S (i:=0) (j:=3) rfl rfl (by decide) T.fr
   replace S:=S.call1 (i:=3) rfl T.fr (T.own _ m0).2
   simp only [LC,zM,Xa]at S
   clear T
   simp only [BS,LB,cls,Nat.reduceLT,Nat.reduceEqDiff,Nat.reduceAdd,Nat.reducePow,Nat.reduceDiv,Nat.reduceMod,Nat.reduceLeDiff]
   refine ec (bj (by exact Tryz.t23.1) (by exact XX) (by decide) (by rfl)) S ?_;clear S;intro h L S M N;simp only [LC,aU,bA,ah,Nat.reduceMul,Nat.reduceAdd,Xk,Xi,Xf,Xm]at S
   simp only [BS,LB,cls,Nat.reduceLT,Nat.reduceEqDiff,Nat.reduceAdd,Nat.reducePow,Nat.reduceDiv,Nat.reduceMod,Nat.reduceLeDiff]
   have y:aA h 1 (.slice (some ⟨L,0,none⟩) 1 1)=some (1,ints [yAt s k]):=by simp only [aA];rw [S.lds (b:=L) (o:=0) (n:=1*1) m0 (lbt rfl)];rfl
   replace S:=S.drop1
   refine jx (S.grow (j:=1) (m:=1) (new:=ints [yAt s k]) rfl Tryz.t23.1 XX (by decide) Tryz.t23.2.2.2.2.2 y rfl (by decide) rfl (by rw [bQ,bQ];simp;omega)) ?_
   clear S y
   rintro h P S
   simp only [LC]at S
   rw [<-gM,show(zO k).map (yAt s)++[yAt s k]=(zO (k+1)).map (yAt s) by rw [XJ,Xx];rfl]at S
   have ai:Fl O:=(S.gown _ m0).1.fl
   have ak:Fl P:=(S.gown _ m1).1.fl
   rw [show 8+16*k+8+8=8+16*(k+1) by omega]at S
   simp only [BS,LB,cls,Nat.reduceLT,Nat.reduceEqDiff,Nat.reduceAdd,Nat.reducePow,Nat.reduceDiv,Nat.reduceMod,Nat.reduceLeDiff,Fa,r7]
   refine d9 (ar S (i:=0) rfl ?_ ?_ ?_ ono) ?_
   . exact(by simp only [Fa])
   . exact(by assumption)
   . exact Xo (lbt rfl)
   clear S;rintro h ⟨S,z⟩;clear z;simp only [LC,ah,lay,Xv,Xw,Nat.reduceAdd]at S
   simp only [BS,LB,cls,Nat.reduceLT,Nat.reduceEqDiff,Nat.reduceAdd,Nat.reducePow,Nat.reduceDiv,Nat.reduceMod,Nat.reduceLeDiff,Fa,r7]
   refine d9 (ar S (i:=0) rfl ?_ ?_ ?_ ono) ?_
   . exact(by simp only [Fa])
   . exact(by assumption)
   . exact Xo (lbt rfl)
   clear S;rintro h ⟨S,z⟩;clear z;simp only [LC,ah,lay,Xv,Xw,Nat.reduceAdd]at S
   simp only [BS,LB,Nat.reduceLT,Nat.reduceEqDiff,Nat.reduceAdd,r43]
   refine⟨?_,?_⟩
   . rcases K with K|⟨c,K,nc⟩
     . simp only [aX,bo,aS,bD,aV,ne_eq,not_false_eq_true,bC,bR,aZ,aW,bZ,cu,aT,Nat.reduceLT,Nat.reduceEqDiff,reduceIte,Xg,r3,r7,ac,aD A,aQ A,aD B,aQ B,rz,K,px,Ak,pair_n,pair_x]
     . simp only [aX,bo,aS,bD,aV,ne_eq,not_false_eq_true,bC,bR,aZ,aW,bZ,cu,aT,Nat.reduceLT,Nat.reduceEqDiff,reduceIte,Xg,r3,r7,ac,aD A,aQ A,aD B,aQ B,rz,K,ja nc]
   simp only [w]
   exact ih (k+1) _ _ (by omega) ⟨by omega,O,P,S,by simp [aa,r3],by simp [aa,r4],by simp [aa,r6],by simp [aa,r7],by simp [aa,r42],by simp [aa]⟩
 . have W:k=d.nodes:=by omega
   subst W
   rw [<-eX,<-eY]at S
   simp only [BS,LB,Nat.reduceLT,Nat.reduceEqDiff,r4,r6,r42,r43,an,hlt]
   have ha: ∀k,(t,Ob.row (rdC s (8+16*d.nodes+12*k) (.pointer none)) 1)=(t,Ob.row (rdC s (8+16*d.nodes+12*k) (.pointer none)) 1):=fun _=>rfl
   refine step_ret (someA_ok (val:=aAt s d.nodes) (fun k=>[(C,.row [.int .i64 d.nodes,E,F,.slice none 0 0] 1),(J,.row [.func (.func 164) #[] #[ptrTo Q]] 1),(Q,.row [ptrTo t] 1),(t,.row (rdC s (8+16*d.nodes+12*k) (.pointer none)) 1)]) S (n:=d.arcs.length) (by omega) ?_) ?_
   . clear S
     intro k p h hk S
     refine iS (graph1_ok S (j:=4) (s:=s) (a:=8+16*d.nodes+12*k) (S.ld m2 rfl) (S.ld m3 rfl) (S.ne (i:=2) (j:=4) rfl rfl (by decide)) (S.ne (i:=3) (j:=4) rfl rfl (by decide)) rfl (by omega) I) ?_
     rintro _ U ⟨rfl,S⟩
     exact⟨rfl,S⟩
   rintro _ h ⟨R,rfl,S⟩
   rw [<-eA]at S
   simp only [BS,LB,Nat.reduceLT,Nat.reduceEqDiff,Fa,r7]
   refine aw (ar S (i:=1) rfl ?_ ?_ ?_ ono) ?_
   . exact(by simp only [Fa])
   . exact(by exact cd)
   . exact Xo (lbt rfl)
   clear S;rintro h ⟨S,z⟩;clear z;simp only [LC,ah,lay,Xv,Xw,Nat.reduceAdd]at S
   simp only [BS,LB,Nat.reduceLT,Nat.reduceEqDiff,Fa,r7,XD,XR,Xn,S.lds (b:=C) (o:=0) (n:=4) m1 (lbt rfl)]
   have H:cZ h E F (.slice (some ⟨R,0,none⟩) d.arcs.length d.arcs.length) d:=⟨(S.gown _ m0).1.sl rfl (aH .i64) (by decide),(S.gown _ m1).1.sl rfl (aH .i64) (by decide),.inr ⟨R,0,none,_,rfl,XA _,by
    have:=S.lds (b:=R) (o:=0) (n:=d.arcs.length*3) m0 (by rw [aI eo];omega)
    rw [Xn,Xc (by rw [aI eo];omega)]at this
    exact this⟩⟩
   refine al (zY S.ok f H) ?_
   intro h g
   replace S:=S.call g
   replace H:=H.gr g
   clear g
   simp only [BS,LB,Nat.reduceLT,Nat.reduceEqDiff,Fa]
   refine al (gL S.ok) ?_;intro h g;replace S:=S.call g;replace H:=H.gr g;clear g
   simp only [BS,LB,Nat.reduceLT,Nat.reduceEqDiff,Fa,r7,XD,XR,Xn,S.lds (b:=C) (o:=0) (n:=4) m1 (lbt rfl)]
   have nn:Ret zB 21 [iP d E F (.slice (some ⟨R,0,none⟩) d.arcs.length d.arcs.length)] _ _:=yS S.ok f H
   have gS:=S.gr
   refine step_ret nn ?_
   rintro _ h ⟨v,rfl,g,X⟩
   replace S:=S.call g
   simp only [BS,LB,Nat.reduceLT,Nat.reduceEqDiff,Fa]
   refine al (gL S.ok) ?_;intro h g;replace S:=S.call g;replace X:=X.gr g;clear g
   simp only [BS,LB,ae,Nat.reduceLT,Nat.reduceEqDiff]
   exact⟨S.gr,_,gS.n,X⟩
def Tryz.F0E:=aj t1<|aj t2<|aj t3<|aj t4<|aj t5<|aj t6<|aj Z0<|aj Z2<|aj t9<|aj t10<|aj t11<|aj t12<|aj Z6<|aj Z10<|aj t22<|aj t74<|Z8
theorem St.copyT{M:Nat->Prop}{d h:Hp}{L:List (Nat×Ob)}{G:List GL}(S:St M d h L G){E:Env}{t e:TypeId}{i b len cap:Nat}{p:Option Nat}{cs:List Value}{m:Bs}(c:L[i]? =some (b,.row cs 1))(f:E.und t=some (.slice e))(g:E.sz e=some 1)(a:m.length=len)(j:cs.length=len){ts:List TypeId}:
 ∃k w,copyV E h (t::ts) (.slice (some ⟨b,0,p⟩) len cap) (sv m)=some (k,w)/\w=.int .i64 (len:Nat)/\St M d k (L.set i (b,.row (aY m) 1)) G:=by
 cases m with
 | nil=>
   have:len=0:=a.symm
   subst this
   have:cs=[]:=List.length_eq_zero_iff.1 j
   subst this
   refine⟨h,_,?_,rfl,by rw [show(b,Ob.row (aY []) 1)=(b,Ob.row [] 1)from rfl,set_self c];exact S⟩
   simp only [sv,copyV,f,g,nH,fm]
   rfl
 | cons x m=>
   obtain⟨y,l,n⟩:=(S.row (XH c)).store S.ok ono (o:=0) (vs:=aY (x::m)) (by simp [aY];simp at a;omega) (by simp [aY,iL])
   have q:lay cs 0 (aY (x::m))=aY (x::m):=lay_all (by rw [j,<-a];simp [aY])
   rw [q]at n
   refine⟨h.put b y,_,?_,rfl,S.put c n⟩
   have r:dc (x::m).length len=len:=by rw [a];exact jh (XA _)
   simp only [sv,copyV,f,g,nH,fm,r]
   have s:((x::m).map fun b=>Value.int .u8 (.ofNat b.toNat)).take len=aY (x::m):=Xc (by simp;simp at a;omega)
   rw [s]
   simp only [aY,XI]at l⊢
   simp only [Yb,cond_true,l]
   rfl
theorem bFrom_ok {e:Hp} (N:e.t.Sized e.n) {c w a:Nat} {B:Nat->Nat} (H:c<=100) (O:w<=1000) (P:a=(w+7)/8) (D: ∀j,B j<256) (Q:Tz w a B):Ret zB 118 [.int .i64 (c:Nat),.int .i64 (w:Nat),sv (byB (c*a) B)] e fun r u=>Gr e u/\ ∃d f,r=ptrTo d/\e.n<=d/\e.n<=f/\ij u d f c w a B:=by
 have S:=Si N
 have I:(byB (c*a) B).length=c*a:=by simp [byB]
 have R:a<=126:=by omega
 have hm:c*a<=100*126:=X5 H R
 refine ab (n:=59) (rs:=[.tmp 6]) rfl Tryz.e118 rfl rfl rfl (lbt rfl) ?_
 simp only [BS,LB,Nat.reduceLT,Nat.reduceEqDiff]
 refine step_ret (A5 S.ok H O) ?_
 rintro _ h ⟨g,d,f,rfl,J,K,F,m⟩
 rw [<-P]at m
 replace S:=S.call g
 have S:=(S.push (.inl J) (o:=.row _ 1) m.r (by simp [keys])).push (.inl K) (o:=.row _ 1) m.b (by simp [keys];exact F.symm)
 have T:=fun(t:TypeId) (p q:Operand)=>pP (E:=zB) (x:=p) (y:=q) Tryz.t74.2.2.2.2.1 (.inr ⟨⟨d,rfl⟩,rfl⟩)
 simp only [BS,LB,Nat.reduceLT,Nat.reduceEqDiff,F0E,fV,I,S.ld (b:=d) (o:=3) m1 rfl]
 refine dT (S.copyT (i:=0) rfl Tryz.t22.1 Tryz.t5.2.2.1 I mN) ?_
 clear S;rintro h _ ⟨rfl,S⟩
 rw [<-yQ D]at S
 simp only [LC,zM,Xa]at S
 have L:(w:Int).tmod 8=((w%8:Nat):Int):=by rw [XV (by omega)];omega
 have z8: ¬((8:Int)=0):=by decide
 have wm:am .i64 ((w%8:Nat):Int)=((w%8:Nat):Int):=by rw [wrap64]<;>omega
 have v: ∀{u},St NoM e u [(f,.row (gc (c*a) B) 1),(d,.row [.int .i64 c,.int .i64 w,.int .i64 a,.slice (some ⟨f,0,none⟩) (c*a) (c*a)] 1)] []->Gr e u/\ ∃l z,ptrTo d=ptrTo l/\e.n<=l/\e.n<=z/\ij u l z c w a B:=fun S=>⟨S.gr,d,f,rfl,J,K,S.row m1,S.row m0,D⟩
 by_cases hz:w%8=0
 . have s:((w%8:Nat):Int)=0:=by omega
   simp only [BS,LB,ae,Nat.reduceLT,Nat.reduceEqDiff,iK (show(8:Int)≠0 by decide),L,s]
   exact v S
 . have s: ¬(((w%8:Nat):Int)=0):=by omega
   simp only [BS,LB,Nat.reduceLT,Nat.reduceEqDiff,iK (show(8:Int)≠0 by decide),L,s]
   refine az (fun(k:Nat) A h=>k<=c/\St NoM e h [(f,.row (gc (c*a) B) 1),(d,.row [.int .i64 c,.int .i64 w,.int .i64 a,.slice (some ⟨f,0,none⟩) (c*a) (c*a)] 1)] []/\A 7=ptrTo d/\A 8=.int .i64 (w%8:Nat)/\A 36=.int .i64 c/\A 37=.int .i64 k) (fun k=>c-k) ?_ 0 _ _ ⟨Xd _,S,by simp [aa,ac],by simp [aa],by simp [aa],by simp [aa]⟩
   clear S
   intro k U A h ⟨hk,S,r7,r8,r36,r37⟩
   have V:am .i64 ((k:Int)+1)=((k+1:Nat):Int):=by rw [wrap64]<;>omega
   by_cases hlt:k<c
   . have W:1<=a:=by omega
     have le:(k+1)*a<=c*a:=X8 a hlt
     have lp:0<(k+1)*a:=Nat.mul_pos (by omega) W
     have C:(k+1)*a-1<c*a:=by omega
     have X:am .i64 (((k+1:Nat):Int)*(a:Int))=(((k+1)*a:Nat):Int):=by rw [<-Int.natCast_mul,wrap64]<;>omega
     have Y:am .i64 ((((k+1)*a:Nat):Int)-1)=(((k+1)*a-1:Nat):Int):=by rw [wrap64]<;>omega
     have Z:(k+1)*a-1=k*a+(a-1):=by rw [Nat.add_mul];omega
     have G:B ((k+1)*a-1)>>>(w%8)=0:=by
      refine Nat.eq_of_testBit_eq fun j=>?_
      rw [Nat.testBit_shiftRight,Nat.zero_testBit]
      by_cases hj:w%8+j<8
      . have:=Q k ((a-1)*8+(w%8+j)) (by omega) (by omega)
        unfold bitB at this
        rw [show((a-1)*8+(w%8+j))/8=a-1 by omega,show((a-1)*8+(w%8+j))%8=w%8+j by omega,<-Z]at this
        exact this
      . refine Nat.testBit_lt_two_pow (XE (D _) ?_)
        exact Nat.pow_le_pow_right (n:=2) (by decide) (show 8<=w%8+j by omega)
     have ld:=S.ld m0 (uj (B:=B) C)
     have z0:((0:Nat):Int)=0:=rfl
     have M:=fun(t:TypeId) (p q:Operand)=>xm (E:=zB) (t:=t) (p:=p) (q:=q) (k:=.u8) (k':=.i64) (x:=B ((k+1)*a-1)) (y:=w%8) (by show _<=8;omega)
     rw [G]at M
     simp only [BS,LB,Nat.reduceLT,Nat.reduceEqDiff,r36,r37,an,hlt]
     refine au (ax rfl) (q:=0) (ps:=[]) (by kernel_rfl) ?_
     simp only [BS,LB,cls,Nat.reduceLT,Nat.reduceEqDiff,Nat.reduceAdd,Nat.reducePow,Nat.reduceDiv,Nat.reduceMod,Nat.reduceLeDiff,F0E,r7,r8,r37,V,X,Y,fE C,ld,M,z0,S.ld (b:=d) (o:=3) m1 rfl,S.ld (b:=d) (o:=2) m1 rfl]
     exact U (k+1) _ _ (by omega) ⟨by omega,S,by simp [aa,r7],by simp [aa,r8],by simp [aa,r36],by simp [aa]⟩
   . simp only [BS,LB,ae,Nat.reduceLT,Nat.reduceEqDiff,r7,r36,r37,an,hlt]
     exact v S
def Tryz.FD:=aj t1<|aj t2<|aj t3<|aj t4<|aj t5<|aj t6<|aj Z0<|aj t9<|aj t22<|aj t29<|aj Z1<|aj t38<|aj t67<|aj t73<|aj t74<|aj t103<|aj t119<|aj t128<|aj Z5<|aj t162<|aj Z3<|aj Z8<|Z7
theorem cellB_rd{m:List Int}(h: ∀x∈m,0<=x/\x<256):(zO m.length).map (fun k=>((bz (((fU m).drop k).take 1):Nat):Int))=m:=by
 refine List.ext_getElem (by simp) fun i c a=>?_
 have d:=h m[i] (Xl a)
 rw [XN,List.getElem_range]
 have b:i<(fU m).length:=by simp [fU];exact a
 rw [XW b,XD,XR]
 simp only [fU,XN,bz,UInt8.toNat_ofNat']
 omega
theorem zt{z:Hp}(ok:z.t.Sized z.n){u:Gra}(A:fo u){O:Value}{nb:Nat}(P:bW z nb O u){m:List Int}{F:Bs}{c d:Nat}{B:Nat->Nat}(C:m.length=u.nodes)(Q:gK m+1=((c:Nat):Int))(af:1<=c)(hr:c<=100)(hF:F=byB (c*d) B)(R: ∀x∈m,0<=x/\x<256)(T: ¬q7 m)(U:d=(u.arcs.length+7)/8)(V:Tz u.arcs.length d B)(hB: ∀j,B j<256):
 Ret zB 57 [O,sv (fU m),sv F] z fun r G=>Gr z G/\ ∃H W,r=.tuple #[H,W]/\ ∀{M:Nat->Prop} {I:Hp},Mo M G I->(∀b,M b->b<z.n)->kQ I H W u m F:=by
 have S:=Si ok
 have ai:=A.n2
 have ak:=A.many
 have J:(fU m).length=u.nodes:=by simp [fU,C]
 have K:=cellB_rd R
 rw [C]at K
 generalize fU m=s at J K
 have hs:s.length<=1000000:=by omega
 refine ab (n:=38) (rs:=[.tmp 6,.tmp 7]) rfl Tryz.e57 rfl rfl rfl (lbt rfl) ?_
 simp only [BS,LB,Nat.reduceLT,Nat.reduceEqDiff,FD,fV,J]
 refine al (cK S.ok (P.gr S.gr)) ?_;intro h g;replace S:=S.call g;clear g
 simp only [BS,LB,Nat.reduceLT,Nat.reduceEqDiff]
 refine al (gL S.ok) ?_;intro h g;replace S:=S.call g;clear g
 simp only [BS,LB,Nat.reduceLT,Nat.reduceEqDiff,qq (l:=s)]
 refine step_ret (pJ S) ?_
 rintro _ h ⟨X,rfl,S⟩
 simp only [BS,FD]
 refine ag av S ?_;clear S;intro h b8 S Y
 simp only [BS,LB,Nat.reduceLT,Nat.reduceEqDiff]
 refine aw (ar S (i:=0) rfl ?_ ?_ ?_ ono) ?_
 . exact(by simp only [FD])
 . exact(by exact cP)
 . exact Xo (lbt rfl)
 clear S;rintro h ⟨S,D⟩;clear D;simp only [LC,ah,lay,Xv,Xw,Nat.reduceAdd]at S
 simp only [BS,LB,Nat.reduceLT,Nat.reduceEqDiff,FD,fV,J]
 refine step_ret (AV (val:=fun k=>((bz ((s.drop k).take 1):Nat):Int)) (fun k=>[(b8,.row [ptrTo X] 1),(X,.row (rdC s k (.pointer none)) 1)]) S (n:=u.nodes) (by omega) ?_) ?_
 . clear S
   intro k p h hk S
   refine iS (cells1_ok S (j:=2) (s:=s) (a:=k) (S.ld m1 rfl) rfl (by omega) hs) ?_
   rintro _ G ⟨rfl,S⟩
   exact⟨rfl,S⟩
 rintro _ h ⟨L,rfl,S⟩
 rw [K]at S
 have sM:ay h 1 (encI .i64) (.slice (some ⟨L,0,none⟩) u.nodes u.nodes) m:=.inr ⟨L,0,none,_,by rw [C],by rw [C];exact XA _,by
  have:=S.lds (b:=L) (o:=0) (n:=m.length*1) m0 (by rw [aI (aH .i64)];omega)
  rw [Xn,Xc (by rw [aI (aH .i64)];omega)]at this
  exact this⟩
 simp only [BS,LB,Nat.reduceLT,Nat.reduceEqDiff]
 refine step_ret (vW S.ok sM (by omega) (by omega)) ?_
 have kn:=S.fr.n
 rintro H h ⟨g,⟨N,_⟩|⟨_,f⟩⟩
 . exact absurd N T
 replace S:=S.call g
 obtain⟨bc,vc,rfl,rC,sC,aL,a0⟩:=id f
 have a1:=fun(t:TypeId) (p q:Operand)=>pP (E:=zB) (x:=p) (y:=q) Tryz.t73.2.2.2.2.1 (.inr ⟨⟨bc,rfl⟩,rfl⟩)
 simp only [BS,LB,Nat.reduceLT,Nat.reduceEqDiff,FD]
 refine al (gL S.ok) ?_;intro h g;replace S:=S.call g;replace f:=f.gr g;clear g
 simp only [BS,LB,Nat.reduceLT,Nat.reduceEqDiff]
 refine al (tX S.ok (n:=gK m+1) (.inr ⟨⟨_,f⟩,rfl⟩)) ?_;intro h g;replace S:=S.call g;replace f:=f.gr g;clear g
 simp only [BS,LB,Nat.reduceLT,Nat.reduceEqDiff]
 refine al (mi S.ok (P.gr S.gr)) ?_;intro h g;replace S:=S.call g;replace f:=f.gr g;clear g
 rw [Q]
 subst hF
 simp only [BS,LB,Nat.reduceLT,Nat.reduceEqDiff]
 refine step_ret (bFrom_ok S.ok hr (by omega) U hB V) ?_
 have a2:=S.fr.n
 rintro _ h ⟨g,Z,bb,rfl,np,a3,mB⟩
 replace S:=S.call g
 replace f:=f.gr g
 have ad:=fun(t:TypeId) (p q:Operand)=>pP (E:=zB) (x:=p) (y:=q) Tryz.t74.2.2.2.2.1 (.inr ⟨⟨Z,rfl⟩,rfl⟩)
 simp only [BS,LB,Nat.reduceLT,Nat.reduceEqDiff,FD]
 refine al (gL S.ok) ?_
 intro h g
 replace S:=S.call g
 simp only [BS,LB,ae,Nat.reduceLT,Nat.reduceEqDiff]
 have v:=mB.gr g
 exact⟨S.gr,_,_,rfl,fun {M I} D w=>⟨_,Z,bb,c,d,B,(f.gr g).mo D (fun b hb=>XE (w b hb) kn),C,rfl,Q,⟨D.has (o:=.row _ 1) v.r (fun e=>by have:=w _ e;omega),D.has (o:=.row _ 1) v.b (fun e=>by have:=w _ e;omega),v.lt⟩,rfl,R,T,U,V⟩⟩
def Tryz.Fi:=aj t1<|aj t2<|aj t3<|aj t4<|aj t5<|aj t6<|aj Z0<|aj Z2<|aj t9<|aj t10<|aj t11<|aj t12<|aj Z6<|aj Z10<|aj t15<|aj t16<|aj t17<|aj Z23<|aj t23<|aj t29<|aj Z1<|aj t38<|aj t39<|aj t58<|aj t67<|aj t72<|aj t103<|aj t119<|aj t123<|aj t128<|aj Z9<|aj t157<|aj t162<|aj Z3<|aj t188<|aj Z7<|aj t268<|aj Z15<|aj t355<|aj t357<|aj t359<|aj t360<|aj t361<|aj t362<|Z18
def slc(N b:Nat):Value:=.slice (some ⟨b,0,none⟩) N N
def rL(β:Nat->Nat)(row:Nat->List Int):Nat->List (Nat×Ob)
 |0=>[]
 |i+1=>(β i,.row ((row i).flatMap (encI .i64)) 1)::rL β row i
theorem jD(β:Nat->Nat)(row:Nat->List Int)(i:Nat):(rL β row i).length=i:=by
 induction i with
 |zero=>rfl
 |succ i a=>simp [rL,a]
theorem zx{β a:Nat->Nat}{row:Nat->List Int}{i:Nat}(h: ∀j,j<i->β j=a j):rL β row i=rL a row i:=by
 induction i with
 |zero=>rfl
 |succ i b=>rw [rL,rL,h i (XY i),b fun j c=>h j (by omega)]
def eW(N:Nat)(β:Nat->Nat):Nat->List Value
 |0=>[]
 |i+1=>if i%2=0 then eW N β i++[slc N (β i)]else eW N β i
def oW(N:Nat)(β:Nat->Nat):Nat->List Value
 |0=>[]
 |i+1=>if i%2=0 then oW N β i else oW N β i++[slc N (β i)]
theorem eW_len(N:Nat)(β:Nat->Nat)(i:Nat):(eW N β i).length<=i:=by
 induction i with
 |zero=>exact XA _
 |succ i a=>rw [eW];split<;>(try simp)<;>omega
theorem oW_len(N:Nat)(β:Nat->Nat)(i:Nat):(oW N β i).length<=i:=by
 induction i with
 |zero=>exact XA _
 |succ i a=>rw [oW];split<;>(try simp)<;>omega
theorem Ao{N:Nat}{β a:Nat->Nat}{i:Nat}(h: ∀j,j<i->β j=a j):eW N β i=eW N a i:=by
 induction i with
 |zero=>rfl
 |succ i b=>rw [eW,eW,h i (XY i),b fun j c=>h j (by omega)]
theorem Ag{N:Nat}{β a:Nat->Nat}{i:Nat}(h: ∀j,j<i->β j=a j):oW N β i=oW N a i:=by
 induction i with
 |zero=>rfl
 |succ i b=>rw [oW,oW,h i (XY i),b fun j c=>h j (by omega)]
def rowQt(s:Bs)(n N i:Nat):List Int:=(zO N).map fun j=>la ((s.drop (1+4*n+8*N*i+8*j)).take 8)
theorem tabB_rd{N:Nat}{T:Tab}(h:TabL N T):(fK T).length=1+T.l.length*(4+16*N)/\bz ((fK T).take 1)=T.l.length/\T.l=(zO T.l.length).map (fun k=>((g4 (fK T) (1+4*k):Nat):Int))/\qE N (fK T)=(zO (2*T.l.length)).map (rowQt (fK T) T.l.length N)/\T.to=rP (qE N (fK T))/\T.fr=odds (qE N (fK T)):=by
 obtain⟨a,b⟩:=tabG_tabB h
 refine⟨Ah h,a,?_,?_,(congrArg Tab.to b).symm,(congrArg Tab.fr b).symm⟩
 . have d:d7 markG 4 (rY (fK T)) ((fK T).drop 1)=T.l:=congrArg Tab.l b
   conv=>lhs;rw [<-d,a,jN]
   refine Xj fun j _=>?_
   simp only [markG,g4,XB]
 . unfold qE
   rw [a,jN]
   refine Xj fun i _=>?_
   unfold rowQt
   rw [jN]
   refine Xj fun j c=>?_
   have c:=List.mem_range.1 c
   rw [X7,XB,XB,XT,show min 8 (8*N-8*j)=8 by omega]
   rw [show 1+4*T.l.length+(8*N*i+8*j)=1+4*T.l.length+8*N*i+8*j from(X9 _ _ _).symm]
theorem eoW_two(N:Nat)(β:Nat->Nat)(k:Nat):eW N β (2*k)=((zO k).map fun j=>slc N (β (2*j)))/\oW N β (2*k)=((zO k).map fun j=>slc N (β (2*j+1))):=by
 induction k with
 |zero=>exact⟨rfl,rfl⟩
 | succ k a=>
   rw [show 2*(k+1)=2*k+1+1 by omega,eW,eW,oW,oW,if_neg (by omega),if_pos (by omega),if_neg (by omega),if_pos (by omega),a.1,a.2,XJ,Xx,Xx]
   exact⟨rfl,rfl⟩
theorem AD(f:Nat->List Int)(n:Nat): ∀a,rP ((Ye a (2*n)).map f)=((zO n).map fun j=>f (a+2*j))/\odds ((Ye a (2*n)).map f)=((zO n).map fun j=>f (a+2*j+1)):=by
 induction n with
 |zero=>intro a;exact⟨rfl,rfl⟩
 | succ n b=>
   intro a
   obtain⟨c,d⟩:=b (a+1+1)
   rw [show 2*(n+1)=2*n+1+1 by omega,List.range'_succ,List.range'_succ,XI,XI,rP,odds,c,d,List.range_succ_eq_map,XI,XI,XQ,XQ]
   refine⟨?_,?_⟩
   . congr 1
     refine Xj fun j _=>?_
     simp only [XU];congr 1;omega
   . congr 1
     refine Xj fun j _=>?_
     simp only [XU];congr 1;omega
theorem rL_mem{β:Nat->Nat}{row:Nat->List Int}{i k:Nat}(h:k<i):(β k,Ob.row ((row k).flatMap (encI .i64)) 1)∈rL β row i:=by
 induction i with
 |zero=>omega
 | succ i a=>
   rw [rL]
   rcases Nat.lt_or_eq_of_le (Nat.le_of_lt_succ h)with h|rfl
   . exact .tail _ (a h)
   . exact .head _
theorem encV_self(l:List Value):l=l.flatMap encV:=by
 induction l with
 |nil=>rfl
 |cons a l b=>rw [zM,<-b];rfl
theorem app4{e:Type}{x:List e}{i:Nat}{a b c d:e}(h:x.length=i):(x++[a,b,c,d])[i]? =some a:=by rw [Xq (by omega),h];simp
theorem set4{e:Type}{x:List e}{i:Nat}{p a b c d y:e}(h:x.length=i):(p::(x++[a,b,c,d])).set (i+1) y=p::(x++[y,b,c,d]):=by
 rw [List.set_cons_succ,XG _ _ (by omega),h,Nat.sub_self];rfl
theorem AR{Q:Hp}(ok:Q.t.Sized Q.n){e:Gra}(a6:fo e)(a7:e.nodes<=100){pn:Value}{nb:Nat}(hN:bW Q nb pn e){f:Tab}(X:TabL e.nodes f)(hM:gQ e.nodes f.l)(hz: ∀(i:Nat) (v:Int),f.l[i]? =some v->pI e.nodes f.l.length (cI f.to) i v=0/\pI e.nodes f.l.length (cI f.fr) i v=0):
 Ret zB 56 [pn,sv (fK f)] Q fun r h'=>Gr Q h'/\ ∃m,Q.n<=m/\TabAt h' m r e.nodes f.l (cI f.to) (cI f.fr):=by
 have S:=Si ok
 obtain⟨el,e1,eL,eR,eT,eF⟩:=tabB_rd X
 have t1:=X.l1
 have t2:=X.l2
 have bk:f.l.length*(4+16*e.nodes)<=16*1604:=X5 t2 (by omega)
 generalize fK f=s at*
 generalize Y:f.l.length=n at*
 have hs:s.length<=1000000:=by omega
 have bm:4*n<=n*(4+16*e.nodes):=by rw [Yc 4];exact Nat.mul_le_mul_left n (by omega)
 refine ab (n:=94) (rs:=[.tmp 4]) rfl Tryz.e56 rfl rfl rfl (lbt rfl) ?_
 simp only [BS,LB,Nat.reduceLT,Nat.reduceEqDiff,qq (l:=s)]
 refine step_ret (pJ S) ?_
 rintro _ h ⟨A,rfl,S⟩
 simp only [BS,LB,Nat.reduceLT,Nat.reduceEqDiff]
 refine step_ret (wP (bad:=false) (s:=s) (a:=0) S (i:=0) rfl rfl (by omega) hs) ?_
 rintro _ h ⟨rfl,f',C,S⟩
 rw [cV (by omega)]at C S⊢
 obtain rfl:f'=.pointer none:=C.1
 simp only [LC,zM,Xa]at S
 simp only [Xn,e1,Xi]at S⊢
 have w0:am .i64 (n:Int)=n:=by rw [wrap64]<;>omega
 have c1:(1:Int)<=(n:Int):=by omega
 have c2:(n:Int)<=16:=by omega
 have w1:am .i64 (16*(e.nodes:Int))=((16*e.nodes:Nat):Int):=by rw [wrap64]<;>omega
 have w2:am .i64 (4+((16*e.nodes:Nat):Int))=((4+16*e.nodes:Nat):Int):=by rw [wrap64]<;>omega
 have w3:am .i64 ((n:Int)*((4+16*e.nodes:Nat):Int))=((n*(4+16*e.nodes):Nat):Int):=by rw [<-Int.natCast_mul,wrap64]<;>omega
 have w4:am .i64 (1+((n*(4+16*e.nodes):Nat):Int))=((1+n*(4+16*e.nodes):Nat):Int):=by rw [wrap64]<;>omega
 simp only [BS,LB,ck,aF,cq,Nat.reduceLT,Nat.reduceEqDiff,Fi,w0,c1,c2,fV,el]
 refine al (cK S.ok (hN.gr S.gr)) ?_;intro h g;replace S:=S.call g;clear g
 simp only [BS,LB,Nat.reduceLT,Nat.reduceEqDiff,w1,w2,w3,w4]
 refine al (gL S.ok) ?_;intro h g;replace S:=S.call g;clear g
 simp only [BS,LB,Nat.reduceLT,Nat.reduceEqDiff]
 refine step_ret (ye S) ?_
 rintro _ h ⟨U,rfl,S⟩
 simp only [BS,LB,Nat.reduceLT,Nat.reduceEqDiff]
 refine step_ret (AV (val:=fun k=>((g4 s (1+4*k):Nat):Int)) (fun k=>[(U,.row [ptrTo A] 1),(A,.row (rdC s (1+4*k) (.pointer none)) 1)]) S (n:=n) (by omega) ?_) ?_
 . clear S
   intro k p h P S
   refine iS (kP S (j:=2) (s:=s) (a:=1+4*k) (S.ld m1 rfl) rfl (by omega) hs) ?_
   rintro _ h' ⟨rfl,S⟩
   exact⟨rfl,S⟩
 rintro _ h ⟨N,rfl,S⟩
 rw [<-eL]at S
 simp only [BS,LB,Nat.reduceLT,Nat.reduceEqDiff,Fi]
 refine ag av S ?_;clear S;intro h G S bi
 have a8:am .i64 (2*(n:Int))=((2*n:Nat):Int):=by rw [wrap64]<;>omega
 simp only [BS,LB,Nat.reduceLT,Nat.reduceEqDiff,a8]
 replace S:=(S.nilG (k:=1)).nilG (k:=1)
 rw [show(1+4*n)=1+4*n+8*e.nodes*0 by omega]at S
 refine az (fun(i:Nat) J h=>i<=2*n/\ ∃(β:Nat->Nat) (D F:Value),St NoM Q h (rL β (rowQt s n e.nodes) i++[(G,.row [D,F] 1),(N,.row (f.l.flatMap (encI .i64)) 1),(U,.row [ptrTo A] 1),(A,.row (rdC s (1+4*n+8*e.nodes*i) (.pointer none)) 1)]) [(D,1,eW e.nodes β i),(F,1,oW e.nodes β i)]/\
  J 0=pn/\J 5=ptrTo A/\J 6=.int .i64 n/\J 7=slc n N/\J 8=ptrTo G/\J 42=.int .i64 (2*n:Nat)/\J 43=.int .i64 i) (fun i=>2*n-i) ?_ 0 _ _ ⟨Xd _,fun _=>0,_,_,S,by simp [aa,cw],by simp [aa,ac],by simp [aa],by simp [aa,slc],by simp [aa,ac],by simp [aa],by simp [aa]⟩
 clear S
 intro i ih J h ⟨hi,β,D,F,S,r0,r5,r6,r7,r8,r42,r43⟩
 have w:am .i64 ((i:Int)+1)=((i+1:Nat):Int):=by rw [wrap64]<;>omega
 by_cases hlt:i<2*n
 . have tm:(i:Int).tmod 2=((i%2:Nat):Int):=by rw [XV (by omega)];omega
   have wm:am .i64 ((i%2:Nat):Int)=((i%2:Nat):Int):=by rw [wrap64]<;>omega
   simp only [BS,LB,Nat.reduceLT,Nat.reduceEqDiff,r42,r43,an,hlt]
   refine au (ax rfl) (q:=2048) (ps:=[(5,10),(5,7)]) (by kernel_rfl) ?_
   have hb:4*n+8*e.nodes*(i+1)<=n*(4+16*e.nodes):=by
    rw [X4 n,Yc n 4,show n*(16*e.nodes)=8*e.nodes*(2*n) by rw [show 16*e.nodes=8*e.nodes*2 by omega,Yc n,Nat.mul_assoc]]
    exact Nat.add_le_add_left (Nat.mul_le_mul_left _ hlt) _
   rw [X4,Xf]at hb
   rcases Nat.mod_two_eq_zero_or_one i with he|he
   . have tp:((i%2:Nat):Int)=0:=by omega
     have Z:h.load G 0 1=some [D]:=S.ld (Xy _ m0) rfl
     simp only [BS,LB,cls,Nat.reduceLT,Nat.reduceEqDiff,Nat.reduceAdd,Nat.reducePow,Nat.reduceDiv,Nat.reduceMod,Nat.reduceLeDiff,Int.reduceToNat,Int.reduceLE,Int.reduceLT,XF,Fi,r0,r8,iK (show(2:Int)≠0 by decide),tm,tp,Z]
     have k8:G<h.n:=bJ S.ok Z
     refine eZ (cK S.ok (hN.gr S.gr)) ?_
     intro h g
     have V:=aP g k8
     have ad:=XE k8 g.n
     replace S:=S.call g
     clear g Z
     simp only [BS,LB,cls,Nat.reduceLT,Nat.reduceEqDiff,Nat.reduceAdd,Nat.reducePow,Nat.reduceDiv,Nat.reduceMod,Nat.reduceLeDiff,r5]
     have u: ∀(x:List (Nat×Ob)) (a b c d:Nat×Ob),x.length=i->(x++[a,b,c,d])[i+3]? =some d:=fun x a b c d hx=>by rw [Xq (by omega),hx];simp
     have u:=u _ (G,.row [D,F] 1) (N,.row (f.l.flatMap (encI .i64)) 1) (U,.row [ptrTo A] 1) (A,.row (rdC s (1+4*n+8*e.nodes*i) (.pointer none)) 1) (jD β (rowQt s n e.nodes) i)
     refine ce (As (M:=(· =A)) (val:=fun j=>la ((s.drop (1+4*n+8*e.nodes*i+8*j)).take 8)) (fun k=>[(A,.row (rdC s (1+4*n+8*e.nodes*i+8*k) (.pointer none)) 1)]) (St.init1 S.ok (S.own _ (XH u)).2) (n:=e.nodes) (by omega) ?_) ?_
     . intro k p h P T
       refine iS (uh (bad:=false) (s:=s) (a:=1+4*n+8*e.nodes*i+8*k) T (i:=1) rfl rfl (by omega) hs) ?_
       rintro _ h' ⟨rfl,f',C,T⟩
       rw [cV (by omega)]at C T⊢
       obtain rfl:f'=.pointer none:=C.1
       exact⟨rfl,T⟩
     rintro _ h ⟨K,rfl,T⟩
     have H: ∀(x:List (Nat×Ob)) (a b c d:Nat×Ob),x.length=i->(x++[a,b,c,d])[i]? =some a:=fun x a b c d hx=>by rw [Xq (by omega),hx];simp
     have H:=H _ (G,.row [D,F] 1) (N,.row (f.l.flatMap (encI .i64)) 1) (U,.row [ptrTo A] 1) (A,.row (rdC s (1+4*n+8*e.nodes*i) (.pointer none)) 1) (jD β (rowQt s n e.nodes) i)
     have af:=S.ne H u (by omega)
     have W:=gp (T.fr.get G ad af)
     have nn:=(T.own _ m0).1.resolve_right (T.ne (i:=0) (j:=1) rfl rfl (by decide))
     have nk:K∉keys (rL β (rowQt s n e.nodes) i++[(G,.row [D,F] 1),(N,.row (f.l.flatMap (encI .i64)) 1),(U,.row [ptrTo A] 1),(A,.row (rdC s (1+4*n+8*e.nodes*i+8*e.nodes) (.pointer none)) 1)]) [(D,1,eW e.nodes β i),(F,1,oW e.nodes β i)]:=fun P=>absurd (S.key_lt (b:=K) (by simpa [keys]using P)) (by omega)
     have n0:=S.gr.n
     replace S:=S.call1 (i:=i+3) u T.fr (T.own _ m1).2
     rw [XG _ _ (by rw [jD];omega),jD,show i+3-i=3 by omega]at S
     simp only [LC]at S
     replace S:=S.push (.inl (XP n0 nn)) (T.own _ m0).2 nk
     clear T
     have fT:Fl D:=(S.gown _ m0).1.fl
     have fF:Fl F:=(S.gown _ m1).1.fl
     simp only [BS,LB,cls,Nat.reduceLT,Nat.reduceEqDiff,Nat.reduceAdd,Nat.reducePow,Nat.reduceDiv,Nat.reduceMod,Nat.reduceLeDiff]
     refine ec (bj (by exact Tryz.t39.1) (by exact Yd) (by decide) (by rfl)) S ?_;clear S;intro h bs S a0 a1;simp only [LC,aU,bA,ah,Nat.reduceMul,Nat.reduceAdd,Xk,Xi,Xf,Xm]at S
     simp only [BS,LB,cls,Nat.reduceLT,Nat.reduceEqDiff,Nat.reduceAdd,Nat.reducePow,Nat.reduceDiv,Nat.reduceMod,Nat.reduceLeDiff]
     have O:aA h 1 (.slice (some ⟨bs,0,none⟩) 1 1)=some (1,[slc e.nodes K]):=by simp only [aA];rw [S.lds (b:=bs) (o:=0) (n:=1*1) m0 (lbt rfl)];rfl
     replace S:=S.drop1
     have lw:=eW_len e.nodes β i
     refine jx (S.grow (j:=0) (m:=1) (new:=[slc e.nodes K]) rfl Tryz.t39.1 Yd (by decide) Tryz.t39.2.2.2.2.2 O rfl (by decide) rfl (by simp;omega)) ?_
     clear S O
     rintro h vN S
     simp only [LC,zM,Xa]at S
     have ai:Fl vN:=(S.gown _ m0).1.fl
     simp only [BS,LB,cls,Nat.reduceLT,Nat.reduceEqDiff,Nat.reduceAdd,Nat.reducePow,Nat.reduceDiv,Nat.reduceMod,Nat.reduceLeDiff,Int.reduceToNat,Int.reduceLE,Int.reduceLT,XF,Fi,r8]
     refine d9 (ar S (i:=i+1) (show(_::(_++_))[i+1]? =_ from app4 (jD β (rowQt s n e.nodes) i)) Tryz.t39.2.2.1 ai (Xo (lbt rfl)) ono) ?_
     clear S;rintro h ⟨S,_⟩
     rw [set4 (jD β (rowQt s n e.nodes) i)]at S
     simp only [LC,zM,Xa]at S
     simp only [BS,LB,Nat.reduceLT,Nat.reduceEqDiff,Nat.reduceAdd,r43]
     refine⟨by simp only [aX,bo,aS,bD,aV,ne_eq,not_false_eq_true,bC,bR,aZ,aW,bZ,cu,aT,Nat.reduceLT,Nat.reduceEqDiff,reduceIte,Xg,r0,r5,r8,ac,aD V,aQ V,aD W,aQ W],?_⟩
     simp only [w]
     obtain⟨B,I,ak⟩: ∃B:Nat->Nat,(∀j,j<i->β j=B j)/\B i=K:=⟨fun j=>if j=i then K else β j,fun j L=>by simp [Nat.ne_of_lt L],by simp⟩
     refine ih (i+1) _ _ (by omega) ⟨by omega,B,vN,F,?_,by simp [aa,r0],by simp [aa,r5],by simp [aa,r6],by simp [aa,r7],by simp [aa,r8],by simp [aa,r42],by simp [aa]⟩
     rw [zx I,Ao I,Ag I,<-ak]at S
     rw [rL,X4,Xf,<-X9]
     rw [eW,oW,if_pos he,if_pos he]
     exact S
   . have tp:((i%2:Nat):Int)=1:=by omega
     have Z:h.load G 1 1=some [F]:=S.ld (Xy _ m0) rfl
     simp only [BS,LB,cls,Nat.reduceLT,Nat.reduceEqDiff,Nat.reduceAdd,Nat.reducePow,Nat.reduceDiv,Nat.reduceMod,Nat.reduceLeDiff,Int.reduceToNat,Int.reduceLE,Int.reduceLT,XF,Fi,r0,r8,iK (show(2:Int)≠0 by decide),tm,tp,Z]
     have k8:G<h.n:=bJ S.ok Z
     refine eZ (cK S.ok (hN.gr S.gr)) ?_
     intro h g
     have V:=aP g k8
     have ad:=XE k8 g.n
     replace S:=S.call g
     clear g Z
     simp only [BS,LB,cls,Nat.reduceLT,Nat.reduceEqDiff,Nat.reduceAdd,Nat.reducePow,Nat.reduceDiv,Nat.reduceMod,Nat.reduceLeDiff,r5]
     have u: ∀(x:List (Nat×Ob)) (a b c d:Nat×Ob),x.length=i->(x++[a,b,c,d])[i+3]? =some d:=fun x a b c d hx=>by rw [Xq (by omega),hx];simp
     have u:=u _ (G,.row [D,F] 1) (N,.row (f.l.flatMap (encI .i64)) 1) (U,.row [ptrTo A] 1) (A,.row (rdC s (1+4*n+8*e.nodes*i) (.pointer none)) 1) (jD β (rowQt s n e.nodes) i)
     refine ce (As (M:=(· =A)) (val:=fun j=>la ((s.drop (1+4*n+8*e.nodes*i+8*j)).take 8)) (fun k=>[(A,.row (rdC s (1+4*n+8*e.nodes*i+8*k) (.pointer none)) 1)]) (St.init1 S.ok (S.own _ (XH u)).2) (n:=e.nodes) (by omega) ?_) ?_
     . intro k p h P T
       refine iS (uh (bad:=false) (s:=s) (a:=1+4*n+8*e.nodes*i+8*k) T (i:=1) rfl rfl (by omega) hs) ?_
       rintro _ h' ⟨rfl,f',C,T⟩
       rw [cV (by omega)]at C T⊢
       obtain rfl:f'=.pointer none:=C.1
       exact⟨rfl,T⟩
     rintro _ h ⟨K,rfl,T⟩
     have H: ∀(x:List (Nat×Ob)) (a b c d:Nat×Ob),x.length=i->(x++[a,b,c,d])[i]? =some a:=fun x a b c d hx=>by rw [Xq (by omega),hx];simp
     have H:=H _ (G,.row [D,F] 1) (N,.row (f.l.flatMap (encI .i64)) 1) (U,.row [ptrTo A] 1) (A,.row (rdC s (1+4*n+8*e.nodes*i) (.pointer none)) 1) (jD β (rowQt s n e.nodes) i)
     have af:=S.ne H u (by omega)
     have W:=gp (T.fr.get G ad af)
     have nn:=(T.own _ m0).1.resolve_right (T.ne (i:=0) (j:=1) rfl rfl (by decide))
     have nk:K∉keys (rL β (rowQt s n e.nodes) i++[(G,.row [D,F] 1),(N,.row (f.l.flatMap (encI .i64)) 1),(U,.row [ptrTo A] 1),(A,.row (rdC s (1+4*n+8*e.nodes*i+8*e.nodes) (.pointer none)) 1)]) [(D,1,eW e.nodes β i),(F,1,oW e.nodes β i)]:=fun P=>absurd (S.key_lt (b:=K) (by simpa [keys]using P)) (by omega)
     have n0:=S.gr.n
     replace S:=S.call1 (i:=i+3) u T.fr (T.own _ m1).2
     rw [XG _ _ (by rw [jD];omega),jD,show i+3-i=3 by omega]at S
     simp only [LC]at S
     replace S:=S.push (.inl (XP n0 nn)) (T.own _ m0).2 nk
     clear T
     have fT:Fl D:=(S.gown _ m0).1.fl
     have fF:Fl F:=(S.gown _ m1).1.fl
     simp only [BS,LB,cls,Nat.reduceLT,Nat.reduceEqDiff,Nat.reduceAdd,Nat.reducePow,Nat.reduceDiv,Nat.reduceMod,Nat.reduceLeDiff]
     refine ec (bj (by exact Tryz.t39.1) (by exact Yd) (by decide) (by rfl)) S ?_;clear S;intro h bs S a0 a1;simp only [LC,aU,bA,ah,Nat.reduceMul,Nat.reduceAdd,Xk,Xi,Xf,Xm]at S
     simp only [BS,LB,cls,Nat.reduceLT,Nat.reduceEqDiff,Nat.reduceAdd,Nat.reducePow,Nat.reduceDiv,Nat.reduceMod,Nat.reduceLeDiff]
     have O:aA h 1 (.slice (some ⟨bs,0,none⟩) 1 1)=some (1,[slc e.nodes K]):=by simp only [aA];rw [S.lds (b:=bs) (o:=0) (n:=1*1) m0 (lbt rfl)];rfl
     replace S:=S.drop1
     have lw:=oW_len e.nodes β i
     refine jx (S.grow (j:=1) (m:=1) (new:=[slc e.nodes K]) rfl Tryz.t39.1 Yd (by decide) Tryz.t39.2.2.2.2.2 O rfl (by decide) rfl (by simp;omega)) ?_
     clear S O
     rintro h vN S
     simp only [LC,zM,Xa]at S
     have ai:Fl vN:=(S.gown _ m1).1.fl
     simp only [BS,LB,cls,Nat.reduceLT,Nat.reduceEqDiff,Nat.reduceAdd,Nat.reducePow,Nat.reduceDiv,Nat.reduceMod,Nat.reduceLeDiff,Int.reduceToNat,Int.reduceLE,Int.reduceLT,XF,Fi,r8]
     refine d9 (ar S (i:=i+1) (show(_::(_++_))[i+1]? =_ from app4 (jD β (rowQt s n e.nodes) i)) Tryz.t39.2.2.1 ai (Xo (lbt rfl)) ono) ?_
     clear S;rintro h ⟨S,_⟩
     rw [set4 (jD β (rowQt s n e.nodes) i)]at S
     simp only [LC,zM,Xa]at S
     simp only [BS,LB,Nat.reduceLT,Nat.reduceEqDiff,Nat.reduceAdd,r43]
     refine⟨by simp only [aX,bo,aS,bD,aV,ne_eq,not_false_eq_true,bC,bR,aZ,aW,bZ,cu,aT,Nat.reduceLT,Nat.reduceEqDiff,reduceIte,Xg,r0,r5,r8,ac,aD V,aQ V,aD W,aQ W],?_⟩
     simp only [w]
     obtain⟨B,I,ak⟩: ∃B:Nat->Nat,(∀j,j<i->β j=B j)/\B i=K:=⟨fun j=>if j=i then K else β j,fun j L=>by simp [Nat.ne_of_lt L],by simp⟩
     refine ih (i+1) _ _ (by omega) ⟨by omega,B,D,vN,?_,by simp [aa,r0],by simp [aa,r5],by simp [aa,r6],by simp [aa,r7],by simp [aa,r8],by simp [aa,r42],by simp [aa]⟩
     rw [zx I,Ao I,Ag I,<-ak]at S
     rw [rL,X4,Xf,<-X9]
     rw [eW,oW,if_neg (by omega),if_neg (by omega)]
     exact S
 . have ba:i=2*n:=by omega
   subst ba
   rw [(eoW_two _ _ n).1,(eoW_two _ _ n).2]at S
   have a2:qE e.nodes s=(Ye 0 (2*n)).map (rowQt s n e.nodes):=by rw [eR,List.range_eq_range']
   have rT: ∀j,j<n->cI f.to j=rowQt s n e.nodes (2*j):=fun j L=>by
    rw [eT,a2,(AD _ n 0).1];simp [cI,Xh,L]
   have rF: ∀j,j<n->cI f.fr j=rowQt s n e.nodes (2*j+1):=fun j L=>by
    rw [eF,a2,(AD _ n 0).2];simp [cI,Xh,L]
   have rS: ∀k,k<2*n->ay h 1 (encI .i64) (slc e.nodes (β k)) (rowQt s n e.nodes k):=fun k P=>by
    have R:=S.row (List.mem_append_left _ (rL_mem (β:=β) (row:=rowQt s n e.nodes) P))
    have lr:(rowQt s n e.nodes k).length=e.nodes:=by simp [rowQt]
    refine .inr ⟨β k,0,none,e.nodes,by rw [lr];rfl,by rw [lr];exact XA _,?_⟩
    rw [R.load (by rw [aI (aH .i64)];omega),Xn,Xc (by rw [aI (aH .i64)];omega)]
   have ll: ∀(v:Value) (R:Nat->List Int) (q:Nat),q<=1->ip h (v,1,(zO n).map fun j=>slc e.nodes (β (2*j+q)))->(∀j,j<n->R j=rowQt s n e.nodes (2*j+q))->eS h 0 v n R:=fun v R q hq g hR=>⟨(zO n).map fun j=>slc e.nodes (β (2*j+q)),g.sl (encV_self _) (fun _=>rfl) (by decide),by simp,fun _ _=>Xd _,fun j w hw=>by
    by_cases L:j<n
    . rw [List.getElem?_map,Ya L]at hw
      cases hw
      rw [hR j L]
      exact⟨rS _ (by omega),fun _ _=>Xd _⟩
    . rw [XO (by simp;omega)]at hw;cases hw⟩
   have bb:=ll D (cI f.to) 0 (by decide) (S.gown _ m0).1 rT
   have bc:=ll F (cI f.fr) 1 (by decide) (S.gown _ m1).1 rF
   have aL:h.load G 0 1=some [D]:=S.ld (Xy _ m0) rfl
   have bd:h.load G 1 1=some [F]:=S.ld (Xy _ m0) rfl
   have sM:ay h 1 (encI .i64) (slc n N) f.l:=.inr ⟨N,0,none,_,by rw [Y];rfl,by rw [Y];exact XA _,by
    have:=S.lds (b:=N) (o:=0) (n:=f.l.length*1) (Xy _ m1) (by rw [aI (aH .i64)];omega)
    rw [Xn,Xc (by rw [aI (aH .i64)];omega)]at this
    exact this⟩
   simp only [BS,LB,Nat.reduceLT,r42,r43,an,hlt]
   refine au (ax rfl) (q:=0) (ps:=[(1,6),(1,4)]) (by kernel_rfl) ?_
   simp only [BS,LB,cls,Nat.reduceLT,Nat.reduceEqDiff,Nat.reducePow,Nat.reduceDiv,Nat.reduceMod,Nat.reduceLeDiff,r0]
   refine eZ (cK S.ok (hN.gr S.gr)) ?_
   intro h g
   have V:=aP g (bJ (by exact ‹St NoM Q _ _ _›.ok) aL)
   simp only [BS,LB,cls,Nat.reduceLT,Nat.reduceEqDiff,Nat.reduceAdd,Nat.reducePow,Nat.reduceDiv,Nat.reduceMod,Nat.reduceLeDiff,Int.reduceToNat,Int.reduceLE,Int.reduceLT,XF,Fi,r7,r8,g.load aL,g.load bd]
   replace S:=S.call g
   have k8:=bJ S.ok (g.load aL)
   have kn:=S.fr.n
   have to:=X.to
   have fr:=X.fr
   have rk: ∀j,j<n->iX e.nodes (cI f.to j)/\iX e.nodes (cI f.fr j):=fun j L=>by
    have e1:cI f.to j=f.to[j]'(by omega):=by unfold cI;simp [Xh,show j<f.to.length by omega]
    have e2:cI f.fr j=f.fr[j]'(by omega):=by unfold cI;simp [Xh,show j<f.fr.length by omega]
    rw [e1,e2];exact⟨X.rTo _ (Xl _),X.rFr _ (Xl _)⟩
   refine ce (make_ok S.ok (sM.gr g) (by rw [Y];exact bb.gr g) (by rw [Y];exact bc.gr g) a6.n1 a7 hM (fun j L=>(rk j (by omega)).1) (fun j L=>(rk j (by omega)).2)) ?_
   rintro pt h ⟨g2,hA⟩
   have W:=aP g2 k8
   have a3:=(sM.gr g).gr g2
   replace S:=S.call g2
   have be:=hA
   obtain⟨bt,_,_,_,rfl,_⟩:=be.ex
   have bp:=fun(t:TypeId) (p q:Operand)=>pP (E:=zB) (x:=p) (y:=q) Tryz.t72.2.2.2.2.1 (.inr ⟨⟨bt,rfl⟩,rfl⟩)
   simp only [BS,LB,cls,Nat.reduceLT,Nat.reduceEqDiff,Nat.reduceAdd,Nat.reducePow,Nat.reduceDiv,Nat.reduceMod,Nat.reduceLeDiff,Fi]
   refine⟨by simp only [aX,bo,aS,bD,aV,ne_eq,not_false_eq_true,bC,bR,aZ,aW,bZ,cu,aT,Nat.reduceLT,Nat.reduceEqDiff,reduceIte,Xg,r0,r5,r8,ac,aD V,aQ V,aD W,aQ W],?_⟩
   have g0:=S.gr
   have bf:=S.ok
   clear S
   have S:=Si bf
   refine al (gL S.ok) ?_;intro h g;replace S:=S.call g;clear g
   simp only [BS,LB,Nat.reduceLT,Nat.reduceEqDiff,Fi,r7,(a3.gr S.gr).lenq,Y]
   refine az (fun(k:Nat) J h=>k<=n/\St NoM _ h [] []/\J 10=ptrTo bt/\J 72=slc n N/\J 73=.int .i64 (n:Nat)/\J 74=.int .i64 k) (fun k=>n-k) ?_ 0 _ _ ⟨Xd _,S,by simp [aa,ac],by simp [aa],by simp [aa],by simp [aa]⟩
   clear S r0 r5 r6 r7 r8 r42 r43
   intro k bh J h ⟨P,S,r10,r72,r73,r74⟩
   have w:am .i64 ((k:Int)+1)=((k+1:Nat):Int):=by rw [wrap64]<;>omega
   by_cases hlt:k<n
   . obtain⟨c,o,a4,a5⟩:=(a3.gr S.gr).ix (kd:=.i64) (aH .i64) (i:=k) (by omega)
     have hz:=hz k f.l[k] (XC (by omega))
     generalize f.l[k]=z at a5 hz
     simp only [BS,LB,Nat.reduceLT,Nat.reduceEqDiff,Fi,r10,r72,r73,r74,an,hlt,a4,a5,encI]
     refine al (tabTo_ok S.ok (hA.gr S.gr) (fun i hi=>(rk i (by omega)).1.1)) ?_;intro h g;replace S:=S.call g;clear g
     rw [Y,hz.1]
     simp only [BS,LB,Nat.reduceLT,Nat.reduceEqDiff,r10]
     refine al (B8 S.ok (hA.gr S.gr) (fun i hi=>(rk i (by omega)).2.1)) ?_;intro h g;replace S:=S.call g;clear g
     rw [Y,hz.2]
     simp only [BS,LB,Nat.reduceLT,Nat.reduceEqDiff]
     refine al (gL S.ok) ?_;intro h g;replace S:=S.call g;clear g
     simp only [BS,LB,Nat.reduceLT,Nat.reduceEqDiff,r74,w]
     exact bh (k+1) _ _ (by omega) ⟨by omega,S,by simp [aa,r10],by simp [aa,r72],by simp [aa,r73],by simp [aa]⟩
   . simp only [BS,LB,ae,Nat.reduceLT,Nat.reduceEqDiff,r10,r73,r74,an,hlt]
     exact⟨g0.trans S.gr,_,kn,hA.gr S.gr⟩
theorem LLD.at{h:Hp}{m k n:Nat}{v:Value}{R:Nat->List Int}(r:LLD h m k v n R){i:Nat}(K:i<n)(z:R i≠ []):
 ∃ c,(∃q o,iQ (some 1) v (.int .i64 (i:Nat))=some (.pointer (some ⟨q,o,none⟩))/\h.load q o 1=some [.slice (some ⟨c,0,some 1⟩) (R i).length (R i).length])/\Row h c (ints (R i)) 1/\m<=c/\c<k/\
   ∀p l',Mo (· =c) h p->l'.length=(R i).length->Row p c (ints l') 1->LLD p m k v n (fun t=>if t=i then l' else R t):=by
 obtain⟨s,a,b,c,d,e⟩:=r
 obtain⟨q,o,I,A⟩:=a.ix (kd:=.i64) qf (i:=i) (by omega)
 have B:s[i]? =some s[i]:=XC (by omega)
 obtain⟨⟨L,J⟩,C⟩:=d i _ B
 obtain⟨l,D,E⟩:=J z
 have f:aq s[i] l:=by rw [D];rfl
 refine⟨l,⟨q,o,I,by rw [<-D];exact A⟩,E,(C l f).1,(C l f).2.1,fun p l' H u g=>⟨s,a.mo H (fun x F e=>by subst e;exact(C _ f).2.2 F),b,c,fun j w y=>?_,e⟩⟩
 refine⟨?_,(d j w y).2⟩
 show WrI p w (if j=i then l' else R j)
 by_cases G:j=i
 . subst G
   rw [if_pos rfl]
   rw [B]at y
   cases y
   rw [D]
   refine⟨.inr ⟨l,0,some 1,(R j).length,by rw [u],by omega,?_⟩,fun _=>⟨l,by rw [u],g⟩⟩
   rw [g.load (by rw [bQ];omega),Xn,Xf,<-bQ l',XM];rfl
 . rw [if_neg G]
   exact(d j w y).1.mo H (fun x F A=>by subst A;exact e j i w s[i] _ y B G F f)
theorem zq{B:List Arc}{N s:Nat}(h: ∀v,dOf B s v<=FAR){x:Int}(a:x∈nw B N s):0<=x/\x<=72057594037927936:=by
 unfold nw at a
 obtain⟨v,_,rfl⟩:=List.mem_map.1 a
 have:=h v
 unfold FAR at this
 omega
theorem exTo{b:Hp}(d:b.t.Sized b.n){a:Gra}(c:Good a){e:Value}{f:Nat}(g:bW b f e a){s:Nat}(h:s<a.nodes)(v:Nat):IsD (seen a.arcs Arc.t Arc.s) s v (dOf (seen a.arcs Arc.t Arc.s) s v):=by
 obtain⟨_,_,_,_,_,_,_,D,_,_,_,_,_,_,_,i,_⟩:=sa d c g h
 exact(tD (i v)).2
theorem exFrom{b:Hp}(d:b.t.Sized b.n){a:Gra}(c:Good a){e:Value}{f:Nat}(g:bW b f e a){s:Nat}(h:s<a.nodes)(v:Nat):IsD (seen a.arcs Arc.s Arc.t) s v (dOf (seen a.arcs Arc.s Arc.t) s v):=by
 obtain⟨_,_,_,_,_,_,_,D,_,_,_,_,_,_,_,i,_⟩:=s9 d c g h
 exact(tD (i v)).2
theorem zo(B:List Arc)(N s:Nat):(nw B N s).length=N:=by simp [nw]
theorem rowD_at{B:List Arc}{N s v:Nat}(a:v<N):(nw B N s).getD v 0=(dOf B s v:Nat):=by simp [nw,Xh,a]
theorem bSetG_ok{k:Hp}(u:k.t.Sized k.n){l p b a c:Nat}{B:Nat->Nat}(m:ij k l p b a c B)(q:l≠p){r i:Nat}(d:b<=100)(e:a<=1000)(j:c=(a+7)/8)(x:Bool):
 Ret zB 28 [ptrTo l,.int .i64 (r:Nat),.int .i64 (i:Nat),.bool x] k fun v w=>Mo (· =p) k w/\ ∃y,ij w l p b a c y/\(Tz a c B->Tz a c y):=by
 by_cases o:r<b/\i<a
 . exact bSetZ_ok u m q o.1 o.2 d e j x
 have D: ∀{h:Hp} {f:Value},Gr k h->Fl f->bG zB 87 [ptrTo l,.int .i64 (r:Nat),.int .i64 (i:Nat),f] h (.bool false):=by
  intro h f g G
  have S:=Si g.ok
  have s:=m.gr g
  have A: ¬(r:Int)<0:=by omega
  have E: ¬(i:Int)<0:=by omega
  by_cases H:r<b
  . have t: ¬(b:Int)<=(r:Int):=by omega
    have F:(a:Int)<=(i:Int):=by omega
    refine ab (n:=46) (rs:=[.tmp 8]) rfl Tryz.e87 rfl rfl rfl (lbt rfl) ?_
    simp only [BS,LB,Nat.reduceLT,Nat.reduceEqDiff,A]
    refine al (kY S.ok s.bits) ?_;intro h g;replace S:=S.call g;clear g
    simp only [BS,LB,Nat.reduceLT,Nat.reduceEqDiff,t,E]
    refine al (nL S.ok (s.gr S.gr).bits) ?_;intro h g;replace S:=S.call g;clear g
    simp only [BS,LB,ae,Nat.reduceLT,Nat.reduceEqDiff,F]
    exact S.gr
  . have t:(b:Int)<=(r:Int):=by omega
    refine ab (n:=46) (rs:=[.tmp 8]) rfl Tryz.e87 rfl rfl rfl (lbt rfl) ?_
    simp only [BS,LB,Nat.reduceLT,Nat.reduceEqDiff,A]
    refine al (kY S.ok s.bits) ?_;intro h g;replace S:=S.call g;clear g
    simp only [BS,LB,ae,Nat.reduceLT,Nat.reduceEqDiff,t]
    exact S.gr
 have S:=Si u
 refine ab (n:=14) (rs:=[.tmp 8]) rfl Tryz.e28 rfl rfl rfl (lbt rfl) ?_
 simp only [BS,Nat.reduceLT]
 refine ag (da (by exact pS)) S ?_;clear S;intro h I S C
 simp only [BS,LB,Nat.reduceLT,Nat.reduceEqDiff]
 refine al (D S.gr ic) ?_;intro h g;replace S:=S.call g;clear g
 simp only [BS,LB,Nat.reduceLT,Nat.reduceEqDiff]
 exact⟨S.gr.fr,B,m.gr S.gr,fun z=>z⟩
theorem eS.congr{h:Hp}{m n:Nat}{v:Value}{R f:Nat->List Int}(r:eS h m v n R)(e: ∀i,i<n->R i=f i):eS h m v n f:=by
 obtain⟨j,a,b,c,d⟩:=r
 exact⟨j,a,b,c,fun i w g=>by
  have:=(List.getElem?_eq_some_iff.1 g).1
  rw [<-e i (by omega)];exact d i w g⟩
theorem TabAt.congr{h:Hp}{m N:Nat}{p:Value}{l:List Int}{R Q a c:Nat->List Int}(t:TabAt h m p N l R Q)(d: ∀i,i<l.length->R i=a i)(e: ∀i,i<l.length->Q i=c i):TabAt h m p N l a c:=by
 obtain⟨b,f,g,j,k,n,o,q,r,s,u⟩:=t.ex
 exact⟨b,f,g,j,k,n,o,q.congr d,r.congr e,s,u⟩
def tabL(l:List Int)(R Q:Nat->List Int):Tab:=⟨l,(zO l.length).map R,(zO l.length).map Q⟩
theorem jH{n i:Nat}{R:Nat->List Int}(h:i<n):cI ((zO n).map R) i=R i:=by
 unfold cI;simp [Xh,h]
theorem tabL_at{h:Hp}{m N:Nat}{p:Value}{l:List Int}{R Q:Nat->List Int}(t:TabAt h m p N l R Q):TabAt h m p N (tabL l R Q).l (cI (tabL l R Q).to) (cI (tabL l R Q).fr):=
 t.congr (fun i a=>(jH a).symm) (fun i a=>(jH a).symm)
theorem tabL_L{N:Nat}{l:List Int}{R Q:Nat->List Int}(d:gQ N l)(k:N<=1000)(c:1<=l.length)(e: ∀i,i<l.length->iX N (R i))(f: ∀i,i<l.length->iX N (Q i)):TabL N (tabL l R Q):=by
 have a: ∀{F:Nat->List Int},(∀i,i<l.length->iX N (F i))-> ∀r∈(zO l.length).map F,r.length=N/\ ∀x∈r,0<=x/\x<=72057594037927936:=fun {F} g r h=>by
  obtain⟨i,b,rfl⟩:=List.mem_map.1 h
  exact g i (List.mem_range.1 b)
 exact⟨c,d.1,by simp [tabL],by simp [tabL],a e,a f,fun x j=>by
  obtain⟨i,b,rfl⟩:=List.getElem_of_mem (l:=l) j
  have:=d.2 i b
  simp only [Xh,XC b,Option.getD_some]at this
  have c:=this.1
  have m:=this.2.1
  exact⟨c,by omega⟩⟩
theorem ownRows{c:Hp}(e:c.t.Sized c.n){a:Gra}(b:Good a){g:Value}{j:Nat}(f:bW c j g a){l:List Int}(k:gQ a.nodes l){i:Nat}(m:i<l.length):iX a.nodes (toR a l i)/\iX a.nodes (frR a l i):=by
 have h:=k.2 i m
 exact⟨⟨zo _ _ _,fun x d=>zq (fun v=>(exTo e b f (by omega) v).le) d⟩,zo _ _ _,fun x d=>zq (fun v=>(exFrom e b f (by omega) v).le) d⟩
end Go.Ab
end
section
namespace Go.Ab
theorem St.growB{M:Nat->Prop}{w h:Hp}{L:List (Nat×Ob)}{G:List GL}(S:St M w h L G){E:Env}{t y e:TypeId}{f k m len b md:Nat}{z vs new:List Value}{x:Value}(D:Row h b vs md)(a:len*k=vs.length)(F:E.und t=some (.slice e))(H:dK E e f k z)(I:0<f)
 (q:dR E y=some false) (g:aA h k x=some (m,new)) (A:m*k=new.length) (J:0<m) (B:0<k) (r:(vs.length+new.length)*(f+1)<=70368744177664) {ts:List TypeId}:
 ∃C v',dp E h (t::y::ts) (.slice (some ⟨b,0,none⟩) len len) x=some (C,v')/\St M w C L ((v',k,vs++new)::G):=by
 obtain⟨⟨i,K,rfl,rfl⟩,N,O⟩:=H
 obtain⟨p,el,j,d,s⟩:=D
 have l:Nat.ble (len+m) len=false:=by
  cases q:Nat.ble (len+m) len with
  |false=>rfl
  |true=>exact absurd (lbt q) (by omega)
 have o:len+m<=vs.length+new.length:=by
  rw [<-a,<-A]
  have J:=X2 len B
  have P:=X2 m B
  omega
 have c:(Nat.ble ((len+m)*(i.bytes+1)) 70368744177664&&Nat.blt 0 i.bytes)=true:=by
  rw [X6 (XP (X8 _ o) r)]
  simp only [Bool.true_and]
  rw [Nat.blt_eq];exact I
 have u:Nat.beq z.length i.size=true:=by rw [O];exact Yb _
 have v:jF p vs.length 0 (len*i.size) new=some (p.pushAll vs.length new,vs.length+new.length):=by
  unfold jF
  rw [a,Yb vs.length]
  rfl
 refine⟨h.new (.cells (p.pushAll vs.length new) (vs.length+new.length) e 1),.slice (some ⟨h.n,0,some i.size⟩) (len+m) (len+m),?_,S.newG (n:=len+m) ?_ ?_⟩
 . unfold dp
   simp only [q]
   unfold jL
   simp only [F,K,g]
   unfold fG
   rw [l]
   simp only [cond_false]
   rw [c,N]
   simp only [cond_true,u]
   unfold nV
   simp only [j,v]
 . rw [Nat.add_mul,a,A,Xb]
 . refine⟨p.pushAll vs.length new,e,?_,?_,fun n=>?_⟩
   . rw [Hp.get_new _ _ S.ok,if_pos rfl,Xb]
   . rw [Xb];exact Tr.sized_pushAll _ d
   . rw [Tr.get_pushAll _ _ _ d,List.getElem?_append]
     split
     . exact s n
     . rfl
end Go.Ab

end
section
namespace Go.Ab
open Go.Proofs
set_option maxRecDepth 10000
def Tryz.FN:=aj t1<|aj t2<|aj t3<|aj t4<|aj t5<|aj t6<|aj Z0<|aj Z2<|aj t9<|aj t10<|aj t11<|t38
theorem pos_first{ks:List Int}{x:Int}: ∀{i:Nat} (a:i<ks.length),ks[i]=x->(∀j (c:j<ks.length),j<i->ks[j]≠x)->pos ks x=some i:=by
 induction ks with
 |nil=>intro i a;simp at a
 | cons y k f=>
   intro i a b d
   cases i with
   |zero=>simp only [List.getElem_cons_zero]at b;unfold pos;rw [if_pos b.symm]
   | succ i=>
     have g:y≠x:=d 0 (by simp) (by omega)
     have:=f (i:=i) (by simpa using a) (by simpa using b) (fun j c h=>by have:=d (j+1) (by simpa using c) (by omega);simpa using this)
     unfold pos
     rw [if_neg (fun e=>g e.symm),this]
     rfl
theorem pos_no{ks:List Int}{x:Int}(a: ∀j (b:j<ks.length),ks[j]≠x):pos ks x=none:=by
 induction ks with
 |nil=>rfl
 | cons y f c=>
   have d:y≠x:=a 0 (by simp)
   unfold pos
   rw [if_neg (fun e=>d e.symm),c (fun j b=>by have:=a (j+1) (by simpa using b);simpa using this)]
   rfl
theorem B0 {A:Hp} (ok:A.t.Sized A.n) {v:Value} {l:List Int} (M:ay A 1 (encI .i64) v l) (hl:l.length<1000):
 Ret zB 26 [v] A fun r B=>Gr A B/\ay B 1 (encI .i64) r (norm [] l)/\ ∀c,aq r c->A.n<=c:=by
 have S:=Si ok
 have fv:=M.fl
 refine ab (n:=46) (rs:=[.tmp 2]) rfl Tryz.e26 rfl rfl rfl (lbt rfl) ?_
 simp only [BS]
 replace S:=(S.nilG (k:=1)).nilG (k:=1)
 refine az (fun(i:Nat) g h=>i<=l.length/\ ∃(N E:Value) (p ks:List Int),St NoM A h [] [(E,1,ints ks),(N,1,ints p)]/\norm [] l=p++norm ks (l.drop i)/\p.length=i/\ks.length<=i/\g 0=v/\g 3=N/\g 4=E/\g 5=.int .i64 i) (fun i=>l.length-i) ?_ 0 _ _ ?_
 . clear S
   intro i Y g h ⟨hi,N,E,p,ks,S,hnm,lo,lk,s,C,D,t⟩
   have w:am .i64 ((i:Int)+1)=((i+1:Nat):Int):=by rw [wrap64]<;>omega
   by_cases hlt:i<l.length
   . have Z:l.drop i=l[i]::l.drop (i+1):=XW hlt
     obtain⟨c0,o0,R,y0⟩:=M.ix (kd:=.i64) (aH .i64) hlt
     generalize l[i]=x at Z y0
     simp only [BS,LB,Nat.reduceLT,Nat.reduceEqDiff,FN,s,t,M.lenq,an,hlt]
     refine az (fun(a:Nat) g B=>B=h/\a<=ks.length/\(∀j (H:j<ks.length),j<a->ks[j]≠x)/\g 0=v/\g 3=N/\g 4=E/\g 5=.int .i64 i/\g 6=.int .i64 a) (fun a=>ks.length-a) ?_ 0 _ _ ?_
     . clear s C D t
       rintro a T g B ⟨rfl,ha,U,s,C,D,t,O⟩
       have wa:am .i64 ((a:Int)+1)=((a+1:Nat):Int):=by rw [wrap64]<;>omega
       have P:ay B 1 (encI .i64) E ks:=(S.gown _ m0).1.sl rfl (fun _=>rfl) (by decide)
       have F:B.load c0 o0 1=some [.int .i64 x]:=S.gr.load y0
       have I: ∀(q:Nat) (z:List Int) (u d:Value) (V:Nat->Value) (G:Hp),q=n9 ks x->z=nY ks x->St NoM A G [] [(u,1,ints z),(d,1,ints (p++[(q:Int)]))]->norm [] l=(p++[(q:Int)])++norm z (l.drop (i+1)):=fun q z u d V G e1 e2 _=>by
        rw [hnm,Z,norm,<-e1,<-e2,Xp];rfl
       by_cases y:a<ks.length
       . obtain⟨c1,o1,x1,J⟩:=P.ix (kd:=.i64) (aH .i64) y
         replace J:B.load c1 o1 1=some [.int .i64 ks[a]]:=J
         by_cases Q:ks[a]=x
         . simp only [BS]
           refine au (ax rfl) (q:=0) (ps:=[]) (by kernel_rfl) ?_
           have W: ¬(a:Int)=(ks.length:Int):=by omega
           rw [Q]at J
           simp only [BS,LB,cls,ae,Nat.reduceLT,Nat.reduceEqDiff,Nat.reduceAdd,Nat.reducePow,Nat.reduceDiv,Nat.reduceMod,Nat.reduceLeDiff,FN,s,C,D,t,O,P.lenq,an,y,x1,J,R,F,W]
           refine ag (bj (by exact Tryz.t38.1) (by exact XS) (by decide) (by rfl)) S ?_;clear S;intro h K S L;simp only [LC,aU,bA,ah,Nat.reduceMul,Nat.reduceAdd,Xk,Xi,Xf,Xm]at S
           simp only [BS,LB,Nat.reduceLT,Nat.reduceEqDiff]
           have ps:=pos_first y Q U
           have f:aA h 1 (.slice (some ⟨K,0,none⟩) 1 1)=some (1,ints [(a:Int)]):=by simp only [aA];rw [S.lds (b:=K) (o:=0) (n:=1*1) m0 (lbt rfl)];rfl
           replace S:=S.drop1
           refine dT (S.grow (j:=1) (m:=1) (new:=ints [(a:Int)]) rfl Tryz.t38.1 XS (by decide) Tryz.t38.2.2.2.2.2 f rfl (by decide) rfl (by rw [bQ,bQ];simp;omega)) ?_
           clear S f;rintro G d S
           simp only [LC]at S
           rw [<-gM]at S
           simp only [BS,LB,Nat.reduceLT,Nat.reduceEqDiff,t,w]
           refine Y (i+1) _ _ (by omega) ⟨by omega,d,E,_,ks,S,I a ks E d g G (by unfold n9;rw [ps]) (by unfold nY;rw [ps]) S,by simp [lo],by omega,by simp [aa,s],by simp [aa],by simp [aa,D],by simp [aa]⟩
         . simp only [BS]
           refine au (ax rfl) (q:=0) (ps:=[]) (by kernel_rfl) ?_
           simp only [BS,LB,cls,Nat.reduceLT,Nat.reduceEqDiff,Nat.reduceAdd,Nat.reducePow,Nat.reduceDiv,Nat.reduceMod,Nat.reduceLeDiff,FN,s,D,t,O,P.lenq,an,y,x1,J,R,F,Q,wa]
           refine T (a+1) _ _ (by omega) ⟨rfl,by omega,fun j H af=>?_,by simp [aa,s],by simp [aa,C],by simp [aa,D],by simp [aa,t],by simp [aa]⟩
           by_cases e:j=a
           . subst e;exact Q
           . exact U j H (by omega)
       . have ea:a=ks.length:=by omega
         subst ea
         have ps:=pos_no (ks:=ks) (x:=x) (fun j H=>U j H H)
         simp only [BS]
         refine au (ax rfl) (q:=0) (ps:=[]) (by kernel_rfl) ?_
         simp only [BS,LB,cls,ae,Nat.reduceLT,Nat.reduceEqDiff,Nat.reduceAdd,Nat.reducePow,Nat.reduceDiv,Nat.reduceMod,Nat.reduceLeDiff,FN,s,C,D,t,O,P.lenq,an,y,R,F]
         refine ag (bj (by exact Tryz.t38.1) (by exact XS) (by decide) (by rfl)) S ?_;clear S;intro h K S L;simp only [LC,aU,bA,ah,Nat.reduceMul,Nat.reduceAdd,Xk,Xi,Xf,Xm]at S
         simp only [BS,LB,Nat.reduceLT,Nat.reduceEqDiff]
         have f:aA h 1 (.slice (some ⟨K,0,none⟩) 1 1)=some (1,ints [x]):=by simp only [aA];rw [S.lds (b:=K) (o:=0) (n:=1*1) m0 (lbt rfl)];rfl
         replace S:=S.drop1
         refine dT (S.grow (j:=0) (m:=1) (new:=ints [x]) rfl Tryz.t38.1 XS (by decide) Tryz.t38.2.2.2.2.2 f rfl (by decide) rfl (by rw [bQ,bQ];simp;omega)) ?_
         clear S f;rintro G u S
         simp only [LC]at S
         rw [<-gM]at S
         simp only [BS,LB,Nat.reduceLT,Nat.reduceEqDiff,C,O]
         refine ag (bj (by exact Tryz.t38.1) (by exact XS) (by decide) (by rfl)) S ?_;clear S;intro h bu S ad;simp only [LC,aU,bA,ah,Nat.reduceMul,Nat.reduceAdd,Xk,Xi,Xf,Xm]at S
         simp only [BS,LB,Nat.reduceLT,Nat.reduceEqDiff]
         have f:aA h 1 (.slice (some ⟨bu,0,none⟩) 1 1)=some (1,ints [((ks.length:Nat):Int)]):=by simp only [aA];rw [S.lds (b:=bu) (o:=0) (n:=1*1) m0 (lbt rfl)];rfl
         replace S:=S.drop1
         refine dT (S.grow (j:=1) (m:=1) (new:=ints [((ks.length:Nat):Int)]) rfl Tryz.t38.1 XS (by decide) Tryz.t38.2.2.2.2.2 f rfl (by decide) rfl (by rw [bQ,bQ];simp;omega)) ?_
         clear S f;rintro G d S
         simp only [LC]at S
         rw [<-gM]at S
         simp only [BS,LB,Nat.reduceLT,Nat.reduceEqDiff,t,w]
         refine Y (i+1) _ _ (by omega) ⟨by omega,d,u,_,_,S,I ks.length _ u d g G (by unfold n9;rw [ps]) (by unfold nY;rw [ps]) S,by simp [lo],by simp;omega,by simp [aa,s],by simp [aa],by simp [aa],by simp [aa]⟩
     . exact⟨rfl,Xd _,fun j H h=>absurd h (by omega),by simp [aa,s],by simp [aa,C],by simp [aa,D],by simp [aa,t],by simp [aa]⟩
   . have X:i=l.length:=by omega
     simp only [BS,LB,ae,Nat.reduceLT,Nat.reduceEqDiff,FN,s,C,t,M.lenq,an,hlt]
     rw [X,List.drop_length,norm,X3]at hnm
     rw [hnm]
     exact⟨S.gr,(S.gown _ m1).1.sl rfl (fun _=>rfl) (by decide),fun c hc=>((S.gblk m1 hc).1).elim (fun h=>h) (fun h=>h.elim)⟩
 . exact⟨Xd _,_,_,[],[],S,rfl,rfl,XA _,by simp [aa,cw],by simp [aa],by simp [aa],by simp [aa]⟩
end Go.Ab
end

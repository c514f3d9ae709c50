/- Nets, cells, flags: what the functions do (part 5). -/
import Derived.Test.YtnandelhggbchaaGreatDoorNetD
import Derived.ChangeSlices
import Derived.ChangeArms
import Derived.ChangeSame
open Go.Ab.Tryz
open Nat renaming lt_of_lt_of_le->zM,min_eq_left->Xk,mul_one->Xq
open Int renaming cast_ofNat_Int->zN
open List renaming take->Xa,drop->Xb,length_take->Xd,getElem?_cons_zero->Xe,getElem?_cons_succ->Xf,all_cons->Xg,size_toArray->Xh,all_nil->Xi,map_toArray->Xj,flatMap_eq_foldl->Xl,map_cons->Xn,take_succ_cons->Xo,map_nil->Xp
open Bool renaming and_true->Xc
open Go.Ab.Tryz renaming abEnv->Xm
set_option maxHeartbeats 4000000
set_option linter.defProp false
set_option linter.unusedVariables false
set_option linter.unusedSimpArgs false
section
namespace Go.Ab
open Go.Proofs
set_option maxRecDepth 10000
def Tryz.F8:=aj t1<|aj t2<|aj t3<|aj t4<|aj t5<|aj t6<|aj Z3<|aj Z5<|aj t9<|aj t10<|aj t11<|aj t12<|aj Z15<|aj Z18<|aj t15<|aj t16<|aj t17<|aj Z21<|aj Z20<|aj t20<|aj t21<|aj t22<|aj t23<|aj t24<|aj t26<|aj r26<|aj Z11<|aj t29<|aj Z0<|aj t32<|aj t33<|aj t36<|aj t38<|aj r38<|aj t41<|aj t44<|aj t45<|aj t47<|aj r47<|aj t48<|aj t51<|aj t59<|aj Z13<|aj Z2<|aj Z4<|aj t181<|aj t189<|aj Z1<|aj t271<|aj t358<|aj Z19<|aj t372<|aj t374<|aj t376<|aj t377<|aj t378<|aj t379<|Z14
theorem zt{h0:Hp}(a:h0.t.Sized h0.n):bI Xm 14 [] h0 (.bool true):=ret_orc rfl ⟨rfl,Gr.refl a⟩
theorem SlW.grT{h h':Hp}{kd:IntKind}{v:Value}{xs:List Int}(s:SlW h kd v xs)(g:Gr h h'):SlW h' kd v xs:=s.imp (fun h=>h) (fun⟨b,o,c,a,d,e⟩=>⟨b,o,c,a,d,g.load e⟩)
theorem wrongC_z{N nd a:Nat}{f t:Int}:bg N nd 0 f t=bg N a 0 f t:=by
 unfold bg
 simp only [Nat.lt_irrefl,false_and]
theorem vh{N nd:Nat}{f t:Int}:bg N nd 0 f t≠0:=by
 unfold bg
 simp only [Nat.lt_irrefl,false_and,if_false]
 split
 . decide
 . split<;>decide
theorem wrongC_p{N nd mk:Nat}(h:0<mk){f t:Int}:bg N nd mk f t=bg N nd 1 f t:=by
 unfold bg
 simp only [h,Nat.zero_lt_one]
theorem twoQ_at{a0 a1 a2 a3 b0 b1 b2 b3:Value}{i:Nat}(a:i<2):iB Xm 44 (.agg ⟨[a0,a1,a2,a3,b0,b1,b2,b3]⟩) (.int .i64 (i:Nat))=some (.agg ⟨if i=0 then [a0,a1,a2,a3]else [b0,b1,b2,b3]⟩):=by
 rcases(by omega:i=0\/i=1)with rfl|rfl<;>rfl
theorem twoQ_of{a0 a1 a2 a3 b0 b1 b2 b3:Value}:js Xm 44 [(0,.agg ⟨[a0,a1,a2,a3]⟩),(1,.agg ⟨[b0,b1,b2,b3]⟩)]=some (.agg ⟨[a0,a1,a2,a3,b0,b1,b2,b3]⟩):=rfl
theorem sk{a:Gra}{l:List Int}{i:Nat}:(toR a l i).length=a.nodes:=by unfold toR;exact wI _ _ _
theorem sZ{a:Gra}{l:List Int}{i:Nat}:(frR a l i).length=a.nodes:=by unfold frR;exact wI _ _ _
theorem sf {h0:Hp} (ok:h0.t.Sized h0.n) {vB vM vN vH:Value} {f t:Nat} {xa:Int} {B ms H:List Int} (hB:SlW h0 .u8 vB B) (hM:SlW h0 .u8 vM ms) (cY: ∀x∈ms,0<=x/\x<=255) (fN:Fl vN) (hf:f<=255) (ht:t<=255) {q0 qf qt qa:Int} (eM: -9223372036854775808<=qf) (eN:qf<9223372036854775808) (hH:SlW h0 .u8 vH H):
 bI Xm 3 [.agg ⟨[vB,vM,.int .u8 (f:Nat),.int .u8 (t:Nat),.int .i8 xa,vN]⟩,.agg ⟨[.int .i64 q0,.int .i64 qf,.int .i64 qt,.int .i64 qa]⟩,vH] h0 (.bool true):=by
 have S:=Si ok
 have fB:=hB.sl.fl
 have fM:=hM.sl.fl
 have fH:=hH.sl.fl
 have eO:=jm
 refine ae (n:=212) (rs:=[.tmp 6]) rfl Tryz.e3 rfl rfl rfl (lbt rfl) ?_
 simp only [BS,Nat.reduceLT]
 refine ah (a8 (by intro x e;cases e)) S ?_;clear S;intro h b3 S eD;simp only [ag]at S
 simp only [BS,Nat.reduceLT,Nat.reduceEqDiff,if_false]
 refine ah (a8 (by intro x e;cases e)) S ?_;clear S;intro h b4 S eF;simp only [ag]at S
 simp only [BS,LB,Nat.reduceLT,Nat.reduceEqDiff,F8,List.drop_zero,Xo,List.take_zero,S.lds (b:=b3) (o:=0) (n:=6) m1 (lbt rfl)]
 have z4:=(S.row (b:=b4) m0).lt S.ok
 refine step_ret (made20_ok S.ok (hB.grT S.gr) (hM.grT S.gr) cY fN) ?_
 rintro r h ⟨g,R,vx,vy,va,bp,nb,vR,l,rfl,ad,ga,hn,sR,hl,eP,eT,_,kN,nR⟩
 replace S:=S.call g
 have R4:=S.row (b:=b4) m0
 have fx:=ga.X.fl
 have fy:=ga.Y.fl
 have fa:=ga.A.fl
 have fR:=sR.fl
 have n1:=ad.n1
 have n2:=ad.n2
 have g0:=S.gr
 have c0:=S.ok
 rename Hp=>hA
 clear S
 have S:=Si c0
 simp only [BS,LB,Nat.reduceLT,Nat.reduceEqDiff,F8,iO]
 refine ah aA S ?_;clear S;intro h b7 S eG
 simp only [BS,LB,Nat.reduceLT,Nat.reduceEqDiff]
 refine aC (S.store (i:=0) rfl Tryz.t31.2.1 (by intro x e;cases e) rfl (by simp only [ag,Xg,Xi,fx.2.1,fy.2.1,fa.2.1,Xc];rfl) (lbt rfl) ono) ?_
 clear S;rintro h ⟨S,mo⟩;clear mo
 simp only [LC,ag,lay,Xa,Xb,Nat.reduceAdd]at S
 have R7:=S.row (b:=b7) m0
 have gB:=S.gr
 replace R4:=R4.gr gB
 have c5:=S.ok
 clear S
 rename Hp=>hB'
 have S:=Si c5
 have mn:min (H.length:Int) 40=((min H.length 40:Nat):Int):=by omega
 obtain⟨b8,c6,sH,bH⟩:=hH.low (kd':=.i64) (n:=min H.length 40) Tryz.t22.1 Tryz.t5.2.2.1 (Nat.min_le_left _ _)
 have da:=sH.fl
 simp only [BS,LB,Nat.reduceLT,Nat.reduceEqDiff,Nat.reduceAdd,Option.map_some,Option.map_none,F8,hH.sl.lenq,mn,c6,da]
 refine ah (a8 (by intro x e;cases e)) S ?_;clear S;intro h bd S b9;simp only [ag]at S
 have db:az h 1 (encI .u8) b8 (H.take (min H.length 40)):=sH.gr (g0.trans (gB.trans S.gr))
 have nB: ¬ar b8 bd:=fun hc=>by
  have:=sH.lt ok hc
  have:=g0.n
  have:=gB.n
  omega
 have dc:(H.take (min H.length 40)).length<1000000:=by rw [Xd];omega
 simp only [BS,LB,Nat.reduceLT,Nat.reduceEqDiff]
 refine step_ret (raw_ok S.ok (S.row m0) ⟨db,nB,dc,by omega⟩) ?_
 rintro v h ⟨fr,δ,wx,wy,wa,rfl,a4,gb,hz⟩
 replace S:=S.drop1.step fr (fun c hc=>by subst hc;exact .inr b9) (fun c hc e=>by simp [keys]at hc)
 have dd:=gb.X.fl
 have de:=gb.Y.fl
 have dj:=gb.A.fl
 have d1:=a4.n1
 have d2:=a4.n2
 have gC:=gB.trans S.gr
 replace R4:=R4.gr S.gr
 replace R7:=R7.gr S.gr
 have dm:=S.ok
 clear S
 rename Hp=>hC
 have S:=Si dm
 simp only [BS,F8,iO]
 refine ah aA S ?_;clear S;intro h al S dn
 simp only [BS,LB,Nat.reduceLT,Nat.reduceEqDiff]
 refine aC (S.store (i:=0) rfl Tryz.t31.2.1 (by intro x e;cases e) rfl (by simp only [ag,Xg,Xi,dd.2.1,de.2.1,dj.2.1,Xc];rfl) (lbt rfl) ono) ?_
 clear S;rintro h ⟨S,mo⟩;clear mo
 simp only [LC,ag,lay,Xa,Xb,Nat.reduceAdd]at S
 simp only [BS,LB,Nat.reduceLT,Nat.reduceEqDiff,F8,List.drop_zero,Xo,List.take_zero,S.lds (b:=al) (o:=0) (n:=4) m0 (lbt rfl)]
 have ds:b4<h.n:=(R4.gr S.gr).lt S.ok
 refine step_ret (uT S.ok a4 (gb.gr S.gr)) ?_
 rintro v h ⟨p,rfl,g,hk⟩
 obtain⟨bk,rfl⟩: ∃b,p=ptrTo b:=by obtain⟨b,_,_,_,_,_,e,_⟩:=hk.ex;exact⟨b,e⟩
 replace S:=S.call g
 clear g
 have ax:=S.row (b:=al) m0
 have gD:=gC.trans S.gr
 replace R4:=R4.gr S.gr
 replace R7:=R7.gr S.gr
 have dx:=S.ok
 clear S
 rename Hp=>hD
 have S:=St.init1 dx (o:=.row _ 1) R4
 have dy:=R4.load1 (o:=1) rfl
 simp only [BS,LB,Nat.reduceLT,Nat.reduceEqDiff,F8,dy,mO (n:=20) (by decide)]
 refine aC (aI S (i:=0) rfl Tryz.t3.2.2.1 bM (Nat.lt_of_succ_le (lbt rfl)) ono) ?_
 clear S;rintro h ⟨S,mo⟩;clear mo
 simp only [LC]at S
 replace R4:=S.row (b:=b4) m0
 have dF: ¬b7=b4:=by have:=g.n;omega
 have ca: ¬al=b4:=by have:=g.n;have:=gB.n;have:=gC.n;omega
 replace R7:Row h b7 _ 1:=S.fr.has (o:=.row _ 1) R7 dF
 replace ax:Row h al _ 1:=S.fr.has (o:=.row _ 1) ax ca
 have ay:=(hn.gr gD).mo S.fr (fun c e=>by subst e;omega)
 have d0:=hk.mo S.fr (fun c e=>by subst e;exact ds)
 have d3:=(sR.gr gD).mo S.fr (fun c hc e=>by subst e;have:=nR _ hc;omega)
 generalize qf.tmod 20=f1 at*
 have gE:Gr h0 h:=((g0.trans gD).fr.trans S.fr (fun c e=>.inr (by subst e;omega)):Mo NoM h0 h).gr
 have cc:=S.ok
 clear S hn hk sR
 rename Hp=>hE
 have S:=Si cc
 have cf:=R4.load (o:=0) (n:=4) (lbt rfl)
 have ch:=R4.load1 (o:=1) rfl
 have d4:=R4.load1 (o:=2) rfl
 simp only [Xb,Xa]at cf
 simp only [BS,LB,Nat.reduceLT,Nat.reduceEqDiff,Nat.reduceAdd,F8,cf,ch,d4,mO (n:=16) (by decide),twoQ_of]
 generalize qt.tmod 16=t3
 have eI:=ad.many
 refine cm (fun(j:Nat) ρ h'=>j<=2/\Gr hE h'/\ρ 7=ptrTo b7/\ρ 8=ptrTo bp/\ρ 9=vR/\ρ 11=ptrTo al/\ρ 12=ptrTo bk/\ρ 64=.agg ⟨[.int .i64 q0,.int .i64 f1,.int .i64 qt,.int .i64 qa,.int .i64 0,.int .i64 f1,.int .i64 t3,.int .i64 0]⟩/\ρ 65=.int .i64 j) (fun j=>2-j) ?_ 0 _ _ ?_
 . intro j ih ρ h ⟨hj,gj,r7,r8,r9,r11,r12,r64,r65⟩
   have wj:aq .i64 ((j:Int)+1)=((j+1:Nat):Int):=by rw [wrap64]<;>omega
   have d5:=gj.ok
   have S:=Si d5
   by_cases d8:j<2
   . have c3 :(j:Int)<2:=by omega
     have cj:=twoQ_at (a0:=.int .i64 q0) (a1:=.int .i64 f1) (a2:=.int .i64 qt) (a3:=.int .i64 qa) (b0:=.int .i64 0) (b1:=.int .i64 f1) (b2:=.int .i64 t3) (b3:=.int .i64 0) d8
     obtain⟨yw,yf,yt,ya,ey⟩: ∃yw yf yt ya:Int,(if j=0 then [Value.int .i64 q0,.int .i64 f1,.int .i64 qt,.int .i64 qa]else [.int .i64 0,.int .i64 f1,.int .i64 t3,.int .i64 0])=[.int .i64 yw,.int .i64 yf,.int .i64 yt,.int .i64 ya]:=by split<;>exact⟨_,_,_,_,rfl⟩
     rw [ey]at cj
     clear ey
     simp only [BS,LB,Nat.reduceLT,Nat.reduceEqDiff,F8,r64,r65,c3,cj]
     refine ah aA S ?_;clear S;intro h ck S ea
     simp only [BS,LB,Nat.reduceLT,Nat.reduceEqDiff]
     refine aC (S.store (i:=0) rfl Tryz.t28.2.1 (by intro x e;cases e) rfl rfl (lbt rfl) ono) ?_
     clear S;rintro h ⟨S,mo⟩;clear mo
     simp only [LC,ag,lay,Xa,Xb,Nat.reduceAdd]at S
     have m:=S.row (b:=ck) m0
     have gK:=gj.trans S.gr
     have cl:=S.ok
     clear S
     have S:=Si cl
     rename Hp=>hK
     have k:=m.load (o:=0) (n:=4) (lbt rfl)
     simp only [Xb,Xa]at k
     have P:=m.lt cl
     simp only [BS]
     refine aE (kh (ord:=[9,0,1,2,3,4,5,6,7,8,10,11]) rfl rfl (by simp only [dv,kX,dU,Xe,Xf,Xj,Xn,Xp,Nat.reduceBEq,cond_true,cond_false];exact rfl)) (q:=9) (ps:=[(0,6),(4,5),(0,4)]) (by kernel_rfl) ?_
     simp only [BS,LB,cls,Nat.reducePow,Nat.reduceDiv,Nat.reduceMod,Nat.reduceLeDiff,F8]
     refine df aA S ?_;clear S;intro h bc S eb be
     simp only [BS,LB,cls,Nat.reduceLT,Nat.reduceEqDiff,Nat.reduceAdd,Nat.reducePow,Nat.reduceDiv,Nat.reduceMod,Nat.reduceLeDiff,r8,r12]
     refine df (cB (by exact Tryz.t33.1) (by exact Tryz.e3E) (by decide) (by rfl)) S ?_;clear S;intro h bx S eK eL;simp only [LC,bq,bV,ag,Nat.reduceMul,Nat.reduceAdd,Nat.zero_mul,Nat.zero_add,Xq,Nat.one_mul]at S
     have s1:az h 1 (encI .i64) (.slice (some ⟨bx,0,none⟩) 1 1) [(0:Int)]:=.inr ⟨bx,0,none,1,rfl,Nat.le_refl _,S.lds (b:=bx) (o:=0) (n:=1*1) m0 (lbt rfl)⟩
     have cn:gw δ.nodes [(0:Int)]:=(sI δ.nodes).push (by simp) (by omega) (by omega) (by simp)
     have bf:=(S.row (b:=bc) m1).lt S.ok
     have Q:=zM P S.gr.n
     simp only [BS,LB,cls,Nat.reduceLT,Nat.reduceEqDiff,Nat.reduceAdd,Nat.reducePow,Nat.reduceDiv,Nat.reduceMod,Nat.reduceLeDiff]
     refine cV (sX S.ok a4 (d0.gr (gK.trans S.gr)) s1 (by simp)) ?_
     rintro pu h ⟨g,hU⟩
     replace hU:=(hU.resolve_left (fun h=>h.1 cn)).2
     obtain⟨bu,et⟩: ∃b,pu=ptrTo b:=by obtain⟨b,_,_,_,e,_⟩:=hU.ex;exact⟨b,e⟩
     subst et
     have bh:=ao g bf
     have J:=ao g Q
     have cp:=zM bf g.n
     have af:=zM Q g.n
     replace S:=S.call g;clear g
     have TU:TabQ h (ptrTo bu) δ.nodes [(0:Int)] (toR δ [0]) (frR δ [0]):=.inl ⟨_,hU,fun i _=>sk,fun i _=>sZ⟩
     simp only [BS,LB,cls,Nat.reduceLT,Nat.reduceEqDiff,Nat.reduceAdd,Nat.reducePow,Nat.reduceDiv,Nat.reduceMod,Nat.reduceLeDiff,F8,S.gr.load k]
     refine cV (np S.ok ad (ay.gr (gK.trans S.gr)) TU (by simp) bM (f:=yf) (t:=yt) (a:=ya)) ?_
     rintro r h ⟨g,c1,e1,eU,eV,e0,rfl,ec,ed,e5,p1,ef⟩
     have bi:=ao g cp
     have K:=ao g af
     replace S:=S.call g;clear g ef TU hU
     simp only [BS,LB,cls,Nat.reduceLT,Nat.reduceEqDiff,Nat.reduceAdd,Nat.reducePow,Nat.reduceDiv,Nat.reduceMod,Nat.reduceLeDiff,ansV]
     refine dP (S.store (i:=1) rfl Tryz.t47.2.1 (by intro x e;cases e) rfl (by simp only [ag,Xg,Xi,ec.2.1,ed.2.1,Xc];rfl) (lbt rfl) ono) ?_
     clear S;rintro h ⟨S,_⟩
     simp only [LC,ag,lay,Xa,Xb,Nat.reduceAdd]at S
     simp only [BS,LB,cls,Nat.reduceLT,Nat.reduceEqDiff,Nat.reduceAdd,Nat.reducePow,Nat.reduceDiv,Nat.reduceMod,Nat.reduceLeDiff]
     refine⟨by simp only [bj,bA,aS,bK,aY,ne_eq,not_false_eq_true,bJ,cb,a9,aX,cu,cR,aO,Nat.reduceLT,Nat.reduceEqDiff,reduceIte,Xc,r7,r8,r9,r11,r12,r64,r65,ab,jC,<-be,av bh,au bh,av J,au J,av bi,au bi,av K,au K],?_⟩
     have ak:=S.row (b:=bc) m1
     replace gK:=gK.trans S.gr
     replace m:=m.gr S.gr
     have cr:=S.ok
     clear S k P Q bf af cp J bh K bi s1 cn
     have S:=Si cr
     rename Hp=>hL
     have k:=m.load (o:=0) (n:=4) (lbt rfl)
     simp only [Xb,Xa]at k
     have P:=m.lt cr
     have sN:az hL 1 (encI .i64) (.slice none 0 0) ([]:List Int):=.inl ⟨rfl,rfl⟩
     refine aE (kh (ord:=[8,0,1,2,3,4,5,6,7,9,10]) rfl rfl (by simp only [dv,kX,dU,Xe,Xf,Xj,Xn,Xp,Nat.reduceBEq,cond_true,cond_false];exact rfl)) (q:=1) (ps:=[(0,5),(3,4),(0,3)]) (by kernel_rfl) ?_
     simp only [BS,LB,cls,Nat.reducePow,Nat.reduceDiv,Nat.reduceMod,Nat.reduceLeDiff,F8]
     refine df aA S ?_;clear S;intro h bl S ei bm
     have bo:=(S.row (b:=bl) m0).lt S.ok
     have Q:=zM P S.gr.n
     simp only [BS,LB,cls,Nat.reduceLT,Nat.reduceEqDiff,Nat.reduceAdd,Nat.reducePow,Nat.reduceDiv,Nat.reduceMod,Nat.reduceLeDiff,r8]
     refine cV (sX S.ok ad (ay.gr (gK.trans S.gr)) (sN.gr S.gr) (by simp)) ?_
     rintro pu h ⟨g,hU⟩
     replace hU:=(hU.resolve_left (fun h=>h.1 (sI _))).2
     obtain⟨bu,et⟩: ∃b,pu=ptrTo b:=by obtain⟨b,_,_,_,e,_⟩:=hU.ex;exact⟨b,e⟩
     subst et
     have br:=ao g bo
     have J:=ao g Q
     have cs:=zM bo g.n
     have af:=zM Q g.n
     replace S:=S.call g;clear g
     have TU:TabQ h (ptrTo bu) R.nodes [] (toR R []) (frR R []):=.inl ⟨_,hU,fun i _=>sk,fun i _=>sZ⟩
     simp only [BS,LB,cls,Nat.reduceLT,Nat.reduceEqDiff,Nat.reduceAdd,Nat.reducePow,Nat.reduceDiv,Nat.reduceMod,Nat.reduceLeDiff,F8,S.gr.load k]
     refine cV (np S.ok ad (ay.gr (gK.trans S.gr)) TU (by simp) bM (f:=yf) (t:=yt) (a:=ya)) ?_
     rintro r h ⟨g,c2,e2,e6,e7,fc,rfl,fe,fh,fi,p2,ej⟩
     obtain⟨_,rfl,rfl,rfl,rfl,rfl⟩:=p2.resolve_right (fun h=>vh h.1)
     have bs:=ao g cs
     have K:=ao g af
     replace S:=S.call g;clear g ej p2 TU hU
     simp only [BS,LB,cls,Nat.reduceLT,Nat.reduceEqDiff,Nat.reduceAdd,Nat.reducePow,Nat.reduceDiv,Nat.reduceMod,Nat.reduceLeDiff,ansV]
     refine dP (S.store (i:=0) rfl Tryz.t47.2.1 (by intro x e;cases e) rfl rfl (lbt rfl) ono) ?_
     clear S;rintro h ⟨S,_⟩
     simp only [LC,ag,lay,Xa,Xb,Nat.reduceAdd]at S
     simp only [BS,LB,cls,Nat.reduceLT,Nat.reduceEqDiff,Nat.reduceAdd,Nat.reducePow,Nat.reduceDiv,Nat.reduceMod,Nat.reduceLeDiff,F8,r8]
     refine⟨by simp only [bj,bA,aS,bK,aY,ne_eq,not_false_eq_true,bJ,cb,a9,aX,cu,cR,aO,Nat.reduceLT,Nat.reduceEqDiff,reduceIte,Xc,r7,r8,r9,r11,r12,r64,r65,ab,jC,<-bm,av br,au br,av J,au J,av bs,au bs,av K,au K],?_⟩
     have ai:=S.row (b:=bl) m0
     replace gK:=gK.trans S.gr
     replace m:=m.gr S.gr
     replace ak:=ak.gr S.gr
     have ek:=S.ok
     clear S k P Q bo af cs J br K bs sN
     have S:=Si ek
     rename Hp=>hM'
     have k:=m.load (o:=0) (n:=4) (lbt rfl)
     simp only [Xb,Xa]at k
     have TN:TabQ hM' (.pointer none) 0 [] (toR R []) (frR R []):=.inr ⟨rfl,rfl,rfl⟩
     simp only [BS,LB,Nat.reduceLT,Nat.reduceEqDiff,k]
     refine step_ret (np S.ok ad (ay.gr gK) TN (by simp) bM (f:=yf) (t:=yt) (a:=ya)) ?_
     rintro r h ⟨g,fl,e3,fo,fp,fq,rfl,fs,ft,fv,p3,em⟩
     obtain⟨_,rfl,rfl,rfl,rfl,rfl⟩:=p3.resolve_right (fun h=>vh h.1)
     replace S:=S.call g;clear g em p3 TN
     simp only [BS,LB,Nat.reduceLT,Nat.reduceEqDiff,F8,ansV]
     refine ah aA S ?_;clear S;intro h cx S en
     simp only [BS,LB,Nat.reduceLT,Nat.reduceEqDiff]
     refine aC (S.store (i:=0) rfl Tryz.t47.2.1 (by intro x e;cases e) rfl rfl (lbt rfl) ono) ?_
     clear S;rintro h ⟨S,_⟩
     simp only [LC,ag,lay,Xa,Xb,Nat.reduceAdd]at S
     have bt:=S.row (b:=cx) m0
     replace gK:=gK.trans S.gr
     replace m:=m.gr S.gr
     replace ak:=ak.gr S.gr
     replace ai:=ai.gr S.gr
     have cz:=S.ok
     clear S k
     have S:=Si cz
     rename Hp=>hN
     have k:=m.load (o:=0) (n:=4) (lbt rfl)
     simp only [Xb,Xa]at k
     have P:=m.lt cz
     simp only [BS,LB,Nat.reduceLT,Nat.reduceEqDiff]
     refine aE (kh (ord:=[9,0,1,2,3,4,5,6,7,8,10,11]) rfl rfl (by simp only [dv,kX,dU,Xe,Xf,Xj,Xn,Xp,Nat.reduceBEq,cond_true,cond_false];exact rfl)) (q:=1) (ps:=[(0,6),(4,5),(0,4)]) (by kernel_rfl) ?_
     simp only [BS,LB,cls,Nat.reducePow,Nat.reduceDiv,Nat.reduceMod,Nat.reduceLeDiff,F8]
     refine df aA S ?_;clear S;intro h bv S ep bB
     have bP:=(S.row (b:=bv) m0).lt S.ok
     have Q:=zM P S.gr.n
     simp only [BS,LB,cls,Nat.reduceLT,Nat.reduceEqDiff,Nat.reduceAdd,Nat.reducePow,Nat.reduceDiv,Nat.reduceMod,Nat.reduceLeDiff,r8,r9]
     refine cV (sX S.ok ad (ay.gr (gK.trans S.gr)) (d3.gr (gK.trans S.gr)) (by omega)) ?_
     rintro pu h ⟨g,hU⟩
     replace hU:=(hU.resolve_left (fun h=>h.1 hl)).2
     obtain⟨bu,et⟩: ∃b,pu=ptrTo b:=by obtain⟨b,_,_,_,e,_⟩:=hU.ex;exact⟨b,e⟩
     subst et
     have bX:=ao g bP
     have J:=ao g Q
     have cA:=zM bP g.n
     have af:=zM Q g.n
     replace S:=S.call g;clear g
     have TU:TabQ h (ptrTo bu) R.nodes l (toR R l) (frR R l):=.inl ⟨_,hU,fun i _=>sk,fun i _=>sZ⟩
     simp only [BS,LB,cls,Nat.reduceLT,Nat.reduceEqDiff,Nat.reduceAdd,Nat.reducePow,Nat.reduceDiv,Nat.reduceMod,Nat.reduceLeDiff,F8,S.gr.load k]
     refine cV (np S.ok ad (ay.gr (gK.trans S.gr)) TU (by omega) bM (f:=yf) (t:=yt) (a:=ya)) ?_
     rintro r h ⟨g,c4,e4,fw,fz,fA,rfl,es,ev,fC,p4,bY⟩
     rw [wrongC_p (by omega)]at p4 bY
     have b5:=ao g cA
     have K:=ao g af
     replace S:=S.call g;clear g TU hU
     simp only [BS,LB,cls,Nat.reduceLT,Nat.reduceEqDiff,Nat.reduceAdd,Nat.reducePow,Nat.reduceDiv,Nat.reduceMod,Nat.reduceLeDiff,ansV]
     refine dP (S.store (i:=0) rfl Tryz.t47.2.1 (by intro x e;cases e) rfl (by simp only [ag,Xg,Xi,es.2.1,ev.2.1,Xc];rfl) (lbt rfl) ono) ?_
     clear S;rintro h ⟨S,_⟩
     simp only [LC,ag,lay,Xa,Xb,Nat.reduceAdd]at S
     simp only [BS,LB,cls,Nat.reduceLT,Nat.reduceEqDiff,Nat.reduceAdd,Nat.reducePow,Nat.reduceDiv,Nat.reduceMod,Nat.reduceLeDiff,F8,r7]
     refine⟨by simp only [bj,bA,aS,bK,aY,ne_eq,not_false_eq_true,bJ,cb,a9,aX,cu,cR,aO,Nat.reduceLT,Nat.reduceEqDiff,reduceIte,Xc,r7,r8,r9,r11,r12,r64,r65,ab,jC,<-bB,av bX,au bX,av J,au J,av b5,au b5,av K,au K],?_⟩
     have a5:=S.row (b:=bv) m0
     replace gK:=gK.trans S.gr
     replace m:=m.gr S.gr
     replace ak:=ak.gr S.gr
     replace ai:=ai.gr S.gr
     replace bt:=bt.gr S.gr
     have a6:=S.ok
     clear S k P Q bP af cA J bX K b5
     have S:=Si a6
     rename Hp=>hP
     replace R7:=R7.gr gK
     replace ax:=ax.gr gK
     have k:=m.load (o:=0) (n:=4) (lbt rfl)
     have l7:=R7.load (o:=0) (n:=4) (lbt rfl)
     have b6:=R7.load1 (o:=0) rfl
     have ba:=ax.load1 (o:=0) rfl
     have s:=ai.load1 (o:=0) rfl
     have u:=bt.load1 (o:=0) rfl
     have w:=ai.load1 (o:=1) rfl
     have y:=ai.load1 (o:=2) rfl
     have z:=ai.load1 (o:=3) rfl
     have A:=a5.load1 (o:=0) rfl
     have C:=a5.load1 (o:=1) rfl
     have D:=a5.load1 (o:=2) rfl
     have E:=a5.load1 (o:=3) rfl
     have F:=ak.load1 (o:=0) rfl
     have G:=m.load1 (o:=1) rfl
     have I:=m.load1 (o:=2) rfl
     simp only [Xb,Xa]at k l7
     simp only [BS,LB,Nat.reduceLT,Nat.reduceEqDiff,F8,r7,l7,b6,k]
     refine an (tg S.ok fx fy fa bM (N:=R.nodes) (mk:=0) (nd:=R.nodes) (f:=yf) (t:=yt) (a:=ya)) ?_
     intro h g
     replace S:=S.call g;clear g
     have ez:bg R.nodes 0 0 yf yt=bg R.nodes R.nodes 0 yf yt:=wrongC_z
     simp only [BS,LB,Nat.reduceLT,Nat.reduceEqDiff,Int.reduceLT,zN,F8,S.gr.load s,S.gr.load u,ez]
     have y7:=zM (R7.lt a6) S.gr.n
     have cO:=zM (ax.lt a6) S.gr.n
     have P:=zM (m.lt a6) S.gr.n
     refine aE (aJ rfl) (q:=0) (ps:=[(4,8),(4,7),(4,5)]) (by kernel_rfl) ?_
     simp only [BS,LB,cls,Nat.reduceLT,Nat.reduceEqDiff,Nat.reduceAdd,Nat.reducePow,Nat.reduceDiv,Nat.reduceMod,Nat.reduceLeDiff,F8,r7,S.gr.load l7,S.gr.load b6,S.gr.load ba,S.gr.load k]
     refine cD (tg S.ok fx fy fa bM (N:=R.nodes) (mk:=1) (nd:=R.nodes) (f:=yf) (t:=yt) (a:=ya)) ?_
     intro h g
     have a7:=ao g y7
     have cT:=ao g cO
     have J:=ao g P
     have z7:=zM y7 g.n
     have ew:=zM cO g.n
     have ex:=zM P g.n
     replace S:=S.call g;clear g
     simp only [BS,LB,cls,Nat.reduceLT,Nat.reduceEqDiff,Nat.reduceAdd,Nat.reducePow,Nat.reduceDiv,Nat.reduceMod,Nat.reduceLeDiff,F8,r7,r11,S.gr.load l7,S.gr.load b6,S.gr.load ba,S.gr.load k]
     refine cD (tg S.ok fx fy fa bM (N:=R.nodes) (mk:=1) (nd:=δ.nodes) (f:=yf) (t:=yt) (a:=ya)) ?_
     intro h g
     have d7:=ao g z7
     have cW:=ao g ew
     have K:=ao g ex
     replace S:=S.call g;clear g
     generalize L:aa _ 133 _=M
     have q7:M 7=ptrTo b7:=by rw [<-L];simp [aa,r7,ab]
     have q8:M 8=ptrTo bp:=by rw [<-L];simp [aa,r8,ab]
     have q9:M 9=vR:=by rw [<-L];simp [aa,r9,ab]
     have T:M 11=ptrTo al:=by rw [<-L];simp [aa,r11,ab]
     have U:M 12=ptrTo bk:=by rw [<-L];simp [aa,r12,ab]
     have V:M 15=ptrTo ck:=by rw [<-L];simp [aa,ab]
     have aL:M 16=ptrTo bc:=by rw [<-L];simp [aa,ab]
     have W:M 18=ptrTo bl:=by rw [<-L];simp [aa,ab]
     have fE:M 20=ptrTo cx:=by rw [<-L];simp [aa,ab]
     have X:M 22=ptrTo bv:=by rw [<-L];simp [aa,ab]
     have cX:M 129=.int .i64 (bg R.nodes R.nodes 1 yf yt):=by rw [<-L];simp [aa,ab]
     have Y:M 64=.agg ⟨[.int .i64 q0,.int .i64 f1,.int .i64 qt,.int .i64 qa,.int .i64 0,.int .i64 f1,.int .i64 t3,.int .i64 0]⟩:=by rw [<-L];simp [aa,r64]
     have Z:M 65=.int .i64 j:=by rw [<-L];simp [aa,r65]
     simp only [BS,LB,cls,Nat.reduceLT,Nat.reduceEqDiff,Nat.reduceAdd,Nat.reducePow,Nat.reduceDiv,Nat.reduceMod,Nat.reduceLeDiff,cX]
     refine⟨by simp only [bj,bA,aS,bK,aY,ne_eq,not_false_eq_true,bJ,cb,a9,aX,cu,cR,aO,Nat.reduceLT,Nat.reduceEqDiff,reduceIte,Xc,r7,r8,r9,r11,r12,r64,r65,ab,av a7,au a7,av cT,au cT,av J,au J,av d7,au d7,av cW,au cW,av K,au K],?_⟩
     have gZ:=gK.trans S.gr
     have d:=S.gr
     simp only [List.length_cons,List.length_nil,Nat.zero_add]at p1
     generalize bg R.nodes R.nodes 1 yf yt=w1 at p4 bY⊢
     generalize bg R.nodes δ.nodes 1 yf yt=w2 at p1⊢
     clear L r7 r8 r9 r11 r12 r64 r65
     rcases p4 with⟨k1,rfl,rfl,rfl,rfl,rfl⟩|⟨rfl,k4⟩
     . rcases p1 with⟨k2,rfl,rfl,rfl,rfl,rfl⟩|⟨rfl,_⟩
       . by_cases O:yf=yt
         . simp only [BS,LB,Nat.reduceLT,Nat.reduceEqDiff,Int.reduceLT,zN,F8,V,aL,W,X,Z,d.load s,d.load w,d.load y,d.load z,d.load u,d.load A,d.load C,d.load D,d.load E,d.load F,d.load G,d.load I,k1,k2,O,wj]
           exact ih (j+1) _ _ (by omega) ⟨by omega,gZ,by simp [aa,q7,ab],by simp [aa,q8,ab],by simp [aa,q9,ab],by simp [aa,T,ab],by simp [aa,U,ab],by simp [aa,Y],by simp [aa]⟩
         . simp only [BS,LB,Nat.reduceLT,Nat.reduceEqDiff,Int.reduceLT,zN,F8,V,aL,W,X,Z,d.load s,d.load w,d.load y,d.load z,d.load u,d.load A,d.load C,d.load D,d.load E,d.load F,d.load G,d.load I,k1,k2,O,wj]
           exact ih (j+1) _ _ (by omega) ⟨by omega,gZ,by simp [aa,q7,ab],by simp [aa,q8,ab],by simp [aa,q9,ab],by simp [aa,T,ab],by simp [aa,U,ab],by simp [aa,Y],by simp [aa]⟩
       . by_cases O:yf=yt
         . simp only [BS,LB,Nat.reduceLT,Nat.reduceEqDiff,Int.reduceLT,zN,F8,V,W,X,Z,d.load s,d.load w,d.load y,d.load z,d.load u,d.load A,d.load C,d.load D,d.load E,d.load F,d.load G,d.load I,k1,O,wj]
           exact ih (j+1) _ _ (by omega) ⟨by omega,gZ,by simp [aa,q7,ab],by simp [aa,q8,ab],by simp [aa,q9,ab],by simp [aa,T,ab],by simp [aa,U,ab],by simp [aa,Y],by simp [aa]⟩
         . simp only [BS,LB,Nat.reduceLT,Nat.reduceEqDiff,Int.reduceLT,zN,F8,V,W,X,Z,d.load s,d.load w,d.load y,d.load z,d.load u,d.load A,d.load C,d.load D,d.load E,d.load F,d.load G,d.load I,k1,O,wj]
           exact ih (j+1) _ _ (by omega) ⟨by omega,gZ,by simp [aa,q7,ab],by simp [aa,q8,ab],by simp [aa,q9,ab],by simp [aa,T,ab],by simp [aa,U,ab],by simp [aa,Y],by simp [aa]⟩
     . by_cases O:yf=yt
       . obtain⟨rfl,rfl,rfl,rfl⟩:=bY O rfl
         rcases p1 with⟨k2,rfl,rfl,rfl,rfl,rfl⟩|⟨rfl,_⟩
         . simp only [BS,LB,Nat.reduceLT,Nat.reduceEqDiff,Int.reduceLT,zN,F8,V,aL,W,X,Z,d.load s,d.load w,d.load y,d.load z,d.load u,d.load A,d.load C,d.load D,d.load E,d.load F,d.load G,d.load I,k2,O,wj]
           exact ih (j+1) _ _ (by omega) ⟨by omega,gZ,by simp [aa,q7,ab],by simp [aa,q8,ab],by simp [aa,q9,ab],by simp [aa,T,ab],by simp [aa,U,ab],by simp [aa,Y],by simp [aa]⟩
         . simp only [BS,LB,Nat.reduceLT,Nat.reduceEqDiff,Int.reduceLT,zN,F8,V,W,X,Z,d.load s,d.load w,d.load y,d.load z,d.load u,d.load A,d.load C,d.load D,d.load E,d.load F,d.load G,d.load I,O,wj]
           exact ih (j+1) _ _ (by omega) ⟨by omega,gZ,by simp [aa,q7,ab],by simp [aa,q8,ab],by simp [aa,q9,ab],by simp [aa,T,ab],by simp [aa,U,ab],by simp [aa,Y],by simp [aa]⟩
       . have bb: ¬(20:Int)=0:=by decide
         rcases p1 with⟨k2,rfl,rfl,rfl,rfl,rfl⟩|⟨rfl,_⟩
         . rcases k4 with rfl|rfl
           . simp only [BS,LB,Nat.reduceLT,Nat.reduceEqDiff,Int.reduceLT,zN,F8,V,aL,W,X,Z,d.load s,d.load w,d.load y,d.load z,d.load u,d.load A,d.load C,d.load D,d.load E,d.load F,d.load G,d.load I,k2,O,wj]
             exact ih (j+1) _ _ (by omega) ⟨by omega,gZ,by simp [aa,q7,ab],by simp [aa,q8,ab],by simp [aa,q9,ab],by simp [aa,T,ab],by simp [aa,U,ab],by simp [aa,Y],by simp [aa]⟩
           . simp only [BS,LB,Nat.reduceLT,Nat.reduceEqDiff,Int.reduceLT,zN,F8,V,aL,W,X,Z,d.load s,d.load w,d.load y,d.load z,d.load u,d.load A,d.load C,d.load D,d.load E,d.load F,d.load G,d.load I,k2,O,bb,wj]
             exact ih (j+1) _ _ (by omega) ⟨by omega,gZ,by simp [aa,q7,ab],by simp [aa,q8,ab],by simp [aa,q9,ab],by simp [aa,T,ab],by simp [aa,U,ab],by simp [aa,Y],by simp [aa]⟩
         . rcases k4 with rfl|rfl
           . simp only [BS,LB,Nat.reduceLT,Nat.reduceEqDiff,Int.reduceLT,zN,F8,V,W,X,Z,d.load s,d.load w,d.load y,d.load z,d.load u,d.load A,d.load C,d.load D,d.load E,d.load F,d.load G,d.load I,O,wj]
             exact ih (j+1) _ _ (by omega) ⟨by omega,gZ,by simp [aa,q7,ab],by simp [aa,q8,ab],by simp [aa,q9,ab],by simp [aa,T,ab],by simp [aa,U,ab],by simp [aa,Y],by simp [aa]⟩
           . simp only [BS,LB,Nat.reduceLT,Nat.reduceEqDiff,Int.reduceLT,zN,F8,V,W,X,Z,d.load s,d.load w,d.load y,d.load z,d.load u,d.load A,d.load C,d.load D,d.load E,d.load F,d.load G,d.load I,O,bb,wj]
             exact ih (j+1) _ _ (by omega) ⟨by omega,gZ,by simp [aa,q7,ab],by simp [aa,q8,ab],by simp [aa,q9,ab],by simp [aa,T,ab],by simp [aa,U,ab],by simp [aa,Y],by simp [aa]⟩
   . have c3: ¬(j:Int)<2:=by omega
     simp only [BS,LB,Nat.reduceLT,r65,c3]
     refine an (zt gj.ok) ?_
     intro h g
     simp only [BS,LB,ac,Nat.reduceLT,Nat.reduceEqDiff]
     exact gE.trans (gj.trans g)
 . exact⟨by omega,Gr.refl cc,by simp [aa,ab],by simp [aa,ab],by simp [aa,ab],by simp [aa,ab],by simp [aa,ab],by simp [aa],by simp [aa]⟩
end Go.Ab
end
section
namespace Go.Ab
open Go.ChangeShapes Go.WideShapes Go.RowKit
theorem rowAt_le{P:Program}{b:TypeId->Bool}{d:Nat}{e:TypeId}{a off n:Nat}(h:rowAt P b d e a off n=true):off<=a*P.cellsOf e:=by
 cases d with
 |zero=>cases h
 | succ d=>
   unfold rowAt at h
   simp only []at h
   split at h
   . cases h
   . rename_i i
     have c:0<P.cellsOf e:=by omega
     have f:=Nat.div_add_mod off (P.cellsOf e)
     simp only [Bool.or_eq_true,Bool.and_eq_true,beq_iff_eq,decide_eq_true_eq]at h
     rcases h with⟨⟨g,j⟩,_⟩|⟨g,_⟩
     . have:P.cellsOf e*(off/P.cellsOf e)<=P.cellsOf e*a:=Nat.mul_le_mul_left _ (by omega)
       rw [Nat.mul_comm a];omega
     . have:P.cellsOf e*(off/P.cellsOf e+1)<=P.cellsOf e*a:=Nat.mul_le_mul_left _ (by omega)
       have hlt:=Nat.mod_lt off c
       rw [Nat.mul_add,Xq]at this
       rw [Nat.mul_comm a];omega
theorem liesAt_le{P:Program}{d:Nat}: ∀{e:TypeId} {a off:Nat} {u:TypeId} {n:Nat},liesAt P d e a off u n=true->off<=a*P.cellsOf e:=by
 induction d with
 |zero=>intro e a off u n h;cases h
 | succ d b=>
   intro e a off u n h
   unfold liesAt at h
   rw [Bool.or_eq_true]at h
   rcases h with h|h
   . exact rowAt_le h
   . split at h
     . exact b h
     . cases h
theorem has_W{P:Program}{W:World}{r:_root_.Go.Reach}{base:Nat}{a:Addr}{e:TypeId}{n:Nat}(h:W.has P r base a e n):a.spot=none/\a.block<W.heap.size/\ ∃l,(hpW W).load (a.block+16) a.off 0=some l:=by
 obtain⟨_,f,i,c,b,k⟩:=h
 have hle:=liesAt_le k
 have d:a.off<=c:=Nat.le_trans hle (Nat.div_mul_le_self _ _)
 unfold World.shape? at b
 split at b
 next m el q g=>
  cases b
  have hlt:=(Array.getElem?_eq_some_iff.1 g).1
  have p:Row (hpW W) (a.block+16) (m.toList.map (jg W.heap.size)) 0:=⟨_,_,by rw [qy,g];rfl,Tr.sized_ofList _,fun j=>Tr.get_ofList _ j⟩
  exact⟨f,hlt,_,p.load (o:=a.off) (n:=0) (by simpa using d)⟩
 . cases b
section
variable{H:Type}{enc:TypeId×Value->H}{P:Program}
theorem nv{W:World}{base n:Nat}{s e:TypeId}{k:IntKind}{c:Value}{C:Nat->Bool}{D:Bool}{x:DataW H×List MemPlace}(v:P.underlying s=some (.slice e))(E:P.underlying e=some (.int k))(F:P.cellsOf e=1)
 (b:Cell.okWide P W .any base s c) (h:DataW.trod enc P W 0 C D n s [c]=some x): ∃d:List Int,SlW (hpW W) k (jg W.heap.size c) d/\(∀z∈d,(Lit.int k z).wf=true)/\d.length<=9223372036854775807:=by
 rcases Go.ChangeShapes.open_ints v E F h with⟨w,_⟩|⟨a,g,o,d,w,J,A,K,p,_,j,y⟩
 . cases w
   exact⟨[],.inl ⟨rfl,rfl⟩,fun z p=>(by cases p),by simp⟩
 . cases w
   unfold Cell.okWide at b
   rw [v]at b
   simp only [Cell.ok,v]at b
   obtain⟨B,q,r⟩:=b
   obtain⟨t,hlt,G⟩:=has_W r
   have m:g<=d.length:=by rw [p];split<;>omega
   refine⟨d.take g,.inr ⟨a.block+16,a.off,o,?_,?_,?_⟩,fun z p=>y z (List.mem_of_mem_take p),by
    have:(o:Int)<=9223372036854775807:=q
    rw [Xd];omega⟩
   . rw [Xd,Xk m]
     simp only [jg,if_pos A,if_pos (And.intro t hlt)]
   . rw [Xd,Xk m];exact A
   . rw [Xd,Xk m,Xq]
     rw [load_join (f:=fun i=>.int k (d.getD i 0)) G (fun i u=>load_W t (j i (by omega)))]
     congr 1
     have I: ∀l:List Int,l.flatMap (encI k)=l.map fun x=>.int k x:=fun l=>by
      rw [Xl,List.map_eq_flatMap,Xl];rfl
     rw [I]
     refine List.ext_getElem? fun i=>?_
     rw [List.getElem?_map,List.getElem?_map,List.getElem?_take]
     by_cases u:i<g
     . rw [if_pos u,List.getElem?_range u,List.getElem?_eq_getElem (show i<d.length by omega)]
       simp [List.getD_eq_getElem?_getD,show i<d.length by omega]
     . rw [if_neg u,List.getElem?_eq_none (by simpa using u)];rfl
theorem open_slV{W:World}{base:Nat}{s e:TypeId}{k:IntKind}{v:Value}{j:Nat->Bool}{m:Bool}{d:DataW H}{p:List MemPlace}(c:P.underlying s=some (.slice e))(n:P.underlying e=some (.int k))(o:P.cellsOf e=1)
 (a:Value.okWide P W .any base s v) (h:DataW.Trod enc P W 0 j m s v d p): ∃f:List Int,SlW (hpW W) k (absA W.heap.size v) f/\(∀z∈f,(Lit.int k z).wf=true)/\f.length<=9223372036854775807:=by
 unfold Value.okWide at a
 rw [c]at a
 obtain⟨i,h⟩:=h
 have b: ∀l:Array Value,v≠ .agg l:=by
  rintro l rfl
  simp only [Cell.okWide,c,Cell.ok]at a
 have g:v.cells.toList=[v]:=by cases v<;>first|rfl|exact absurd rfl (b _)
 rw [g]at h
 have q:absA W.heap.size v=jg W.heap.size v:=by cases v<;>first|rfl|exact absurd rfl (b _)
 rw [q]
 exact nv c n o a h
theorem open_sl2{W:World}{base:Nat}{t s e:TypeId}{k:IntKind}{j m:Field}{v:Value}{C:Nat->Bool}{D:Bool}{d:DataW H}{p:List MemPlace}(r:P.underlying t=some (.struct #[j,m]))(E:j.offset=0)(o1:m.offset=1)(F:j.type=s)(t1:m.type=s)
 (u:P.underlying s=some (.slice e)) (w:P.underlying e=some (.int k)) (x:P.cellsOf e=1) (f:P.cellsOf s=1) (o:P.cellsOf t=2) (q:P.cellTypes P.depth t=some [s,s])
 (a:Value.okWide P W .any base t v) (h:DataW.Trod enc P W 0 C D t v d p):
 ∃(c0 g:Value) (xs ys:List Int),v=.agg #[c0,g]/\SlW (hpW W) k (jg W.heap.size c0) xs/\SlW (hpW W) k (jg W.heap.size g) ys/\(∀z∈xs,(Lit.int k z).wf=true)/\ ∀z∈ys,(Lit.int k z).wf=true:=by
 unfold Value.okWide at a
 rw [r]at a
 obtain⟨G,rfl,c,O,i,_,b⟩:=a
 rw [q]at i
 cases i
 rw [o]at c
 obtain⟨l⟩:=G
 simp only [Xh]at c
 obtain⟨c0,g,rfl⟩:=len2 c
 obtain⟨y,h⟩:=h
 obtain⟨Q,R,n,_,_,A,B⟩:=Go.ChangeShapes.trod_struct2 r h
 rw [E,F,f]at A
 rw [o1,t1,f]at B
 obtain⟨S,I,J⟩:=b 0 c0 rfl
 obtain⟨T,i,K⟩:=b 1 g rfl
 cases I
 cases i
 obtain⟨xs,L,M,_⟩:=nv u w x J A
 obtain⟨ys,N,wy,_⟩:=nv u w x K B
 exact⟨c0,g,xs,ys,rfl,L,N,M,wy⟩
end
end Go.Ab

end
section
namespace Go.Ab
open Go.ChangeShapes Go.WideShapes Go.RowKit
section
variable{H:Type}{enc:TypeId×Value->H}{P:Program}
theorem len6g{α:Type}{l:List α}(h:l.length=6): ∃a b c d e f,l=[a,b,c,d,e,f]:=by
 match l,h with
 | [a,b,c,d,e,f],_=>exact⟨a,b,c,d,e,f,rfl⟩
theorem open_d20{W:World}{base:Nat}{t f k I J g m:TypeId}{s A C D E F:Field}{v:Value}{sp:Nat->Bool}{hd:Bool}{d:DataW H}{p:List MemPlace}(O:P.underlying t=some (.struct #[s,A,C,D,E,F]))(o0:s.offset=0)(o1:A.offset=1)(o2:C.offset=2)(o3:D.offset=3)(o4:E.offset=4)(o5:F.offset=5)
 (t0:s.type=f) (t1:A.type=f) (t2:C.type=g) (t3:D.type=g) (t4:E.type=m) (t5:F.type=k) (h0:P.underlying f=some (.slice I)) (G:P.underlying g=some (.int .u8)) (h4:P.underlying m=some (.int .i8)) (h5:P.underlying k=some (.slice J))
 (Q:P.underlying I=some (.int .u8)) (g5:P.underlying J=some (.int .i64)) (c0:P.cellsOf I=1) (c5:P.cellsOf J=1) (R:P.cellsOf f=1) (S:P.cellsOf g=1) (d4:P.cellsOf m=1) (d5:P.cellsOf k=1) (K:P.cellsOf t=6) (L:P.cellTypes P.depth t=some [f,f,g,g,m,k])
 (c:Value.okWide P W .any base t v) (h:DataW.Trod enc P W 0 sp hd t v d p):
 ∃ (a b e:Value) (x y z:Int) (B M N:List Int),v=.agg #[a,b,.int .u8 x,.int .u8 y,.int .i8 z,e]/\SlW (hpW W) .u8 (jg W.heap.size a) B/\SlW (hpW W) .u8 (jg W.heap.size b) M/\SlW (hpW W) .i64 (jg W.heap.size e) N/\
   (∀z∈B,(Lit.int .u8 z).wf=true)/\(∀z∈M,(Lit.int .u8 z).wf=true)/\(Lit.int .u8 x).wf=true/\(Lit.int .u8 y).wf=true/\(Lit.int .i8 z).wf=true/\M.length<=9223372036854775807:=by
 unfold Value.okWide at c
 rw [O]at c
 obtain⟨cs,rfl,i,ts,T,_,o⟩:=c
 rw [L]at T
 cases T
 rw [K]at i
 obtain⟨l⟩:=cs
 simp only [Xh]at i
 obtain⟨a,b,x,y,z,e,rfl⟩:=len6g i
 obtain⟨U,h⟩:=h
 obtain⟨xs,n,_,_,hl,q,hf⟩:=DataW.trod_struct O h
 obtain⟨y0,y1,y2,y3,y4,y5,rfl⟩:=len6g (by rw [q];rfl:xs.length=6)
 have V:=hf 0 s rfl
 have X:=hf 1 A rfl
 have Y:=hf 2 C rfl
 have Z:=hf 3 D rfl
 have q4:=hf 4 E rfl
 have q5:=hf 5 F rfl
 rw [o0,t0,R]at V
 rw [o1,t1,R]at X
 rw [o2,t2,S]at Y
 rw [o3,t3,S]at Z
 rw [o4,t4,d4]at q4
 rw [o5,t5,d5]at q5
 have r: ∀(j:Nat) t v,[f,f,g,g,m,k][j%6]? =some t->[a,b,x,y,z,e][j]? =some v->Cell.okWide P W .any base t v:=fun j t v h1 G=>by
  obtain⟨u,h3,h4⟩:=o j v (by simpa using G)
  obtain rfl:t=u:=Option.some.inj (h1.symm.trans h3)
  exact h4
 obtain⟨B,hB,wB,_⟩:=nv h0 Q c0 (r 0 f a rfl rfl) V
 obtain⟨M,hM,wM,lM⟩:=nv h0 Q c0 (r 1 f b rfl rfl) X
 obtain⟨N,hN,wN,lN⟩:=nv h5 g5 c5 (r 5 k e rfl rfl) q5
 obtain⟨u,e2,_,wu⟩:=DataW.trod_int G Y
 obtain⟨v,e3,_,wv⟩:=DataW.trod_int G Z
 obtain⟨w,e4,_,ww⟩:=DataW.trod_int h4 q4
 cases e2
 cases e3
 cases e4
 exact⟨a,b,e,u,v,w,B,M,N,rfl,hB,hM,hN,wB,wM,wu,wv,ww,lM⟩
end
end Go.Ab

end
section
namespace Go.Ab
open Go.ChangeShapes Go.WideShapes Go.RowKit
section
variable{H:Type}{enc:TypeId×Value->H}{P:Program}
theorem len4q{α:Type}{l:List α}(h:l.length=4): ∃a b c d,l=[a,b,c,d]:=by
 match l,h with
 | [a,b,c,d],_=>exact⟨a,b,c,d,rfl⟩
theorem open_q4{W:World}{base:Nat}{t i:TypeId}{m o q r:Field}{v:Value}{F:Nat->Bool}{G:Bool}{d:DataW H}{p:List MemPlace}(y:P.underlying t=some (.struct #[m,o,q,r]))(I:m.offset=0)(o1:o.offset=1)(o2:q.offset=2)(o3:r.offset=3)
 (J:m.type=i) (t1:o.type=i) (t2:q.type=i) (t3:r.type=i) (h3:P.underlying i=some (.int .i64)) (s:P.cellsOf i=1) (x:P.cellsOf t=4) (K:P.cellTypes P.depth t=some [i,i,i,i])
 (f:Value.okWide P W .any base t v) (h:DataW.Trod enc P W 0 F G t v d p):
 ∃(a b c e:Int),v=.agg #[.int .i64 a,.int .i64 b,.int .i64 c,.int .i64 e]/\(Lit.int .i64 a).wf=true/\(Lit.int .i64 b).wf=true/\(Lit.int .i64 c).wf=true/\(Lit.int .i64 e).wf=true:=by
 unfold Value.okWide at f
 rw [y]at f
 obtain⟨L,rfl,g,V,X,_,z⟩:=f
 rw [x]at g
 obtain⟨l⟩:=L
 simp only [Xh]at g
 obtain⟨a,b,c,e,rfl⟩:=len4q g
 obtain⟨A,h⟩:=h
 obtain⟨M,n,_,_,Y,j,hf⟩:=DataW.trod_struct y h
 obtain⟨Z,y1,y2,y3,rfl⟩:=len4q (by rw [j];rfl:M.length=4)
 have B:=hf 0 m rfl
 have C:=hf 1 o rfl
 have D:=hf 2 q rfl
 have E:=hf 3 r rfl
 rw [I,J,s]at B
 rw [o1,t1,s]at C
 rw [o2,t2,s]at D
 rw [o3,t3,s]at E
 obtain⟨u,N,_,O⟩:=DataW.trod_int h3 B
 obtain⟨v,e3,_,Q⟩:=DataW.trod_int h3 C
 obtain⟨w,R,_,S⟩:=DataW.trod_int h3 D
 obtain⟨k,T,_,U⟩:=DataW.trod_int h3 E
 cases N
 cases e3
 cases R
 cases T
 exact⟨u,v,w,k,rfl,O,Q,S,U⟩
theorem wf64{z:Int}(h:(Lit.int .i64 z).wf=true): -9223372036854775808<=z/\z<9223372036854775808:=by
 unfold Lit.wf at h
 simp only [Bool.and_eq_true,decide_eq_true_eq]at h
 have a:(-9223372036854775808:Int)<=z:=h.1
 have b:z<=(9223372036854775807:Int):=h.2
 omega
end
end Go.Ab

end

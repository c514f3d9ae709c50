/- Nets, cells, flags: what the functions do (part 5). -/
import Derived.Test.YtdpmdpbhjgaocaaGreatDoorNetD
import Derived.ChangeSlices
import Derived.ChangeArms
import Derived.ChangeSame
import Derived.OpenShut
open List renaming getElem?_eq_getElem->xW,take_succ_eq_append_getElem->xY,take->yd,drop->ye,length_take->yf,range->yg,getElem?_map->yi,getD_eq_getElem?_getD->yj,size_toArray->yk,all_cons->yl,all_nil->ym,length_map->yn,take_succ_cons->yo,set_cons_zero->yq,set_cons_succ->yr,getElem_mem->yt,length_filterMap_le->yu,take_length->yv,map_append->yw,drop_zero->yy,take_zero->yz,flatMap_eq_foldl->yA,mem_of_getElem?->yB,getElem_of_mem->yC
open Nat renaming lt_of_lt_of_le->xX,le_refl->yb,lt_of_succ_le->yc,zero_le->yh,mul_one->yp,min_eq_left->yx
open Bool renaming and_true->xZ
open Go.Ab.Tryz renaming abEnv->ya,s57->yD
set_option maxHeartbeats 4000000
set_option linter.defProp false
set_option linter.unusedVariables false
set_option linter.unusedSimpArgs false
section
namespace Go.Ab
open Go.Proofs
set_option maxRecDepth 10000
open Tryz in
def Tryz.FFb134:=aj a1<|aj s1<|aj z1<|aj n1<|aj u2<|aj a2<|aj s2<|aj z2<|aj i2<|aj u3<|aj a3<|aj s3<|aj z3<|aj i3<|aj u4<|aj a4<|aj s4<|aj z4<|aj n4<|aj u5<|aj a5<|aj s5<|aj z5<|aj i5<|aj u6<|aj a6<|aj s6<|aj z6<|aj i6<|aj a7<|aj s7<|aj z7<|aj i7<|aj n7<|aj p7<|aj ff7<|aj d7<|aj a8<|aj s8<|aj z8<|aj i8<|aj n8<|aj p8<|aj ff8<|aj d8<|aj u9<|aj a9<|aj s9<|aj z9<|aj n9<|aj u10<|aj a10<|aj s10<|aj z10<|aj n10<|aj u11<|aj a11<|aj s11<|aj z11<|aj n11<|aj u12<|aj a12<|aj s12<|aj z12<|aj i12<|aj a13<|aj s13<|aj z13<|aj i13<|aj n13<|aj p13<|aj ff13<|aj d13<|aj a14<|aj s14<|aj z14<|aj i14<|aj n14<|aj p14<|aj ff14<|aj d14<|aj u15<|aj a15<|aj s15<|aj z15<|aj q15<|aj i15<|aj n15<|aj u16<|aj a16<|aj s16<|aj z16<|aj q16<|aj i16<|aj n16<|aj u17<|aj a17<|aj s17<|aj z17<|aj q17<|aj i17<|aj n17<|aj a18<|aj s18<|aj z18<|aj i18<|aj n18<|aj p18<|aj ff18<|aj d18<|aj a19<|aj s19<|aj z19<|aj i19<|aj n19<|aj p19<|aj ff19<|aj d19<|aj a20<|aj s20<|aj z20<|aj q20<|aj n20<|aj u21<|aj a21<|aj s21<|aj z21<|aj i21<|aj u22<|aj a22<|aj s22<|aj z22<|aj q22<|aj n22<|aj a24<|aj s24<|aj z24<|aj i24<|aj n24<|aj p24<|aj ff24<|aj d24<|aj u25<|aj a25<|aj s25<|aj z25<|aj q25<|aj n25<|aj a27<|aj s27<|aj z27<|aj i27<|aj n27<|aj p27<|aj ff27<|aj d27<|aj u28<|aj a28<|aj s28<|aj z28<|aj q28<|aj n28<|aj a30<|aj s30<|aj z30<|aj i30<|aj n30<|aj p30<|aj ff30<|aj d30<|aj u32<|aj a32<|aj s32<|aj z32<|aj q32<|aj i32<|aj n32<|aj a34<|aj s34<|aj z34<|aj q34<|aj n34<|aj u38<|aj a38<|aj s38<|aj z38<|aj q38<|aj i38<|aj n38<|aj u40<|aj a40<|aj s40<|aj z40<|aj q40<|aj n40<|aj u44<|aj a44<|aj s44<|aj z44<|aj i44<|aj a46<|aj s46<|aj z46<|aj i46<|aj n46<|aj p46<|aj ff46<|aj d46<|aj u47<|aj a47<|aj s47<|aj z47<|aj q47<|aj n47<|aj u55<|aj a55<|aj s55<|aj z55<|aj q55<|aj n55<|aj a57<|aj s57<|aj z57<|aj i57<|aj n57<|aj p57<|aj ff57<|aj d57<|aj a59<|aj s59<|aj z59<|aj i59<|aj n59<|aj p59<|aj ff59<|aj d59<|aj u71<|aj a71<|aj s71<|aj z71<|aj q71<|aj n71<|aj a96<|aj s96<|aj z96<|aj i96<|aj n96<|aj p96<|aj ff96<|aj d96<|aj u146<|aj a146<|aj s146<|aj z146<|aj q146<|aj n146<|aj a148<|aj s148<|aj z148<|aj i148<|aj n148<|aj p148<|aj ff148<|aj d148<|aj u197<|aj a197<|aj s197<|aj z197<|aj i197<|aj u263<|aj a263<|aj s263<|aj z263<|aj i263<|aj a274<|aj s274<|aj z274<|aj i274<|aj n274<|aj p274<|aj ff274<|aj d274<|aj u275<|aj a275<|aj s275<|aj z275<|aj n275<|aj a277<|aj s277<|aj z277<|aj i277<|aj n277<|aj u279<|aj a279<|aj s279<|aj z279<|aj i279<|aj a280<|aj s280<|aj z280<|aj n280<|aj u281<|aj a281<|aj s281<|aj z281<|aj q281<|aj i281<|aj n281<|aj u282<|aj a282<|aj s282<|aj z282<|aj i282<|aj u283<|aj a283<|aj s283<|aj z283<|aj i283<|aj a285<|aj s285<|aj z285<|aj i285<|aj n285<|aj p285<|aj ff285<|d285
theorem tK{h0:Hp}(ok:h0.t.Sized h0.n){vB vM vN:Value}{w0 f t a:Int}{B ms:List Int}(hB:SlW h0 .u8 vB B)(hM:SlW h0 .u8 vM ms)(hMr: ∀x∈ms,0<=x/\x<=255)(hml:ms.length<=9223372036854775807)(fN:Fl vN):
 bC ya 4 [.agg ⟨[vB,vM,.int .i64 w0,.int .i64 f,.int .i64 t,.int .i64 a,vN]⟩] h0 (.bool true):=by
 have S:=Si ok
 have fB:=hB.sl.fl
 have fM:=hM.sl.fl
 refine ac (n:=116) (rs:=[.tmp 2]) rfl Tryz.e4 rfl rfl rfl (lbt rfl) ?_
 simp only [BS,Nat.reduceLT]
 refine ae (bE (by intro x e;cases e)) S ?_;clear S;intro h b1 S n_b1;simp only [ag]at S
 simp only [BS,LB,Nat.reduceLT,Nat.reduceEqDiff,Tryz.FFb134,yy,yo,yz,S.lds (b:=b1) (o:=0) (n:=7) m0 (lbt rfl)]
 refine step_ret (qT S.ok (hB.grE S.gr) fM fN) ?_;intro v h ⟨g,γ,vx,vy,va,er,hγ,ga,_⟩;replace S:=S.call g;clear g
 subst er
 have fx:=ga.X.fl
 have fy:=ga.Y.fl
 have fa:=ga.A.fl
 have R1:=S.row (b:=b1) m0
 have g0:=S.gr
 have okA:=S.ok
 clear S
 have S:=Si okA
 simp only [BS,Tryz.FFb134,gH]
 refine ae aw S ?_;clear S;intro h b3 S n_b3
 simp only [BS,LB,Nat.reduceLT,Nat.reduceEqDiff]
 refine az (S.store (i:=0) rfl Tryz.s30 (by intro x e;cases e) rfl (by simp only [ag,yl,ym,fx.2.1,fy.2.1,fa.2.1,xZ];rfl) (lbt rfl) ono) ?_
 clear S;rintro h ⟨S,mo⟩;clear mo
 simp only [LC,ag,lay,yd,ye,Nat.reduceAdd]at S
 have R3:=S.row (b:=b3) m0
 replace R1:=R1.gr S.gr
 replace ga:=ga.gr S.gr
 replace g0:=g0.trans S.gr
 have okA:=S.ok
 clear S
 have S:=Si okA
 have l3:h.load b3 0 4=some [.int .i64 γ.nodes,vx,vy,va]:=R3.load (yb 4)
 simp only [BS,LB,Nat.reduceLT,Nat.reduceEqDiff,Tryz.FFb134,l3]
 refine step_ret (te S.ok hγ (ga.gr S.gr)) ?_
 rintro v h ⟨p,rfl,g,hp⟩
 obtain⟨bp,rfl⟩: ∃b,p=ptrTo b:=by obtain⟨b,_,_,_,_,_,e,_⟩:=hp.ex;exact⟨b,e⟩
 replace S:=S.call g;clear g
 simp only [BS,LB,Nat.reduceLT,Nat.reduceEqDiff,Tryz.FFb134]
 refine ar (sX S.ok) ?_
 intro h g
 replace S:=S.call g
 replace hp:=hp.gr g;clear g
 replace ga:=ga.gr S.gr
 replace R1:=R1.gr S.gr
 replace R3:=R3.gr S.gr
 replace g0:=g0.trans S.gr
 have okA:=S.ok
 clear S l3
 have S:=Si okA
 rename Hp=>hX
 have l1:hX.load b1 0 7=some [vB,vM,.int .i64 w0,.int .i64 f,.int .i64 t,.int .i64 a,vN]:=R1.load (yb 7)
 have l3:hX.load b3 0 4=some [.int .i64 γ.nodes,vx,vy,va]:=R3.load (yb 4)
 have l30:=R3.load1 (o:=0) rfl
 have n1:=hγ.n1
 have n2:=hγ.n2
 simp only [BS,LB,Nat.reduceLT,Nat.reduceEqDiff,Tryz.FFb134,l1,l30]
 refine step_ret (sS S.ok fB (hM.grE g0) hMr hml fN n1 (by omega)) ?_
 rintro vl h ⟨g,l,sl,hl,hl1,hl6,_⟩
 replace S:=S.call g;clear g
 simp only [BS,LB,Nat.reduceLT,Nat.reduceEqDiff]
 refine step_ret (qd S.ok hγ (hp.gr S.gr) sl (by omega)) ?_
 rintro pt h ⟨g,hT⟩
 replace hT:=(hT.resolve_left (fun h=>h.1 hl)).2
 obtain⟨bt,et⟩: ∃b,pt=ptrTo b:=by obtain⟨b,_,_,_,e,_⟩:=hT.ex;exact⟨b,e⟩
 subst et
 replace S:=S.call g;clear g
 simp only [BS,LB,Nat.reduceLT,Nat.reduceEqDiff,Tryz.FFb134,S.gr.load l1,S.gr.load l30]
 refine step_ret (qP S.ok fB fM fN n1 (by omega)) ?_
 rintro r h ⟨g,s,u,a',hs,hu,rfl⟩
 replace S:=S.call g
 replace hT:=hT.gr g;clear g
 simp only [BS,Tryz.FFb134]
 have gY:=S.gr
 have okY:=S.ok
 clear S
 have S:=Si okY
 refine ae aw S ?_;clear S;intro h b7 S n_b7
 simp only [BS,LB,Nat.reduceLT,Nat.reduceEqDiff]
 refine az (S.store (i:=0) rfl Tryz.s24 (by intro x e;cases e) rfl rfl (lbt rfl) ono) ?_
 clear S;rintro h ⟨S,mo⟩;clear mo
 simp only [LC,ag,lay,yd,ye,Nat.reduceAdd]at S
 have eT:=fun {s:Nat} (hs:s<γ.nodes) (v:Nat)=>exTo okA hγ hp hs v
 have eF:=fun {s:Nat} (hs:s<γ.nodes) (v:Nat)=>exFrom okA hγ hp hs v
 have gZ:=gY.trans S.gr
 simp only [BS,LB,Nat.reduceLT,Nat.reduceEqDiff,Tryz.FFb134,yy,yo,yz,S.lds (b:=b7) (o:=0) (n:=4) m0 (lbt rfl)]
 have TT:TabQ h (ptrTo bt) γ.nodes l (toR γ l) (frR γ l):=.inl ⟨_,hT.gr S.gr,fun i _=>eS _ _ _,fun i _=>eS _ _ _⟩
 have hW:gw γ.nodes γ.nodes l.length (s:Int) (u:Int)=0:=by
  unfold gw
  rw [if_neg (by omega),if_neg (by omega),if_pos ⟨by omega,rfl⟩]
 refine step_ret (oG S.ok hγ (hp.gr gZ) TT (by omega) bw (f:=s) (t:=u) (a:=a')) ?_
 rintro rv h ⟨g,cc,d,vA,vB',vE,rfl,post⟩
 have R7:=(S.row (b:=b7) m0).gr g
 replace hT:=hT.gr (S.gr.trans g)
 replace gZ:=gZ.trans g
 replace S:=S.call g
 have hok:(cc=20/\Fl vA/\Fl vB'/\Fl vE)\/(cc=0/\Fl vA/\ ∃(D:Nat) (ev:List Ev) (act:List Nat),d=(D:Int)/\D<FAR/\aA h 1 bW vB' act/\act.length<=16/\aA h 4 dH vE ev/\ev.length<=3000/\
  jx γ.arcs (fun v x=>v<γ.nodes/\IsD γ.arcs s v x/\(x:Int)+bR γ.nodes l.length (toR γ l) (frR γ l) v u (act.map fun(x:Nat)=>(x:Int))<=D) ev):=by
  have far:=dX
  rcases post with⟨p0,p1,p2,p3,p4,p5⟩|⟨_,hne,s',w',fd,es,ew,hs',hw',_,he,sE,⟨hd,q1,q2,q3,q4⟩|⟨hd,q1,q2,q3,q4⟩⟩
  . rw [hW]at p1
    subst p1 p2 p3 p4 p5
    exact .inr ⟨rfl,aW,0,[],[],rfl,by omega,.inl ⟨rfl,rfl⟩,yh _,.inl ⟨rfl,rfl⟩,yh _,fun i hi=>by cases hi⟩
  . rw [q3,q4];exact .inl ⟨q1,aW,aW,sE.fl⟩
  . have e1:s'=s:=by omega
    have e2:w'=u:=by omega
    subst e1 e2
    have hfl:=sY hγ hs (.inr ⟨fun e=>hne (by rw [e]),he⟩)
    exact .inr ⟨q1,q3.fl,fd.dist,fd.ev,_,q2,hd,q4,by unfold actL;rw [yf];omega,sE,hfl.2,uj eT eF hl hγ hs hu (fun e=>hne (by rw [e])) he hd⟩
 clear post
 have y:Fl vA/\Fl vB'/\Fl vE:=by
  rcases hok with⟨_,h⟩|⟨_,h,_,_,_,_,_,h1,_,h2,_⟩
  . exact h
  . exact⟨h,h1.fl,h2.fl⟩
 obtain⟨y1,y2,y3⟩:=y
 simp only [BS,LB,Nat.reduceLT,Nat.reduceEqDiff,Tryz.FFb134,ansV]
 have okR:=S.ok
 clear S g
 have S:=Si okR
 refine ae aw S ?_;clear S;intro h b8 S n_b8
 simp only [BS,LB,Nat.reduceLT,Nat.reduceEqDiff]
 refine az (S.store (i:=0) rfl Tryz.s46 (by intro x e;cases e) rfl (by simp only [ag,yl,ym,y1.2.1,y2.2.1,xZ];rfl) (lbt rfl) ono) ?_
 clear S;rintro h ⟨S,mo⟩;clear mo
 simp only [LC,ag,lay,yd,ye,Nat.reduceAdd]at S
 rcases hok with⟨hc,_⟩|⟨hc,_,D,ev,act,eD,hDf,sB,hact,sE,hev,hnear⟩
 . subst hc
   have n20: ¬(20:Int)=0:=by decide
   simp only [BS,LB,ab,Nat.reduceLT,Nat.reduceEqDiff,Tryz.FFb134,n20,S.ld (b:=b8) (o:=0) m0 rfl]
   exact(g0.trans gZ).trans S.gr
 . subst hc eD
   have gW:=gZ.trans S.gr
   have ls:=least_ok S.ok hγ (ga.gr gW) (s:=s) hs (fun v _=>by have:=eF hs v;rwa [hZ]at this)
   unfold gH at ls
   have l71:=(R7.gr S.gr).load1 (o:=1) rfl
   simp only [BS,LB,Nat.reduceLT,Nat.reduceEqDiff,Tryz.FFb134,gW.load l3,l71,S.ld (b:=b8) (o:=0) m0 rfl]
   refine step_ret ls ?_
   rintro vL h ⟨g,sL,nL⟩
   replace S:=S.call g
   clear ls
   have R8:=S.row (b:=b8) m0
   have gV:=gW.trans g
   have l72:=(R7.gr S.gr).load1 (o:=2) rfl
   replace hT:=hT.gr S.gr
   replace sB:=sB.gr S.gr
   replace sE:=sE.gr S.gr
   have okF:=S.ok
   clear S g
   rename Hp=>hF
   have S:=Si okF
   simp only [BS,LB,Nat.reduceLT,Nat.reduceEqDiff,Tryz.FFb134,gV.load l30]
   refine ae (kN (by exact Tryz.u55) (by exact Tryz.e4E) (by omega) (by omega)) S ?_;clear S;intro h bs S n_bs
   rw [Int.toNat_natCast,oa,show List.replicate γ.nodes (Value.bool false)=(yg γ.nodes).map fun v=>Value.bool (decide (v∈cZ (ev.take 0)))from by
    rw [show(fun v=>Value.bool (decide (v∈cZ (ev.take 0))))=fun _=>Value.bool false from by funext v;simp [cZ],List.map_const',List.length_range]]at S
   simp only [BS,LB,Nat.reduceLT,Nat.reduceEqDiff,Int.toNat_natCast]
   have lD:(iY γ.arcs γ.nodes s).length=γ.nodes:=eS _ _ _
   have l80:=R8.load1 (o:=1) rfl
   have l83:=R8.load1 (o:=3) rfl
   have l33:=(gV.load l3)
   replace l33:hF.load b3 3 1=some [va]:=kB l33 (i:=3) (m:=1) (by omega)
   refine aZ (fun(i:Nat) ρ h'=>i<=ev.length/\St NoM hF h' [(bs,.row ((yg γ.nodes).map fun v=>.bool (decide (v∈cZ (ev.take i)))) 1)] []/\ρ 3=ptrTo b3/\ρ 6=ptrTo bt/\ρ 7=ptrTo b7/\ρ 8=ptrTo b8/\ρ 9=vE/\ρ 10=vL/\ρ 11=.slice (some ⟨bs,0,none⟩) γ.nodes γ.nodes/\ρ 12=.int .i64 i) (fun i=>ev.length-i) ?_ 0 _ _ ?_
   . clear S
     intro i ih ρ h ⟨hi,S,r3,r6,r7,r8,r9,r10,r11,r12⟩
     have wi:au .i64 ((i:Int)+1)=((i+1:Nat):Int):=by rw [wrap64]<;>omega
     by_cases hlt:i<ev.length
     . obtain⟨c,o,x0,y0⟩:=(sE.gr S.gr).ix (kd:=.i64) mi hlt
       have hn:=hnear i hlt
       have tk:cZ (ev.take (i+1))=cZ (ev.take i)++if ev[i].kind=0 then [ev[i].id]else []:=by rw [xY hlt,ly]
       obtain⟨e,ee⟩: ∃e,ev[i]=e:=⟨_,rfl⟩
       rw [ee]at y0 hn tk
       obtain⟨kd,id,lb⟩:=e
       simp only []at hn tk
       replace y0:h.load c o 4=some [.int .i64 kd,.int .i64 0,.int .i64 id,.int .i64 lb]:=y0
       simp only [BS,LB,Nat.reduceLT,Nat.reduceEqDiff,Tryz.FFb134,r9,r12,sE.lenq,aI,hlt,x0,y0]
       refine ae aw S ?_;clear S;intro h b13 S n_b13
       simp only [BS,LB,Nat.reduceLT,Nat.reduceEqDiff]
       refine az (S.store (i:=0) rfl yD (by intro x e;cases e) rfl rfl (lbt rfl) ono) ?_
       clear S;rintro h ⟨S,mo⟩;clear mo
       simp only [LC,ag,lay,yd,ye,Nat.reduceAdd]at S
       rcases hn with⟨hk,ha,hs'⟩|⟨hk,hnp,hv,hD,hb⟩
       . have k1:(kd:Int)=1:=by omega
         rw [if_neg (by omega),List.append_nil]at tk
         obtain⟨c3,o3,x3,y3'⟩:=((ga.gr gV).gr S.gr).A.ix (kd:=.i64) eP ha
         have eA:γ.arcs.getD id default=γ.arcs[id]:=by rw [yj,xW ha];rfl
         rw [eA]at hs'
         have hsn:=(hγ.arcs _ (yt ha)).1
         have y30:h.load c3 o3 1=some [.int .i64 (γ.arcs[id].s:Nat)]:=kB y3' (i:=0) (m:=1) (by omega)
         have lx:=S.ld (b:=bs) (o:=γ.arcs[id].s) m1 (gL (F:=fun v=>Value.bool (decide (v∈cZ (ev.take i)))) hsn)
         simp only [hs',decide_true]at lx
         have m33:=S.gr.load l33
         simp only [BS,LB,ab,Nat.reduceLT,Nat.reduceEqDiff,Tryz.FFb134,r3,r11,r12,m33,x3,y30,hsn,lx,wi,k1,S.ld (b:=b13) (o:=0) m0 rfl,S.ld (b:=b13) (o:=2) m0 rfl]
         replace S:=S.drop1
         exact ih (i+1) _ _ (by omega) ⟨by omega,by rw [tk];exact S,by simp [aa,r3,ah],by simp [aa,r6,ah],by simp [aa,r7,ah],by simp [aa,r8,ah],by simp [aa,r9],by simp [aa,r10],by simp [aa,r11],by simp [aa]⟩
       . have k1: ¬(kd:Int)=1:=by omega
         rw [if_pos hk]at tk
         have lx:=S.ld (b:=bs) (o:=id) m1 (gL (F:=fun v=>Value.bool (decide (v∈cZ (ev.take i)))) hv)
         simp only [hnp,decide_false]at lx
         obtain⟨c4,o4,x4,y4⟩:=((sL.gr S.gr)).ix (kd:=.i64) (dJ .i64) (i:=id) (by omega)
         have e9:(iY γ.arcs γ.nodes s)[id]'(by omega)=(lb:Nat):=by
          have:=sb (B:=γ.arcs) (s:=s) hv
          rw [yj,xW (by omega)]at this
          have h2:=eF hs id
          rw [hZ]at h2
          rw [show(iY γ.arcs γ.nodes s)[id]'(by omega)=_ from this,h2.uniq hD]
         rw [e9]at y4
         replace y4:h.load c4 o4 1=some [.int .i64 (lb:Nat)]:=y4
         have m80:=S.gr.load l80
         have m83:=S.gr.load l83
         have m72:=S.gr.load l72
         have z8:=bg S.ok m80
         have z7:=bg S.ok m72
         have z13:=(S.row (b:=b13) m0).lt S.ok
         have zs:=(S.row (b:=bs) m1).lt S.ok
         have z4:=bg S.ok y4
         have bn:=dT (N:=γ.nodes) (n:=l.length) (R:=toR γ l) (Q:=frR γ l) (v:=id) (w:=u) (act:=act.map fun(x:Nat)=>(x:Int))
         obtain⟨bb,hbb⟩: ∃b,bR γ.nodes l.length (toR γ l) (frR γ l) (id:Int) (u:Int) (act.map fun(x:Nat)=>(x:Int))=b:=⟨_,rfl⟩
         have hB:=uK S.ok (hT.gr S.gr) (fun i _=>eS _ _ _) (fun i _=>eS _ _ _) (by omega) (sl_nat (sB.gr S.gr)) (by rw [yn];omega) (v:=id) (w:=u)
         rw [hbb]at hb hB bn
         have far:=dX
         have ws:au .i64 ((lb:Int)+bb)=(lb:Int)+bb:=by rw [wrap64]<;>omega
         have cg: ¬(D:Int)<(lb:Int)+bb:=by omega
         simp only [BS,LB,Nat.reduceLT,Nat.reduceEqDiff,Tryz.FFb134,k1,S.ld (b:=b13) (o:=0) m0 rfl,S.ld (b:=b13) (o:=2) m0 rfl]
         refine aC (aH rfl) (q:=0) (ps:=[(25,28),(17,25)]) (by kernel_rfl) ?_
         simp only [BS,LB,cls,Nat.reduceLT,Nat.reduceEqDiff,Nat.reduceAdd,Nat.reducePow,Nat.reduceDiv,Nat.reduceMod,Nat.reduceLeDiff,Tryz.FFb134,r6,r7,r8,r10,r11,hv,lx,x4,y4,m83,m72,S.ld (b:=b13) (o:=2) m0 rfl,S.ld (b:=b13) (o:=3) m0 rfl]
         refine cE hB ?_
         intro h1 g1
         have v7:=ay g1 z7
         have v8:=ay g1 z8
         have v13:=ay g1 z13
         have vs:=ay g1 zs
         have v4:=ay g1 z4
         have n80:=g1.load m80
         replace S:=S.call g1
         simp only [BS,LB,cls,Nat.reduceLT,Nat.reduceEqDiff,Nat.reduceAdd,Nat.reducePow,Nat.reduceDiv,Nat.reduceMod,Nat.reduceLeDiff,Tryz.FFb134,r8,r11,n80,ws,cg]
         refine⟨by simp only [aX,bu,aS,bz,aT,ne_eq,not_false_eq_true,bF,bJ,bA,aY,bK,cD,aK,Nat.reduceLT,Nat.reduceEqDiff,reduceIte,xZ,r3,r6,r7,r8,r9,r10,r11,r12,ah,aP v7,aP v8,aP v13,aP vs,aP v4,aN v8,aN v13],?_⟩
         simp only [BS,LB,Nat.reduceLT,Nat.reduceEqDiff,Tryz.FFb134,hv,S.ld (b:=b13) (o:=2) m0 rfl]
         refine az (aB S (i:=1) rfl Tryz.s4 mU (by simpa using hv) ono) ?_
         clear S lx;rintro h4 ⟨S,mo4⟩
         simp only [LC]at S
         replace S:=S.drop1
         simp only [BS,LB,Nat.reduceLT,Nat.reduceEqDiff,r12,wi]
         refine ih (i+1) _ _ (by omega) ⟨by omega,?_,by simp [aa,r3,ah],by simp [aa,r6,ah],by simp [aa,r7,ah],by simp [aa,r8,ah],by simp [aa,r9],by simp [aa,r10],by simp [aa,r11],by simp [aa]⟩
         have e:=ij (N:=γ.nodes) (k:=id) (F:=fun v=>Value.bool (decide (v∈cZ (ev.take i)))) (F':=fun v=>Value.bool (decide (v∈cZ (ev.take (i+1))))) (fun v _ hv=>by
          rw [tk]
          simp [hv])
         rw [<-e,tk]
         simpa using S
     . simp only [BS,LB,ab,Nat.reduceLT,Nat.reduceEqDiff,Tryz.FFb134,r9,r12,sE.lenq,aI,hlt]
       exact(g0.trans gV).trans S.gr
   . exact⟨yh _,S,by simp [aa,ah],by simp [aa,ah],by simp [aa,ah],by simp [aa,ah],by simp [aa],by simp [aa],by simp [aa],by simp [aa]⟩
end Go.Ab
end
section
namespace Go.Ab
open Go.Proofs
set_option maxRecDepth 10000
theorem wV(A:List Arc): ∀a∈seen A Arc.t Arc.s,∃b∈seen A Arc.s Arc.t,b.s=a.t/\b.t=a.s/\b.w=a.w:=by
 intro a ha
 obtain⟨i,hi,e⟩:=qw ha
 have e1:=(lK (fs:=Arc.t) (ft:=Arc.s) hi).1
 obtain⟨e2,e3⟩:=lK (fs:=Arc.s) (ft:=Arc.t) hi
 refine⟨_,e3,?_⟩
 rw [e2,<-e,e1]
 exact⟨rfl,rfl,rfl⟩
theorem jx.imp{A:List Arc}{ok ok':Nat->Nat->Prop}{l:List Ev}(h:jx A ok l)(H: ∀v x,ok v x->ok' v x):jx A ok' l:=
 fun i hi=>(h i hi).imp (fun a=>a) (fun⟨a,b,c⟩=>⟨a,b,H _ _ c⟩)
section
variable{γ:Gra}
theorem rev_wk{w v x m y:Nat}(h:Wk (seen γ.arcs Arc.t Arc.s) w v x)(k:Wk γ.arcs m v y):Wk γ.arcs m w (x+y):=by
 have:=Wk.back (C:=seen γ.arcs Arc.s Arc.t) (wV γ.arcs) h (by rw [hZ];exact k)
 rwa [hZ]at this
theorem vm(eT: ∀{s:Nat},s<γ.nodes-> ∀v,IsD (seen γ.arcs Arc.t Arc.s) s v (dOf (seen γ.arcs Arc.t Arc.s) s v))(eF: ∀{s:Nat},s<γ.nodes-> ∀v,IsD (seen γ.arcs Arc.s Arc.t) s v (dOf (seen γ.arcs Arc.s Arc.t) s v))
 {v w:Nat} (hv:v<γ.nodes) (hw:w<γ.nodes):bR γ.nodes 1 (toR γ [(w:Int)]) (frR γ [(w:Int)]) v w [0]=(dOf (seen γ.arcs Arc.t Arc.s) w v:Nat):=by
 have hi:0< [(w:Int)].length:=Nat.zero_lt_one
 have e0:([(w:Int)].getD 0 0).toNat=w:=rfl
 show max 0 (cU γ.nodes [(w:Int)].length (toR γ [(w:Int)]) (frR γ [(w:Int)]) ((0:Nat):Int) v w)=_
 unfold cU
 rw [if_pos ⟨by omega,by omega,by omega,by show((0:Nat):Int)<((1:Nat):Int);omega⟩,iF hi hv,iF hi hw,je hi hw,je hi hv,e0]
 have z1:=(eT hw w).self
 have z2:=(eF hw w).self
 have l1:=(eT hw v).le
 have l2:=(eF hw v).le
 have far:=dX
 rw [z1,z2,iQ (by omega) (by omega),iQ (by omega) (by omega)]
 generalize dOf (seen γ.arcs Arc.t Arc.s) w v=p at*
 generalize dOf (seen γ.arcs Arc.s Arc.t) w v=q at*
 clear eT eF
 have e1:(if 0<72057594037927936 then(if p<72057594037927936 then max 0 ((p:Int)-(0:Nat))else 72057594037927936)else 0)=(p:Int):=by
  rw [if_pos (by decide)]
  split<;>omega
 have e2:(if q<72057594037927936 then(if 0<72057594037927936 then max 0 (((0:Nat):Int)-q)else 72057594037927936)else 0)=(0:Int):=by
  split
  . rw [if_pos (by decide)];omega
  . rfl
 rw [e1,e2]
 omega
theorem run_few(eT: ∀{s:Nat},s<γ.nodes-> ∀v,IsD (seen γ.arcs Arc.t Arc.s) s v (dOf (seen γ.arcs Arc.t Arc.s) s v))(eF: ∀{s:Nat},s<γ.nodes-> ∀v,IsD (seen γ.arcs Arc.s Arc.t) s v (dOf (seen γ.arcs Arc.s Arc.t) s v))(hγ:Good γ)
 {s w:Nat} (hs:s<γ.nodes) (hw:w<γ.nodes) (hsw:s≠w) {act:List Int} (hact:act=[0]) {fd:Fd} (he:Ends γ.arcs (alF []) (piF ((yg γ.nodes).map fun(v:Nat)=>bR γ.nodes 1 (toR γ [(w:Int)]) (frR γ [(w:Int)]) v w act)) w (da (piF ((yg γ.nodes).map fun(v:Nat)=>bR γ.nodes 1 (toR γ [(w:Int)]) (frR γ [(w:Int)]) v w act)) s) fd):
 IsD γ.arcs s w fd.dist/\(fd.dist<FAR->jx γ.arcs (fun v x=>v<γ.nodes/\x+dOf (seen γ.arcs Arc.t Arc.s) w v=fd.dist) fd.ev)/\(¬fd.dist<FAR->dOf (seen γ.arcs Arc.t Arc.s) w s=FAR/\fd.ev=[]):=by
 subst hact
 have hl:eY γ.nodes [(w:Int)]:=⟨by show 1<=16;decide,fun i hi=>by
  have:i=0:=by simp at hi;exact hi
  subst this
  exact⟨Int.natCast_nonneg w,Int.ofNat_lt.2 hw,by simp⟩⟩
 obtain⟨hD,_⟩:=mI eT eF hl hγ hs hw hsw he
 have far:=dX
 refine⟨hD,fun hf=>(uj eT eF hl hγ hs hw hsw he hf).imp fun v x ⟨h1,h2,h3⟩=>⟨h1,?_⟩,fun hf=>?_⟩
 . have e:=vm eT eF h1 hw
   rw [show bR γ.nodes [(w:Int)].length (toR γ [(w:Int)]) (frR γ [(w:Int)]) v w [0]=_ from e]at h3
   have hp:dOf (seen γ.arcs Arc.t Arc.s) w v<FAR:=by omega
   have k:=rev_wk ((eT hw v).far hp) (h2.far (by omega))
   have:=(hD.wk k).2.1
   omega
 . have hp:dOf (seen γ.arcs Arc.t Arc.s) w s=FAR:=by
    rcases Nat.lt_or_ge (dOf (seen γ.arcs Arc.t Arc.s) w s) FAR with h|h
    . have:=rev_wk ((eT hw s).far h) .nil
      exact absurd (hD.wk this).1 hf
    . exact Nat.le_antisymm (eT hw s).le h
   refine⟨hp,?_⟩
   have ps:piF ((yg γ.nodes).map fun(v:Nat)=>bR γ.nodes 1 (toR γ [(w:Int)]) (frR γ [(w:Int)]) v w [0]) s=(FAR:Int):=by
    rw [jI hs dT,vm eT eF hs hw,hp]
   have hi:da (piF ((yg γ.nodes).map fun(v:Nat)=>bR γ.nodes 1 (toR γ [(w:Int)]) (frR γ [(w:Int)]) v w [0])) s=⟨fun _=>none,fun _=>0,fun _=>[],[],[]⟩:=by
    unfold da cL
    rw [if_pos (.inr (.inl (by rw [ps];exact Int.le_refl _)))]
   rw [hi]at he
   rw [oh he (fun _=>rfl)]
theorem uT(N:Nat)(R Q:Nat->List Int)(s w m:Int):((actL N 1 R Q s w m).map fun(x:Nat)=>(x:Int))=[0]:=by
 have e1:gf (keyB N 1 R Q s w) (1-1) (yg 1)=[0]:=rfl
 unfold actL
 rw [e1,show min (max m 1).toNat 1=1 by omega]
 rfl
end
end Go.Ab

end
section
namespace Go.Ab
open Go.Proofs
set_option maxRecDepth 10000
open Tryz in
def Tryz.FFtr1107:=aj a1<|aj s1<|aj z1<|aj n1<|aj u2<|aj a2<|aj s2<|aj z2<|aj i2<|aj u3<|aj a3<|aj s3<|aj z3<|aj i3<|aj u4<|aj a4<|aj s4<|aj z4<|aj n4<|aj u47<|aj a47<|aj s47<|aj z47<|aj q47<|aj n47<|aj a57<|aj s57<|aj z57<|aj i57<|aj n57<|aj p57<|aj ff57<|aj d57<|aj a174<|aj s174<|aj z174<|n174
open Tryz in
def Tryz.FFtr161:=aj a1<|aj s1<|aj z1<|aj n1<|aj u2<|aj a2<|aj s2<|aj z2<|aj i2<|aj u3<|aj a3<|aj s3<|aj z3<|aj i3<|aj a57<|aj s57<|aj z57<|aj i57<|aj n57<|aj p57<|aj ff57<|d57
def popA(ev:List Ev)(i:Nat):Option (Nat×Ev):=match ev[i]? with
 |some e=>if e.kind=0 then some (i,e)else none
 |none=>none
def eX(ev:List Ev)(n:Nat):List (Nat×Ev):=(yg n).filterMap (popA ev)
theorem mq(ev:List Ev)(n:Nat):eX ev (n+1)=eX ev n++(popA ev n).toList:=by
 unfold eX
 rw [List.range_succ,List.filterMap_append]
 cases h:popA ev n<;>simp [h]
theorem popP_at{ev:List Ev}{i:Nat}{x:Nat×Ev}(h:popA ev i=some x): ∀n,i<n->(eX ev n)[(eX ev i).length]? =some x:=by
 intro n
 induction n with
 |zero=>intro hi;omega
 | succ n ih=>
   intro hi
   rw [mq]
   by_cases hn:i<n
   . have:=ih hn
     rw [List.getElem?_append_left (List.getElem?_eq_some_iff.1 this).1];exact this
   . have:i=n:=by omega
     subst this
     rw [List.getElem?_append_right (yb _),h]
     simp
theorem popP_ids(ev:List Ev): ∀n,n<=ev.length->(eX ev n).map (·.2.id)=cZ (ev.take n):=by
 intro n
 induction n with
 |zero=>intro _;rfl
 | succ n ih=>
   intro hn
   have hlt:n<ev.length:=by omega
   rw [mq,yw,ih (by omega),xY hlt,ly]
   congr 1
   unfold popA
   rw [xW hlt]
   simp only []
   split<;>rfl
theorem popP_mem{ev:List Ev}{n:Nat}{p:Nat×Ev}(h:p∈eX ev n):p.2∈ev/\p.2.kind=0:=by
 obtain⟨i,_,hi⟩:=List.mem_filterMap.1 h
 unfold popA at hi
 split at hi
 . rename_i e he
   split at hi
   . cases hi
     exact⟨yB he,by assumption⟩
   . cases hi
 . cases hi
theorem popP_len(ev:List Ev)(n:Nat):(eX ev n).length<=n:=by
 have:=yu (popA ev) (yg n)
 rw [List.length_range]at this
 exact this
def pairX(p:Nat×Ev):List Value:=[.int .i64 (p.1:Nat),.agg ⟨dH p.2⟩]
theorem q9{h0:Hp}(ok:h0.t.Sized h0.n){vE:Value}(fE:Fl vE):Ret ya 60 [vE,.int .i64 0,.int .i64 0] h0 fun v h'=>Gr h0 h'/\ ∃b1 b2 b3,v=.func (.func 107) #[] #[ptrTo b1,ptrTo b2,ptrTo b3]/\h0.n<=b1/\h0.n<=b2/\h0.n<=b3/\h'.load b1 0 1=some [vE]/\h'.load b2 0 1=some [.int .i64 0]/\h'.load b3 0 1=some [.int .i64 0]:=by
 have S:=Si ok
 refine ac (n:=8) (rs:=[.tmp 6]) rfl Tryz.e60 rfl rfl rfl (lbt rfl) ?_
 simp only [BS,Nat.reduceLT]
 refine ae (co (by assumption)) S ?_;clear S;intro h b1 S n_b1
 simp only [BS,Nat.reduceLT,Nat.reduceEqDiff,if_false]
 refine ae (co (by exact bw)) S ?_;clear S;intro h b2 S n_b2
 simp only [BS,Nat.reduceLT,Nat.reduceEqDiff,if_false]
 refine ae (co (by exact bw)) S ?_;clear S;intro h b3 S n_b3
 simp only [BS,LB,ab,Nat.reduceLT,Nat.reduceEqDiff]
 exact⟨S.gr,b1,b2,b3,rfl,n_b1,n_b2,n_b3,S.ld m2 rfl,S.ld m1 rfl,S.ld m0 rfl⟩
theorem of1_it {h0:Hp} (ok0:h0.t.Sized h0.n) {vE:Value} {ev:List Ev} (hE:aA h0 4 dH vE ev) (hl:ev.length<=3000) {b1 b2 b3:Nat} (e1:h0.load b1 0 1=some [vE]) (e2:h0.load b2 0 1=some [.int .i64 0]) (e3:h0.load b3 0 1=some [.int .i64 0]):
 pL ya 107 [] [ptrTo b1,ptrTo b2,ptrTo b3] h0 (fun c=>c=b1\/c=b2\/c=b3\/av vE c) ((eX ev ev.length).map pairX):=by
 intro lb J Z hz Y h F s hj
 have l1:=s.load ok0 e1 (.inl rfl)
 have fE:=hE.fl
 refine enter (n:=32) (rs:=[]) rfl Tryz.e107 rfl rfl rfl (lbt rfl) ?_
 simp only [BS,LB,Nat.reduceLT,Tryz.FFtr1107,l1,hE.lenq]
 refine aZ (fun(i:Nat) ρ h=>i<=ev.length/\ ∃F,ItS h0 (fun c=>c=b1\/c=b2\/c=b3\/av vE c) h F/\J (eX ev i).length h F/\ρ 0=.func (.yield lb) #[] #[]/\ρ 1=ptrTo b1/\ρ 2=ptrTo b2/\ρ 3=ptrTo b3/\ρ 7=vE/\ρ 8=.int .i64 (ev.length:Nat)/\ρ 9=.int .i64 i) (fun i=>ev.length-i) ?_ 0 _ _ ?_
 . clear l1 s hj F h
   intro i ih ρ h ⟨hi,F,s,hj,r0,r1,r2,r3,r7,r8,r9⟩
   have w:au .i64 ((i:Int)+1)=((i+1:Nat):Int):=by rw [wrap64]<;>omega
   by_cases hlt:i<ev.length
   . have l2:=s.load ok0 e2 (.inr (.inl rfl))
     have l3:=s.load ok0 e3 (.inr (.inr (.inl rfl)))
     obtain⟨c,o,x0,y0⟩:=(s.sl ok0 hE (fun b h=>.inr (.inr (.inr h)))).ix (kd:=.i64) mi hlt
     have S:=Si s.ok
     obtain⟨e,ee⟩: ∃e,ev[i]=e:=⟨_,rfl⟩
     rw [ee]at y0
     have pa:popA ev i=if e.kind=0 then some (i,e)else none:=by
      unfold popA;rw [xW hlt,ee]
     obtain⟨kd,id,lab⟩:=e
     replace y0:h.load c o 4=some [.int .i64 kd,.int .i64 0,.int .i64 id,.int .i64 lab]:=y0
     simp only []at pa
     simp only [BS,LB,Nat.reduceLT,Nat.reduceEqDiff,Tryz.FFtr1107,r7,r8,r9,aI,hlt,x0,y0]
     refine ae aw S ?_;clear S;intro h b6 S n_b6
     simp only [BS,LB,Nat.reduceLT,Nat.reduceEqDiff]
     refine az (S.store (i:=0) rfl yD (by intro x e;cases e) rfl rfl (lbt rfl) ono) ?_
     clear S;rintro h ⟨S,mo⟩;clear mo
     simp only [LC,ag,lay,yd,ye,Nat.reduceAdd]at S
     have sA:=s.gr S.gr
     have jA:=Y.gr _ _ _ _ hj S.gr
     have m2:=S.gr.load l2
     have m3:=S.gr.load l3
     by_cases hk:kd=0
     . have k0:(kd:Int)=0:=by omega
       rw [if_pos hk]at pa
       have hx:((eX ev ev.length).map pairX)[(eX ev i).length]? =some [.int .i64 (i:Nat),.agg ⟨[.int .i64 0,.int .i64 0,.int .i64 id,.int .i64 lab]⟩]:=by
        rw [yi,popP_at pa _ hlt,hk];rfl
       have ln:(eX ev (i+1)).length=(eX ev i).length+1:=by rw [mq,pa];simp
       simp only [BS,LB,Nat.reduceLT,Nat.reduceEqDiff,Tryz.FFtr1107,r0,r2,r3,k0,m2,m3,S.ld (b:=b6) (o:=0) m0 rfl,S.ld (b:=b6) (o:=1) m0 rfl,S.lds (b:=b6) (o:=0) (n:=4) m0 (lbt rfl)]
       refine eG Y sA jA (i:=(eX ev i).length) hx ?_ ?_ ?_
       . intro h3 F3 a s3 _ _
         simp only [BS,LB,Nat.reduceLT,Nat.reduceEqDiff,r9,w]
         exact ih (i+1) _ _ (by omega) ⟨by omega,F3,s3,by rw [ln];exact a,by simp [aa,r0],by simp [aa,r1,ah],by simp [aa,r2,ah],by simp [aa,r3,ah],by simp [aa,r7],by simp [aa,r8],by simp [aa]⟩
       . intro h3 a _
         simp only [BS,LB,Nat.reduceLT,Nat.reduceEqDiff]
         exact iw rfl ⟨rfl,.inr (.inl ⟨_,rfl,a⟩)⟩
       . intro v h3 a
         exact absurd a (hz v h3)
     . have k0: ¬(kd:Int)=0:=by omega
       rw [if_neg hk]at pa
       have ln:eX ev (i+1)=eX ev i:=by rw [mq,pa];simp
       simp only [BS,LB,Nat.reduceLT,Nat.reduceEqDiff,Tryz.FFtr1107,r2,r9,k0,m2,w,S.ld (b:=b6) (o:=0) m0 rfl,S.ld (b:=b6) (o:=1) m0 rfl]
       exact ih (i+1) _ _ (by omega) ⟨by omega,F,sA,by rw [ln];exact jA,by simp [aa,r0],by simp [aa,r1,ah],by simp [aa,r2,ah],by simp [aa,r3,ah],by simp [aa,r7],by simp [aa,r8],by simp [aa]⟩
   . simp only [BS,LB,Nat.reduceLT,r8,r9,aI,hlt]
     have:i=ev.length:=by omega
     subst this
     exact dv (dy ⟨rfl,_,rfl,rfl,.inl ⟨_,F,rfl,by simpa using hj⟩⟩)
 . exact⟨yh _,F,s,hj,by simp [aa,ce],by simp [aa,ce,ah],by simp [aa,ce,ah],by simp [aa,ce,ah],by simp [aa],by simp [aa],by simp [aa]⟩
theorem xj{h0:Hp}(ok:h0.t.Sized h0.n){e:Ev}:bC ya 61 [.agg ⟨dH e⟩] h0 (.int .i64 (e.id:Nat)):=by
 have S:=Si ok
 refine ac (n:=5) (rs:=[.tmp 2]) rfl Tryz.e61 rfl rfl rfl (lbt rfl) ?_
 simp only [BS,Nat.reduceLT,dH]
 refine ae (bE (by intro x e;cases e)) S ?_;clear S;intro h b1 S n_b1;simp only [ag]at S
 simp only [BS,LB,ab,Nat.reduceLT,Nat.reduceEqDiff,Tryz.FFtr161,S.ld (b:=b1) (o:=2) m0 rfl]
 exact S.gr
open Tryz in
def Tryz.FFtr259:=aj a1<|aj s1<|aj z1<|aj n1<|aj u2<|aj a2<|aj s2<|aj z2<|aj i2<|aj u3<|aj a3<|aj s3<|aj z3<|aj i3<|aj u4<|aj a4<|aj s4<|aj z4<|aj n4<|aj u6<|aj a6<|aj s6<|aj z6<|aj i6<|aj a8<|aj s8<|aj z8<|aj i8<|aj n8<|aj p8<|aj ff8<|aj d8<|aj u9<|aj a9<|aj s9<|aj z9<|aj n9<|aj u40<|aj a40<|aj s40<|aj z40<|aj q40<|aj n40<|aj a57<|aj s57<|aj z57<|aj i57<|aj n57<|aj p57<|aj ff57<|aj d57<|aj a120<|aj s120<|aj z120<|aj n120<|aj a122<|aj s122<|aj z122<|n122
open Tryz in
def Tryz.FFtr224:=aj a1<|aj s1<|aj z1<|aj n1<|aj u2<|aj a2<|aj s2<|aj z2<|aj i2<|aj u3<|aj a3<|aj s3<|aj z3<|aj i3<|aj u4<|aj a4<|aj s4<|aj z4<|aj n4<|aj u5<|aj a5<|aj s5<|aj z5<|aj i5<|aj u9<|aj a9<|aj s9<|aj z9<|aj n9<|aj u12<|aj a12<|aj s12<|aj z12<|aj i12<|aj a13<|aj s13<|aj z13<|aj i13<|aj n13<|aj p13<|aj ff13<|aj d13<|aj a14<|aj s14<|aj z14<|aj i14<|aj n14<|aj p14<|aj ff14<|aj d14<|aj u47<|aj a47<|aj s47<|aj z47<|aj q47<|aj n47<|aj a57<|aj s57<|aj z57<|aj i57<|aj n57<|aj p57<|aj ff57<|aj d57<|aj a120<|aj s120<|aj z120<|n120
theorem told_ok{h0:Hp}(ok:h0.t.Sized h0.n){g:FuncId}{post:Array Value}{D:Nat->Prop}{ps:List (Nat×Ev)}(it:pL ya g [] post.toList h0 D (ps.map pairX))(hl:ps.length<=3000):
 Ret ya 59 [.func (.func g) #[] post,.func (.func 61) #[] #[]] h0 fun r h'=>Gr h0 h'/\aA h' 1 bW r (ps.map (·.2.id))/\ ∀c,av r c->h0.n<=c:=by
 have S:=Si ok
 refine ac (n:=17) (rs:=[.cell 4 40]) rfl Tryz.e59 rfl rfl rfl (lbt rfl) ?_
 simp only [BS,Nat.reduceLT]
 refine ae (co (by exact ja)) S ?_;clear S;intro h b3 S n_b3
 simp only [BS,Tryz.FFtr259]
 refine ae aw S ?_;clear S;intro h b4 S n_b4
 simp only [BS,Nat.reduceLT,Nat.reduceEqDiff,if_false]
 replace S:=S.nilG (k:=1)
 refine g8 S (g:=g) (a:=#[]) (b:=post) (by simp [bK,aa,ah]) rfl rfl ?_
 intro h2 db lb S' hdb hlb g2
 obtain⟨X,hX,S'⟩: ∃X:eo,X=_/\St NoM h0 h2 [(lb,.loop X),(db,.dfr),(b4,.row [.slice none 0 0] 1),(b3,.row [.func (.func 61) #[] #[]] 1)] [(.slice none 0 0,1,[])]:=⟨_,rfl,S'⟩
 have hJ:Yld ya lb (fun k h' F=> ∃(vR:Value),St NoM h0 h' [(lb,.loop X),(db,.dfr),(b4,.row [vR] 1),(b3,.row [.func (.func 61) #[] #[]] 1)] [(vR,1,dU ((ps.take k).map (·.2.id)))]/\k<=ps.length/\F=keys [(lb,.loop X),(db,.dfr),(b4,.row [vR] 1),(b3,.row [.func (.func 61) #[] #[]] 1)] [(vR,1,dU ((ps.take k).map (·.2.id)))]) (fun _ _=>False) (ps.map pairX):=by
  refine⟨?_,?_,fun _ _ h=>h.elim,?_⟩
  . rintro i h F ⟨vR,S,_,rfl⟩;exact⟨S.ok,fun b hb=>S.key_lt hb⟩
  . rintro i h F h' ⟨vR,S,a,rfl⟩ gg;exact⟨vR,S.call gg,a,rfl⟩
  . rintro i x hR F hx ⟨vR,S,a,rfl⟩
    have hil:i<ps.length:=by
     have:=(List.getElem?_eq_some_iff.1 hx).1
     simpa using this
    rw [yi,xW hil]at hx
    cases hx
    have tk:dU ((ps.take (i+1)).map (·.2.id))=dU ((ps.take i).map (·.2.id))++[.int .i64 (ps[i].2.id:Nat)]:=by
     rw [xY hil,yw]
     unfold dU
     rw [yw];rfl
    have tl:(dU ((ps.take i).map (·.2.id))).length<=i:=by rw [kg,yn,yf];omega
    generalize ps[i]=p at tk
    obtain⟨j,⟨kd,id,lab⟩⟩:=p
    simp only []at tk
    have fvR:Fl vR:=(S.gown _ m0).1.fl
    have ne4:b4≠b3:=by
     have ap:=S.apart
     unfold keys at ap
     simp only [List.map_cons,List.map_nil,List.cons_append,List.nodup_cons,List.mem_cons,not_or]at ap
     exact ap.2.2.1.1
    subst hX
    refine hI (S.get m0) (by rw [Tryz.e59];rfl) rfl ?_
    have S0:=S
    replace S:=S.base
    simp only [BS,Tryz.FFtr259,dH]
    refine ae aw S ?_;clear S;intro h b6 S n_b6
    simp only [BS,LB,Nat.reduceLT,Nat.reduceEqDiff]
    refine az (S.store (i:=0) rfl yD (by intro x e;cases e) rfl rfl (lbt rfl) ono) ?_
    clear S;rintro h ⟨S,_⟩
    simp only [LC,ag,lay,yd,ye,Nat.reduceAdd]at S
    simp only [BS]
    refine gp S (i:=1) rfl rfl rfl rfl rfl ?_
    clear S;intro h S
    simp only [LC]at S
    have z3:=(S.row (b:=b3) m4).lt S.ok
    have z4:=(S.row (b:=b4) m3).lt S.ok
    have z6:=(S.row (b:=b6) m0).lt S.ok
    simp only [BS]
    refine aC (aH rfl) (q:=16) (ps:=[(0,3)]) (by kernel_rfl) ?_
    simp only [BS,LB,cls,Nat.reduceLT,Nat.reduceEqDiff,Nat.reduceAdd,Nat.reducePow,Nat.reduceDiv,Nat.reduceMod,Nat.reduceLeDiff,Tryz.FFtr259,S.ld (b:=b4) (o:=0) m3 rfl,S.ld (b:=b3) (o:=0) m4 rfl,S.lds (b:=b6) (o:=0) (n:=4) m0 (lbt rfl)]
    refine cE (xj S.ok (e:=⟨kd,id,lab⟩)) ?_
    intro h1 g1
    have v3:=ay g1 z3
    have v4:=ay g1 z4
    have v6:=ay g1 z6
    replace S:=S.call g1
    simp only [BS,LB,cls,Nat.reduceLT,Nat.reduceEqDiff,Nat.reduceAdd,Nat.reducePow,Nat.reduceDiv,Nat.reduceMod,Nat.reduceLeDiff]
    refine dt (bL (by exact Tryz.u40) (by exact Tryz.e3E) (by decide) (by rfl)) S ?_;clear S;intro h bt S n_bt e_bt;simp only [LC,aU,bI,ag,Nat.reduceMul,Nat.reduceAdd,Nat.zero_mul,Nat.zero_add,yp,Nat.one_mul]at S
    simp only [BS,LB,cls,Nat.reduceLT,Nat.reduceEqDiff,Nat.reduceAdd,Nat.reducePow,Nat.reduceDiv,Nat.reduceMod,Nat.reduceLeDiff]
    have src:aO h 1 (.slice (some ⟨bt,0,none⟩) 1 1)=some (1,[.int .i64 (id:Nat)]):=by simp only [aO];rw [S.lds (b:=bt) (o:=0) (n:=1*1) m0 (lbt rfl)];rfl
    replace S:=S.drop1
    refine dn_v (S.grow (j:=0) (m:=1) (new:=[.int .i64 (id:Nat)]) rfl Tryz.u40 Tryz.e3E (by decide) Tryz.n40 src rfl (by decide) rfl (by rw [kg];simp;omega)) ?_
    clear S src;rintro h v' S
    simp only [LC]at S
    have fv':Fl v':=(S.gown _ m0).1.fl
    simp only [BS,LB,cls,Nat.reduceLT,Nat.reduceEqDiff,Nat.reduceAdd,Nat.reducePow,Nat.reduceDiv,Nat.reduceMod,Nat.reduceLeDiff]
    refine c5 (aB S (i:=3) rfl Tryz.s40 fv' (yc (lbt rfl)) ono) ?_
    clear S;rintro h ⟨S,_⟩
    simp only [LC]at S
    simp only [BS,Nat.reduceAdd]
    refine⟨by simp only [aX,bu,aS,bz,aT,ne_eq,not_false_eq_true,bF,bJ,bA,aY,bK,cD,aK,Nat.reduceLT,Nat.reduceEqDiff,reduceIte,xZ,ah,aP v3,aP v4,aP v6,aN v3,aN v4,aN v6],?_⟩
    refine dY S (i:=1) rfl ?_
    clear S;intro h S
    simp only [LC]at S
    rw [<-tk]at S
    exact .inl ⟨rfl,_,⟨v',S0.rebase S.drop1,by omega,rfl⟩,S.fr,S.drop1.key_new⟩
 refine fg (it lb _ _ (fun _ _ h=>h) hJ h2 _ ?_ ⟨_,S',yh _,rfl⟩) fun o rc h' y=>jJ y ?_
 . refine⟨S'.ok,S'.fr.n,fun b hb _=>S'.gr.get b hb,fun b hb h=>?_,fun b hb=>S'.key_lt hb⟩
   rcases S'.key_own hb with h1|h1
   . omega
   . exact h1
 . rintro F ⟨vR,T,b,rfl⟩
   rw [yn,yv]at T
   subst hX
   refine⟨_,T.get m0,Nat.zero_ne_one,?_⟩
   replace T:=T.dead
   have S:=T
   show Run _ _ _ _ _ _ _ _
   simp only [BS,LB,Nat.reduceLT,Nat.reduceEqDiff,Tryz.FFtr259,S.ld (b:=b4) (o:=0) m1 rfl]
   have fv:Fl vR:=(T.gown _ m0).1.fl
   clear S
   refine az (aB T (i:=1) rfl Tryz.s40 fv (yc (lbt rfl)) ono) ?_
   clear T;rintro h3 ⟨T,_⟩
   simp only [yq,yr]at T
   simp only [BS]
   refine eJ (iD [db] _ (L:=[(b4,_),(b3,_)]) T.base fun h4 S4=>?_)
   refine⟨rfl,(cF (by decide) (by simp only [aK,ah,Nat.reduceEqDiff,reduceIte];exact ii Tryz.a40 (S4.ld (b:=b4) (o:=0) m0 rfl))).2 (dr.2 ⟨(T.rebase S4).gr,(S4.gown _ m0).1.sl (pj _).symm fH (by decide),fun c hc=>?_⟩)⟩
   rcases(T.gblk m0 hc).1 with h|h
   . exact h
   . exact h.elim
theorem o7{h0:Hp}(ok:h0.t.Sized h0.n){vE:Value}{ev:List Ev}(hE:aA h0 4 dH vE ev)(hl:ev.length<=3000):
 Ret ya 23 [vE,.int .i64 0] h0 fun r h'=>Gr h0 h'/\aA h' 1 bW r (cZ ev)/\ ∀c,av r c->h0.n<=c:=by
 have S:=Si ok
 have fE:=hE.fl
 refine ac (n:=9) (rs:=[.tmp 4]) rfl Tryz.e23 rfl rfl rfl (lbt rfl) ?_
 simp only [BS,LB,Nat.reduceLT,Nat.reduceEqDiff]
 refine step_ret (q9 S.ok fE) ?_
 rintro r h ⟨g,b1,b2,b3,rfl,n1,n2,n3,y1,y2,y3⟩
 replace S:=S.call g
 have kn:=g.n
 have it:=of1_it S.ok (hE.gr g) hl y1 y2 y3
 simp only [BS,LB,Nat.reduceLT,Nat.reduceEqDiff]
 refine step_ret (told_ok S.ok (g:=107) (post:=#[ptrTo b1,ptrTo b2,ptrTo b3]) it (by have:=popP_len ev ev.length;omega)) ?_
 rintro v h ⟨g2,sl,hb⟩
 replace S:=S.call g2
 simp only [BS,LB,ab,Nat.reduceLT,Nat.reduceEqDiff]
 rw [popP_ids ev _ (yb _),yv]at sl
 exact⟨S.gr,sl,fun c hc=>by have:=hb c hc;omega⟩
theorem tJ{h0:Hp}(ok:h0.t.Sized h0.n){vE:Value}{ev:List Ev}(hE:aA h0 4 dH vE ev)(hl:ev.length<=3000){v:Nat}:
 Ret ya 24 [vE,.int .i64 0,.int .i64 (v:Nat)] h0 fun r h'=>Gr h0 h'/\ ∃(x:Nat) (b:Bool),r=.tuple #[.int .i64 (x:Nat),.bool b]/\((b=true/\ ∃e∈ev,e.kind=0/\e.id=v/\x=e.lab)\/(b=false/\ ∀e∈ev,e.kind=0->e.id≠v)):=by
 have S:=Si ok
 have fE:=hE.fl
 refine ac (n:=21) (rs:=[.cell 6 2,.cell 7 4]) rfl Tryz.e24 rfl rfl rfl (lbt rfl) ?_
 simp only [BS,Nat.reduceLT]
 refine ae (bE (by intro x e;cases e)) S ?_;clear S;intro h b5 S n_b5;simp only [ag]at S
 simp only [BS,Tryz.FFtr224]
 refine ae aw S ?_;clear S;intro h b6 S n_b6
 simp only [BS,Tryz.FFtr224]
 refine ae aw S ?_;clear S;intro h b7 S n_b7
 simp only [BS,LB,Nat.reduceLT,Nat.reduceEqDiff]
 refine step_ret (q9 S.ok fE) ?_
 rintro r h ⟨g,b1,b2,b3,rfl,n1,n2,n3,y1,y2,y3⟩
 have k5:=(S.row (b:=b5) m2).lt S.ok
 have k6:=(S.row (b:=b6) m1).lt S.ok
 have k7:=(S.row (b:=b7) m0).lt S.ok
 have hEl:=fun {c} hc=>hE.lt ok (b:=c) hc
 have kn0:=S.fr.n
 have hE':=hE.gr (S.gr.trans g)
 replace S:=S.call g
 have it:=of1_it S.ok hE' hl y1 y2 y3
 simp only [BS]
 rename Hp=>hA
 have S1:=S
 replace S:=S.base
 refine g8 S (g:=107) (a:=#[]) (b:=#[ptrTo b1,ptrTo b2,ptrTo b3]) (by simp [bK,aa,ah]) rfl rfl ?_
 intro h2 db lb S' hdb hlb g2
 obtain⟨X,hX,S'⟩: ∃X:eo,X=_/\St (· ∈[b7,b6,b5]) hA h2 [(lb,.loop X),(db,.dfr),(b7,.row [.bool false] 1),(b6,.row [.int .i64 0] 1),(b5,.row [.int .i64 v] 1)] []:=⟨_,rfl,S'⟩
 have hJ:Yld ya lb (fun k h' F=>St (· ∈[b7,b6,b5]) hA h' [(lb,.loop X),(db,.dfr),(b7,.row [.bool false] 1),(b6,.row [.int .i64 0] 1),(b5,.row [.int .i64 v] 1)] []/\(∀p∈(eX ev ev.length).take k,p.2.id≠v)/\F=keys [(lb,.loop X),(db,.dfr),(b7,.row [.bool false] 1),(b6,.row [.int .i64 0] 1),(b5,.row [.int .i64 v] 1)] [])
  (fun o h'=>o=.ret (.bool false)/\ ∃(Y:eo) (e:Ev),e∈ev/\e.kind=0/\e.id=v/\Y.st=2/\Y.pending=some .ret/\St (· ∈[b7,b6,b5]) hA h' [(lb,.loop Y),(db,.dfr),(b7,.row [.bool true] 1),(b6,.row [.int .i64 e.lab] 1),(b5,.row [.int .i64 v] 1)] []) ((eX ev ev.length).map pairX):=by
  refine⟨?_,?_,?_,?_⟩
  . rintro i h F ⟨S,_,rfl⟩;exact⟨S.ok,fun b hb=>S.key_lt hb⟩
  . rintro i h F h' ⟨S,a,rfl⟩ gg;exact⟨S.call gg,a,rfl⟩
  . rintro h h' ⟨a,Y,e,e1,e2,e3,e4,e5,S⟩ gg;exact⟨a,Y,e,e1,e2,e3,e4,e5,S.call gg⟩
  . rintro i x hR F hx ⟨S,a,rfl⟩
    have hil:i<(eX ev ev.length).length:=by
     have:=(List.getElem?_eq_some_iff.1 hx).1
     simpa using this
    rw [yi,xW hil]at hx
    cases hx
    have pm:=popP_mem (yt hil)
    have tk:(eX ev ev.length).take (i+1)=(eX ev ev.length).take i++[(eX ev ev.length)[i]]:=xY hil
    generalize(eX ev ev.length)[i]=p at tk pm
    obtain⟨j,⟨kd,id,lab⟩⟩:=p
    simp only []at tk pm
    subst hX
    refine hI (S.get m0) (by rw [Tryz.e24];rfl) rfl ?_
    have S0:=S
    replace S:=S.base
    simp only [BS,Tryz.FFtr224,dH]
    refine ae aw S ?_;clear S;intro h b9 S n_b9
    simp only [BS,LB,Nat.reduceLT,Nat.reduceEqDiff]
    refine az (S.store (i:=0) rfl yD (by intro x e;cases e) rfl rfl (lbt rfl) ono) ?_
    clear S;rintro h ⟨S,_⟩
    simp only [LC,ag,lay,yd,ye,Nat.reduceAdd]at S
    simp only [BS]
    refine gp S (i:=1) rfl rfl rfl rfl rfl ?_
    clear S;intro h S
    simp only [LC]at S
    by_cases hv:id=v
    . have hv':(id:Int)=(v:Int):=by omega
      simp only [BS,LB,Nat.reduceLT,Nat.reduceEqDiff,Tryz.FFtr224,hv',S.ld (b:=b9) (o:=2) m0 rfl,S.ld (b:=b5) (o:=0) m5 rfl,S.ld (b:=b9) (o:=3) m0 rfl]
      refine az (aB S (i:=4) rfl Tryz.s2 bw (yc (lbt rfl)) ono) ?_
      clear S;rintro h ⟨S,_⟩
      simp only [LC]at S
      simp only [BS,LB,Nat.reduceLT,Nat.reduceEqDiff]
      refine az (aB S (i:=3) rfl Tryz.s4 mU (yc (lbt rfl)) ono) ?_
      clear S;rintro h ⟨S,_⟩
      simp only [LC]at S
      simp only [BS]
      refine round_ret S (i:=1) rfl ?_
      clear S;intro h S
      simp only [LC]at S
      exact .inr (.inl ⟨rfl,⟨rfl,_,_,pm.1,pm.2,hv,rfl,rfl,S0.rebase S.drop1⟩,S.ok⟩)
    . have hv': ¬(id:Int)=(v:Int):=by omega
      simp only [BS,LB,Nat.reduceLT,Nat.reduceEqDiff,Tryz.FFtr224,hv',S.ld (b:=b9) (o:=2) m0 rfl,S.ld (b:=b5) (o:=0) m5 rfl]
      refine dY S (i:=1) rfl ?_
      clear S;intro h S
      simp only [LC]at S
      refine .inl ⟨rfl,_,⟨S0.rebase S.drop1,?_,rfl⟩,S.fr,S.drop1.key_new⟩
      intro p hp
      rw [tk]at hp
      rcases List.mem_append.1 hp with hp|hp
      . exact a p hp
      . rw [List.mem_singleton.1 hp];exact hv
 have hne: ∀(b:Nat),b∈keys [(lb,Ob.loop X),(db,.dfr),(b7,.row [.bool false] 1),(b6,.row [.int .i64 0] 1),(b5,.row [.int .i64 v] 1)] []-> ¬(b<hA.n/\(b=b1\/b=b2\/b=b3\/av vE b)):=fun b hb h=>by
  rcases S'.key_own hb with h1|h1
  . omega
  . simp only [List.mem_cons,List.not_mem_nil,or_false]at h1
    rcases h.2 with e|e|e|e
    . omega
    . omega
    . omega
    . have:=hEl e
      omega
 refine fg (it lb _ _ (fun v h hz=>by cases hz.1) hJ h2 _ ?_ ⟨S',by simp,rfl⟩) fun o rc h' y=>?_
 . exact⟨S'.ok,S'.fr.n,fun b hb hd=>g2.get b hb,hne,fun b hb=>S'.key_lt hb⟩
 . obtain⟨_,⟨u,F,rfl,T,ha,rfl⟩|⟨u,rfl,hz,Y,e,he,hk,hi,st,pe,T⟩|⟨w,rfl,hz,_⟩⟩:=y
   . rw [yn,yv]at ha
     subst hX
     refine⟨_,T.get m0,Nat.zero_ne_one,?_⟩
     replace T:=T.dead
     show Run _ _ _ _ _ _ _ _
     simp only [BS,LB,Nat.reduceLT,Nat.reduceEqDiff]
     refine az (aB T (i:=2) rfl Tryz.s2 bw (yc (lbt rfl)) ono) ?_
     clear T;rintro h3 ⟨T,_⟩
     simp only [yq,yr]at T
     simp only [BS,LB,Nat.reduceLT,Nat.reduceEqDiff]
     refine az (aB T (i:=1) rfl Tryz.s4 mU (yc (lbt rfl)) ono) ?_
     clear T;rintro h4 ⟨T,_⟩
     simp only [yq,yr]at T
     simp only [BS]
     refine eJ (iD [db] _ (L:=[(b7,_),(b6,_),(b5,_)]) T.base fun h5 S4=>?_)
     refine⟨rfl,(cF (by decide) (by simp only [aK,ah,Nat.reduceEqDiff,reduceIte];exact ii Tryz.a2 (S4.ld (b:=b6) (o:=0) m1 rfl))).2 ((cF (by decide) (by simp only [aK,ah,Nat.reduceEqDiff,reduceIte];exact ii Tryz.a4 (S4.ld (b:=b7) (o:=0) m0 rfl))).2 (dr.2 ?_))⟩
     refine⟨((S1.rebase T).rebase S4).gr,0,false,rfl,.inr ⟨rfl,fun e he hk=>?_⟩⟩
     intro hi
     obtain⟨i,hlt,ei⟩:=yC he
     have pa:popA ev i=some (i,e):=by
      unfold popA;rw [xW hlt,ei];simp [hk]
     have hm:(i,e)∈eX ev ev.length:=yB (popP_at pa _ hlt)
     exact ha (i,e) hm hi
   . refine⟨Y,T.get m0,by rw [st];decide,?_⟩
     rw [pe]
     replace T:=T.dead
     show Run _ _ _ _ _ _ _ _
     simp only [BS]
     refine eJ (iD [db] _ (L:=[(b7,_),(b6,_),(b5,_)]) T.base fun h5 S4=>?_)
     refine⟨rfl,(cF (by decide) (by simp only [aK,ah,Nat.reduceEqDiff,reduceIte];exact ii Tryz.a2 (S4.ld (b:=b6) (o:=0) m1 rfl))).2 ((cF (by decide) (by simp only [aK,ah,Nat.reduceEqDiff,reduceIte];exact ii Tryz.a4 (S4.ld (b:=b7) (o:=0) m0 rfl))).2 (dr.2 ?_))⟩
     exact⟨((S1.rebase T).rebase S4).gr,e.lab,true,rfl,.inl ⟨rfl,e,he,hk,hi,rfl⟩⟩
   . cases hz
open Tryz in
def Tryz.FFb146:=aj a1<|aj s1<|aj z1<|aj n1<|aj u2<|aj a2<|aj s2<|aj z2<|aj i2<|aj u3<|aj a3<|aj s3<|aj z3<|aj i3<|aj u4<|aj a4<|aj s4<|aj z4<|aj n4<|aj u5<|aj a5<|aj s5<|aj z5<|aj i5<|aj u6<|aj a6<|aj s6<|aj z6<|aj i6<|aj a7<|aj s7<|aj z7<|aj i7<|aj n7<|aj p7<|aj ff7<|aj d7<|aj a8<|aj s8<|aj z8<|aj i8<|aj n8<|aj p8<|aj ff8<|aj d8<|aj u9<|aj a9<|aj s9<|aj z9<|aj n9<|aj u10<|aj a10<|aj s10<|aj z10<|aj n10<|aj u11<|aj a11<|aj s11<|aj z11<|aj n11<|aj u12<|aj a12<|aj s12<|aj z12<|aj i12<|aj a13<|aj s13<|aj z13<|aj i13<|aj n13<|aj p13<|aj ff13<|aj d13<|aj a14<|aj s14<|aj z14<|aj i14<|aj n14<|aj p14<|aj ff14<|aj d14<|aj u15<|aj a15<|aj s15<|aj z15<|aj q15<|aj i15<|aj n15<|aj u16<|aj a16<|aj s16<|aj z16<|aj q16<|aj i16<|aj n16<|aj u17<|aj a17<|aj s17<|aj z17<|aj q17<|aj i17<|aj n17<|aj a18<|aj s18<|aj z18<|aj i18<|aj n18<|aj p18<|aj ff18<|aj d18<|aj a19<|aj s19<|aj z19<|aj i19<|aj n19<|aj p19<|aj ff19<|aj d19<|aj a20<|aj s20<|aj z20<|aj q20<|aj n20<|aj u22<|aj a22<|aj s22<|aj z22<|aj q22<|aj n22<|aj a24<|aj s24<|aj z24<|aj i24<|aj n24<|aj p24<|aj ff24<|aj d24<|aj u25<|aj a25<|aj s25<|aj z25<|aj q25<|aj n25<|aj a27<|aj s27<|aj z27<|aj i27<|aj n27<|aj p27<|aj ff27<|aj d27<|aj u28<|aj a28<|aj s28<|aj z28<|aj q28<|aj n28<|aj a30<|aj s30<|aj z30<|aj i30<|aj n30<|aj p30<|aj ff30<|aj d30<|aj u32<|aj a32<|aj s32<|aj z32<|aj q32<|aj i32<|aj n32<|aj a34<|aj s34<|aj z34<|aj q34<|aj n34<|aj u38<|aj a38<|aj s38<|aj z38<|aj q38<|aj i38<|aj n38<|aj u40<|aj a40<|aj s40<|aj z40<|aj q40<|aj n40<|aj u44<|aj a44<|aj s44<|aj z44<|aj i44<|aj a46<|aj s46<|aj z46<|aj i46<|aj n46<|aj p46<|aj ff46<|aj d46<|aj u47<|aj a47<|aj s47<|aj z47<|aj q47<|aj n47<|aj a57<|aj s57<|aj z57<|aj i57<|aj n57<|aj p57<|aj ff57<|aj d57<|aj a59<|aj s59<|aj z59<|aj i59<|aj n59<|aj p59<|aj ff59<|aj d59<|aj u71<|aj a71<|aj s71<|aj z71<|aj q71<|aj n71<|aj a96<|aj s96<|aj z96<|aj i96<|aj n96<|aj p96<|aj ff96<|aj d96<|aj u146<|aj a146<|aj s146<|aj z146<|aj q146<|aj n146<|aj a148<|aj s148<|aj z148<|aj i148<|aj n148<|aj p148<|aj ff148<|aj d148<|aj u197<|aj a197<|aj s197<|aj z197<|aj i197<|aj u263<|aj a263<|aj s263<|aj z263<|aj i263<|aj a274<|aj s274<|aj z274<|aj i274<|aj n274<|aj p274<|aj ff274<|aj d274<|aj u275<|aj a275<|aj s275<|aj z275<|aj n275<|aj a277<|aj s277<|aj z277<|aj i277<|aj n277<|aj u279<|aj a279<|aj s279<|aj z279<|aj i279<|aj a280<|aj s280<|aj z280<|aj n280<|aj u281<|aj a281<|aj s281<|aj z281<|aj q281<|aj i281<|aj n281<|aj u282<|aj a282<|aj s282<|aj z282<|aj i282<|aj u283<|aj a283<|aj s283<|aj z283<|aj i283<|aj a285<|aj s285<|aj z285<|aj i285<|aj n285<|aj p285<|aj ff285<|d285
theorem rW {h0:Hp} (ok:h0.t.Sized h0.n) {vB vM vN:Value} {w0 f t a:Int} {B ms:List Int} (hB:SlW h0 .u8 vB B) (hM:SlW h0 .u8 vM ms) (hMr: ∀x∈ms,0<=x/\x<=255) (hml:ms.length<=9223372036854775807) (fN:Fl vN):
 bC ya 6 [.agg ⟨[vB,vM,.int .i64 w0,.int .i64 f,.int .i64 t,.int .i64 a,vN]⟩] h0 (.bool true):=by
 have S:=Si ok
 have fB:=hB.sl.fl
 have fM:=hM.sl.fl
 refine ac (n:=119) (rs:=[.tmp 2]) rfl Tryz.e6 rfl rfl rfl (lbt rfl) ?_
 simp only [BS,Nat.reduceLT]
 refine ae (bE (by intro x e;cases e)) S ?_;clear S;intro h b1 S n_b1;simp only [ag]at S
 simp only [BS,LB]
 refine ar (sX S.ok) ?_
 intro h g
 replace S:=S.call g;clear g
 simp only [BS,LB,Nat.reduceLT,Nat.reduceEqDiff,Tryz.FFb146,yy,yo,yz,S.lds (b:=b1) (o:=0) (n:=7) m0 (lbt rfl)]
 refine step_ret (qT S.ok (hB.grE S.gr) fM fN) ?_;intro v h ⟨g,γ,vx,vy,va,er,hγ,ga,_⟩;replace S:=S.call g;clear g
 subst er
 have fx:=ga.X.fl
 have fy:=ga.Y.fl
 have fa:=ga.A.fl
 have R1:=S.row (b:=b1) m0
 have g0:=S.gr
 have okA:=S.ok
 clear S
 have S:=Si okA
 simp only [BS,Tryz.FFb146,gH]
 refine ae aw S ?_;clear S;intro h b3 S n_b3
 simp only [BS,LB,Nat.reduceLT,Nat.reduceEqDiff]
 refine az (S.store (i:=0) rfl Tryz.s30 (by intro x e;cases e) rfl (by simp only [ag,yl,ym,fx.2.1,fy.2.1,fa.2.1,xZ];rfl) (lbt rfl) ono) ?_
 clear S;rintro h ⟨S,mo⟩;clear mo
 simp only [LC,ag,lay,yd,ye,Nat.reduceAdd]at S
 have R3:=S.row (b:=b3) m0
 replace R1:=R1.gr S.gr
 replace ga:=ga.gr S.gr
 replace g0:=g0.trans S.gr
 have okA:=S.ok
 clear S
 have S:=Si okA
 have l3:h.load b3 0 4=some [.int .i64 γ.nodes,vx,vy,va]:=R3.load (yb 4)
 simp only [BS,LB,Nat.reduceLT,Nat.reduceEqDiff,Tryz.FFb146,l3]
 refine step_ret (te S.ok hγ (ga.gr S.gr)) ?_
 rintro v h ⟨p,rfl,g,hp⟩
 obtain⟨bp,rfl⟩: ∃b,p=ptrTo b:=by obtain⟨b,_,_,_,_,_,e,_⟩:=hp.ex;exact⟨b,e⟩
 replace S:=S.call g;clear g
 replace R1:=R1.gr S.gr
 replace R3:=R3.gr S.gr
 replace g0:=g0.trans S.gr
 have okA:=S.ok
 clear S l3
 have S:=Si okA
 rename Hp=>hX
 have l1:hX.load b1 0 7=some [vB,vM,.int .i64 w0,.int .i64 f,.int .i64 t,.int .i64 a,vN]:=R1.load (yb 7)
 have l30:=R3.load1 (o:=0) rfl
 have n1:=hγ.n1
 have n2:=hγ.n2
 simp only [BS,LB,Nat.reduceLT,Nat.reduceEqDiff,Tryz.FFb146,l1,l30]
 refine step_ret (qP S.ok fB fM fN n1 (by omega)) ?_
 rintro r h ⟨g,s,u,a',hs,hu,rfl⟩
 replace S:=S.call g;clear g
 simp only [BS,Tryz.FFb146]
 refine ae aw S ?_;clear S;intro h b6 S n_b6
 simp only [BS,LB,Nat.reduceLT,Nat.reduceEqDiff]
 refine az (S.store (i:=0) rfl Tryz.s24 (by intro x e;cases e) rfl rfl (lbt rfl) ono) ?_
 clear S;rintro h ⟨S,mo⟩;clear mo
 simp only [LC,ag,lay,yd,ye,Nat.reduceAdd]at S
 have eT:=fun {s:Nat} (hs:s<γ.nodes) (v:Nat)=>exTo okA hγ hp hs v
 have eF:=fun {s:Nat} (hs:s<γ.nodes) (v:Nat)=>exFrom okA hγ hp hs v
 have R6:=S.row (b:=b6) m0
 replace hp:=hp.gr S.gr
 have l1':=S.gr.load l1
 have l30':=S.gr.load l30
 replace g0:=g0.trans S.gr
 have okQ:=S.ok
 clear S
 have S:=Si okQ
 rename Hp=>hQ
 have z1:=bg okQ l1'
 have z3:=bg okQ l30'
 have z6:=R6.lt okQ
 have l6:hQ.load b6 0 4=some [.int .i64 w0,.int .i64 s,.int .i64 u,.int .i64 a']:=R6.load (yb 4)
 simp only [BS]
 refine aC (mL (ord:=[12,0,1,2,3,4,5,6,7,8,9,10,11,13,14]) rfl rfl (by simp only [fh,reix,fj,List.getElem?_cons_zero,List.getElem?_cons_succ,List.map_toArray,List.map_cons,List.map_nil,Nat.reduceBEq,cond_true,cond_false];exact rfl)) (q:=1) (ps:=[(0,9),(7,8),(6,8),(0,7),(0,6)]) (by kernel_rfl) ?_
 simp only [BS,LB,cls,Nat.reducePow,Nat.reduceDiv,Nat.reduceMod,Nat.reduceLeDiff,Tryz.FFb146]
 refine dt aw S ?_;clear S;intro h b7 S n_b7 e_b7
 have g7:=S.gr
 replace z1:=xX z1 g7.n
 replace z3:=xX z3 g7.n
 replace z6:=xX z6 g7.n
 have z7:=(S.row (b:=b7) m0).lt S.ok
 have k6:=S.fr.n
 simp only [BS,LB,cls,Nat.reduceLT,Nat.reduceEqDiff,Nat.reduceAdd,Nat.reducePow,Nat.reduceDiv,Nat.reduceMod,Nat.reduceLeDiff,Tryz.FFb146,g7.load l1',g7.load l30']
 refine dg (sS S.ok fB (hM.grE (g0.trans g7)) hMr hml fN n1 (by omega)) ?_
 rintro vl hA ⟨gA,l,sl,hl,hl1,hl6,_⟩
 have a1:=ay gA z1
 have a3:=ay gA z3
 have a6:=ay gA z6
 have a7:=ay gA z7
 replace S:=S.call gA
 simp only [BS,LB,cls,Nat.reduceLT,Nat.reduceEqDiff,Nat.reduceAdd,Nat.reducePow,Nat.reduceDiv,Nat.reduceMod,Nat.reduceLeDiff]
 refine dg (qd S.ok hγ (hp.gr S.gr) sl (by omega)) ?_
 rintro pt hC ⟨gC,hT⟩
 replace hT:=(hT.resolve_left (fun h=>h.1 hl)).2
 obtain⟨bt,et⟩: ∃b,pt=ptrTo b:=by obtain⟨b,_,_,_,e,_⟩:=hT.ex;exact⟨b,e⟩
 subst et
 have c1:=ay gC (xX z1 gA.n)
 have c3:=ay gC (xX z3 gA.n)
 have c6:=ay gC (xX z6 gA.n)
 have c7:=ay gC (xX z7 gA.n)
 replace S:=S.call gC
 simp only [BS,LB,cls,Nat.reduceLT,Nat.reduceEqDiff,Nat.reduceAdd,Nat.reducePow,Nat.reduceDiv,Nat.reduceMod,Nat.reduceLeDiff,Tryz.FFb146,S.gr.load l6]
 have hW: ∀{n:Nat},1<=n->gw γ.nodes γ.nodes n (s:Int) (u:Int)=0:=fun {n} hn=>by
  unfold gw
  rw [if_neg (by omega),if_neg (by omega),if_pos ⟨by omega,rfl⟩]
 refine dg (oG S.ok hγ (hp.gr S.gr) (.inl ⟨_,hT,fun i _=>eS _ _ _,fun i _=>eS _ _ _⟩) (by omega) bw (f:=s) (t:=u) (a:=a')) ?_
 rintro rv hD ⟨gD,cc,d,vA,vB',vE,rfl,post⟩
 have d1:=ay gD (xX z1 (gA.trans gC).n)
 have d3:=ay gD (xX z3 (gA.trans gC).n)
 have d6:=ay gD (xX z6 (gA.trans gC).n)
 have d7:=ay gD (xX z7 (gA.trans gC).n)
 replace S:=S.call gD
 have far:=dX
 have eD:IsD γ.arcs s u (dOf γ.arcs s u):=by have:=eF hs u;rwa [hZ]at this
 obtain⟨y1,y2,y3,k1⟩:Fl vA/\Fl vB'/\Fl vE/\((cc=0/\d=(dOf γ.arcs s u:Nat)/\dOf γ.arcs s u<FAR)\/(cc=20/\d=0/\ ¬dOf γ.arcs s u<FAR)):=by
  rcases post with⟨p0,p1,p2,p3,p4,p5⟩|⟨_,hne,s',w',fd,es,ew,hs',hw',_,he,sE,⟨hd,q1,q2,q3,q4⟩|⟨hd,q1,q2,q3,q4⟩⟩
  . rw [hW hl1]at p0 p1
    have hse:s=u:=by rcases p0 with h|h<;>omega
    rw [p3,p4,p5]
    have:dOf γ.arcs s u=0:=by subst hse;exact eD.self
    exact⟨aW,aW,aW,.inl ⟨p1,by rw [p2,this];rfl,by omega⟩⟩
  . have e1:s'=s:=by omega
    have e2:w'=u:=by omega
    subst e1 e2
    have hx:=(mI eT eF hl hγ hs hu (fun e=>hne (by rw [e])) he).1
    have:=eD.uniq hx
    rw [q3,q4]
    exact⟨aW,aW,sE.fl,.inr ⟨q1,q2,by omega⟩⟩
  . have e1:s'=s:=by omega
    have e2:w'=u:=by omega
    subst e1 e2
    have hx:=(mI eT eF hl hγ hs hu (fun e=>hne (by rw [e])) he).1
    have:=eD.uniq hx
    exact⟨q3.fl,q4.fl,sE.fl,.inl ⟨q1,by rw [q2,this],by omega⟩⟩
 clear post
 simp only [BS,LB,cls,Nat.reduceLT,Nat.reduceEqDiff,Nat.reduceAdd,Nat.reducePow,Nat.reduceDiv,Nat.reduceMod,Nat.reduceLeDiff,ansV]
 refine c5 (S.store (i:=0) rfl Tryz.s46 (by intro x e;cases e) rfl (by simp only [ag,yl,ym,y1.2.1,y2.2.1,xZ];rfl) (lbt rfl) ono) ?_
 clear S;rintro h ⟨S,_⟩
 simp only [LC,ag,lay,yd,ye,Nat.reduceAdd]at S
 simp only [BS,LB,cls,Nat.reduceLT,Nat.reduceEqDiff,Nat.reduceAdd,Nat.reducePow,Nat.reduceDiv,Nat.reduceMod,Nat.reduceLeDiff,Tryz.FFb146]
 refine⟨by simp only [aX,bu,aS,bz,aT,ne_eq,not_false_eq_true,bF,bJ,bA,aY,bK,cD,aK,Nat.reduceLT,Nat.reduceEqDiff,reduceIte,xZ,ah,jQ,<-e_b7,aP a1,aN a1,aP a3,aN a3,aP a6,aN a6,aP a7,aN a7,aP c1,aN c1,aP c3,aN c3,aP c6,aN c6,aP c7,aN c7,aP d1,aN d1,aP d3,aN d3,aP d6,aN d6,aP d7,aN d7],?_⟩
 have R7:=S.row (b:=b7) m0
 have gR:=S.gr
 replace hp:=hp.gr gR
 have l6':=gR.load l6
 have l62:=(R6.gr gR).load1 (o:=2) rfl
 have l61:=(R6.gr gR).load1 (o:=1) rfl
 replace g0:=g0.trans gR
 have okR:=S.ok
 clear S a1 a3 a6 a7 c1 c3 c6 c7 d1 d3 d6 d7 z1 z3 z6 z7 hT
 rename Hp=>hR
 have S:=Si okR
 have hl2:eY γ.nodes [(u:Int)]:=⟨by show 1<=16;decide,fun i hi=>by
  have:i=0:=by simp at hi;exact hi
  subst this
  exact⟨Int.natCast_nonneg u,Int.ofNat_lt.2 hu,by simp⟩⟩
 simp only [BS,LB,Nat.reduceLT,Nat.reduceEqDiff,l62]
 refine ae (bL (by exact Tryz.u40) (by exact Tryz.e3E) (by decide) (by rfl)) S ?_;clear S;intro h bs S n_bs;simp only [LC,aU,bI,ag,Nat.reduceMul,Nat.reduceAdd,Nat.zero_mul,Nat.zero_add,yp,Nat.one_mul]at S
 simp only [BS,LB,Nat.reduceLT,Nat.reduceEqDiff]
 have sl2:aA h 1 (encI .i64) (.slice (some ⟨bs,0,none⟩) 1 1) [(u:Int)]:=.inr ⟨bs,0,none,1,rfl,yb _,S.lds (b:=bs) (o:=0) (n:=1*1) m0 (lbt rfl)⟩
 refine step_ret (qd S.ok hγ (hp.gr S.gr) sl2 (by show 1<1000;decide)) ?_
 rintro pt2 h ⟨g,hT2⟩
 replace hT2:=(hT2.resolve_left (fun h=>h.1 hl2)).2
 obtain⟨bo,et⟩: ∃b,pt2=ptrTo b:=by obtain⟨b,_,_,_,e,_⟩:=hT2.ex;exact⟨b,e⟩
 subst et
 replace S:=S.call g;clear g
 simp only [BS,LB,Nat.reduceLT,Nat.reduceEqDiff,Tryz.FFb146,S.gr.load l6']
 refine step_ret (oG S.ok hγ (hp.gr S.gr) (.inl ⟨_,hT2,fun i _=>eS _ _ _,fun i _=>eS _ _ _⟩) (by show 1<=16;decide) bw (f:=s) (t:=u) (a:=a')) ?_
 rintro rv h ⟨g,c2,d2,vA2,vB2,vE2,rfl,post⟩
 replace hT2:=hT2.gr g
 replace S:=S.call g;clear g
 obtain⟨x1,x2,x3,k2⟩:Fl vA2/\Fl vB2/\Fl vE2/\((c2=0/\d2=(dOf γ.arcs s u:Nat)/\dOf γ.arcs s u<FAR/\ ∃ev,aA h 4 dH vE2 ev/\ev.length<=3000/\jx γ.arcs (fun v x=>v<γ.nodes/\x+dOf (seen γ.arcs Arc.t Arc.s) u v=dOf γ.arcs s u) ev)\/(c2=20/\d2=0/\ ¬dOf γ.arcs s u<FAR/\dOf (seen γ.arcs Arc.t Arc.s) u s=FAR/\aA h 4 dH vE2 [])):=by
  rcases post with⟨p0,p1,p2,p3,p4,p5⟩|⟨_,hne,s',w',fd,es,ew,hs',hw',_,he,sE,⟨hd,q1,q2,q3,q4⟩|⟨hd,q1,q2,q3,q4⟩⟩
  . rw [show gw γ.nodes γ.nodes [(u:Int)].length (s:Int) (u:Int)=0 from hW (yb 1)]at p0 p1
    have hse:s=u:=by rcases p0 with h|h<;>omega
    rw [p3,p4,p5]
    have:dOf γ.arcs s u=0:=by subst hse;exact eD.self
    exact⟨aW,aW,aW,.inl ⟨p1,by rw [p2,this];rfl,by omega,[],.inl ⟨rfl,rfl⟩,yh _,fun i hi=>by cases hi⟩⟩
  . have e1:s'=s:=by omega
    have e2:w'=u:=by omega
    subst e1 e2
    obtain⟨hx,_,hy⟩:=run_few eT eF hγ hs hu (fun e=>hne (by rw [e])) (uT _ _ _ _ _ _) he
    have:=eD.uniq hx
    obtain⟨h1,h2⟩:=hy (by omega)
    rw [h2]at sE
    rw [q3,q4]
    exact⟨aW,aW,sE.fl,.inr ⟨q1,q2,by omega,h1,sE⟩⟩
  . have e1:s'=s:=by omega
    have e2:w'=u:=by omega
    subst e1 e2
    obtain⟨hx,hy,_⟩:=run_few eT eF hγ hs hu (fun e=>hne (by rw [e])) (uT _ _ _ _ _ _) he
    have ed:=eD.uniq hx
    have hfl:=sY hγ hs (.inr ⟨fun e=>hne (by rw [e]),he⟩)
    exact⟨q3.fl,q4.fl,sE.fl,.inl ⟨q1,by rw [q2,ed],by omega,fd.ev,sE,hfl.2,by rw [ed];exact hy hd⟩⟩
 clear post
 simp only [BS,LB,Nat.reduceLT,Nat.reduceEqDiff,Tryz.FFb146,ansV]
 have gV:=S.gr
 have okV:=S.ok
 clear S
 rename Hp=>hV
 have S:=Si okV
 refine ae aw S ?_;clear S;intro h b10 S n_b10
 simp only [BS,LB,Nat.reduceLT,Nat.reduceEqDiff]
 refine az (S.store (i:=0) rfl Tryz.s46 (by intro x e;cases e) rfl (by simp only [ag,yl,ym,x1.2.1,x2.2.1,xZ];rfl) (lbt rfl) ono) ?_
 clear S;rintro h ⟨S,_⟩
 simp only [LC,ag,lay,yd,ye,Nat.reduceAdd]at S
 have l70:=(R7.gr (gV.trans S.gr)).load1 (o:=0) rfl
 have l71:=(R7.gr (gV.trans S.gr)).load1 (o:=1) rfl
 have lD: ∀i,i< [(u:Int)].length->(toR γ [(u:Int)] i).length=γ.nodes:=fun i _=>eS _ _ _
 have tl: ∀v,v<γ.nodes->eB γ.nodes [(u:Int)].length (toR γ [(u:Int)]) 0 v=(dOf (seen γ.arcs Arc.t Arc.s) u v:Nat):=fun v hv=>iF (γ:=γ) (l:=[(u:Int)]) (i:=0) Nat.zero_lt_one hv
 rcases k2 with⟨e1,e2,hf,ev,sE,hev,hn⟩|⟨e1,e2,hf,hp0,sE⟩
 . obtain⟨f1,f2⟩:cc=0/\d=(dOf γ.arcs s u:Nat):=by
    rcases k1 with⟨f1,f2,_⟩|⟨_,_,f⟩
    . exact⟨f1,f2⟩
    . exact absurd hf f
   subst e1 e2 f1 f2
   simp only [BS,LB,Nat.reduceLT,Nat.reduceEqDiff,Tryz.FFb146,l70,l71,S.ld (b:=b10) (o:=0) m0 rfl,S.ld (b:=b10) (o:=1) m0 rfl]
   refine step_ret (o7 S.ok (sE.gr S.gr) hev) ?_
   rintro vP h ⟨g,sP,_⟩
   have lp:(cZ ev).length<=3000:=Nat.le_trans (yu _ _) hev
   have R10:=(S.row (b:=b10) m0).gr g
   replace S:=S.call g
   have gW:=S.gr
   have okW:=S.ok
   clear S
   rename Hp=>hW'
   have S:=Si okW
   have l100:=R10.load1 (o:=0) rfl
   have l101:=R10.load1 (o:=1) rfl
   simp only [BS,LB,Nat.reduceLT,Nat.reduceEqDiff]
   refine aZ (fun(i:Nat) ρ h'=>i<=(cZ ev).length/\Gr hW' h'/\ρ 9=ptrTo bo/\ρ 10=ptrTo b10/\ρ 11=vE2/\ρ 12=vP/\ρ 13=.int .i64 i) (fun i=>(cZ ev).length-i) ?_ 0 _ _ ?_
   . clear S
     intro i ih ρ h ⟨hi,gi,r9,r10,r11,r12,r13⟩
     have wi:au .i64 ((i:Int)+1)=((i+1:Nat):Int):=by rw [wrap64]<;>omega
     have S:=Si gi.ok
     have m100:=gi.load l100
     have m101:=gi.load l101
     by_cases hlt:i<(cZ ev).length
     . obtain⟨c,o,x0,y0⟩:=(sP.gr gi).ix (kd:=.i64) fH hlt
       have hm:(cZ ev)[i]∈cZ ev:=yt hlt
       obtain⟨v,ev'⟩: ∃v,(cZ ev)[i]=v:=⟨_,rfl⟩
       rw [ev']at y0 hm
       replace y0:h.load c o 1=some [.int .i64 (v:Nat)]:=y0
       simp only [BS,LB,Nat.reduceLT,Nat.reduceEqDiff,Tryz.FFb146,r10,r11,r12,r13,sP.lenq,aI,hlt,x0,y0,m100]
       refine step_ret (tJ S.ok (sE.gr (gW.trans gi)) hev (v:=v)) ?_
       rintro rl h ⟨g,x,b,rfl,hlab⟩
       obtain⟨e,he,hk,hid⟩: ∃e∈ev,e.kind=0/\e.id=v:=by
        obtain⟨e,he,h2⟩:=List.mem_filterMap.1 hm
        by_cases hk:e.kind=0
        . rw [if_pos hk]at h2;cases h2;exact⟨e,he,hk,rfl⟩
        . rw [if_neg hk]at h2;cases h2
       obtain⟨hb,e,he,hk,hid,hx⟩:=hlab.resolve_right (fun h=>h.2 e he hk hid)
       subst hb hid hx
       obtain⟨j,hj,ej⟩:=yC he
       have hnj:=hn j hj
       rw [ej]at hnj
       obtain⟨_,_,hv,hsum⟩:=hnj.resolve_left (fun h=>by omega)
       have S:=Si g.ok
       have ex:=tl _ hv
       have hle:=(eT hu e.id).le
       have ws:au .i64 ((e.lab:Int)+(dOf (seen γ.arcs Arc.t Arc.s) u e.id:Nat))=(dOf γ.arcs s u:Nat):=by rw [<-hsum,wrap64]<;>omega
       have z10:=bg S.ok (g.load m101)
       have zc:=bg S.ok (g.load y0)
       simp only [BS,LB,Nat.reduceLT,Nat.reduceEqDiff]
       refine aC (aH rfl) (q:=0) (ps:=[(9,12)]) (by kernel_rfl) ?_
       simp only [BS,LB,cls,Nat.reduceLT,Nat.reduceEqDiff,Nat.reduceAdd,Nat.reducePow,Nat.reduceDiv,Nat.reduceMod,Nat.reduceLeDiff,Tryz.FFb146,r9,r12,r13,x0,g.load y0]
       refine cE (nG S.ok (hT2.gr ((gW.trans gi).trans g)) lD (i:=0) (v:=e.id)) ?_
       intro h1 g1
       have v10:=ay g1 z10
       have vc:=ay g1 zc
       rw [ex]
       simp only [BS,LB,cls,Nat.reduceLT,Nat.reduceEqDiff,Nat.reduceAdd,Nat.reducePow,Nat.reduceDiv,Nat.reduceMod,Nat.reduceLeDiff,Tryz.FFb146,r10,r13,g1.load (g.load m101),ws]
       refine⟨by simp only [aX,bu,aS,bz,aT,ne_eq,not_false_eq_true,bF,bJ,bA,aY,bK,cD,aK,Nat.reduceLT,Nat.reduceEqDiff,reduceIte,xZ,r9,r10,r11,r12,r13,ah,aP v10,aN v10,aP vc,aN vc],?_⟩
       simp only [wi]
       exact ih (i+1) _ _ (by omega) ⟨by omega,(gi.trans g).trans g1,by simp [aa,r9,ah],by simp [aa,r10,ah],by simp [aa,r11],by simp [aa,r12],by simp [aa]⟩
     . simp only [BS,LB,ab,Nat.reduceLT,Nat.reduceEqDiff,Tryz.FFb146,r10,r12,r13,sP.lenq,aI,hlt,m100]
       exact((g0.trans gV).trans gW).trans gi
   . exact⟨yh _,Gr.refl okW,by simp [aa,ah],by simp [aa,ah],by simp [aa],by simp [aa],by simp [aa]⟩
 . obtain⟨f1,f2⟩:cc=20/\d=0:=by
    rcases k1 with⟨_,_,f⟩|⟨f1,f2,_⟩
    . exact absurd f hf
    . exact⟨f1,f2⟩
   subst e1 e2 f1 f2
   simp only [BS,LB,Nat.reduceLT,Nat.reduceEqDiff,Tryz.FFb146,l70,l71,S.ld (b:=b10) (o:=0) m0 rfl,S.ld (b:=b10) (o:=1) m0 rfl]
   refine step_ret (o7 S.ok (sE.gr S.gr) (yh _)) ?_
   rintro vP h ⟨g,sP,_⟩
   have R10:=(S.row (b:=b10) m0).gr g
   replace S:=S.call g
   replace sP:aA h 1 bW vP []:=sP
   have n0:((([]:List Nat).length:Nat):Int)=0:=rfl
   have n20: ¬(20:Int)=0:=by decide
   have n00: ¬(0:Int)<0:=by decide
   have m61:=(gV.trans S.gr).load l61
   have ex:=tl s hs
   have hg:(72057594037927936:Int)<=(dOf (seen γ.arcs Arc.t Arc.s) u s:Nat):=by omega
   have l100:=R10.load1 (o:=0) rfl
   simp only [BS,LB,Nat.reduceLT,Nat.reduceEqDiff]
   rw [bS]
   simp only [BS,LB,Nat.reduceLT,Nat.reduceEqDiff,Int.cast_ofNat_Int,Tryz.FFb146,sP.lenq,n00,l100,n20,m61]
   refine ar (nG S.ok (hT2.gr S.gr) lD (i:=0) (v:=s)) ?_
   intro h1 g1
   rw [ex]
   replace S:=S.call g1
   simp only [BS,LB,ab,Nat.reduceLT,Nat.reduceEqDiff,Int.cast_ofNat_Int,Tryz.FFb146,sP.lenq,hg]
   exact(g0.trans gV).trans S.gr
end Go.Ab
end
section
namespace Go.Ab
open Go.ChangeShapes Go.WideShapes Go.RowKit
theorem rowAt_le{P:Program}{fits:TypeId->Bool}{d:Nat}{e:TypeId}{count off n:Nat}(h:rowAt P fits d e count off n=true):off<=count*P.cellsOf e:=by
 cases d with
 |zero=>cases h
 | succ d=>
   unfold rowAt at h
   simp only []at h
   split at h
   . cases h
   . rename_i hs
     have hpos:0<P.cellsOf e:=by omega
     have hdm:=Nat.div_add_mod off (P.cellsOf e)
     simp only [Bool.or_eq_true,Bool.and_eq_true,beq_iff_eq,decide_eq_true_eq]at h
     rcases h with⟨⟨h1,h2⟩,_⟩|⟨h1,_⟩
     . have:P.cellsOf e*(off/P.cellsOf e)<=P.cellsOf e*count:=Nat.mul_le_mul_left _ (by omega)
       rw [Nat.mul_comm count];omega
     . have:P.cellsOf e*(off/P.cellsOf e+1)<=P.cellsOf e*count:=Nat.mul_le_mul_left _ (by omega)
       have hlt:=Nat.mod_lt off hpos
       rw [Nat.mul_add,yp]at this
       rw [Nat.mul_comm count];omega
theorem liesAt_le{P:Program}{d:Nat}: ∀{e:TypeId} {count off:Nat} {u:TypeId} {n:Nat},liesAt P d e count off u n=true->off<=count*P.cellsOf e:=by
 induction d with
 |zero=>intro e count off u n h;cases h
 | succ d ih=>
   intro e count off u n h
   unfold liesAt at h
   rw [Bool.or_eq_true]at h
   rcases h with h|h
   . exact rowAt_le h
   . split at h
     . exact ih h
     . cases h
theorem has_W{P:Program}{W:World}{r:_root_.Go.Reach}{base:Nat}{a:Addr}{e:TypeId}{n:Nat}(h:W.has P r base a e n):a.spot=none/\a.block<W.heap.size/\ ∃l,(hpW W).load (a.block+16) a.off 0=some l:=by
 obtain⟨_,hsp,row,cells,hsh,hl⟩:=h
 have hle:=liesAt_le hl
 have hle2:a.off<=cells:=Nat.le_trans hle (Nat.div_mul_le_self _ _)
 unfold World.shape? at hsh
 split at hsh
 next cs el fz ho=>
  cases hsh
  have hlt:=(Array.getElem?_eq_some_iff.1 ho).1
  have hr:Row (hpW W) (a.block+16) (cs.toList.map (gQ W.heap.size)) 0:=⟨_,_,by rw [o5,ho];rfl,Tr.sized_ofList _,fun j=>Tr.get_ofList _ j⟩
  exact⟨hsp,hlt,_,hr.load (o:=a.off) (n:=0) (by simpa using hle2)⟩
 . cases hsh
section
variable{H:Type}{enc:TypeId×Value->H}{P:Program}
theorem jH{W:World}{base fuel:Nat}{s e:TypeId}{k:IntKind}{c:Value}{sp:Nat->Bool}{hd:Bool}{x:DataW H×List MemPlace}(hs:P.underlying s=some (.slice e))(he:P.underlying e=some (.int k))(hc:P.cellsOf e=1)
 (hok:Cell.okWide P W .any base s c) (h:DataW.trod enc P W 0 sp hd fuel s [c]=some x): ∃zs:List Int,SlW (hpW W) k (gQ W.heap.size c) zs/\(∀z∈zs,(Lit.int k z).wf=true)/\zs.length<=9223372036854775807:=by
 rcases Go.ChangeShapes.open_ints hs he hc h with⟨e1,_⟩|⟨a,len,cap,zs,e1,hb,hl,hm,hz,_,hcell,hwf⟩
 . cases e1
   exact⟨[],.inl ⟨rfl,rfl⟩,fun z hz=>(by cases hz),by simp⟩
 . cases e1
   unfold Cell.okWide at hok
   rw [hs]at hok
   simp only [Cell.ok,hs]at hok
   obtain⟨hle1,hmax,hhas⟩:=hok
   obtain⟨hsp,hlt,h0⟩:=has_W hhas
   have hlz:len<=zs.length:=by rw [hz];split<;>omega
   refine⟨zs.take len,.inr ⟨a.block+16,a.off,cap,?_,?_,?_⟩,fun z hz=>hwf z (List.mem_of_mem_take hz),by
    have:(cap:Int)<=9223372036854775807:=hmax
    rw [yf];omega⟩
   . rw [yf,yx hlz]
     simp only [gQ,if_pos hl,if_pos (And.intro hsp hlt)]
   . rw [yf,yx hlz];exact hl
   . rw [yf,yx hlz,yp]
     rw [load_join (f:=fun i=>.int k (zs.getD i 0)) h0 (fun i hi=>load_W hsp (hcell i (by omega)))]
     congr 1
     have e4: ∀l:List Int,l.flatMap (encI k)=l.map fun x=>.int k x:=fun l=>by
      rw [yA,List.map_eq_flatMap,yA];rfl
     rw [e4]
     refine List.ext_getElem? fun i=>?_
     rw [yi,yi,List.getElem?_take]
     by_cases hi:i<len
     . rw [if_pos hi,List.getElem?_range hi,xW (show i<zs.length by omega)]
       simp [yj,show i<zs.length by omega]
     . rw [if_neg hi,List.getElem?_eq_none (by simpa using hi)];rfl
theorem open_slV{W:World}{base:Nat}{s e:TypeId}{k:IntKind}{v:Value}{sp:Nat->Bool}{hd:Bool}{d:DataW H}{p:List MemPlace}(hs:P.underlying s=some (.slice e))(he:P.underlying e=some (.int k))(hc:P.cellsOf e=1)
 (hval:Value.okWide P W .any base s v) (h:DataW.Trod enc P W 0 sp hd s v d p): ∃zs:List Int,SlW (hpW W) k (absA W.heap.size v) zs/\(∀z∈zs,(Lit.int k z).wf=true)/\zs.length<=9223372036854775807:=by
 unfold Value.okWide at hval
 rw [hs]at hval
 obtain⟨fuel,h⟩:=h
 have hc0: ∀l:Array Value,v≠ .agg l:=by
  rintro l rfl
  simp only [Cell.okWide,hs,Cell.ok]at hval
 have hcs:v.cells.toList=[v]:=by cases v<;>first|rfl|exact absurd rfl (hc0 _)
 rw [hcs]at h
 have ha:absA W.heap.size v=gQ W.heap.size v:=by cases v<;>first|rfl|exact absurd rfl (hc0 _)
 rw [ha]
 exact jH hs he hc hval h
theorem open_sl2{W:World}{base:Nat}{t s e:TypeId}{k:IntKind}{f0 f1:Field}{v:Value}{sp:Nat->Bool}{hd:Bool}{d:DataW H}{p:List MemPlace}(ht:P.underlying t=some (.struct #[f0,f1]))(o0:f0.offset=0)(o1:f1.offset=1)(t0:f0.type=s)(t1:f1.type=s)
 (hs:P.underlying s=some (.slice e)) (he:P.underlying e=some (.int k)) (hc:P.cellsOf e=1) (hcs:P.cellsOf s=1) (hct:P.cellsOf t=2) (hts:P.cellTypes P.depth t=some [s,s])
 (hval:Value.okWide P W .any base t v) (h:DataW.Trod enc P W 0 sp hd t v d p):
 ∃(c0 c1:Value) (xs ys:List Int),v=.agg #[c0,c1]/\SlW (hpW W) k (gQ W.heap.size c0) xs/\SlW (hpW W) k (gQ W.heap.size c1) ys/\(∀z∈xs,(Lit.int k z).wf=true)/\ ∀z∈ys,(Lit.int k z).wf=true:=by
 unfold Value.okWide at hval
 rw [ht]at hval
 obtain⟨cs,rfl,hsz,ts,e1,_,hrow⟩:=hval
 rw [hts]at e1
 cases e1
 rw [hct]at hsz
 obtain⟨l⟩:=cs
 simp only [yk]at hsz
 obtain⟨c0,c1,rfl⟩:=len2 hsz
 obtain⟨fuel,h⟩:=h
 obtain⟨y0,y1,n,_,_,h1,h2⟩:=Go.ChangeShapes.trod_struct2 ht h
 rw [o0,t0,hcs]at h1
 rw [o1,t1,hcs]at h2
 obtain⟨u0,e0,k0⟩:=hrow 0 c0 rfl
 obtain⟨u1,e1,k1⟩:=hrow 1 c1 rfl
 cases e0
 cases e1
 obtain⟨xs,hx,wx,_⟩:=jH hs he hc k0 h1
 obtain⟨ys,hy,wy,_⟩:=jH hs he hc k1 h2
 exact⟨c0,c1,xs,ys,rfl,hx,hy,wx,wy⟩
end
end Go.Ab

end
section
namespace Go.Ab
open Go.ChangeShapes Go.WideShapes Go.RowKit
section
variable{H:Type}{enc:TypeId×Value->H}{P:Program}
theorem open_arr2{W:World}{base:Nat}{t e:TypeId}{k:IntKind}{v:Value}{sp:Nat->Bool}{hd:Bool}{d:DataW H}{p:List MemPlace}(ht:P.underlying t=some (.array 2 e))(he:P.underlying e=some (.int k))(hce:P.cellsOf e=1)(hct:P.cellsOf t=2)
 (hval:Value.okWide P W .any base t v) (h:DataW.Trod enc P W 0 sp hd t v d p): ∃x y:Int,v=.agg #[.int k x,.int k y]/\(Lit.int k x).wf=true/\(Lit.int k y).wf=true:=by
 unfold Value.okWide at hval
 rw [ht]at hval
 obtain⟨cs,rfl,hsz,_⟩:=hval
 rw [hct]at hsz
 obtain⟨l⟩:=cs
 simp only [yk]at hsz
 obtain⟨a,b,rfl⟩: ∃a b,l=[a,b]:=by
  match l,hsz with
  | [a,b],_=>exact⟨a,b,rfl⟩
 obtain⟨fuel,h⟩:=h
 obtain⟨xs,m,_,_,_,hlen,hf⟩:=DataW.trod_array ht h
 obtain⟨y0,y1,rfl⟩: ∃a b,xs=[a,b]:=by
  match xs,hlen with
  | [a,b],_=>exact⟨a,b,rfl⟩
 have q0:=hf 0 (by decide)
 have q1:=hf 1 (by decide)
 rw [hce]at q0 q1
 obtain⟨x,e0,_,w0⟩:=DataW.trod_int he q0
 obtain⟨y,e1,_,w1⟩:=DataW.trod_int he q1
 cases e0
 cases e1
 exact⟨x,y,rfl,w0,w1⟩
end
end Go.Ab

end
section
namespace Go.Ab
open Go.ChangeShapes Go.WideShapes Go.RowKit
section
variable{H:Type}{enc:TypeId×Value->H}{P:Program}
theorem kR{t e:TypeId}{k:IntKind}{n:Nat}{cs:List Value}{W:World}{sp:Nat->Bool}{hd:Bool}{fuel:Nat}{x:DataW H×List MemPlace}(ht:P.underlying t=some (.array n e))(he:P.underlying e=some (.int k))(hce:P.cellsOf e=1)(h:DataW.trod enc P W 0 sp hd fuel t cs=some x):
 ∀i,i<n-> ∃z:Int,cs[i]? =some (.int k z)/\(Lit.int k z).wf=true:=by
 obtain⟨xs,m,_,_,_,hlen,hf⟩:=DataW.trod_array ht h
 intro i hi
 have q:=hf i (by omega)
 rw [hce,yp]at q
 obtain⟨y,hy⟩: ∃y,xs[i]? =some y:=⟨_,xW (by omega)⟩
 rw [hy]at q
 obtain⟨z,e0,_,w0⟩:=DataW.trod_int he q
 refine⟨z,?_,w0⟩
 have:=congrArg (·[0]?) e0
 simpa using this
theorem len7{α:Type}{l:List α}(h:l.length=7): ∃a b c d e f g,l=[a,b,c,d,e,f,g]:=by
 match l,h with
 | [a,b,c,d,e,f,g],_=>exact⟨a,b,c,d,e,f,g,rfl⟩
theorem open_d13{W:World}{base:Nat}{t s0 a2 a3 s3 e e3:TypeId}{f0 f1 f2 f3:Field}{v:Value}{sp:Nat->Bool}{hd:Bool}{d:DataW H}{p:List MemPlace}(ht:P.underlying t=some (.struct #[f0,f1,f2,f3]))(o0:f0.offset=0)(o1:f1.offset=1)(o2:f2.offset=3)(o3:f3.offset=6)
 (t0:f0.type=s0) (t1:f1.type=a2) (t2:f2.type=a3) (t3:f3.type=s3) (h0:P.underlying s0=some (.slice e)) (h1:P.underlying a2=some (.array 2 e)) (h2:P.underlying a3=some (.array 3 e)) (h3:P.underlying s3=some (.slice e3))
 (g0:P.underlying e=some (.int .u8)) (g3:P.underlying e3=some (.int .i64)) (c0:P.cellsOf e=1) (c3:P.cellsOf e3=1) (d0:P.cellsOf s0=1) (d1:P.cellsOf a2=2) (d2:P.cellsOf a3=3) (d3:P.cellsOf s3=1) (hct:P.cellsOf t=7) (hts:P.cellTypes P.depth t=some [s0,e,e,e,e,e,s3])
 (hval:Value.okWide P W .any base t v) (h:DataW.Trod enc P W 0 sp hd t v d p):
 ∃ (a b:Value) (x y z1 z2 z3:Int) (B N:List Int),v=.agg #[a,.int .u8 x,.int .u8 y,.int .u8 z1,.int .u8 z2,.int .u8 z3,b]/\SlW (hpW W) .u8 (gQ W.heap.size a) B/\SlW (hpW W) .i64 (gQ W.heap.size b) N/\
   (∀z∈B,(Lit.int .u8 z).wf=true)/\(∀z∈N,(Lit.int .i64 z).wf=true)/\(Lit.int .u8 x).wf=true/\(Lit.int .u8 y).wf=true/\(Lit.int .u8 z1).wf=true/\(Lit.int .u8 z2).wf=true/\(Lit.int .u8 z3).wf=true/\N.length<=9223372036854775807:=by
 unfold Value.okWide at hval
 rw [ht]at hval
 obtain⟨cs,rfl,hsz,ts,e1,_,hrow⟩:=hval
 rw [hts]at e1
 cases e1
 rw [hct]at hsz
 obtain⟨l⟩:=cs
 simp only [yk]at hsz
 obtain⟨a,x1,x2,y1,y2,y3,b,rfl⟩:=len7 hsz
 obtain⟨fuel,h⟩:=h
 obtain⟨xs,n,_,_,hl,hlen,hf⟩:=DataW.trod_struct ht h
 obtain⟨z0,z1,z2,z3,rfl⟩:=len4 (by rw [hlen];rfl:xs.length=4)
 have q0:=hf 0 f0 rfl
 have q1:=hf 1 f1 rfl
 have q2:=hf 2 f2 rfl
 have q3:=hf 3 f3 rfl
 rw [o0,t0,d0]at q0
 rw [o1,t1,d1]at q1
 rw [o2,t2,d2]at q2
 rw [o3,t3,d3]at q3
 have r: ∀(j:Nat) t v,[s0,e,e,e,e,e,s3][j%7]? =some t->[a,x1,x2,y1,y2,y3,b][j]? =some v->Cell.okWide P W .any base t v:=fun j t v h1 h2=>by
  obtain⟨u,h3,h4⟩:=hrow j v (by simpa using h2)
  obtain rfl:t=u:=Option.some.inj (h1.symm.trans h3)
  exact h4
 obtain⟨B,hB,wB,_⟩:=jH h0 g0 c0 (r 0 s0 a rfl rfl) q0
 obtain⟨N,hN,wN,lN⟩:=jH h3 g3 c3 (r 6 s3 b rfl rfl) q3
 obtain⟨k1,i1,j1⟩:=kR h1 g0 c0 q1 0 (by decide)
 obtain⟨k2,i2,j2⟩:=kR h1 g0 c0 q1 1 (by decide)
 obtain⟨k3,i3,j3⟩:=kR h2 g0 c0 q2 0 (by decide)
 obtain⟨k4,i4,j4⟩:=kR h2 g0 c0 q2 1 (by decide)
 obtain⟨k5,i5,j5⟩:=kR h2 g0 c0 q2 2 (by decide)
 cases i1
 cases i2
 cases i3
 cases i4
 cases i5
 exact⟨a,b,k1,k2,k3,k4,k5,B,N,rfl,hB,hN,wB,wN,j1,j2,j3,j4,j5,lN⟩
end
end Go.Ab

end
section
namespace Go.Ab
open Go.ChangeShapes Go.WideShapes Go.RowKit
section
variable{H:Type}{enc:TypeId×Value->H}{P:Program}
theorem uh{W:World}{base:Nat}{t s0 tq i s3 e e3:TypeId}{f0 f1 f2 f3 b0 b1 b2 b3:Field}{v:Value}{sp:Nat->Bool}{hd:Bool}{d:DataW H}{p:List MemPlace}(ht:P.underlying t=some (.struct #[f0,f1,f2,f3]))(o0:f0.offset=0)(o1:f1.offset=1)(o2:f2.offset=2)(o3:f3.offset=6)
 (t0:f0.type=s0) (t1:f1.type=s0) (t2:f2.type=tq) (t3:f3.type=s3) (hq:P.underlying tq=some (.struct #[b0,b1,b2,b3])) (u0:b0.offset=0) (u1:b1.offset=1) (u2:b2.offset=2) (u3:b3.offset=3) (x0:b0.type=i) (x1:b1.type=i) (x2:b2.type=i) (x3:b3.type=i)
 (h0:P.underlying s0=some (.slice e)) (h3:P.underlying s3=some (.slice e3)) (hi:P.underlying i=some (.int .i64))
 (g0:P.underlying e=some (.int .u8)) (g3:P.underlying e3=some (.int .i64)) (c0:P.cellsOf e=1) (c3:P.cellsOf e3=1) (d0:P.cellsOf s0=1) (dq:P.cellsOf tq=4) (d3:P.cellsOf s3=1) (di:P.cellsOf i=1) (hct:P.cellsOf t=7) (hts:P.cellTypes P.depth t=some [s0,s0,i,i,i,i,s3])
 (hval:Value.okWide P W .any base t v) (h:DataW.Trod enc P W 0 sp hd t v d p):
 ∃ (a b c:Value) (y0 y1 y2 y3:Int) (B M N:List Int),v=.agg #[a,b,.int .i64 y0,.int .i64 y1,.int .i64 y2,.int .i64 y3,c]/\SlW (hpW W) .u8 (gQ W.heap.size a) B/\SlW (hpW W) .u8 (gQ W.heap.size b) M/\SlW (hpW W) .i64 (gQ W.heap.size c) N/\
   (∀z∈B,(Lit.int .u8 z).wf=true)/\(∀z∈M,(Lit.int .u8 z).wf=true)/\(∀z∈N,(Lit.int .i64 z).wf=true)/\M.length<=9223372036854775807/\N.length<=9223372036854775807:=by
 unfold Value.okWide at hval
 rw [ht]at hval
 obtain⟨cs,rfl,hsz,ts,e1,_,hrow⟩:=hval
 rw [hts]at e1
 cases e1
 rw [hct]at hsz
 obtain⟨l⟩:=cs
 simp only [yk]at hsz
 obtain⟨a,b,y0,y1,y2,y3,c,rfl⟩:=len7 hsz
 obtain⟨fuel,h⟩:=h
 obtain⟨xs,n,_,_,hl,hlen,hf⟩:=DataW.trod_struct ht h
 obtain⟨z0,z1,z2,z3,rfl⟩:=len4 (by rw [hlen];rfl:xs.length=4)
 have q0:=hf 0 f0 rfl
 have q1:=hf 1 f1 rfl
 have q2:=hf 2 f2 rfl
 have q3:=hf 3 f3 rfl
 rw [o0,t0,d0]at q0
 rw [o1,t1,d0]at q1
 rw [o2,t2,dq]at q2
 rw [o3,t3,d3]at q3
 have r: ∀(j:Nat) t v,[s0,s0,i,i,i,i,s3][j%7]? =some t->[a,b,y0,y1,y2,y3,c][j]? =some v->Cell.okWide P W .any base t v:=fun j t v h1 h2=>by
  obtain⟨u,h3,h4⟩:=hrow j v (by simpa using h2)
  obtain rfl:t=u:=Option.some.inj (h1.symm.trans h3)
  exact h4
 obtain⟨B,hB,wB,_⟩:=jH h0 g0 c0 (r 0 s0 a rfl rfl) q0
 obtain⟨M,hM,wM,lM⟩:=jH h0 g0 c0 (r 1 s0 b rfl rfl) q1
 obtain⟨N,hN,wN,lN⟩:=jH h3 g3 c3 (r 6 s3 c rfl rfl) q3
 obtain⟨ys,n2,_,_,hl2,hlen2,hf2⟩:=DataW.trod_struct hq q2
 obtain⟨w0,w1,w2,w3,rfl⟩:=len4 (by rw [hlen2];rfl:ys.length=4)
 have k0:=hf2 0 b0 rfl
 have k1:=hf2 1 b1 rfl
 have k2:=hf2 2 b2 rfl
 have k3:=hf2 3 b3 rfl
 rw [u0,x0,di]at k0
 rw [u1,x1,di]at k1
 rw [u2,x2,di]at k2
 rw [u3,x3,di]at k3
 obtain⟨n0,e0,_,_⟩:=DataW.trod_int hi k0
 obtain⟨n1,e1,_,_⟩:=DataW.trod_int hi k1
 obtain⟨n2,e2,_,_⟩:=DataW.trod_int hi k2
 obtain⟨n3,e3,_,_⟩:=DataW.trod_int hi k3
 cases e0
 cases e1
 cases e2
 cases e3
 exact⟨a,b,c,n0,n1,n2,n3,B,M,N,rfl,hB,hM,hN,wB,wM,wN,lM,lN⟩
end
end Go.Ab

end

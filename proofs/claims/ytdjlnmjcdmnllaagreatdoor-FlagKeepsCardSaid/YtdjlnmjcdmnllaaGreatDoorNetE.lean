/- Nets, cells, flags: what the functions do (part 5). -/
import Derived.Test.YtdjlnmjcdmnllaaGreatDoorNetD
import Derived.ChangeSlices
import Derived.ChangeArms
import Derived.ChangeSame
open List renaming getD_eq_getElem?_getD->yr,getElem?_eq_getElem->yt,range->yv,take_succ_eq_append_getElem->yw,getElem_mem->yx,take_succ_cons->yy,drop_zero->yA,take_zero->yB,take->yF,drop->yG,length_map->yI,all_cons->yJ,all_nil->yL,take_length->yM,not_mem_nil->yO,getElem_range->yR,getElem?_map->yS,take_of_length_le->yU,getElem_map->yW,length_take->yX,append_nil->yY,drop_eq_getElem_cons->y8,flatMap_map->ze,map_append->zg,flatMap_eq_foldl->zj,mem_cons->zn,map_eq_flatMap->zo
open Nat renaming zero_le->yu,lt_of_lt_of_le->yD,zero_add->yE,mul_one->yH,lt_of_succ_le->yK,zero_mul->yP,one_mul->yT,add_sub_cancel->yZ,min_eq_left->zh,le_refl->zi,le_trans->zq
open Bool renaming and_true->yz
open Go.Ab.Tryz renaming abEnv->yC,s28->yQ,u25->y9,e2E->za,s49->zm,s3->zt,s2->zu,u38->zw,e3E->zx
open Int renaming cast_ofNat_Int->yN
open Option renaming getD_some->yV
set_option maxHeartbeats 4000000
set_option linter.defProp false
set_option linter.unusedVariables false
set_option linter.unusedSimpArgs false
section
namespace Go.Ab
open Go.Proofs
set_option maxRecDepth 10000
open Tryz in
def Tryz.FFrl2203:=aj a1<|aj s1<|aj z1<|aj n1<|aj u2<|aj a2<|aj s2<|aj z2<|aj i2<|aj u3<|aj a3<|aj s3<|aj z3<|aj i3<|aj u25<|aj a25<|aj s25<|aj z25<|aj q25<|aj n25<|aj u26<|aj a26<|aj s26<|aj z26<|aj q26<|aj n26<|aj a28<|aj s28<|aj z28<|aj i28<|aj n28<|aj p28<|aj ff28<|aj d28<|aj a49<|aj s49<|aj z49<|aj i49<|aj n49<|aj p49<|aj ff49<|d49
open Tryz in
def Tryz.FFrl2127:=aj a1<|aj s1<|aj z1<|aj n1<|aj u2<|aj a2<|aj s2<|aj z2<|aj i2<|aj u3<|aj a3<|aj s3<|aj z3<|aj i3<|aj u4<|aj a4<|aj s4<|aj z4<|aj n4<|aj u5<|aj a5<|aj s5<|aj z5<|aj i5<|aj u6<|aj a6<|aj s6<|aj z6<|aj i6<|aj a7<|aj s7<|aj z7<|aj i7<|aj n7<|aj p7<|aj ff7<|aj d7<|aj u25<|aj a25<|aj s25<|aj z25<|aj q25<|aj n25<|aj u26<|aj a26<|aj s26<|aj z26<|aj q26<|aj n26<|aj a28<|aj s28<|aj z28<|aj i28<|aj n28<|aj p28<|aj ff28<|aj d28<|aj a49<|aj s49<|aj z49<|aj i49<|aj n49<|aj p49<|aj ff49<|d49
theorem xV{h0:Hp}(ok:h0.t.Sized h0.n){γ:Gra}(hγ:Good γ){vx vy va:Value}(ga:ca h0 vx vy va γ):
 Ret yC 203 [cZ γ vx vy va] h0 fun r h'=>Gr h0 h'/\ ∃vx' vy' va',r=cZ γ vx' vy' va'/\ca h' vx' vy' va' γ/\WrK h' 3 bw va' γ.arcs/\(∀c,au vx' c\/au vy' c\/au va' c->h0.n<=c)/\ ∀c,au va' c-> ¬au vx' c/\ ¬au vy' c:=by
 have S:=Si ok
 have lX:=hγ.lX
 have lY:=hγ.lY
 have n2:=hγ.n2
 have many:=hγ.many
 have fx:=ga.X.fl
 have fy:=ga.Y.fl
 have fa:=ga.A.fl
 refine ac (n:=18) (rs:=[.cell 2 28]) rfl Tryz.e203 rfl rfl rfl (lbt rfl) ?_
 simp only [BS,Nat.reduceLT,cZ]
 refine ag (bE (by intro x e;cases e)) S ?_;clear S;intro h b S n_b;simp only [ah]at S
 simp only [BS,Tryz.FFrl2203]
 refine ag aw S ?_;clear S;intro h b2 S n_b2
 simp only [BS]
 refine ay (aF rfl) (q:=1636) (ps:=[(1,13),(9,12),(5,12),(1,9),(5,8),(1,5)]) (by kernel_rfl) ?_
 simp only [BS,LB,cls,Nat.reduceLT,Nat.reduceEqDiff,Nat.reduceAdd,Nat.reducePow,Nat.reduceDiv,Nat.reduceMod,Nat.reduceLeDiff,Tryz.FFrl2203,S.ld (b:=b) (o:=0) m1 rfl,S.ld (b:=b) (o:=1) m1 rfl]
 have z0:=fun c (hc:c∈keys _ _)=>S.key_lt hc
 refine dG (bN (by exact y9) (by exact za) (by decide) (by rfl)) S ?_;clear S;intro h b5 S n_b5 e_b5;simp only [LC,aT,bD,ah,Nat.reduceMul,Nat.reduceAdd,yP,yE,yH,yT]at S
 rw [<-e_b5]at z0
 simp only [BS,LB,cls,Nat.reduceLT,Nat.reduceEqDiff,Nat.reduceAdd,Nat.reducePow,Nat.reduceDiv,Nat.reduceMod,Nat.reduceLeDiff,Tryz.FFrl2203,S.ld (b:=b) (o:=0) m2 rfl,S.ld (b:=b) (o:=1) m2 rfl]
 have l5:=(S.row (b:=b5) m0).lt S.ok
 refine wh S (enc:=encI .i64) y9 za (by decide) Tryz.n25 (ga.X.gr S.gr) (fun x=>rfl) (by decide) (by omega) (S.row (b:=b5) m0) ?_
 intro h v1 g s1 q1 _
 have p1: ∀c,au v1 c->b5<=c:=fun c hc=>by have:=q1 c hc;omega
 have gn5:=g.n
 replace S:=(S.call g).drop1;clear g
 have u1: ∀c,au v1 c->c<h.n:=fun c hc=>s1.lt S.ok hc
 have Sb:=S
 have i1:=S.fr.n
 replace S:=S.base
 simp only [BS,LB,cls,Nat.reduceAdd,Nat.reducePow,Nat.reduceDiv,Nat.reduceMod,Nat.reduceLeDiff]
 refine dG (bN (by exact y9) (by exact za) (by decide) (by rfl)) S ?_;clear S;intro h b9 S n_b9 e_b9;simp only [LC,aT,bD,ah,Nat.reduceMul,Nat.reduceAdd,yP,yE,yH,yT]at S
 rw [<-e_b9]at u1
 replace s1:=s1.mo S.fr (fun c hc hk=>by have:=p1 c hc;have:=z0 c hk;omega)
 replace S:=Sb.rebase S
 clear Sb
 simp only [BS,LB,cls,Nat.reduceLT,Nat.reduceEqDiff,Nat.reduceAdd,Nat.reducePow,Nat.reduceDiv,Nat.reduceMod,Nat.reduceLeDiff,Tryz.FFrl2203,S.ld (b:=b) (o:=2) m2 rfl]
 have l9:=(S.row (b:=b9) m0).lt S.ok
 refine wh S (enc:=encI .i64) y9 za (by decide) Tryz.n25 (ga.Y.gr S.gr) (fun x=>rfl) (by decide) (by omega) (S.row (b:=b9) m0) ?_
 intro h v2 g s2 q2 _
 have p2: ∀c,au v2 c->b9<=c:=fun c hc=>by have:=q2 c hc;omega
 have gn9:=g.n
 replace S:=(S.call g).drop1
 replace s1:=s1.gr g;clear g
 have u2: ∀c,au v2 c->c<h.n:=fun c hc=>s2.lt S.ok hc
 have Sb:=S
 have i2:=S.fr.n
 replace S:=S.base
 simp only [BS,LB,cls,Nat.reduceAdd,Nat.reducePow,Nat.reduceDiv,Nat.reduceMod,Nat.reduceLeDiff]
 refine dG (bN (by exact Tryz.u26) (by exact Tryz.e49E) (by decide) (by rfl)) S ?_;clear S;intro h b13 S n_b13 e_b13;simp only [LC,aT,bD,ah,Nat.reduceMul,Nat.reduceAdd,yP,yE,yH,yT]at S
 rw [<-e_b13]at u2
 have b59:b5<b9:=by omega
 replace s1:=s1.mo S.fr (fun c hc hk=>by have:=p1 c hc;have:=z0 c hk;omega)
 replace s2:=s2.mo S.fr (fun c hc hk=>by have:=p2 c hc;have:=z0 c hk;omega)
 replace S:=Sb.rebase S
 clear Sb
 simp only [BS,LB,cls,Nat.reduceLT,Nat.reduceEqDiff,Nat.reduceAdd,Nat.reducePow,Nat.reduceDiv,Nat.reduceMod,Nat.reduceLeDiff,Tryz.FFrl2203,S.ld (b:=b) (o:=3) m2 rfl]
 have l13:=(S.row (b:=b13) m0).lt S.ok
 refine dn_v (S.cloneW (enc:=bw) Tryz.u26 Tryz.e49E (by decide) Tryz.n26 (ga.A.gr S.gr) cK (by decide) (by omega) (S.row (b:=b13) m0)) ?_
 clear S;rintro h v3 ⟨S,g,s3,q3,w3⟩
 have p3: ∀c,au v3 c->b13<=c:=fun c hc=>by have:=q3 c hc;omega
 have gn13:=g.n
 replace S:=S.drop1
 replace s1:=s1.gr g;replace s2:=s2.gr g;clear g
 have b913:b9<b13:=by omega
 obtain⟨va1,vn1,vc1,rfl⟩:=s1.form
 obtain⟨va2,vn2,vc2,rfl⟩:=s2.form
 obtain⟨va3,vn3,vc3,rfl⟩:=s3.form
 have f1:=s1.fl
 have f2:=s2.fl
 have f3:=s3.fl
 have kb:=z0 b (by simp [keys])
 have kb2:=z0 b2 (by simp [keys])
 simp only [BS,LB,cls,Nat.reduceLT,Nat.reduceEqDiff,Nat.reduceAdd,Nat.reducePow,Nat.reduceDiv,Nat.reduceMod,Nat.reduceLeDiff,Tryz.FFrl2203]
 refine dM (S.store (i:=0) rfl yQ (by intro x e;cases e) rfl (by simp only [ah,yJ,yL,f1.2.1,f2.2.1,f3.2.1,yz];rfl) (lbt rfl) ono) ?_
 clear S;rintro h ⟨S,mo⟩
 simp only [LC,ah,lay,yF,yG,Nat.reduceAdd]at S
 simp only [BS,ae,Nat.reduceAdd]
 have d5:b≠b5:=by omega
 have d9:b≠b9:=by omega
 have d13:b≠b13:=by omega
 refine⟨by simp only [bj,bC,aW,bA,aZ,ne_eq,not_false_eq_true,bG,bU,bg,aY,bS,cM,aN,Nat.reduceLT,Nat.reduceEqDiff,reduceIte,yz,ab,aQ,qW,rL,ee d5,ee d9,ee d13,ee d5.symm,ee d9.symm,ee d13.symm,ee (show b9≠b13 by omega),ee (show b5≠b9 by omega),ee (show b5≠b13 by omega),ee (show b9≠b5 by omega)],?_⟩
 refine⟨_,kC (by decide) (by simp only [aN,ab,Nat.reduceEqDiff,reduceIte];exact dg Tryz.a28 yQ (S.lds (b:=b2) (o:=0) (n:=4) m0 (lbt rfl))),?_⟩
 refine⟨S.gr,_,_,_,rfl,⟨s1.mo mo (fun c hc e=>?_),s2.mo mo (fun c hc e=>?_),s3.mo mo (fun c hc e=>?_)⟩,w3.mo mo (fun c hc e=>?_),fun c hc=>?_,fun c hc=>⟨fun h1=>?_,fun h2=>?_⟩⟩
 . have:=p1 c hc;omega
 . have:=p2 c hc;omega
 . have:=p3 c hc;omega
 . have:=p3 c hc;omega
 . rcases hc with h|h|h
   . have:=p1 c h;omega
   . have:=p2 c h;omega
   . have:=p3 c h;omega
 . have:=p3 c hc;have:=u1 c h1;omega
 . have:=p3 c hc;have:=u2 c h2;omega
def iR(A:List Arc)(k:Nat):List Arc:=(A.take k).map cu++A.drop k
theorem pd(A:List Arc)(k:Nat):(iR A k).length=A.length:=by simp [iR];omega
theorem tO{A:List Arc}: ∀{k:Nat} (hk:k<A.length) (x:Nat),(A.flatMap bw).set (k*3) (.int .i64 (x:Nat))=(A.set k ⟨x,A[k].t,A[k].w⟩).flatMap bw/\(A.flatMap bw).set (k*3+1) (.int .i64 (x:Nat))=(A.set k ⟨A[k].s,x,A[k].w⟩).flatMap bw:=by
 induction A with
 |nil=>intro k hk;simp at hk
 | cons a A ih=>
   intro k hk x
   cases k with
   |zero=>exact⟨rfl,rfl⟩
   | succ k=>
     obtain⟨h1,h2⟩:=ih (k:=k) (by simpa using hk) x
     have e1:(k+1)*3=k*3+3:=by omega
     have e2:(k+1)*3+1=k*3+1+3:=by omega
     rw [e1,show k*3+3+1=k*3+1+3 from rfl]
     simp only [List.flatMap_cons,bw,List.cons_append,List.nil_append,List.set_cons_succ,List.getElem_cons_succ]at h1 h2⊢
     exact⟨by rw [h1],by rw [h2]⟩
theorem ya{A:List Arc}{k:Nat}(hk:k<A.length):((iR A k).set k ⟨A[k].t,A[k].t,A[k].w⟩).set k ⟨A[k].t,A[k].s,A[k].w⟩=iR A (k+1):=by
 have hl:((A.take k).map cu).length=k:=by simp;omega
 rw [List.set_set]
 unfold iR
 rw [List.set_append_right _ _ (by omega),hl,Nat.sub_self,y8 hk,List.set_cons_zero,yw hk,zg,List.append_assoc]
 rfl
theorem turnK_at{A:List Arc}{k:Nat}(hk:k<A.length):(iR A k)[k]? =some A[k]:=by
 have hl:((A.take k).map cu).length=k:=by simp;omega
 unfold iR
 rw [List.getElem?_append_right (by omega),hl,Nat.sub_self,y8 hk];rfl
def eU(γ:Gra):Gra:={γ with arcs:=γ.arcs.map cu}
theorem turnK_all(A:List Arc):iR A A.length=A.map cu:=by simp [iR]
theorem tB{h0:Hp}(ok:h0.t.Sized h0.n){γ:Gra}(hγ:Good γ){vx vy va:Value}(ga:ca h0 vx vy va γ):
 Ret yC 127 [cZ γ vx vy va] h0 fun r h'=>Gr h0 h'/\ ∃vx' vy' va',r=cZ γ vx' vy' va'/\ca h' vx' vy' va' (eU γ):=by
 have S:=Si ok
 have many:=hγ.many
 have fx:=ga.X.fl
 have fy:=ga.Y.fl
 have fa:=ga.A.fl
 refine ac (n:=37) (rs:=[.cell 2 28]) rfl Tryz.e127 rfl rfl rfl (lbt rfl) ?_
 simp only [BS,Nat.reduceLT,cZ]
 refine ag (bE (by intro x e;cases e)) S ?_;clear S;intro h b1 S n_b1;simp only [ah]at S
 simp only [BS,Tryz.FFrl2127]
 refine ag aw S ?_;clear S;intro h b2 S n_b2
 simp only [BS,LB,Nat.reduceLT,Nat.reduceEqDiff,Tryz.FFrl2127,S.lds (b:=b1) (o:=0) (n:=4) m1 (lbt rfl)]
 have zk:=fun c (hc:c∈keys _ _)=>S.key_lt hc
 have i0:=S.fr.n
 have cp:=xV S.ok hγ (ga.gr S.gr)
 unfold cZ at cp
 refine step_ret cp ?_
 rintro r h ⟨g,vx',vy',va',er,ga',w',hb,hd⟩
 subst er
 have S1:=S.call g
 clear S
 have ok1:=S1.ok
 have fx':=ga'.X.fl
 have fy':=ga'.Y.fl
 have fa':=ga'.A.fl
 have S:=S1.base
 simp only [BS,Tryz.FFrl2127]
 refine ag aw S ?_;clear S;intro h b3 S n_b3
 simp only [BS,LB,Nat.reduceLT,Nat.reduceEqDiff]
 refine aA (S.store (i:=0) rfl yQ (by intro x e;cases e) rfl (by simp only [ah,yJ,yL,fx'.2.1,fy'.2.1,fa'.2.1,yz];rfl) (lbt rfl) ono) ?_
 clear S;rintro h ⟨S,_⟩
 simp only [LC,ah,lay,yF,yG,Nat.reduceAdd]at S
 have lX: ∀c,au vx' c->c<b3:=fun c hc=>by have:=ga'.X.lt ok1 hc;omega
 have lY: ∀c,au vy' c->c<b3:=fun c hc=>by have:=ga'.Y.lt ok1 hc;omega
 have lA: ∀c,au va' c->c<b3:=fun c hc=>by have:=ga'.A.lt ok1 hc;omega
 replace ga':=ga'.mo S.fr (fun c hc hk=>by have:=hb c hc;have:=zk c hk;omega)
 replace w':=w'.mo S.fr (fun c hc hk=>by have:=hb c (.inr (.inr hc));have:=zk c hk;omega)
 replace S:=S1.rebase S
 clear S1 g cp
 simp only [BS]
 have k1:=zk b1 (by simp [keys])
 have k2:=zk b2 (by simp [keys])
 by_cases hne:γ.arcs=[]
 . refine aJ (fun(k:Nat) ρ h'=>h'=h/\ρ 1=ptrTo b1/\ρ 2=ptrTo b2/\ρ 3=ptrTo b3/\ρ 4=.int .i64 (0:Nat)) (fun k=>1-k) ?_ 0 _ _ ?_
   . rintro k ih ρ h' ⟨rfl,r1,r2,r3,r4⟩
     have h00: ¬((0:Nat)<γ.arcs.length):=by rw [hne];decide
     have h01: ¬((0:Int)<(γ.arcs.length:Int)):=by omega
     simp only [BS,LB,Nat.reduceLT,Nat.reduceEqDiff,yN,Tryz.FFrl2127,r2,r3,r4,ga'.A.lenq,h01,yA,yy,yB,S.lds (b:=b3) (o:=0) (n:=4) m0 (lbt rfl),S.ld (b:=b3) (o:=3) m0 rfl]
     refine aA (S.store (i:=1) rfl yQ (by intro x e;cases e) rfl (by simp only [ah,yJ,yL,fx'.2.1,fy'.2.1,fa'.2.1,yz];rfl) (lbt rfl) ono) ?_
     rintro h ⟨S,mo⟩
     simp only [LC,ah,lay,yF,yG,Nat.reduceAdd]at S
     simp only [BS,ae]
     refine⟨_,kC (by decide) (by simp only [aN,r2,ab,Nat.reduceEqDiff,reduceIte];exact dg Tryz.a28 yQ (S.lds (b:=b2) (o:=0) (n:=4) m1 (lbt rfl))),?_⟩
     refine⟨S.gr,_,_,_,rfl,⟨ga'.X.mo mo (fun c hc e=>?_),ga'.Y.mo mo (fun c hc e=>?_),?_⟩⟩
     . have:=hb c (.inl hc);omega
     . have:=hb c (.inr (.inl hc));omega
     . have:=ga'.A.mo mo (fun c hc e=>by have:=hb c (.inr (.inr hc));omega)
       simpa [eU,hne]using this
   . exact⟨rfl,by simp [aa,ab],by simp [aa,ab],by simp [aa,ab],by simp [aa]⟩
 . obtain⟨ba,e,row⟩:=w' hne
   subst e
   have nba:=hb ba (.inr (.inr rfl))
   have nb3:=lA ba rfl
   replace S:=S.push (b:=ba) (o:=.row (γ.arcs.flatMap bw) 1) (.inl (by omega)) row (by intro hc;simp [keys]at hc;have:=zk b1 (by simp [keys]);have:=zk b2 (by simp [keys]);omega)
   have SL:=S
   replace S:=S.base
   refine aJ (fun(k:Nat) ρ h'=>k<=γ.arcs.length/\St (· ∈keys [(ba,Ob.row (γ.arcs.flatMap bw) 1),(b3,.row [.int .i64 γ.nodes,vx',vy',.slice (some ⟨ba,0,some 3⟩) γ.arcs.length γ.arcs.length] 1),(b2,.row [.int .i64 0,.slice none 0 0,.slice none 0 0,.slice none 0 0] 1),(b1,.row [.int .i64 γ.nodes,vx,vy,va] 1)] []) h h' [(ba,Ob.row ((iR γ.arcs k).flatMap bw) 1),(b3,.row [.int .i64 γ.nodes,vx',vy',.slice (some ⟨ba,0,some 3⟩) γ.arcs.length γ.arcs.length] 1),(b2,.row [.int .i64 0,.slice none 0 0,.slice none 0 0,.slice none 0 0] 1),(b1,.row [.int .i64 γ.nodes,vx,vy,va] 1)] []/\ρ 1=ptrTo b1/\ρ 2=ptrTo b2/\ρ 3=ptrTo b3/\ρ 4=.int .i64 k) (fun k=>γ.arcs.length-k) ?_ 0 _ _ ?_
   . clear S
     intro k ih ρ h2 ⟨hk,S,r1,r2,r3,r4⟩
     have wk:aq .i64 ((k:Int)+1)=((k+1:Nat):Int):=by rw [wrap64]<;>omega
     have GA:=ga.gr (SL.rebase S).gr
     by_cases hkt:k<γ.arcs.length
     . obtain⟨c3,o3,x3,y3⟩:=GA.A.ix (kd:=.i64) cK hkt
       have y31:h2.load c3 (o3+1) 1=some [.int .i64 (γ.arcs[k].t:Nat)]:=jH y3 (i:=1) (m:=1) (by omega)
       have y30:h2.load c3 o3 1=some [.int .i64 (γ.arcs[k].s:Nat)]:=jH y3 (i:=0) (m:=1) (by omega)
       have ipk:fj (.int .i64 (k:Int)) γ.arcs.length=some k:=ij hkt
       simp only [BS,LB,Nat.reduceLT,Nat.reduceEqDiff,Tryz.FFrl2127,r3,r4,ax,hkt,S.ld (b:=b3) (o:=3) m1 rfl]
       refine ay (aF rfl) (q:=0) (ps:=[]) (by kernel_rfl) ?_
       simp only [BS,LB,cls,Nat.reduceLT,Nat.reduceEqDiff,Nat.reduceAdd,Nat.reducePow,Nat.reduceDiv,Nat.reduceMod,Nat.reduceLeDiff,Tryz.FFrl2127,r1,r3,r4,x3,y31,ipk,S.ld (b:=b3) (o:=3) m1 rfl,S.ld (b:=b1) (o:=3) m3 rfl]
       have len3:(List.flatMap bw (iR γ.arcs k)).length=γ.arcs.length*3:=by rw [aV cK,pd]
       refine dM (aB S (i:=0) rfl zt bu (by rw [len3];omega) ono) ?_
       clear S y30 y31 x3 y3;rintro h2 ⟨S,_⟩
       have hk1:k<(iR γ.arcs k).length:=by rw [pd];exact hkt
       have eg:(iR γ.arcs k)[k]=γ.arcs[k]:=Option.some.inj ((yt hk1).symm.trans (turnK_at hkt))
       simp only [LC]at S
       rw [(tO hk1 _).1,eg]at S
       have GA:=ga.gr (SL.rebase S).gr
       obtain⟨c3,o3,x3,y3⟩:=GA.A.ix (kd:=.i64) cK hkt
       have y30:h2.load c3 o3 1=some [.int .i64 (γ.arcs[k].s:Nat)]:=jH y3 (i:=0) (m:=1) (by omega)
       simp only [BS,LB,Nat.reduceAdd]
       refine ay (aF rfl) (q:=0) (ps:=[]) (by kernel_rfl) ?_
       simp only [BS,LB,cls,Nat.reduceLT,Nat.reduceEqDiff,Nat.reduceAdd,Nat.reducePow,Nat.reduceDiv,Nat.reduceMod,Nat.reduceLeDiff,Tryz.FFrl2127,r1,r3,r4,x3,y30,ipk,S.ld (b:=b3) (o:=3) m1 rfl,S.ld (b:=b1) (o:=3) m3 rfl]
       refine dM (aB S (i:=0) rfl zt bu (by rw [aV cK,List.length_set,pd];omega) ono) ?_
       clear S;rintro h2 ⟨S,_⟩
       have hk2:k<((iR γ.arcs k).set k ⟨γ.arcs[k].t,γ.arcs[k].t,γ.arcs[k].w⟩).length:=by rw [List.length_set];exact hk1
       simp only [LC]at S
       rw [(tO hk2 _).2,List.getElem_set_self,ya hkt]at S
       simp only [BS,LB,Nat.reduceLT,Nat.reduceEqDiff,Nat.reduceAdd,r4,wk]
       exact ih (k+1) _ _ (by omega) ⟨by omega,S,by simp [aa,r1,ab],by simp [aa,r2,ab],by simp [aa,r3,ab],by simp [aa]⟩
     . have hkk:k=γ.arcs.length:=by omega
       subst hkk
       rw [turnK_all]at S
       simp only [BS,LB,Nat.reduceLT,Nat.reduceEqDiff,Tryz.FFrl2127,r2,r3,r4,ax,hkt,yA,yy,yB,S.lds (b:=b3) (o:=0) (n:=4) m1 (lbt rfl),S.ld (b:=b3) (o:=3) m1 rfl]
       refine aA (S.store (i:=2) rfl yQ (by intro x e;cases e) rfl (by simp only [ah,yJ,yL,fx'.2.1,fy'.2.1,fa'.2.1,yz];rfl) (lbt rfl) ono) ?_
       clear S;rintro h2 ⟨S,mo⟩
       simp only [LC,ah,lay,yF,yG,Nat.reduceAdd]at S
       simp only [BS,ae]
       refine⟨_,kC (by decide) (by simp only [aN,r2,ab,Nat.reduceEqDiff,reduceIte];exact dg Tryz.a28 yQ (S.lds (b:=b2) (o:=0) (n:=4) m2 (lbt rfl))),?_⟩
       have row:=S.row (b:=ba) m0
       refine⟨(SL.rebase S).gr,_,_,_,rfl,⟨ga'.X.mo S.fr (fun c hc e=>?_),ga'.Y.mo S.fr (fun c hc e=>?_),?_⟩⟩
       . have:=hb c (.inl hc);have:=lX c hc;have h1:=hd ba rfl
         simp [keys]at e
         rcases e with rfl|rfl|rfl|rfl
         . exact h1.1 hc
         all_goals omega
       . have:=hb c (.inr (.inl hc));have:=lY c hc;have h1:=hd ba rfl
         simp [keys]at e
         rcases e with rfl|rfl|rfl|rfl
         . exact h1.2 hc
         all_goals omega
       . refine .inr ⟨ba,0,some 3,γ.arcs.length,by simp [eU],by simp [eU],?_⟩
         rw [row.load (by rw [aV cK];simp [eU])]
         have e:(eU γ).arcs.length*3=(List.flatMap bw (List.map cu γ.arcs)).length:=by rw [aV cK];rfl
         rw [e,yA,yM];rfl
   . exact⟨yu _,S,by simp [aa,ab],by simp [aa,ab],by simp [aa,ab],by simp [aa]⟩


theorem exTo{h0:Hp}(ok:h0.t.Sized h0.n){γ:Gra}(hγ:Good γ){pn:Value}{nb:Nat}(hn:bz h0 nb pn γ){s:Nat}(hs:s<γ.nodes)(v:Nat):IsD (seen γ.arcs Arc.t Arc.s) s v (dOf (seen γ.arcs Arc.t Arc.s) s v):=by
 obtain⟨_,_,_,_,_,_,_,D,_,_,_,_,_,_,_,hD,_⟩:=rt ok hγ hn hs
 exact(dOf_is (hD v)).2
theorem oK(B:List Arc)(N s:Nat):(jW B N s).length=N:=by simp [jW]
end Go.Ab
end
section
namespace Go.Ab
theorem St.toL{M:Nat->Prop}{h0 h:Hp}{L:List (Nat×Ob)}{v:Value}{vs:List Value}(S:St M h0 h L [(v,1,vs)])(hne:vs≠ []): ∃b,v=.slice (some ⟨b,0,some 1⟩) vs.length vs.length/\St M h0 h ((b,.row vs 1)::L) []:=by
 obtain⟨g,k⟩:=S.gown _ (List.mem_singleton.2 rfl)
 rcases g with⟨_,e⟩|⟨b,n,e1,e2,e3⟩
 . exact absurd e hne
 . have en:n=vs.length:=by rw [<-show n*1=vs.length from e2,yH]
   subst en
   have ev:v=.slice (some ⟨b,0,some 1⟩) vs.length vs.length:=e1
   have hk:dI (v,1,vs)=some b:=by rw [ev];rfl
   have ap:=S.apart
   have nb:b∉L.map Prod.fst:=by
    have h1:=ap
    unfold keys at h1
    rw [List.nodup_append]at h1
    exact fun hc=>h1.2.2 b hc b (List.mem_filterMap.2 ⟨_,List.mem_singleton.2 rfl,hk⟩) rfl
   refine⟨b,ev,St.push (St.sub S (List.Sublist.refl _) (List.nil_sublist _)) (k b hk) e3 ?_⟩
   simpa [keys]using nb
def jC(N:Nat)(l:Nat->Nat):List Value:=(yv N).map fun v=>.int .i64 (l v:Nat)
theorem uP{N:Nat}{l:Nat->Nat}{v:Nat}(h:v<N):(jC N l)[v]? =some (.int .i64 (l v:Nat)):=gT (F:=fun v=>Value.int .i64 ((l v:Nat):Int)) h
theorem tw(N:Nat)(l:Nat->Nat):(jC N l).length=N:=by simp [jC]
theorem tW{N:Nat}{l:Nat->Nat}{v x:Nat}:(jC N l).set v (.int .i64 (x:Nat))=jC N (bM l v x):=by
 have:=gC (N:=N) (k:=v) (F:=fun v=>Value.int .i64 ((l v:Nat):Int)) (F':=fun u=>Value.int .i64 ((bM l v x u:Nat):Int)) (fun u _ hu=>by unfold bM;rw [if_neg hu])
 unfold jC
 rw [<-this]
 simp [bM]
def Rlx(B:List Arc)(k:Nat)(l:Nat->Nat):Prop:= ∀j,j<k->l (B.getD j default).s<FAR->l (B.getD j default).t<=l (B.getD j default).s+(B.getD j default).w
theorem rlx_all{B:List Arc}{l:Nat->Nat}(h:Rlx B B.length l): ∀a∈B,l a.s<FAR->l a.t<=l a.s+a.w:=by
 intro a ha
 obtain⟨i,hi,e⟩:=List.mem_iff_getElem.1 ha
 have:=h i hi
 rwa [yr,yt hi,yV,e]at this
end Go.Ab

end
section
namespace Go.Ab
open Go.Proofs
set_option maxRecDepth 10000
open Tryz in
def Tryz.FFrl1126:=aj a1<|aj s1<|aj z1<|aj n1<|aj u2<|aj a2<|aj s2<|aj z2<|aj i2<|aj u3<|aj a3<|aj s3<|aj z3<|aj i3<|aj u4<|aj a4<|aj s4<|aj z4<|aj n4<|aj u5<|aj a5<|aj s5<|aj z5<|aj i5<|aj u6<|aj a6<|aj s6<|aj z6<|aj i6<|aj a7<|aj s7<|aj z7<|aj i7<|aj n7<|aj p7<|aj ff7<|aj d7<|aj a8<|aj s8<|aj z8<|aj i8<|aj n8<|aj p8<|aj ff8<|aj d8<|aj u9<|aj a9<|aj s9<|aj z9<|aj n9<|aj u10<|aj a10<|aj s10<|aj z10<|aj n10<|aj u11<|aj a11<|aj s11<|aj z11<|aj n11<|aj u12<|aj a12<|aj s12<|aj z12<|aj i12<|aj a13<|aj s13<|aj z13<|aj i13<|aj n13<|aj p13<|aj ff13<|aj d13<|aj a14<|aj s14<|aj z14<|aj i14<|aj n14<|aj p14<|aj ff14<|aj d14<|aj u15<|aj a15<|aj s15<|aj z15<|aj q15<|aj i15<|aj n15<|aj u16<|aj a16<|aj s16<|aj z16<|aj q16<|aj i16<|aj n16<|aj u17<|aj a17<|aj s17<|aj z17<|aj q17<|aj i17<|aj n17<|aj a18<|aj s18<|aj z18<|aj i18<|aj n18<|aj p18<|aj ff18<|aj d18<|aj a19<|aj s19<|aj z19<|aj i19<|aj n19<|aj p19<|aj ff19<|aj d19<|aj u25<|aj a25<|aj s25<|aj z25<|aj q25<|aj n25<|aj u26<|aj a26<|aj s26<|aj z26<|aj q26<|aj n26<|aj a28<|aj s28<|aj z28<|aj i28<|aj n28<|aj p28<|aj ff28<|aj d28<|aj a49<|aj s49<|aj z49<|aj i49<|aj n49<|aj p49<|aj ff49<|aj d49<|aj u121<|aj a121<|aj s121<|aj z121<|aj q121<|aj i121<|aj n121<|aj u294<|aj a294<|aj s294<|aj z294<|aj i294<|aj u324<|aj a324<|aj s324<|aj z324<|aj i324<|aj a357<|aj s357<|aj z357<|aj i357<|aj n357<|aj p357<|aj ff357<|aj d357<|aj u358<|aj a358<|aj s358<|aj z358<|aj n358<|aj a360<|aj s360<|aj z360<|aj i360<|aj n360<|aj u362<|aj a362<|aj s362<|aj z362<|aj i362<|aj a363<|aj s363<|aj z363<|aj n363<|aj u364<|aj a364<|aj s364<|aj z364<|aj i364<|aj u365<|aj a365<|aj s365<|aj z365<|aj i365<|aj a367<|aj s367<|aj z367<|aj i367<|aj n367<|aj p367<|aj ff367<|d367
theorem vN {h0 : Hp} (ok:h0.t.Sized h0.n) {γ:Gra} (hγ:Good γ) {vx vy va:Value} (ga:ca h0 vx vy va γ) {s:Nat} (hs:s<γ.nodes) (hD: ∀v,v<γ.nodes->IsD γ.arcs s v (dOf γ.arcs s v)):
 Ret yC 126 [cZ γ vx vy va,.int .i64 s] h0 fun r h'=>Gr h0 h'/\aC h' 1 (encI .i64) r (jW γ.arcs γ.nodes s)/\ ∀c,au r c->h0.n<=c:=by
 have S:=Si ok
 have n1:=hγ.n1
 have n2:=hγ.n2
 have many:=hγ.many
 have fx:=ga.X.fl
 have fy:=ga.Y.fl
 have fa:=ga.A.fl
 have hF:=gY
 refine ac (n:=78) (rs:=[.tmp 4]) rfl Tryz.e126 rfl rfl rfl (lbt rfl) ?_
 simp only [BS,Nat.reduceLT,cZ]
 refine ag (bE (by intro x e;cases e)) S ?_;clear S;intro h b2 S n_b2;simp only [ah]at S
 simp only [BS]
 replace S:=S.nilG (k:=1)
 refine aJ (fun(i:Nat) ρ h=>i<=γ.nodes/\ ∃(vR:Value),St NoM h0 h [(b2,.row [.int .i64 γ.nodes,vx,vy,va] 1)] [(vR,1,List.replicate i (.int .i64 72057594037927936))]/\ρ 1=.int .i64 s/\ρ 2=ptrTo b2/\ρ 5=vR/\ρ 6=.int .i64 i) (fun i=>γ.nodes-i) ?_ 0 _ _ ?_
 . clear S
   intro i ih ρ h ⟨hi,vR,S,r1,r2,r5,r6⟩
   by_cases hlt:i<γ.nodes
   . have w:aq .i64 ((i:Int)+1)=((i+1:Nat):Int):=by rw [wrap64]<;>omega
     simp only [BS,LB,Nat.reduceLT,Nat.reduceEqDiff,Tryz.FFrl1126,r2,r5,r6,ax,hlt,S.ld (b:=b2) (o:=0) m0 rfl]
     refine ag (bN (by exact y9) (by exact za) (by decide) (by rfl)) S ?_;clear S;intro h bt S n_bt;simp only [LC,aT,bD,ah,Nat.reduceMul,Nat.reduceAdd,yP,yE,yH,yT]at S
     simp only [BS,LB,Nat.reduceLT,Nat.reduceEqDiff]
     have src:aO h 1 (.slice (some ⟨bt,0,none⟩) 1 1)=some (1,[.int .i64 72057594037927936]):=by simp only [aO];rw [S.lds (b:=bt) (o:=0) (n:=1*1) m0 (lbt rfl)];rfl
     replace S:=S.drop1
     refine ew (S.grow (j:=0) (m:=1) (new:=[.int .i64 72057594037927936]) rfl y9 za (by decide) Tryz.n25 src rfl (by decide) rfl (by simp;omega)) ?_
     clear S src;rintro h vR' S
     simp only [LC,<-List.replicate_succ']at S
     simp only [BS,LB,Nat.reduceLT,Nat.reduceEqDiff,r6,w]
     exact ih (i+1) _ _ (by omega) ⟨by omega,vR',S,by simp [aa,r1],by simp [aa,r2,ab],by simp [aa],by simp [aa]⟩
   . have hiN:i=γ.nodes:=by omega
     subst hiN
     have c1: ¬((s:Int)<0):=by omega
     have c2: ¬((γ.nodes:Int)<=(s:Int)):=by omega
     obtain⟨bl,ev,S2⟩:=S.toL (by intro e;have:=congrArg List.length e;simp at this;omega)
     clear S
     have S:=S2
     clear S2
     rw [List.length_replicate]at ev
     subst ev
     have e0:List.replicate γ.nodes (Value.int .i64 72057594037927936)=jC γ.nodes fun _=>FAR:=by
      unfold jC
      rw [List.map_const',List.length_range];rfl
     rw [e0]at S
     have ips:fj (.int .i64 (s:Int)) γ.nodes=some s:=ij hs
     simp only [BS,LB,Nat.reduceLT,Nat.reduceEqDiff,Tryz.FFrl1126,r1,r2,r5,r6,ax,hlt,c1,c2,ips,S.ld (b:=b2) (o:=0) m1 rfl]
     refine aA (aB S (i:=0) rfl zu bu (by rw [tw];omega) ono) ?_
     clear S;rintro h ⟨S,_⟩
     have e1:((0:Int))=((0:Nat):Int):=rfl
     simp only [LC]at S
     rw [e1,tW]at S
     simp only [BS]
     have L0:Ls γ.arcs s γ.nodes (bM (fun _=>FAR) s 0):=by
      refine⟨fun v=>?_,fun v=>?_,by simp [bM]⟩
      . unfold bM;split
        . omega
        . exact zi _
      . unfold bM;split
        . rename_i e;subst e;exact .inr .nil
        . exact .inl rfl
     refine aJ (fun(a:(Nat->Nat)×Bool) ρ h=>Ls γ.arcs s γ.nodes a.1/\St NoM h0 h [(bl,.row (jC γ.nodes a.1) 1),(b2,.row [.int .i64 γ.nodes,vx,vy,va] 1)] []/\(a.2=false->Rlx γ.arcs γ.arcs.length a.1)/\ρ 2=ptrTo b2/\ρ 5=.slice (some ⟨bl,0,some 1⟩) γ.nodes γ.nodes/\ρ 7=.bool a.2) (fun a=>2*sumTo a.1 γ.nodes+a.2.toNat) ?_ (bM (fun _=>FAR) s 0,true) _ _ ?_
     . clear S L0 e0 r1 r2 r5 r6 hi ih
       rintro⟨l,more⟩ ih ρ h ⟨hL,S,hr,r2,r5,r7⟩
       cases more with
       | false=>
         simp only [BS,LB,ae,Nat.reduceLT,Nat.reduceEqDiff,r5,r7]
         have row:=S.row (b:=bl) m0
         have ec:jC γ.nodes l=ints (jW γ.arcs γ.nodes s):=by
          unfold jC jW
          rw [vf,List.map_map]
          refine List.map_congr_left fun v hv=>?_
          have hv:=List.mem_range.1 hv
          have:=hL.isD (rlx_all (hr rfl)) (hD v hv)
          have this:l v=dOf γ.arcs s v:=this
          show Value.int .i64 ((l v:Nat):Int)=_
          rw [this];rfl
         rw [ec]at row
         refine⟨S.gr,.inr ⟨bl,0,some 1,γ.nodes,by rw [oK],by rw [oK];omega,?_⟩,fun c hc=>?_⟩
         . rw [row.load (by rw [dc];omega),yA,yH,<-dc (jW γ.arcs γ.nodes s),yM];rfl
         . obtain rfl:bl=c:=hc
           exact(S.own _ m0).1.elim (fun h=>h) (fun h=>h.elim)
       | true=>
         simp only [BS,LB,Nat.reduceLT,r7]
         refine aJ (fun(k:Nat) ρ h=>k<=γ.arcs.length/\ ∃(l':Nat->Nat) (ch:Bool),Ls γ.arcs s γ.nodes l'/\St NoM h0 h [(bl,.row (jC γ.nodes l') 1),(b2,.row [.int .i64 γ.nodes,vx,vy,va] 1)] []/\((ch=false/\l'=l/\Rlx γ.arcs k l)\/(ch=true/\sumTo l' γ.nodes<sumTo l γ.nodes))/\ρ 2=ptrTo b2/\ρ 5=.slice (some ⟨bl,0,some 1⟩) γ.nodes γ.nodes/\ρ 7=.bool ch/\ρ 8=.int .i64 k) (fun k=>γ.arcs.length-k) ?_ 0 _ _ ?_
         . clear S r2 r5 r7 hL
           intro k ihk ρ h ⟨hk,l',ch,hL,S,hc,r2,r5,r7,r8⟩
           have wk:aq .i64 ((k:Int)+1)=((k+1:Nat):Int):=by rw [wrap64]<;>omega
           have gaC:=ga.A.gr S.gr
           by_cases hkt:k<γ.arcs.length
           . obtain⟨c3,o3,x3,y3⟩:=gaC.ix (kd:=.i64) cK hkt
             have am:=yx hkt
             obtain⟨a1,a2,a3⟩:=hγ.arcs _ am
             have ags:γ.arcs.getD k default=γ.arcs[k]:=by simp [yr,hkt]
             generalize γ.arcs[k]=a at am a1 a2 a3 ags y3
             have d1:=hL.le a.s
             have d2:=hL.le a.t
             simp only [BS,LB,Nat.reduceLT,Nat.reduceEqDiff,Tryz.FFrl1126,r2,r8,gaC.lenq,ax,hkt,x3,y3,S.ld (b:=b2) (o:=3) m1 rfl]
             refine ag aw S ?_;clear S;intro h b9 S n_b9
             simp only [BS,LB,Nat.reduceLT,Nat.reduceEqDiff,bw]
             refine aA (S.store (i:=0) rfl ?_ ?_ rfl rfl ?_ ono) ?_
             . exact(by exact zm)
             . exact(by intro x e;cases e)
             . exact lbt rfl
             clear S;rintro h ⟨S,mo⟩;clear mo;simp only [LC,ah,lay,yF,yG,Nat.reduceAdd]at S
             have ips:fj (.int .i64 (a.s:Int)) γ.nodes=some a.s:=ij a1
             have ipt:fj (.int .i64 (a.t:Int)) γ.nodes=some a.t:=ij a2
             have lds:=S.ld (b:=bl) (o:=a.s) m1 (uP a1)
             have ldt:=S.ld (b:=bl) (o:=a.t) m1 (uP a2)
             have wsum:aq .i64 ((l' a.s:Int)+(a.w:Int))=((l' a.s+a.w:Nat):Int):=by rw [wrap64]<;>omega
             simp only [BS]
             refine ay (aF rfl) (q:=0) (ps:=[]) (by kernel_rfl) ?_
             by_cases e1:l' a.s<FAR
             . have e1':(l' a.s:Int)<72057594037927936:=by omega
               by_cases e2:l' a.s+a.w<l' a.t
               . have e2':((l' a.s+a.w:Nat):Int)<(l' a.t:Int):=by omega
                 simp only [BS,LB,cls,Nat.reduceLT,Nat.reduceEqDiff,Nat.reduceAdd,Nat.reducePow,Nat.reduceDiv,Nat.reduceMod,Nat.reduceLeDiff,Tryz.FFrl1126,r5,ips,ipt,lds,ldt,wsum,e1',e2',S.ld (b:=b9) (o:=0) m0 rfl,S.ld (b:=b9) (o:=1) m0 rfl,S.ld (b:=b9) (o:=2) m0 rfl]
                 refine ay (aF rfl) (q:=0) (ps:=[]) (by kernel_rfl) ?_
                 simp only [BS,LB,cls,Nat.reduceLT,Nat.reduceEqDiff,Nat.reduceAdd,Nat.reducePow,Nat.reduceDiv,Nat.reduceMod,Nat.reduceLeDiff,Tryz.FFrl1126,r5,ips,ipt,lds,wsum,S.ld (b:=b9) (o:=0) m0 rfl,S.ld (b:=b9) (o:=1) m0 rfl,S.ld (b:=b9) (o:=2) m0 rfl]
                 refine dM (aB S (i:=1) rfl zu bu (by rw [tw];omega) ono) ?_
                 clear S lds ldt;rintro h ⟨S,_⟩
                 simp only [LC,tW]at S
                 simp only [BS,LB,Nat.reduceLT,Nat.reduceEqDiff,Nat.reduceAdd,r8,wk]
                 have hsum:=sum_upd (l:=l') (v:=a.t) (x:=l' a.s+a.w) a2
                 refine ihk (k+1) _ _ (by omega) ⟨by omega,_,true,hL.step am e1 e2,S.drop1,.inr ⟨rfl,?_⟩,by simp [aa,r2,ab],by simp [aa,r5],by simp [aa],by simp [aa]⟩
                 rcases hc with⟨_,rfl,_⟩|⟨_,h⟩<;>omega
               . have e2': ¬((l' a.s+a.w:Nat):Int)<(l' a.t:Int):=by omega
                 simp only [BS,LB,cls,Nat.reduceLT,Nat.reduceEqDiff,Nat.reduceAdd,Nat.reducePow,Nat.reduceDiv,Nat.reduceMod,Nat.reduceLeDiff,Tryz.FFrl1126,r5,r8,ips,ipt,lds,ldt,wsum,e1',e2',wk,S.ld (b:=b9) (o:=0) m0 rfl,S.ld (b:=b9) (o:=1) m0 rfl,S.ld (b:=b9) (o:=2) m0 rfl]
                 refine ihk (k+1) _ _ (by omega) ⟨by omega,_,ch,hL,S.drop1,hc.imp (fun⟨x,y,z⟩=>⟨x,y,fun j hj=>?_⟩) id,by simp [aa,r2,ab],by simp [aa,r5],by simp [aa,r7],by simp [aa]⟩
                 by_cases ej:j=k
                 . subst ej;subst y;rw [ags];intro _;omega
                 . exact z j (by omega)
             . have e1': ¬(l' a.s:Int)<72057594037927936:=by omega
               simp only [BS,LB,cls,Nat.reduceLT,Nat.reduceEqDiff,Nat.reduceAdd,Nat.reducePow,Nat.reduceDiv,Nat.reduceMod,Nat.reduceLeDiff,Tryz.FFrl1126,r5,r8,ips,lds,e1',wk,S.ld (b:=b9) (o:=0) m0 rfl,S.ld (b:=b9) (o:=1) m0 rfl,S.ld (b:=b9) (o:=2) m0 rfl]
               refine ihk (k+1) _ _ (by omega) ⟨by omega,_,ch,hL,S.drop1,hc.imp (fun⟨x,y,z⟩=>⟨x,y,fun j hj=>?_⟩) id,by simp [aa,r2,ab],by simp [aa,r5],by simp [aa,r7],by simp [aa]⟩
               by_cases ej:j=k
               . subst ej;subst y;rw [ags];intro h;exact absurd h e1
               . exact z j (by omega)
           . simp only [BS,LB,ae,Nat.reduceLT,Nat.reduceEqDiff,Tryz.FFrl1126,r2,r5,r8,gaC.lenq,ax,hkt,S.ld (b:=b2) (o:=3) m1 rfl]
             have hk':k=γ.arcs.length:=by omega
             subst hk'
             refine ih (l',ch) _ _ ?_ ⟨hL,S,fun h=>?_,by simp [aa,r2,ab],by simp [aa,r5],by simp [aa,r7]⟩
             . rcases hc with⟨rfl,rfl,_⟩|⟨rfl,h⟩
               . simp
               . simp;omega
             . rcases hc with⟨_,rfl,h⟩|⟨h2,_⟩
               . exact h
               . exact absurd (h2.symm.trans h) (by decide)
         . exact⟨yu _,l,false,hL,S,.inl ⟨rfl,rfl,fun j hj=>by omega⟩,by simp [aa,r2,ab],by simp [aa,r5],by simp [aa],by simp [aa]⟩
     . exact⟨L0,S,fun h=>(by cases h),by simp [aa,r2,ab],by simp [aa,r5],by simp [aa]⟩
 . exact⟨yu _,_,S,by simp [aa,aQ,ce],by simp [aa,ab],by simp [aa],by simp [aa]⟩
open Tryz in
def Tryz.FFfl10125:=aj a1<|aj s1<|aj z1<|aj n1<|aj u2<|aj a2<|aj s2<|aj z2<|aj i2<|aj u3<|aj a3<|aj s3<|aj z3<|aj i3<|aj u4<|aj a4<|aj s4<|aj z4<|aj n4<|aj u5<|aj a5<|aj s5<|aj z5<|aj i5<|aj u6<|aj a6<|aj s6<|aj z6<|aj i6<|aj a7<|aj s7<|aj z7<|aj i7<|aj n7<|aj p7<|aj ff7<|aj d7<|aj a8<|aj s8<|aj z8<|aj i8<|aj n8<|aj p8<|aj ff8<|aj d8<|aj u9<|aj a9<|aj s9<|aj z9<|aj n9<|aj u10<|aj a10<|aj s10<|aj z10<|aj n10<|aj u11<|aj a11<|aj s11<|aj z11<|aj n11<|aj u12<|aj a12<|aj s12<|aj z12<|aj i12<|aj a13<|aj s13<|aj z13<|aj i13<|aj n13<|aj p13<|aj ff13<|aj d13<|aj u25<|aj a25<|aj s25<|aj z25<|aj q25<|aj n25<|aj u26<|aj a26<|aj s26<|aj z26<|aj q26<|aj n26<|aj a28<|aj s28<|aj z28<|aj i28<|aj n28<|aj p28<|aj ff28<|aj d28<|aj u38<|aj a38<|aj s38<|aj z38<|aj q38<|aj n38<|aj a49<|aj s49<|aj z49<|aj i49<|aj n49<|aj p49<|aj ff49<|d49
theorem slN_of{h:Hp}{v:Value}{m:List Int}{N:Nat}{c:Nat->Nat}(s:aC h 1 (encI .i64) v m)(hl:m.length=N)(hv: ∀v,v<N->m.getD v 0=(c v:Int)):aC h 1 bO v ((yv N).map c):=by
 have e:m=((yv N).map c).map (fun(x:Nat)=>(x:Int)):=by
  refine List.ext_getElem (by simp [hl]) fun i h1 h2=>?_
  have:=hv i (by omega)
  simpa [yr,h1]using this
 rcases s with⟨rfl,e0⟩|⟨b,o,s,cc,rfl,h2,h3⟩
 . subst e0
   have:N=0:=by simpa using hl.symm
   subst this
   exact .inl ⟨rfl,rfl⟩
 . refine .inr ⟨b,o,s,cc,by simp [hl],by simpa [hl]using h2,?_⟩
   rw [e,yI,ze]at h3
   exact h3
def borK(γ:Gra)(c:Nat->Nat)(k v j:Nat):Bool:=(γ.arcs.take j).any fun e=>decide (e.t=v/\c v=k/\c e.s≠k)
theorem borK_all{γ:Gra}{c:Nat->Nat}{k v:Nat}:borK γ c k v γ.arcs.length=jd γ c k v:=by
 rw [Bool.eq_iff_iff,qL,borK,yM,List.any_eq_true]
 constructor
 . rintro⟨e,he,h⟩
   obtain⟨h1,h2,h3⟩:=of_decide_eq_true h
   exact⟨h2,e,he,h1,h3⟩
 . rintro⟨h1,e,he,h2,h3⟩
   exact⟨e,he,decide_eq_true ⟨h2,h1,h3⟩⟩
theorem borK_succ{γ:Gra}{c:Nat->Nat}{k v j:Nat}(hj:j<γ.arcs.length):borK γ c k v (j+1)=(borK γ c k v j||decide (γ.arcs[j].t=v/\c v=k/\c γ.arcs[j].s≠k)):=by
 unfold borK
 rw [yw hj,List.any_append]
 simp
theorem borR_ok{h0:Hp}(ok:h0.t.Sized h0.n){γ:Gra}(hγ:Good γ){vx vy va vm:Value}(ga:ca h0 vx vy va γ){c:Nat->Nat}(sM:aC h0 1 bO vm ((yv γ.nodes).map c)){k:Nat}:
 Ret yC 125 [cZ γ vx vy va,vm,.int .i64 (k:Nat)] h0 fun r h'=>Gr h0 h'/\aC h' 1 bO r ((yv γ.nodes).filter (jd γ c k)):=by
 have S:=Si ok
 have n1:=hγ.n1
 have n2:=hγ.n2
 have many:=hγ.many
 have fx:=ga.X.fl
 have fy:=ga.Y.fl
 have fa:=ga.A.fl
 have fm:=sM.fl
 have lm:((yv γ.nodes).map c).length=γ.nodes:=by simp
 refine ac (n:=67) (rs:=[.tmp 6]) rfl Tryz.e125 rfl rfl rfl (lbt rfl) ?_
 simp only [BS,Nat.reduceLT,cZ]
 refine ag (bE (by intro x e;cases e)) S ?_;clear S;intro h b3 S n_b3;simp only [ah]at S
 simp only [BS]
 replace S:=S.nilG (k:=1)
 refine aJ (fun(v:Nat) ρ h=>v<=γ.nodes/\ ∃(vR:Value),St NoM h0 h [(b3,.row [.int .i64 γ.nodes,vx,vy,va] 1)] [(vR,1,cS ((yv v).filter (jd γ c k)))]/\ρ 1=vm/\ρ 2=.int .i64 (k:Nat)/\ρ 3=ptrTo b3/\ρ 7=vR/\ρ 8=.int .i64 v) (fun v=>γ.nodes-v) ?_ 0 _ _ ?_
 . clear S
   intro v ih ρ h ⟨hi,vR,S,r1,r2,r3,r7,r8⟩
   have w:aq .i64 ((v:Int)+1)=((v+1:Nat):Int):=by rw [wrap64]<;>omega
   have fvR:Fl vR:=by
    rcases(S.gown _ m0).1 with⟨e,_⟩|⟨_,_,e,_⟩
    . rw [show vR=_ from e];exact cg
    . rw [show vR=_ from e];exact cg
   by_cases hlt:v<γ.nodes
   . simp only [BS,LB,Nat.reduceLT,Nat.reduceEqDiff,Tryz.FFfl10125,r1,r3,r8,ax,hlt,sM.lenq,lm,S.ld (b:=b3) (o:=0) m0 rfl]
     refine aJ (fun(j:Nat) ρ h=>j<=γ.arcs.length/\St NoM h0 h [(b3,.row [.int .i64 γ.nodes,vx,vy,va] 1)] [(vR,1,cS ((yv v).filter (jd γ c k)))]/\ρ 1=vm/\ρ 2=.int .i64 (k:Nat)/\ρ 3=ptrTo b3/\ρ 7=vR/\ρ 8=.int .i64 v/\ρ 9=.bool (borK γ c k v j)/\ρ 10=.int .i64 j) (fun j=>γ.arcs.length-j) ?_ 0 _ _ ?_
     . clear S r1 r2 r3 r7 r8
       intro j ihj ρ h ⟨hj,S,r1,r2,r3,r7,r8,r9,r10⟩
       have wj:aq .i64 ((j:Int)+1)=((j+1:Nat):Int):=by rw [wrap64]<;>omega
       have gaC:=ga.A.gr S.gr
       by_cases hjt:j<γ.arcs.length
       . obtain ⟨c3,o3,x3,y3⟩:=gaC.ix (kd:=.i64) cK hjt
         have am:=yx hjt
         obtain⟨a1,a2,a3⟩:=hγ.arcs _ am
         have bs:=borK_succ (c:=c) (k:=k) (v:=v) hjt
         generalize γ.arcs[j]=a at am a1 a2 a3 bs y3
         simp only [BS,LB,Nat.reduceLT,Nat.reduceEqDiff,Tryz.FFfl10125,r3,r10,gaC.lenq,ax,hjt,x3,y3,S.ld (b:=b3) (o:=3) m0 rfl]
         refine ag aw S ?_;clear S;intro h b11 S n_b11
         simp only [BS,LB,Nat.reduceLT,Nat.reduceEqDiff,bw]
         refine aA (S.store (i:=0) rfl ?_ ?_ rfl rfl ?_ ono) ?_
         . exact(by exact zm)
         . exact(by intro x e;cases e)
         . exact lbt rfl
         clear S;rintro h ⟨S,mo⟩;clear mo;simp only [LC,ah,lay,yF,yG,Nat.reduceAdd]at S
         obtain⟨c4,o4,x4,y4⟩:=(sM.gr S.gr).ix (kd:=.i64) bQ (i:=v) (by rw [lm];exact hlt)
         obtain⟨c5,o5,x5,y5⟩:=(sM.gr S.gr).ix (kd:=.i64) bQ (i:=a.s) (by rw [lm];exact a1)
         rw [yW,yR]at y4 y5
         replace y4:h.load c4 o4 1=some [.int .i64 (c v:Nat)]:=y4
         replace y5:h.load c5 o5 1=some [.int .i64 (c a.s:Nat)]:=y5
         have q1:((a.t:Int)=(v:Int))=(a.t=v):=propext ⟨fun h=>by omega,fun h=>by omega⟩
         have q2:((c v:Int)=(k:Int))=(c v=k):=propext ⟨fun h=>by omega,fun h=>by omega⟩
         have q3:((c a.s:Int)=(k:Int))=(c a.s=k):=propext ⟨fun h=>by omega,fun h=>by omega⟩
         cases hb:borK γ c k v j with
         | true=>
           rw [hb]at r9 bs
           simp only [BS,LB,Nat.reduceLT,Nat.reduceEqDiff,r9,r10,wj]
           exact ihj (j+1) _ _ (by omega) ⟨by omega,S.drop1,by simp [aa,r1],by simp [aa,r2],by simp [aa,r3,ab],by simp [aa,r7],by simp [aa,r8],by rw [bs];simp [aa,r9],by simp [aa]⟩
         | false =>
           rw [hb]at r9 bs
           by_cases e1:a.t=v
           . by_cases e2:c v=k
             . by_cases e3:c a.s=k
               . simp only [BS,LB,Nat.reduceLT,Nat.reduceEqDiff,Tryz.FFfl10125,r1,r2,r8,r9,r10,wj,e1,e2,e3,x4,y4,x5,y5,S.ld (b:=b11) (o:=0) m0 rfl,S.ld (b:=b11) (o:=1) m0 rfl]
                 exact ihj (j+1) _ _ (by omega) ⟨by omega,S.drop1,by simp [aa,r1],by simp [aa,r2],by simp [aa,r3,ab],by simp [aa,r7],by simp [aa,r8],by rw [bs];simp [aa,e1,e2,e3],by simp [aa]⟩
               . simp only [BS,LB,Nat.reduceLT,Nat.reduceEqDiff,Tryz.FFfl10125,r1,r2,r8,r9,r10,wj,q3,e1,e2,e3,x4,y4,x5,y5,S.ld (b:=b11) (o:=0) m0 rfl,S.ld (b:=b11) (o:=1) m0 rfl]
                 exact ihj (j+1) _ _ (by omega) ⟨by omega,S.drop1,by simp [aa,r1],by simp [aa,r2],by simp [aa,r3,ab],by simp [aa,r7],by simp [aa,r8],by rw [bs];simp [aa,e1,e2,e3],by simp [aa]⟩
             . simp only [BS,LB,Nat.reduceLT,Nat.reduceEqDiff,Tryz.FFfl10125,r1,r2,r8,r9,r10,wj,q2,e1,e2,x4,y4,S.ld (b:=b11) (o:=0) m0 rfl,S.ld (b:=b11) (o:=1) m0 rfl]
               exact ihj (j+1) _ _ (by omega) ⟨by omega,S.drop1,by simp [aa,r1],by simp [aa,r2],by simp [aa,r3,ab],by simp [aa,r7],by simp [aa,r8],by rw [bs];simp [aa,e1,e2],by simp [aa]⟩
           . simp only [BS,LB,Nat.reduceLT,Nat.reduceEqDiff,Tryz.FFfl10125,r8,r9,r10,wj,q1,e1,S.ld (b:=b11) (o:=0) m0 rfl,S.ld (b:=b11) (o:=1) m0 rfl]
             exact ihj (j+1) _ _ (by omega) ⟨by omega,S.drop1,by simp [aa,r1],by simp [aa,r2],by simp [aa,r3,ab],by simp [aa,r7],by simp [aa,r8],by rw [bs];simp [aa,e1],by simp [aa]⟩
       . have hjE:j=γ.arcs.length:=by omega
         subst hjE
         rw [borK_all]at r9
         cases hb:jd γ c k v with
         | true=>
           rw [hb]at r9
           simp only [BS,LB,ae,Nat.reduceLT,Nat.reduceEqDiff,Tryz.FFfl10125,r3,r7,r8,r9,r10,gaC.lenq,ax,hjt,S.ld (b:=b3) (o:=3) m0 rfl]
           refine ag (bN (by exact zw) (by exact zx) (by decide) (by rfl)) S ?_;clear S;intro h bt S n_bt;simp only [LC,aT,bD,ah,Nat.reduceMul,Nat.reduceAdd,yP,yE,yH,yT]at S
           simp only [BS,LB,Nat.reduceLT,Nat.reduceEqDiff]
           have src:aO h 1 (.slice (some ⟨bt,0,none⟩) 1 1)=some (1,cS [v]):=by simp only [aO];rw [S.lds (b:=bt) (o:=0) (n:=1*1) m0 (lbt rfl)];rfl
           replace S:=S.drop1
           refine ew (S.grow (j:=0) (m:=1) (new:=cS [v]) rfl zw zx (by decide) Tryz.n38 src rfl (by decide) rfl (by rw [h9,h9];have:=iH (n:=v) (f:=jd γ c k);simp;omega)) ?_
           clear S src;rintro h vR' S
           simp only [LC,<-qK]at S
           simp only [BS,LB,Nat.reduceLT,Nat.reduceEqDiff,r8,w]
           refine ih (v+1) _ _ (by omega) ⟨by omega,vR',?_,by simp [aa,r1],by simp [aa,r2],by simp [aa,r3,ab],by simp [aa],by simp [aa]⟩
           rw [eB,if_pos hb]
           exact S
         | false=>
           rw [hb]at r9
           simp only [BS,LB,ae,Nat.reduceLT,Nat.reduceEqDiff,Tryz.FFfl10125,r3,r7,r8,r9,r10,gaC.lenq,ax,hjt,w,S.ld (b:=b3) (o:=3) m0 rfl]
           refine ih (v+1) _ _ (by omega) ⟨by omega,vR,?_,by simp [aa,r1],by simp [aa,r2],by simp [aa,r3,ab],by simp [aa,r7],by simp [aa]⟩
           rw [eB,if_neg (by rw [hb];decide),yY]
           exact S
     . exact⟨yu _,S,by simp [aa,r1],by simp [aa,r2],by simp [aa,r3,ab],by simp [aa,r7],by simp [aa,r8],by simp [aa,borK],by simp [aa]⟩
   . have:v=γ.nodes:=by omega
     subst this
     simp only [BS,LB,ae,Nat.reduceLT,Nat.reduceEqDiff,Tryz.FFfl10125,r3,r7,r8,ax,hlt,S.ld (b:=b3) (o:=0) m0 rfl]
     exact⟨S.gr,(S.gown _ m0).1.sl rfl bQ (by decide)⟩
 . exact⟨yu _,_,S,by simp [aa,cf,ab],by simp [aa,cf],by simp [aa,ab],by simp [aa],by simp [aa]⟩
open Tryz in
def Tryz.FFfl1161:=aj a1<|aj s1<|aj z1<|aj n1<|aj u2<|aj a2<|aj s2<|aj z2<|aj i2<|aj u3<|aj a3<|aj s3<|aj z3<|aj i3<|aj u4<|aj a4<|aj s4<|aj z4<|aj n4<|aj u5<|aj a5<|aj s5<|aj z5<|aj i5<|aj u6<|aj a6<|aj s6<|aj z6<|aj i6<|aj a7<|aj s7<|aj z7<|aj i7<|aj n7<|aj p7<|aj ff7<|aj d7<|aj a8<|aj s8<|aj z8<|aj i8<|aj n8<|aj p8<|aj ff8<|aj d8<|aj u9<|aj a9<|aj s9<|aj z9<|aj n9<|aj u10<|aj a10<|aj s10<|aj z10<|aj n10<|aj u11<|aj a11<|aj s11<|aj z11<|aj n11<|aj u25<|aj a25<|aj s25<|aj z25<|aj q25<|aj n25<|aj u26<|aj a26<|aj s26<|aj z26<|aj q26<|aj n26<|aj a28<|aj s28<|aj z28<|aj i28<|aj n28<|aj p28<|aj ff28<|aj d28<|aj u38<|aj a38<|aj s38<|aj z38<|aj q38<|aj n38<|aj a49<|aj s49<|aj z49<|aj i49<|aj n49<|aj p49<|aj ff49<|d49
open Tryz in
def Tryz.FFfl1120:=aj a1<|aj s1<|aj z1<|aj n1<|aj u2<|aj a2<|aj s2<|aj z2<|aj i2<|aj u3<|aj a3<|aj s3<|aj z3<|aj i3<|aj u4<|aj a4<|aj s4<|aj z4<|aj n4<|aj u5<|aj a5<|aj s5<|aj z5<|aj i5<|aj u6<|aj a6<|aj s6<|aj z6<|aj i6<|aj a7<|aj s7<|aj z7<|aj i7<|aj n7<|aj p7<|aj ff7<|aj d7<|aj u25<|aj a25<|aj s25<|aj z25<|aj q25<|aj n25<|aj u26<|aj a26<|aj s26<|aj z26<|aj q26<|aj n26<|aj a28<|aj s28<|aj z28<|aj i28<|aj n28<|aj p28<|aj ff28<|aj d28<|aj u38<|aj a38<|aj s38<|aj z38<|aj q38<|aj n38<|aj a49<|aj s49<|aj z49<|aj i49<|aj n49<|aj p49<|aj ff49<|d49
theorem tJ{γ:Gra}(hγ:Good γ):Good (eU γ):=
 ⟨hγ.n1,hγ.n2,hγ.lX,hγ.lY,hγ.cX,hγ.cY,by simpa [eU]using hγ.many,fun a ha=>by
  obtain⟨b,hb,rfl⟩:=List.mem_map.1 ha
  exact⟨(hγ.arcs b hb).2.1,(hγ.arcs b hb).1,(hγ.arcs b hb).2.2⟩⟩
theorem oN{γ:Gra}{c:Nat->Nat}{k a:Nat}(ha:a<γ.arcs.length):a∈bK γ c k↔jX γ c k a=true\/ ∃b∈(yv γ.nodes).filter (jd γ c k),dW γ b a=true:=by
 unfold bK li
 rw [List.mem_append,List.mem_filter,List.mem_flatMap]
 simp only [List.mem_filter,List.mem_range,ha,true_and]
theorem worth_ins{γ:Gra}{c:Nat->Nat}{k a:Nat}(ha:a<γ.arcs.length)(h:jX γ c k a=true):decide (a∈bK γ c k)=true:=decide_eq_true ((oN ha).2 (.inl h))
theorem onR_ok {h0:Hp} (ok:h0.t.Sized h0.n) {γ:Gra} (hγ:Good γ) {vx vy va vm:Value} (ga:ca h0 vx vy va γ) {c:Nat->Nat} (sM:aC h0 1 bO vm ((yv γ.nodes).map c)) {k a:Nat} (ha:a<γ.arcs.length)
 (eT: ∀{s:Nat},s<γ.nodes-> ∀v,IsD (seen γ.arcs Arc.t Arc.s) s v (dOf (seen γ.arcs Arc.t Arc.s) s v)):
 bF yC 61 [cZ γ vx vy va,vm,.int .i64 (k:Nat),.int .i64 (a:Nat)] h0 (.bool (decide (a∈bK γ c k))):=by
 have S:=Si ok
 have n1:=hγ.n1
 have n2:=hγ.n2
 have many:=hγ.many
 have fx:=ga.X.fl
 have fy:=ga.Y.fl
 have fa:=ga.A.fl
 have fm:=sM.fl
 have hF:=gY
 have lm:((yv γ.nodes).map c).length=γ.nodes:=by simp
 refine ac (n:=81) (rs:=[.tmp 8]) rfl Tryz.e61 rfl rfl rfl (lbt rfl) ?_
 simp only [BS,Nat.reduceLT,cZ]
 refine ag (bE (by intro x e;cases e)) S ?_;clear S;intro h b4 S n_b4;simp only [ah]at S
 obtain⟨c3,o3,x3,y3⟩:=(ga.A.gr S.gr).ix (kd:=.i64) cK ha
 have am:=yx ha
 obtain⟨a1,a2,a3⟩:=hγ.arcs _ am
 have ags:γ.arcs.getD a default=γ.arcs[a]:=by simp [yr,ha]
 generalize γ.arcs[a]=e at am a1 a2 a3 ags y3
 simp only [BS,LB,Nat.reduceLT,Nat.reduceEqDiff,Tryz.FFfl1161,x3,y3,S.ld (b:=b4) (o:=3) m0 rfl]
 refine ag aw S ?_;clear S;intro h b9 S n_b9
 simp only [BS,LB,Nat.reduceLT,Nat.reduceEqDiff,bw]
 refine aA (S.store (i:=0) rfl ?_ ?_ rfl rfl ?_ ono) ?_
 . exact(by exact zm)
 . exact(by intro x e;cases e)
 . exact lbt rfl
 clear S;rintro h ⟨S,mo⟩;clear mo;simp only [LC,ah,lay,yF,yG,Nat.reduceAdd]at S
 obtain⟨c4,o4,x4,y4⟩:=(sM.gr S.gr).ix (kd:=.i64) bQ (i:=e.s) (by rw [lm];exact a1)
 obtain⟨c5,o5,x5,y5⟩:=(sM.gr S.gr).ix (kd:=.i64) bQ (i:=e.t) (by rw [lm];exact a2)
 rw [yW,yR]at y4 y5
 replace y4:h.load c4 o4 1=some [.int .i64 (c e.s:Nat)]:=y4
 replace y5:h.load c5 o5 1=some [.int .i64 (c e.t:Nat)]:=y5
 have q1:((c e.s:Int)=(k:Int))=(c e.s=k):=propext ⟨fun h=>by omega,fun h=>by omega⟩
 have q2:((c e.t:Int)=(k:Int))=(c e.t=k):=propext ⟨fun h=>by omega,fun h=>by omega⟩
 have wl:=oN (γ:=γ) (c:=c) (k:=k) ha
 have hi:jX γ c k a=decide (c e.s=k/\c e.t=k):=by unfold jX;rw [ags]
 by_cases e1:c e.s=k
 . by_cases e2 :c e.t=k
   . have hw:decide (a∈bK γ c k)=true:=worth_ins ha (by rw [hi];exact decide_eq_true ⟨e1,e2⟩)
     rw [hw]
     simp only [BS,LB,ae,Nat.reduceLT,Nat.reduceEqDiff,Tryz.FFfl1161,e1,e2,x4,y4,x5,y5,S.ld (b:=b9) (o:=0) m0 rfl,S.ld (b:=b9) (o:=1) m0 rfl]
     exact S.gr
   . have hi0:jX γ c k a=false:=by rw [hi];exact decide_eq_false fun h=>e2 h.2
     rw [hi0]at wl
     simp only [BS,LB,Nat.reduceLT,Nat.reduceEqDiff,Tryz.FFfl1161,q2,e1,e2,x4,y4,x5,y5,yA,yy,yB,S.ld (b:=b9) (o:=0) m0 rfl,S.ld (b:=b9) (o:=1) m0 rfl,S.lds (b:=b4) (o:=0) (n:=4) m1 (lbt rfl)]
     refine step_ret (borR_ok S.ok hγ (ga.gr S.gr) (sM.gr S.gr) (k:=k)) ?_
     rintro vL h2 ⟨g2,sL⟩
     replace S:=S.call g2
     clear x3 y3 x4 y4 x5 y5 g2
     generalize hL:(yv γ.nodes).filter (jd γ c k)=L at sL wl
     have hLn: ∀b∈L,b<γ.nodes:=fun b hb=>by rw [<-hL]at hb;exact List.mem_range.1 (List.mem_filter.1 hb).1
     have hLl:L.length<=γ.nodes:=by rw [<-hL];exact iH
     simp only [BS,LB,Nat.reduceLT,Nat.reduceEqDiff]
     refine aJ (fun(i:Nat) ρ h=>i<=L.length/\(∀b∈L.take i,dW γ b a=false)/\St NoM h0 h [(b9,.row [.int .i64 e.s,.int .i64 e.t,.int .i64 e.w] 1),(b4,.row [.int .i64 γ.nodes,vx,vy,va] 1)] []/\aC h 1 bO vL L/\ρ 4=ptrTo b4/\ρ 9=ptrTo b9/\ρ 10=vL/\ρ 11=.int .i64 i) (fun i=>L.length-i) ?_ 0 _ _ ?_
     . clear S sL
       intro i ih ρ h ⟨hi,hno,S,sL,r4,r9,r10,r11⟩
       have w:aq .i64 ((i:Int)+1)=((i+1:Nat):Int):=by rw [wrap64]<;>omega
       by_cases hlt:i<L.length
       . obtain⟨q,o,hidx,hld⟩:=sL.ix (kd:=.i64) bQ hlt
         have hb:=hLn _ (yx hlt)
         have hm:=yx hlt
         have tk:L.take (i+1)=L.take i++[L[i]]:=yw hlt
         generalize L[i]=b at hb hld hm tk
         replace hld:h.load q o 1=some [.int .i64 (b:Nat)]:=hld
         have lq:=bH S.ok hld
         simp only [BS,LB,Nat.reduceLT,Nat.reduceEqDiff,Tryz.FFfl1161,r10,r11,ax,hlt,sL.lenq]
         refine ay (aF rfl) (q:=0) (ps:=[(1,5)]) (by kernel_rfl) ?_
         simp only [BS,LB,cls,Nat.reduceLT,Nat.reduceEqDiff,Nat.reducePow,Nat.reduceDiv,Nat.reduceMod,Nat.reduceLeDiff,Tryz.FFfl1161,r4,yA,yy,yB,S.lds (b:=b4) (o:=0) (n:=4) m1 (lbt rfl)]
         have td:=tB S.ok hγ (ga.gr S.gr)
         unfold cZ at td
         refine dp td ?_
         rintro r h3 ⟨g,vx',vy',va',er,ga'⟩
         subst er
         have p1:leaves _ _ q=true:=az g lq
         have g1:=g.n
         replace S:=S.call g;replace sL:=sL.gr g;replace hld:=g.load hld;clear g
         simp only [BS,LB,cls,Nat.reduceLT,Nat.reduceEqDiff,Nat.reduceAdd,Nat.reducePow,Nat.reduceDiv,Nat.reduceMod,Nat.reduceLeDiff,Tryz.FFfl1161,r10,r11,hidx,hld]
         have ls:=vN S.ok (tJ hγ) ga' (s:=b) hb (fun v _=>eT hb v)
         unfold cZ at ls
         refine dp ls ?_
         rintro y h4 ⟨g,sy,ny⟩
         have p3:leaves _ _ q=true:=az g (yD lq g1)
         replace S:=S.call g;replace sL:=sL.gr g;clear g hld
         have fy1:=sy.fl
         simp only [BS,LB,cls,Nat.reduceLT,Nat.reduceEqDiff,Nat.reduceAdd,Nat.reducePow,Nat.reduceDiv,Nat.reduceMod,Nat.reduceLeDiff]
         refine⟨by simp only [bj,bC,aW,bA,aZ,ne_eq,not_false_eq_true,bG,bU,bg,aY,bS,cM,aN,Nat.reduceLT,Nat.reduceEqDiff,reduceIte,yz,r4,r9,r10,r11,ab,aM p1,aR p1,aM p3,aR p3],?_⟩
         have ly:(jW (eU γ).arcs (eU γ).nodes b).length=γ.nodes:=oK _ _ _
         obtain⟨c6,o6,x6,y6⟩:=sy.ix (kd:=.i64) (bT .i64) (i:=e.s) (by rw [ly];exact a1)
         obtain⟨c7,o7,x7,y7⟩:=sy.ix (kd:=.i64) (bT .i64) (i:=e.t) (by rw [ly];exact a2)
         have ey: ∀u,(hu:u<(jW (eU γ).arcs (eU γ).nodes b).length)->(jW (eU γ).arcs (eU γ).nodes b)[u]=((dOf (seen γ.arcs Arc.t Arc.s) b u:Nat):Int):=fun u hu=>by
          simp only [jW,yW,yR];rfl
         rw [ey]at y6 y7
         have tg:dW γ b a=decide (dOf (seen γ.arcs Arc.t Arc.s) b e.s<FAR/\dOf (seen γ.arcs Arc.t Arc.s) b e.t<FAR/\dOf (seen γ.arcs Arc.t Arc.s) b e.s=e.w+dOf (seen γ.arcs Arc.t Arc.s) b e.t):=by unfold dW;rw [ags]
         have dl:=(eT hb e.t).le
         generalize dOf (seen γ.arcs Arc.t Arc.s) b e.s=ds at y6 tg
         generalize dOf (seen γ.arcs Arc.t Arc.s) b e.t=dt at y7 tg dl
         replace y6:h4.load c6 o6 1=some [.int .i64 (ds:Nat)]:=y6
         replace y7:h4.load c7 o7 1=some [.int .i64 (dt:Nat)]:=y7
         have wsum:aq .i64 ((e.w:Int)+(dt:Int))=((e.w+dt:Nat):Int):=by rw [wrap64]<;>omega
         have z1:((ds:Int)<72057594037927936)=(ds<FAR):=propext ⟨fun h=>by omega,fun h=>by omega⟩
         have z2:((dt:Int)<72057594037927936)=(dt<FAR):=propext ⟨fun h=>by omega,fun h=>by omega⟩
         have z3:((ds:Int)=((e.w+dt:Nat):Int))=(ds=e.w+dt):=propext ⟨fun h=>by omega,fun h=>by omega⟩
         have go:dW γ b a=false-> ∀b'∈L.take (i+1),dW γ b' a=false:=fun h b' hb'=>by
          rw [tk]at hb'
          rcases List.mem_append.1 hb' with h'|h'
          . exact hno b' h'
          . rw [List.mem_singleton.1 h'];exact h
         refine ay (aF rfl) (q:=0) (ps:=[]) (by kernel_rfl) ?_
         by_cases k1:ds<FAR
         . by_cases k2:dt<FAR
           . by_cases k3:ds=e.w+dt
             . have ws:aq .i64 ((e.w:Int)+(dt:Int))=(ds:Int):=by rw [wsum,<-k3]
               simp only [BS,LB,cls,ae,Nat.reduceLT,Nat.reduceEqDiff,Nat.reduceAdd,Nat.reducePow,Nat.reduceDiv,Nat.reduceMod,Nat.reduceLeDiff,Tryz.FFfl1161,r9,x6,y6,x7,y7,ws,z1,z2,k1,k2,S.ld (b:=b9) (o:=0) m0 rfl,S.ld (b:=b9) (o:=1) m0 rfl,S.ld (b:=b9) (o:=2) m0 rfl]
               refine⟨?_,S.gr⟩
               have:a∈bK γ c k:=wl.2 (.inr ⟨b,hm,by rw [tg];exact decide_eq_true ⟨k1,k2,k3⟩⟩)
               rw [decide_eq_true this]
             . simp only [BS,LB,cls,Nat.reduceLT,Nat.reduceEqDiff,Nat.reduceAdd,Nat.reducePow,Nat.reduceDiv,Nat.reduceMod,Nat.reduceLeDiff,Tryz.FFfl1161,r9,r11,x6,y6,x7,y7,wsum,z1,z2,z3,k1,k2,k3,w,S.ld (b:=b9) (o:=0) m0 rfl,S.ld (b:=b9) (o:=1) m0 rfl,S.ld (b:=b9) (o:=2) m0 rfl]
               exact ih (i+1) _ _ (by omega) ⟨by omega,go (by rw [tg];exact decide_eq_false fun h=>k3 h.2.2),S,sL,by simp [aa,r4,ab],by simp [aa,r9,ab],by simp [aa,r10],by simp [aa]⟩
           . simp only [BS,LB,cls,Nat.reduceLT,Nat.reduceEqDiff,Nat.reduceAdd,Nat.reducePow,Nat.reduceDiv,Nat.reduceMod,Nat.reduceLeDiff,Tryz.FFfl1161,r9,r11,x6,y6,x7,y7,z1,z2,k1,k2,w,S.ld (b:=b9) (o:=0) m0 rfl,S.ld (b:=b9) (o:=1) m0 rfl,S.ld (b:=b9) (o:=2) m0 rfl]
             exact ih (i+1) _ _ (by omega) ⟨by omega,go (by rw [tg];exact decide_eq_false fun h=>k2 h.2.1),S,sL,by simp [aa,r4,ab],by simp [aa,r9,ab],by simp [aa,r10],by simp [aa]⟩
         . simp only [BS,LB,cls,Nat.reduceLT,Nat.reduceEqDiff,Nat.reduceAdd,Nat.reducePow,Nat.reduceDiv,Nat.reduceMod,Nat.reduceLeDiff,Tryz.FFfl1161,r9,r11,x6,y6,z1,k1,w,S.ld (b:=b9) (o:=0) m0 rfl,S.ld (b:=b9) (o:=1) m0 rfl,S.ld (b:=b9) (o:=2) m0 rfl]
           exact ih (i+1) _ _ (by omega) ⟨by omega,go (by rw [tg];exact decide_eq_false fun h=>k1 h.1),S,sL,by simp [aa,r4,ab],by simp [aa,r9,ab],by simp [aa,r10],by simp [aa]⟩
       . have:i=L.length:=by omega
         subst this
         rw [yM]at hno
         simp only [BS,LB,ae,Nat.reduceLT,Nat.reduceEqDiff,Tryz.FFfl1161,r10,r11,ax,hlt,sL.lenq]
         refine⟨?_,S.gr⟩
         have: ¬a∈bK γ c k:=fun h=>by
          rcases wl.1 h with h|⟨b,hb,h⟩
          . cases h
          . rw [hno b hb]at h;cases h
         rw [decide_eq_false this]
     . exact⟨yu _,fun b hb=>by simp at hb,S,sL,by simp [aa,ab],by simp [aa,ab],by simp [aa],by simp [aa]⟩
 . have hi0:jX γ c k a=false:=by rw [hi];exact decide_eq_false fun h=>e1 h.1
   rw [hi0]at wl
   simp only [BS,LB,Nat.reduceLT,Nat.reduceEqDiff,Tryz.FFfl1161,q1,e1,x4,y4,yA,yy,yB,S.ld (b:=b9) (o:=0) m0 rfl,S.ld (b:=b9) (o:=1) m0 rfl,S.lds (b:=b4) (o:=0) (n:=4) m1 (lbt rfl)]
   refine step_ret (borR_ok S.ok hγ (ga.gr S.gr) (sM.gr S.gr) (k:=k)) ?_
   rintro vL h2 ⟨g2,sL⟩
   replace S:=S.call g2
   clear x3 y3 x4 y4 x5 y5 g2
   generalize hL:(yv γ.nodes).filter (jd γ c k)=L at sL wl
   have hLn: ∀b∈L,b<γ.nodes:=fun b hb=>by rw [<-hL]at hb;exact List.mem_range.1 (List.mem_filter.1 hb).1
   have hLl:L.length<=γ.nodes:=by rw [<-hL];exact iH
   simp only [BS,LB,Nat.reduceLT,Nat.reduceEqDiff]
   refine aJ (fun(i:Nat) ρ h=>i<=L.length/\(∀b∈L.take i,dW γ b a=false)/\St NoM h0 h [(b9,.row [.int .i64 e.s,.int .i64 e.t,.int .i64 e.w] 1),(b4,.row [.int .i64 γ.nodes,vx,vy,va] 1)] []/\aC h 1 bO vL L/\ρ 4=ptrTo b4/\ρ 9=ptrTo b9/\ρ 10=vL/\ρ 11=.int .i64 i) (fun i=>L.length-i) ?_ 0 _ _ ?_
   . clear S sL
     intro i ih ρ h ⟨hi,hno,S,sL,r4,r9,r10,r11⟩
     have w:aq .i64 ((i:Int)+1)=((i+1:Nat):Int):=by rw [wrap64]<;>omega
     by_cases hlt:i<L.length
     . obtain⟨q,o,hidx,hld⟩:=sL.ix (kd:=.i64) bQ hlt
       have hb:=hLn _ (yx hlt)
       have hm:=yx hlt
       have tk:L.take (i+1)=L.take i++[L[i]]:=yw hlt
       generalize L[i]=b at hb hld hm tk
       replace hld:h.load q o 1=some [.int .i64 (b:Nat)]:=hld
       have lq:=bH S.ok hld
       simp only [BS,LB,Nat.reduceLT,Nat.reduceEqDiff,Tryz.FFfl1161,r10,r11,ax,hlt,sL.lenq]
       refine ay (aF rfl) (q:=0) (ps:=[(1,5)]) (by kernel_rfl) ?_
       simp only [BS,LB,cls,Nat.reduceLT,Nat.reduceEqDiff,Nat.reducePow,Nat.reduceDiv,Nat.reduceMod,Nat.reduceLeDiff,Tryz.FFfl1161,r4,yA,yy,yB,S.lds (b:=b4) (o:=0) (n:=4) m1 (lbt rfl)]
       have td:=tB S.ok hγ (ga.gr S.gr)
       unfold cZ at td
       refine dp td ?_
       rintro r h3 ⟨g,vx',vy',va',er,ga'⟩
       subst er
       have p1:leaves _ _ q=true:=az g lq
       have g1:=g.n
       replace S:=S.call g;replace sL:=sL.gr g;replace hld:=g.load hld;clear g
       simp only [BS,LB,cls,Nat.reduceLT,Nat.reduceEqDiff,Nat.reduceAdd,Nat.reducePow,Nat.reduceDiv,Nat.reduceMod,Nat.reduceLeDiff,Tryz.FFfl1161,r10,r11,hidx,hld]
       have ls:=vN S.ok (tJ hγ) ga' (s:=b) hb (fun v _=>eT hb v)
       unfold cZ at ls
       refine dp ls ?_
       rintro y h4 ⟨g,sy,ny⟩
       have p3:leaves _ _ q=true:=az g (yD lq g1)
       replace S:=S.call g;replace sL:=sL.gr g;clear g hld
       have fy1:=sy.fl
       simp only [BS,LB,cls,Nat.reduceLT,Nat.reduceEqDiff,Nat.reduceAdd,Nat.reducePow,Nat.reduceDiv,Nat.reduceMod,Nat.reduceLeDiff]
       refine⟨by simp only [bj,bC,aW,bA,aZ,ne_eq,not_false_eq_true,bG,bU,bg,aY,bS,cM,aN,Nat.reduceLT,Nat.reduceEqDiff,reduceIte,yz,r4,r9,r10,r11,ab,aM p1,aR p1,aM p3,aR p3],?_⟩
       have ly:(jW (eU γ).arcs (eU γ).nodes b).length=γ.nodes:=oK _ _ _
       obtain⟨c6,o6,x6,y6⟩:=sy.ix (kd:=.i64) (bT .i64) (i:=e.s) (by rw [ly];exact a1)
       obtain⟨c7,o7,x7,y7⟩:=sy.ix (kd:=.i64) (bT .i64) (i:=e.t) (by rw [ly];exact a2)
       have ey: ∀u,(hu:u<(jW (eU γ).arcs (eU γ).nodes b).length)->(jW (eU γ).arcs (eU γ).nodes b)[u]=((dOf (seen γ.arcs Arc.t Arc.s) b u:Nat):Int):=fun u hu=>by
        simp only [jW,yW,yR];rfl
       rw [ey]at y6 y7
       have tg:dW γ b a=decide (dOf (seen γ.arcs Arc.t Arc.s) b e.s<FAR/\dOf (seen γ.arcs Arc.t Arc.s) b e.t<FAR/\dOf (seen γ.arcs Arc.t Arc.s) b e.s=e.w+dOf (seen γ.arcs Arc.t Arc.s) b e.t):=by unfold dW;rw [ags]
       have dl:=(eT hb e.t).le
       generalize dOf (seen γ.arcs Arc.t Arc.s) b e.s=ds at y6 tg
       generalize dOf (seen γ.arcs Arc.t Arc.s) b e.t=dt at y7 tg dl
       replace y6:h4.load c6 o6 1=some [.int .i64 (ds:Nat)]:=y6
       replace y7:h4.load c7 o7 1=some [.int .i64 (dt:Nat)]:=y7
       have wsum:aq .i64 ((e.w:Int)+(dt:Int))=((e.w+dt:Nat):Int):=by rw [wrap64]<;>omega
       have z1:((ds:Int)<72057594037927936)=(ds<FAR):=propext ⟨fun h=>by omega,fun h=>by omega⟩
       have z2:((dt:Int)<72057594037927936)=(dt<FAR):=propext ⟨fun h=>by omega,fun h=>by omega⟩
       have z3:((ds:Int)=((e.w+dt:Nat):Int))=(ds=e.w+dt):=propext ⟨fun h=>by omega,fun h=>by omega⟩
       have go:dW γ b a=false-> ∀b'∈L.take (i+1),dW γ b' a=false:=fun h b' hb'=>by
        rw [tk]at hb'
        rcases List.mem_append.1 hb' with h'|h'
        . exact hno b' h'
        . rw [List.mem_singleton.1 h'];exact h
       refine ay (aF rfl) (q:=0) (ps:=[]) (by kernel_rfl) ?_
       by_cases k1:ds<FAR
       . by_cases k2:dt<FAR
         . by_cases k3:ds=e.w+dt
           . have ws:aq .i64 ((e.w:Int)+(dt:Int))=(ds:Int):=by rw [wsum,<-k3]
             simp only [BS,LB,cls,ae,Nat.reduceLT,Nat.reduceEqDiff,Nat.reduceAdd,Nat.reducePow,Nat.reduceDiv,Nat.reduceMod,Nat.reduceLeDiff,Tryz.FFfl1161,r9,x6,y6,x7,y7,ws,z1,z2,k1,k2,S.ld (b:=b9) (o:=0) m0 rfl,S.ld (b:=b9) (o:=1) m0 rfl,S.ld (b:=b9) (o:=2) m0 rfl]
             refine⟨?_,S.gr⟩
             have:a∈bK γ c k:=wl.2 (.inr ⟨b,hm,by rw [tg];exact decide_eq_true ⟨k1,k2,k3⟩⟩)
             rw [decide_eq_true this]
           . simp only [BS,LB,cls,Nat.reduceLT,Nat.reduceEqDiff,Nat.reduceAdd,Nat.reducePow,Nat.reduceDiv,Nat.reduceMod,Nat.reduceLeDiff,Tryz.FFfl1161,r9,r11,x6,y6,x7,y7,wsum,z1,z2,z3,k1,k2,k3,w,S.ld (b:=b9) (o:=0) m0 rfl,S.ld (b:=b9) (o:=1) m0 rfl,S.ld (b:=b9) (o:=2) m0 rfl]
             exact ih (i+1) _ _ (by omega) ⟨by omega,go (by rw [tg];exact decide_eq_false fun h=>k3 h.2.2),S,sL,by simp [aa,r4,ab],by simp [aa,r9,ab],by simp [aa,r10],by simp [aa]⟩
         . simp only [BS,LB,cls,Nat.reduceLT,Nat.reduceEqDiff,Nat.reduceAdd,Nat.reducePow,Nat.reduceDiv,Nat.reduceMod,Nat.reduceLeDiff,Tryz.FFfl1161,r9,r11,x6,y6,x7,y7,z1,z2,k1,k2,w,S.ld (b:=b9) (o:=0) m0 rfl,S.ld (b:=b9) (o:=1) m0 rfl,S.ld (b:=b9) (o:=2) m0 rfl]
           exact ih (i+1) _ _ (by omega) ⟨by omega,go (by rw [tg];exact decide_eq_false fun h=>k2 h.2.1),S,sL,by simp [aa,r4,ab],by simp [aa,r9,ab],by simp [aa,r10],by simp [aa]⟩
       . simp only [BS,LB,cls,Nat.reduceLT,Nat.reduceEqDiff,Nat.reduceAdd,Nat.reducePow,Nat.reduceDiv,Nat.reduceMod,Nat.reduceLeDiff,Tryz.FFfl1161,r9,r11,x6,y6,z1,k1,w,S.ld (b:=b9) (o:=0) m0 rfl,S.ld (b:=b9) (o:=1) m0 rfl,S.ld (b:=b9) (o:=2) m0 rfl]
         exact ih (i+1) _ _ (by omega) ⟨by omega,go (by rw [tg];exact decide_eq_false fun h=>k1 h.1),S,sL,by simp [aa,r4,ab],by simp [aa,r9,ab],by simp [aa,r10],by simp [aa]⟩
     . have:i=L.length:=by omega
       subst this
       rw [yM]at hno
       simp only [BS,LB,ae,Nat.reduceLT,Nat.reduceEqDiff,Tryz.FFfl1161,r10,r11,ax,hlt,sL.lenq]
       refine⟨?_,S.gr⟩
       have: ¬a∈bK γ c k:=fun h=>by
        rcases wl.1 h with h|⟨b,hb,h⟩
        . cases h
        . rw [hno b hb]at h;cases h
       rw [decide_eq_false this]
   . exact⟨yu _,fun b hb=>by simp at hb,S,sL,by simp [aa,ab],by simp [aa,ab],by simp [aa],by simp [aa]⟩
theorem rowR_ok{h0:Hp}(ok:h0.t.Sized h0.n){γ:Gra}(hγ:Good γ){vx vy va vm:Value}(ga:ca h0 vx vy va γ){c:Nat->Nat}(sM:aC h0 1 bO vm ((yv γ.nodes).map c)){k:Nat}
 (eT: ∀{s:Nat},s<γ.nodes-> ∀v,IsD (seen γ.arcs Arc.t Arc.s) s v (dOf (seen γ.arcs Arc.t Arc.s) s v)):
 Ret yC 20 [cZ γ vx vy va,vm,.int .i64 (k:Nat)] h0 fun r h'=>Gr h0 h'/\aC h' 1 bO r ((yv γ.arcs.length).filter fun a=>decide (a∈bK γ c k)):=by
 have S:=Si ok
 have many:=hγ.many
 have fx:=ga.X.fl
 have fy:=ga.Y.fl
 have fa:=ga.A.fl
 have fm:=sM.fl
 refine ac (n:=26) (rs:=[.tmp 6]) rfl Tryz.e20 rfl rfl rfl (lbt rfl) ?_
 simp only [BS,Nat.reduceLT,cZ]
 refine ag (bE (by intro x e;cases e)) S ?_;clear S;intro h b3 S n_b3;simp only [ah]at S
 simp only [BS]
 replace S:=S.nilG (k:=1)
 refine aJ (fun(a:Nat) ρ h=>a<=γ.arcs.length/\ ∃(vR:Value),St NoM h0 h [(b3,.row [.int .i64 γ.nodes,vx,vy,va] 1)] [(vR,1,cS ((yv a).filter fun a=>decide (a∈bK γ c k)))]/\ρ 1=vm/\ρ 2=.int .i64 (k:Nat)/\ρ 3=ptrTo b3/\ρ 7=vR/\ρ 8=.int .i64 a) (fun a=>γ.arcs.length-a) ?_ 0 _ _ ?_
 . clear S
   intro a ih ρ h ⟨hi,vR,S,r1,r2,r3,r7,r8⟩
   have w:aq .i64 ((a:Int)+1)=((a+1:Nat):Int):=by rw [wrap64]<;>omega
   have gaC:=ga.A.gr S.gr
   have fvR:Fl vR:=by
    rcases(S.gown _ m0).1 with⟨e,_⟩|⟨_,_,e,_⟩
    . rw [show vR=_ from e];exact cg
    . rw [show vR=_ from e];exact cg
   by_cases hlt:a<γ.arcs.length
   . simp only [BS,LB,Nat.reduceLT,Nat.reduceEqDiff,Tryz.FFfl1120,r1,r2,r3,r8,ax,hlt,gaC.lenq,yA,yy,yB,S.ld (b:=b3) (o:=3) m0 rfl,S.lds (b:=b3) (o:=0) (n:=4) m0 (lbt rfl)]
     have on:=onR_ok S.ok hγ (ga.gr S.gr) (sM.gr S.gr) (k:=k) hlt eT
     unfold cZ at on
     refine ar on ?_
     intro h2 g2;replace S:=S.call g2
     by_cases hb:a∈bK γ c k
     . simp only [BS,LB,Nat.reduceLT,Nat.reduceEqDiff,r7,r8,hb]
       refine ag (bN (by exact zw) (by exact zx) (by decide) (by rfl)) S ?_;clear S;intro h bt S n_bt;simp only [LC,aT,bD,ah,Nat.reduceMul,Nat.reduceAdd,yP,yE,yH,yT]at S
       simp only [BS,LB,Nat.reduceLT,Nat.reduceEqDiff]
       have src:aO h 1 (.slice (some ⟨bt,0,none⟩) 1 1)=some (1,cS [a]):=by simp only [aO];rw [S.lds (b:=bt) (o:=0) (n:=1*1) m0 (lbt rfl)];rfl
       replace S:=S.drop1
       refine ew (S.grow (j:=0) (m:=1) (new:=cS [a]) rfl zw zx (by decide) Tryz.n38 src rfl (by decide) rfl (by rw [h9,h9];have:=iH (n:=a) (f:=fun a=>decide (a∈bK γ c k));simp;omega)) ?_
       clear S src;rintro h vR' S
       simp only [LC,<-qK]at S
       simp only [BS,LB,Nat.reduceLT,Nat.reduceEqDiff,r8,w]
       refine ih (a+1) _ _ (by omega) ⟨by omega,vR',?_,by simp [aa,r1],by simp [aa,r2],by simp [aa,r3,ab],by simp [aa],by simp [aa]⟩
       rw [eB,if_pos (decide_eq_true hb)]
       exact S
     . simp only [BS,LB,Nat.reduceLT,Nat.reduceEqDiff,r8,hb,w]
       refine ih (a+1) _ _ (by omega) ⟨by omega,vR,?_,by simp [aa,r1],by simp [aa,r2],by simp [aa,r3,ab],by simp [aa,r7],by simp [aa]⟩
       rw [eB,if_neg (by simpa using hb),yY]
       exact S
   . have:a=γ.arcs.length:=by omega
     subst this
     simp only [BS,LB,ae,Nat.reduceLT,Nat.reduceEqDiff,Tryz.FFfl1120,r3,r7,r8,ax,hlt,gaC.lenq,S.ld (b:=b3) (o:=3) m0 rfl]
     exact⟨S.gr,(S.gown _ m0).1.sl rfl bQ (by decide)⟩
 . exact⟨yu _,_,S,by simp [aa,cf],by simp [aa,cf],by simp [aa,ab],by simp [aa],by simp [aa]⟩
open Tryz in
def Tryz.FFri21:=aj a1<|aj s1<|aj z1<|aj n1<|aj u2<|aj a2<|aj s2<|aj z2<|aj i2<|aj u3<|aj a3<|aj s3<|aj z3<|aj i3<|aj u4<|aj a4<|aj s4<|aj z4<|aj n4<|aj u5<|aj a5<|aj s5<|aj z5<|aj i5<|aj u6<|aj a6<|aj s6<|aj z6<|aj i6<|aj a7<|aj s7<|aj z7<|aj i7<|aj n7<|aj p7<|aj ff7<|aj d7<|aj a8<|aj s8<|aj z8<|aj i8<|aj n8<|aj p8<|aj ff8<|aj d8<|aj u38<|aj a38<|aj s38<|aj z38<|aj q38<|n38
theorem xh {h0:Hp} (ok:h0.t.Sized h0.n) {u v:Value} {l m:List Int} (hu:aC h0 1 (encI .i64) u l) (hv:aC h0 1 (encI .i64) v m) (hl:l.length<1000000):bF yC 21 [u,v] h0 (.bool (decide (l=m))):=by
 have S:=Si ok
 by_cases hlen:l.length=m.length
 . have hle:((l.length:Int)=(m.length:Int)):=by omega
   refine ac (n:=26) (rs:=[.tmp 4]) rfl Tryz.e21 rfl rfl rfl (lbt rfl) ?_
   simp only [BS,LB,Nat.reduceLT,Nat.reduceEqDiff,Tryz.FFri21,hu.lenq,hv.lenq,hle]
   refine aJ (fun(i:Nat) ρ h=>i<=l.length/\l.take i=m.take i/\Gr h0 h/\ρ 0=u/\ρ 1=v/\ρ 5=.int .i64 i) (fun i=>l.length-i) ?_ 0 _ _ ?_
   . clear S
     intro i ih ρ h ⟨hi,ht,S,r0,r1,r5⟩
     by_cases hlt:i<l.length
     . obtain⟨c,o,hidx,hld⟩:=(hu.gr S).ix (kd:=.i64) (bT .i64) hlt
       obtain⟨c2,o2,hidx2,hld2⟩:=(hv.gr S).ix (kd:=.i64) (bT .i64) (hlen▸hlt)
       have w:aq .i64 ((i:Int)+1)=((i+1:Nat):Int):=by rw [wrap64]<;>omega
       by_cases he:l[i]=m[i]
       . simp only [BS,LB,Nat.reduceLT,Nat.reduceEqDiff,Tryz.FFri21,r0,r5,hu.lenq,ax,hlt]
         refine ay (aF rfl) (q:=0) (ps:=[]) (by kernel_rfl) ?_
         simp only [BS,LB,cls,Nat.reduceLT,Nat.reduceEqDiff,Nat.reduceAdd,Nat.reducePow,Nat.reduceDiv,Nat.reduceMod,Nat.reduceLeDiff,Tryz.FFri21,r0,r1,r5,hidx,hld,hidx2,hld2,encI,he,w]
         refine ih (i+1) _ _ (by omega) ⟨by omega,?_,S,by simp [aa,r0],by simp [aa,r1],by simp [aa]⟩
         rw [yw hlt,yw (hlen▸hlt),ht,he]
       . have hne:l≠m:=by rintro rfl;exact he rfl
         simp only [BS,LB,Nat.reduceLT,Nat.reduceEqDiff,Tryz.FFri21,r0,r5,hu.lenq,ax,hlt]
         refine ay (aF rfl) (q:=0) (ps:=[]) (by kernel_rfl) ?_
         simp only [BS,LB,cls,ae,Nat.reduceLT,Nat.reduceEqDiff,Nat.reduceAdd,Nat.reducePow,Nat.reduceDiv,Nat.reduceMod,Nat.reduceLeDiff,Tryz.FFri21,r0,r1,r5,hidx,hld,hidx2,hld2,encI,he,hne]
         exact S
     . have hE:l=m:=by
        have e1:l.take i=l:=yU (by omega)
        have e2:m.take i=m:=yU (by omega)
        rw [e1,e2]at ht;exact ht
       subst hE
       simp only [BS,LB,ae,Nat.reduceLT,Nat.reduceEqDiff,Tryz.FFri21,r0,r5,hu.lenq,ax,hlt]
       exact S
   . exact⟨yu _,rfl,Gr.refl ok,by simp [aa,aQ],by simp [aa,aQ,ce],by simp [aa]⟩
 . have hne:l≠m:=by rintro rfl;exact hlen rfl
   have hle: ¬((l.length:Int)=(m.length:Int)):=by omega
   refine ac (n:=26) (rs:=[.tmp 4]) rfl Tryz.e21 rfl rfl rfl (lbt rfl) ?_
   simp only [BS,LB,ae,Nat.reduceLT,Nat.reduceEqDiff,Tryz.FFri21,hu.lenq,hv.lenq,hle,hne]
   exact S.gr
open Tryz in
def Tryz.FFfl123:=aj a1<|aj s1<|aj z1<|aj n1<|aj u2<|aj a2<|aj s2<|aj z2<|aj i2<|aj u3<|aj a3<|aj s3<|aj z3<|aj i3<|aj u4<|aj a4<|aj s4<|aj z4<|aj n4<|aj u5<|aj a5<|aj s5<|aj z5<|aj i5<|aj u6<|aj a6<|aj s6<|aj z6<|aj i6<|aj a7<|aj s7<|aj z7<|aj i7<|aj n7<|aj p7<|aj ff7<|aj d7<|aj a8<|aj s8<|aj z8<|aj i8<|aj n8<|aj p8<|aj ff8<|aj d8<|aj u9<|aj a9<|aj s9<|aj z9<|aj n9<|aj u10<|aj a10<|aj s10<|aj z10<|aj n10<|aj u11<|aj a11<|aj s11<|aj z11<|aj n11<|aj u12<|aj a12<|aj s12<|aj z12<|aj i12<|aj a13<|aj s13<|aj z13<|aj i13<|aj n13<|aj p13<|aj ff13<|aj d13<|aj a14<|aj s14<|aj z14<|aj i14<|aj n14<|aj p14<|aj ff14<|aj d14<|aj u15<|aj a15<|aj s15<|aj z15<|aj q15<|aj i15<|aj n15<|aj u16<|aj a16<|aj s16<|aj z16<|aj q16<|aj i16<|aj n16<|aj u17<|aj a17<|aj s17<|aj z17<|aj q17<|aj i17<|aj n17<|aj a18<|aj s18<|aj z18<|aj i18<|aj n18<|aj p18<|aj ff18<|aj d18<|aj a19<|aj s19<|aj z19<|aj i19<|aj n19<|aj p19<|aj ff19<|aj d19<|aj a20<|aj s20<|aj z20<|aj q20<|aj n20<|aj u21<|aj a21<|aj s21<|aj z21<|aj i21<|aj u22<|aj a22<|aj s22<|aj z22<|aj q22<|aj n22<|aj a24<|aj s24<|aj z24<|aj i24<|aj n24<|aj p24<|aj ff24<|aj d24<|aj u25<|aj a25<|aj s25<|aj z25<|aj q25<|aj n25<|aj u26<|aj a26<|aj s26<|aj z26<|aj q26<|aj n26<|aj a28<|aj s28<|aj z28<|aj i28<|aj n28<|aj p28<|aj ff28<|aj d28<|aj u29<|aj a29<|aj s29<|aj z29<|aj q29<|aj i29<|aj n29<|aj u30<|aj a30<|aj s30<|aj z30<|aj q30<|aj i30<|aj n30<|aj u34<|aj a34<|aj s34<|aj z34<|aj q34<|aj i34<|aj n34<|aj u38<|aj a38<|aj s38<|aj z38<|aj q38<|aj n38<|aj u43<|aj a43<|aj s43<|aj z43<|aj q43<|aj n43<|aj a49<|aj s49<|aj z49<|aj i49<|aj n49<|aj p49<|aj ff49<|aj d49<|aj a115<|aj s115<|aj z115<|aj i115<|aj n115<|aj p115<|aj ff115<|aj d115<|aj a117<|aj s117<|aj z117<|aj i117<|aj n117<|aj p117<|aj ff117<|aj d117<|aj u121<|aj a121<|aj s121<|aj z121<|aj q121<|aj i121<|aj n121<|aj u190<|aj a190<|aj s190<|aj z190<|aj q190<|aj n190<|aj a192<|aj s192<|aj z192<|aj i192<|aj n192<|aj p192<|aj ff192<|aj d192<|aj u294<|aj a294<|aj s294<|aj z294<|aj i294<|aj u324<|aj a324<|aj s324<|aj z324<|aj i324<|aj a357<|aj s357<|aj z357<|aj i357<|aj n357<|aj p357<|aj ff357<|aj d357<|aj u358<|aj a358<|aj s358<|aj z358<|aj n358<|aj a360<|aj s360<|aj z360<|aj i360<|aj n360<|aj u362<|aj a362<|aj s362<|aj z362<|aj i362<|aj a363<|aj s363<|aj z363<|aj n363<|aj u364<|aj a364<|aj s364<|aj z364<|aj i364<|aj u365<|aj a365<|aj s365<|aj z365<|aj i365<|aj a367<|aj s367<|aj z367<|aj i367<|aj n367<|aj p367<|aj ff367<|d367
theorem xO(l:List Nat):(l.map fun(x:Nat)=>(x:Int)).flatMap (encI .i64)=l.flatMap bO:=by
 rw [ze];rfl
theorem aC.toI2{h:Hp}{v:Value}{l:List Nat}(s:aC h 1 bO v l):aC h 1 (encI .i64) v (l.map fun(x:Nat)=>(x:Int)):=by
 rcases s with⟨e,rfl⟩|⟨b,o,s,c,e,h1,h2⟩
 . exact .inl ⟨e,rfl⟩
 . exact .inr ⟨b,o,s,c,by rw [e,yI],by rw [yI];exact h1,by rw [yI,h2,xO]⟩
def oq:Value->Option Tch
 | .map (some b)=>some (.blk b)
 | .slice (some a) _ _=>some (.blk a.block)
 |_=>none
theorem note_lenV{ρ:Operand->Value}{ts:Array TypeId}{a:Operand}{h h':Hp}:ck ρ false (.call ⟨.builtin .len,#[a],ts⟩) h h'=oq (ρ a):=by
 simp only [ck,dk,iu,dP,touch,cond_false]
 cases ρ a<;>first|rfl|(rename_i x;cases x<;>rfl)|(rename_i x _ _;cases x<;>rfl)
theorem pair_len{v:Value}{g g':Hp}(hv: ∀c,oq v=some (.blk c)->leaves g g' c=true){k:Nat}{tr:List (Nat×Tch)}(hn:bR k tr=none):iv (some (.run g g')) (bR k (eF k tr (oq v)))=true:=by
 cases hb:oq v with
 |none=>rw [show eF k tr none=tr from rfl,hn];rfl
 | some t=>
   cases t with
   |blk c=>rw [show eF k tr (some (.blk c))=(k,.blk c)::tr from rfl,bA];exact hv c hb
   | run a b=>
     unfold oq at hb
     split at hb<;>cases hb
theorem noteL_lt{α:Type}{h:Hp}{k:Nat}{enc:α->List Value}{v:Value}{xs:List α}(ok:h.t.Sized h.n)(s:aC h k enc v xs){c:Nat}(hc:oq v=some (.blk c)):c<h.n:=by
 rcases s with⟨rfl,_⟩|⟨b,o,s,cc,rfl,h2,h3⟩
 . cases hc
 . cases hc
   exact bH ok h3
theorem pK{h0:Hp}(ok:h0.t.Sized h0.n):bF yC 13 [] h0 (.bool true):=ret_orc rfl ⟨rfl,Gr.refl ok⟩
theorem rV {h0:Hp} (ok:h0.t.Sized h0.n) {vB vO:Value} {B O:List Int} (hB:SlW h0 .u8 vB B) (hO:SlW h0 .u8 vO O) (cO: ∀x∈O,0<=x/\x<=255):
 bF yC 3 [.agg ⟨[vB,vO]⟩] h0 (.bool true):=by
 have S:=Si ok
 have fB:=hB.sl.fl
 have fO:=hO.sl.fl
 refine ac (n:=105) (rs:=[.tmp 2]) rfl Tryz.e3 rfl rfl rfl (lbt rfl) ?_
 simp only [BS,Nat.reduceLT]
 refine ag (bE (by intro x e;cases e)) S ?_;clear S;intro h b1 S n_b1;simp only [ah]at S
 simp only [BS,LB,Nat.reduceLT,Nat.reduceEqDiff,Tryz.FFfl123,yA,yy,yB,S.lds (b:=b1) (o:=0) (n:=2) m0 (lbt rfl)]
 have hB':SlW h .u8 vB B:=hB.imp (fun h=>h) (fun⟨b,o,c,h1,h2,h3⟩=>⟨b,o,c,h1,h2,S.old h3 (fun h=>h)⟩)
 have hO':SlW h .u8 vO O:=hO.imp (fun h=>h) (fun⟨b,o,c,h1,h2,h3⟩=>⟨b,o,c,h1,h2,S.old h3 (fun h=>h)⟩)
 refine step_ret (vQ S.ok hB' hO' cO) ?_;intro v h ⟨g,γ,vx,vy,va,p,q,m,er,hγ,⟨kp,hp⟩,⟨kq,hq⟩,lm,ga,bm,mz,_⟩;replace S:=S.call g;clear g
 subst er
 have n1:=hγ.n1
 have n2:=hγ.n2
 have many:=hγ.many
 obtain⟨bp,ep⟩: ∃b,p=ptrTo b:=by obtain⟨b,_,_,_,_,_,e,_⟩:=hp.ex;exact⟨b,e⟩
 obtain⟨bq,eq⟩: ∃b,q=ptrTo b:=by obtain⟨b,_,e,_⟩:=hq;exact⟨b,e⟩
 subst ep eq
 have eT: ∀{s:Nat},s<γ.nodes-> ∀v,IsD (seen γ.arcs Arc.t Arc.s) s v (dOf (seen γ.arcs Arc.t Arc.s) s v):=fun hs v=>exTo S.ok hγ hp hs v
 obtain⟨c,hc⟩: ∃c:Nat->Nat,∀v,v<γ.nodes->m.getD v 0=(c v:Int):=⟨fun v=>(m.getD v 0).toNat,fun v hv=>by
  have hv':v<m.length:=by omega
  have:=mz _ (yx hv')
  have e:m.getD v 0=m[v]:=by rw [yr,yt hv',yV]
  show m.getD v 0=((m.getD v 0).toNat:Int)
  rw [e];omega⟩
 have cel:fV h kq (ptrTo bq) γ.nodes m c:=⟨hq,lm,hc⟩
 obtain⟨M,hM⟩: ∃M:Nat,eK m+1=(M:Int):=⟨(eK m+1).toNat,by omega⟩
 simp only [BS,LB,Nat.reduceLT,Nat.reduceEqDiff,Tryz.FFfl123,cZ]
 have g0:=S.gr
 clear S;have S:=Si g0.ok
 rename Hp=>hG
 refine ag aw S ?_;clear S;intro h b3 S n_b3
 have fx:=ga.X.fl
 have fy:=ga.Y.fl
 have fa:=ga.A.fl
 simp only [BS,LB,Nat.reduceLT,Nat.reduceEqDiff]
 refine aA (S.store (i:=0) rfl yQ (by intro x e;cases e) rfl (by simp only [ah,yJ,yL,fx.2.1,fy.2.1,fa.2.1,yz];rfl) (lbt rfl) ono) ?_
 clear S;rintro h ⟨S,_⟩
 simp only [LC,ah,lay,yF,yG,Nat.reduceAdd]at S
 simp only [BS,LB,Nat.reduceLT,Nat.reduceEqDiff,Tryz.FFfl123]
 refine ar (pK S.ok) ?_
 intro h1 g1;replace S:=S.call g1;clear g1
 simp only [BS,LB,Nat.reduceLT,Nat.reduceEqDiff]
 refine step_ret (ofB_ok S.ok hγ (hp.gr S.gr) (cel.gr S.gr) hM (by omega)) ?_
 rintro r hF ⟨g,fp,fb,Bt,rfl,nf,nfb,hne,BN,oB⟩
 replace S:=S.call g;clear g
 generalize hlong:(γ.arcs.length+7)/8=long at*
 have rest: ∀{h:Hp},Gr hF h->gJ h fp fb M γ.arcs.length long Bt:=fun g=>BN.gr g
 have co: ∀{h:Hp},St NoM hG h [(b3,.row [.int .i64 γ.nodes,vx,vy,va] 1)] []->jm h (ptrTo bq) m (M:Int):=fun S=>.inr ⟨⟨_,hq.gr S.gr⟩,hM.symm⟩
 have gF:Gr hF hF:=Gr.refl S.ok
 have l3:=(S.row (b:=b3) m0).lt S.ok
 simp only [BS,LB,Nat.reduceLT,Nat.reduceEqDiff]
 refine ay (aF rfl) (q:=0) (ps:=[(14,17),(14,16)]) (by kernel_rfl) ?_
 simp only [BS,LB,cls,Nat.reduceLT,Nat.reduceEqDiff,Nat.reduceAdd,Nat.reducePow,Nat.reduceDiv,Nat.reduceMod,Nat.reduceLeDiff]
 refine cy (wZ S.ok (hp.gr S.gr) (co S) BN.bits n1 (by omega)) ?_
 intro h1 g1
 have e1:=az g1 l3
 replace S:=S.call g1;replace gF:=gF.trans g1
 simp only [BS,LB,cls,Nat.reduceLT,Nat.reduceEqDiff,Nat.reduceAdd,Nat.reducePow,Nat.reduceDiv,Nat.reduceMod,Nat.reduceLeDiff,lm]
 refine cy (iA S.ok (rest gF).bits) ?_
 intro h2 g2
 have e2:=az g2 ((S.row (b:=b3) m0).lt S.ok)
 replace S:=S.call g2;replace gF:=gF.trans g2
 simp only [BS,LB,cls,Nat.reduceLT,Nat.reduceEqDiff,Nat.reduceAdd,Nat.reducePow,Nat.reduceDiv,Nat.reduceMod,Nat.reduceLeDiff]
 refine cy (mj S.ok (co S)) ?_
 intro h3 g3
 have e3:=az g3 ((S.row (b:=b3) m0).lt S.ok)
 replace S:=S.call g3;replace gF:=gF.trans g3
 simp only [BS,LB,cls,Nat.reduceLT,Nat.reduceEqDiff,Nat.reduceAdd,Nat.reducePow,Nat.reduceDiv,Nat.reduceMod,Nat.reduceLeDiff]
 refine cy (iK S.ok (rest gF).bits) ?_
 intro h4 g4
 have e4:=az g4 ((S.row (b:=b3) m0).lt S.ok)
 have e5: ∀c,oq va=some (.blk c)->leaves h3 h4 c=true:=fun c hc=>az g4 (noteL_lt S.ok (ga.A.gr S.gr) hc)
 replace S:=S.call g4;replace gF:=gF.trans g4
 simp only [BS,LB,cls,Nat.reduceLT,Nat.reduceEqDiff,Nat.reduceAdd,Nat.reducePow,Nat.reduceDiv,Nat.reduceMod,Nat.reduceLeDiff,Tryz.FFfl123,(ga.A.gr S.gr).lenq,S.ld (b:=b3) (o:=3) m0 rfl]
 refine⟨by simp only [bj,bC,aW,bA,aZ,ne_eq,not_false_eq_true,bG,bU,bg,aY,bS,cM,aN,Nat.reduceLT,Nat.reduceEqDiff,reduceIte,yz,ab,aM e1,aR e1,aM e2,aR e2,aM e3,aR e3,aM e4,aR e4,note_lenV,pair_len e5,pA],?_⟩
 refine step_ret (map_ok S.ok (co S) (by omega)) ?_
 rintro vM h5 ⟨g5,sM⟩
 replace S:=S.call g5;replace gF:=gF.trans g5
 have sN:=slN_of sM lm hc
 have fM:=sM.fl
 simp only [BS,LB,Nat.reduceLT,Nat.reduceEqDiff]
 refine aJ (fun(k:Nat) ρ h=>k<=M/\St NoM hG h [(b3,.row [.int .i64 γ.nodes,vx,vy,va] 1)] []/\Gr hF h/\Gr h5 h/\ρ 3=ptrTo b3/\ρ 5=ptrTo bq/\ρ 6=ptrTo fp/\ρ 7=vM/\ρ 8=.int .i64 k) (fun k=>M-k) ?_ 0 _ _ ?_
 . clear S e1 e2 e3 e4 g1 g2 g3 g4 g5 l3 gF
   intro k ih ρ h ⟨hk,S,gF,gM,r3,r5,r6,r7,r8⟩
   have w:aq .i64 ((k:Int)+1)=((k+1:Nat):Int):=by rw [wrap64]<;>omega
   simp only [BS,LB,Nat.reduceLT,Nat.reduceEqDiff,r5,r8]
   refine ar (mj S.ok (co S)) ?_
   intro h1 g1
   replace S:=S.call g1;replace gF:=gF.trans g1;replace gM:=gM.trans g1;clear g1
   by_cases hlt:k<M
   . simp only [BS,LB,Nat.reduceLT,Nat.reduceEqDiff,Tryz.FFfl123,r3,r7,r8,ax,hlt,yA,yy,yB,S.lds (b:=b3) (o:=0) (n:=4) m0 (lbt rfl)]
     have rw':=rowR_ok S.ok hγ (ga.gr S.gr) (sN.gr gM) (k:=k) eT
     unfold cZ at rw'
     refine step_ret rw' ?_
     rintro vR h2 ⟨g2,sR⟩
     replace S:=S.call g2;replace gF:=gF.trans g2;replace gM:=gM.trans g2;clear g2
     have fR:=sR.fl
     simp only [BS,LB,Nat.reduceLT,Nat.reduceEqDiff,r6,r8]
     refine step_ret (bRow_ok S.ok (rest gF) hlt (by omega) (by omega) hlong.symm) ?_
     rintro vW h3 ⟨g3,sW,_⟩
     replace S:=S.call g3;replace gF:=gF.trans g3;replace gM:=gM.trans g3;replace sR:=sR.gr g3;clear g3
     have fW:=sW.fl
     have eRW:(yv γ.arcs.length).filter (dH Bt long k)=(yv γ.arcs.length).filter fun a=>decide (a∈bK γ c k):=List.filter_congr fun a ha=>by
      have:=oB k a (List.mem_range.1 ha)
      simp only [yB,yO,and_false,or_false,hlt,true_and]at this
      rw [Bool.eq_iff_iff,this,decide_eq_true_iff]
     rw [eRW]at sW
     simp only [BS,LB,Nat.reduceLT,Nat.reduceEqDiff]
     refine ar (xh S.ok sW.toI2 sR.toI2 (by rw [yI];exact Nat.lt_of_le_of_lt iH (by omega))) ?_
     intro h4 g4
     replace S:=S.call g4;replace gF:=gF.trans g4;replace gM:=gM.trans g4;clear g4
     simp only [BS,LB,Nat.reduceLT,Nat.reduceEqDiff,r6,r8]
     refine step_ret (tz S.ok (rest gF) hlt (by omega) (by omega) hlong.symm) ?_
     rintro vA h5' ⟨g5,bl,rfl,RA,nA⟩
     replace S:=S.call g5;replace gF:=gF.trans g5;replace gM:=gM.trans g5;clear g5
     simp only [BS,LB,Nat.reduceLT,Nat.reduceEqDiff,Tryz.FFfl123,r3,(ga.A.gr S.gr).lenq,S.ld (b:=b3) (o:=3) m0 rfl]
     rename Hp=>hA
     have gA0:Gr hA hA:=Gr.refl S.ok
     refine aJ (fun(a:Nat) ρ h=>a<=γ.arcs.length/\St NoM hG h [(b3,.row [.int .i64 γ.nodes,vx,vy,va] 1)] []/\Gr hF h/\Gr h5 h/\Gr hA h/\ρ 3=ptrTo b3/\ρ 5=ptrTo bq/\ρ 6=ptrTo fp/\ρ 7=vM/\ρ 8=.int .i64 k/\ρ 10=.slice (some ⟨bl,0,none⟩) γ.arcs.length γ.arcs.length/\ρ 11=.int .i64 a) (fun a=>γ.arcs.length-a) ?_ 0 _ _ ?_
     . clear S gF gM gA0 r3 r5 r6 r7 r8
       intro a iha ρ h ⟨ha,S,gF,gM,gA,r3,r5,r6,r7,r8,r10,r11⟩
       have wa:aq .i64 ((a:Int)+1)=((a+1:Nat):Int):=by rw [wrap64]<;>omega
       by_cases hat:a<γ.arcs.length
       . have lx:=(RA.gr gA).load1 (bolC_at (f:=dH Bt long k) hat)
         have hg:=pS S.ok (rest gF) hlt hat (by omega) (by omega) hlong.symm
         generalize dH Bt long k a=x at lx hg
         have lb:=(RA.gr gA).lt S.ok
         simp only [BS,LB,Nat.reduceLT,Nat.reduceEqDiff,Tryz.FFfl123,r10,r11,ax,hat]
         refine ay (aF rfl) (q:=0) (ps:=[(3,7)]) (by kernel_rfl) ?_
         simp only [BS,LB,cls,Nat.reduceLT,Nat.reduceEqDiff,Nat.reduceAdd,Nat.reducePow,Nat.reduceDiv,Nat.reduceMod,Nat.reduceLeDiff,Tryz.FFfl123,r6,r8,r10,r11,hat,lx]
         refine cy hg ?_
         intro h2 g2
         have e2:=az g2 lb
         replace S:=S.call g2;replace gF:=gF.trans g2;replace gM:=gM.trans g2;replace gA:=gA.trans g2
         cases x with
         | true=>
           simp only [BS,LB,cls,Nat.reduceLT,Nat.reduceEqDiff,Nat.reduceAdd,Nat.reducePow,Nat.reduceDiv,Nat.reduceMod,Nat.reduceLeDiff,Tryz.FFfl123,r11]
           refine⟨by simp only [bj,bC,aW,bA,aZ,ne_eq,not_false_eq_true,bG,bU,bg,aY,bS,cM,aN,Nat.reduceLT,Nat.reduceEqDiff,reduceIte,yz,r3,r5,r6,r7,r8,r10,r11,ab,aM e2,aR e2],?_⟩
           simp only [wa]
           exact iha (a+1) _ _ (by omega) ⟨by omega,S,gF,gM,gA,by simp [aa,r3,ab],by simp [aa,r5,ab],by simp [aa,r6,ab],by simp [aa,r7],by simp [aa,r8],by simp [aa,r10],by simp [aa]⟩
         | false=>
           simp only [BS,LB,cls,Nat.reduceLT,Nat.reduceEqDiff,Nat.reduceAdd,Nat.reducePow,Nat.reduceDiv,Nat.reduceMod,Nat.reduceLeDiff,Tryz.FFfl123,r11]
           refine⟨by simp only [bj,bC,aW,bA,aZ,ne_eq,not_false_eq_true,bG,bU,bg,aY,bS,cM,aN,Nat.reduceLT,Nat.reduceEqDiff,reduceIte,yz,r3,r5,r6,r7,r8,r10,r11,ab,aM e2,aR e2],?_⟩
           simp only [wa]
           exact iha (a+1) _ _ (by omega) ⟨by omega,S,gF,gM,gA,by simp [aa,r3,ab],by simp [aa,r5,ab],by simp [aa,r6,ab],by simp [aa,r7],by simp [aa,r8],by simp [aa,r10],by simp [aa]⟩
       . simp only [BS,LB,Nat.reduceLT,Nat.reduceEqDiff,Tryz.FFfl123,r6,r8,r10,r11,ax,hat,w]
         exact ih (k+1) _ _ (by omega) ⟨by omega,S,gF,gM,by simp [aa,r3,ab],by simp [aa,r5,ab],by simp [aa,r6,ab],by simp [aa,r7],by simp [aa]⟩
     . exact⟨yu _,S,gF,gM,gA0,by simp [aa,r3,ab],by simp [aa,r5,ab],by simp [aa,r6,ab],by simp [aa,r7],by simp [aa,r8],by simp [aa],by simp [aa]⟩
   . have:k=M:=by omega
     subst this
     simp only [BS,LB,Nat.reduceLT,Nat.reduceEqDiff,r6,ax,hlt]
     refine ar (qu S.ok (rest gF)).2 ?_
     intro h2 g2
     replace S:=S.call g2;replace gF:=gF.trans g2;clear g2
     simp only [BS,LB,Nat.reduceLT,Nat.reduceEqDiff,yN,Tryz.FFfl123,r5,r6]
     refine ar (mj S.ok (co S)) ?_
     intro h3 g3
     replace S:=S.call g3;replace gF:=gF.trans g3;clear g3
     simp only [BS,LB,Nat.reduceLT,Nat.reduceEqDiff]
     refine ar (qu S.ok (rest gF)).1 ?_
     intro h4 g4
     replace S:=S.call g4;clear g4
     simp only [BS,LB,ae,Nat.reduceLT,Nat.reduceEqDiff,yN,Tryz.FFfl123]
     exact g0.trans S.gr
 . exact⟨yu _,S,gF,Gr.refl S.ok,by simp [aa,ab],by simp [aa,ab],by simp [aa,ab],by simp [aa],by simp [aa]⟩
end Go.Ab
end
section
namespace Go.Ab
def onF(A:List Arc)(d:Nat->Nat->Nat)(c:Nat->Nat)(k:Nat)(a:Arc):Prop:=
 (c a.s=k/\c a.t=k)\/ ∃b,(c b=k/\ ∃e∈A,e.t=b/\c e.s≠k)/\d a.s b<FAR/\d a.t b<FAR/\d a.s b=a.w+d a.t b
inductive WkC(A:List Arc)(t:Nat):Nat->Nat->Prop where
 |nil:WkC A t t 0
 |cons {y:Nat} {a:Arc}:a∈A->WkC A t a.t y->WkC A t a.s (a.w+y)
section
variable{A On:List Arc}{N:Nat}{d:Nat->Nat->Nat}{c:Nat->Nat}{k:Nat}
theorem Wk.toC{s v x t y:Nat}(h:Wk A s v x):WkC A t v y->WkC A t s (x+y):=by
 induction h generalizing y with
 |nil=>intro h;rw [yE];exact h
 | @snoc w a ha _ ih=>
   intro h
   have:=ih (.cons ha h)
   rw [Nat.add_assoc];exact this
theorem WkC.toW{t v y:Nat}(h:WkC A t v y):Wk A v t y:=by
 induction h with
 |nil=>exact .nil
 | @cons y a ha _ ih=>
   have h1:Wk A a.s a.t (0+a.w):=.snoc ha .nil
   have:=h1.trans ih
   rwa [yE]at this
theorem IsD.le_wk{s v x y:Nat}(h:IsD A s v x)(k:Wk A s v y):x<=y/\x<FAR:=⟨(h.wk k).2.1,(h.wk k).1⟩
variable(hA: ∀a∈A,a.s<N/\a.t<N)(hd: ∀v b,v<N->b<N->IsD A v b (d v b))(hOn: ∀a,a∈On↔a∈A/\onF A d c k a)
include hA hd hOn
theorem on_tight{s b:Nat}(hs:s<N)(hb:b<N)(hbo:c b=k/\ ∃e∈A,e.t=b/\c e.s≠k)(hf:d s b<FAR){v x:Nat}(h:Wk A s v x):v<N->x+d v b=d s b->Wk On s v x:=by
 induction h with
 |nil=>intro _ _;exact .nil
 | @snoc x a ha hw ih=>
   intro _ he
   obtain⟨h1,h2⟩:=hA a ha
   have w1:Wk A a.s a.t (0+a.w):=.snoc ha .nil
   have da:=(hd a.t b h2 hb).far (by omega)
   have ds:=(hd a.s b h1 hb).le_wk (w1.trans da)
   have dd:=(hd s b hs hb).le_wk (hw.trans ((hd a.s b h1 hb).far ds.2))
   refine .snoc ((hOn a).2 ⟨ha,.inr ⟨b,hbo,ds.2,by omega,by omega⟩⟩) (ih h1 (by omega))
theorem on_cut{t:Nat}(ht:t<N)(hk:c t=k){v y:Nat}(h:WkC A t v y):v<N->y=d v t->(c v=k/\Wk On v t y)\/ ∃b z y',b<N/\(c b=k/\ ∃e∈A,e.t=b/\c e.s≠k)/\Wk A v b z/\z=d v b/\Wk On b t y'/\z+y'=y:=by
 have mono: ∀{u w x},Wk On u w x->Wk A u w x:=fun h=>h.mono (fun a ha=>((hOn a).1 ha).1)
 induction h with
 |nil=>intro _ _;exact .inl ⟨hk,.nil⟩
 | @cons y a ha hw ih=>
   intro _ he
   obtain⟨h1,h2⟩:=hA a ha
   have w1:Wk A a.s a.t (0+a.w):=.snoc ha .nil
   rw [yE]at w1
   have k1:=(hd a.t t h2 ht).le_wk hw.toW
   have k2:=(hd a.s t h1 ht).le_wk (w1.trans ((hd a.t t h2 ht).far k1.2))
   rcases ih h2 (by omega)with⟨c1,o1⟩|⟨b,z,y',hb,hbo,wz,ez,oy,ey⟩
   . by_cases c2:c a.s=k
     . have ho:Wk On a.s a.t (0+a.w):=.snoc ((hOn a).2 ⟨ha,.inl ⟨c2,c1⟩⟩) .nil
       have:=ho.trans o1
       rw [yE]at this
       exact .inl ⟨c2,this⟩
     . have k3:=(hd a.s a.t h1 h2).le_wk w1
       have k4:=(hd a.s t h1 ht).le_wk (((hd a.s a.t h1 h2).far k3.2).trans hw.toW)
       exact .inr ⟨a.t,a.w,y,h2,⟨c1,a,ha,rfl,c2⟩,w1,by omega,o1,rfl⟩
   . have k3:=(hd a.s b h1 hb).le_wk (w1.trans wz)
     have k4:=(hd a.s t h1 ht).le_wk (((hd a.s b h1 hb).far k3.2).trans (mono oy))
     exact .inr ⟨b,a.w+z,y',hb,hbo,w1.trans wz,by omega,oy,by omega⟩
theorem yn{s t x:Nat}(hs:s<N)(ht:t<N)(hk:c t=k)(hx:IsD A s t x):IsD On s t x:=by
 have mono: ∀{u w x},Wk On u w x->Wk A u w x:=fun h=>h.mono (fun a ha=>((hOn a).1 ha).1)
 rcases hx with⟨h1,h2,h3⟩|⟨h1,h2⟩
 . refine .inl ⟨h1,?_,fun w hw=>h3 w (mono hw)⟩
   have e:x=d s t:=IsD.uniq (.inl ⟨h1,h2,h3⟩) (hd s t hs ht)
   have hc:=h2.toC (t:=t) .nil
   rcases on_cut hA hd hOn ht hk hc hs (by omega)with⟨_,h⟩|⟨b,z,y',hb,hbo,wz,ez,oy,ey⟩
   . exact h
   . have hf:=((hd s b hs hb).le_wk wz).2
     have z0:=(hd b b hb hb).self
     have o:=on_tight hA hd hOn hs hb hbo hf wz hb (by omega)
     have:=o.trans oy
     rw [show x=z+y' by omega]
     exact this
 . exact .inr ⟨h1,fun w hw=>h2 w (mono hw)⟩
end
end Go.Ab

end
section
namespace Go.Ab
inductive j8(A:List Arc)(s:Nat):List Nat->Nat->Nat->Prop where
 |nil:j8 A s [] s 0
 |snoc {l:List Nat} {w a:Nat}:j8 A s l (A.getD a default).s w->a<A.length->j8 A s (l++[a]) (A.getD a default).t (w+(A.getD a default).w)
def jq(A:List Arc)(s:Nat)(l:List Nat)(i:Nat):Nat:=if i=0 then s else(A.getD (l.getD (i-1) 0) default).t
def sumA(A:List Arc)(l:List Nat)(k:Nat):Nat:=((l.take k).map fun a=>(A.getD a default).w).sum
theorem qs{l:List Nat}{a i:Nat}(h:i<l.length):(l++[a]).getD i 0=l.getD i 0:=by
 rw [yr,yr,List.getElem?_append_left h]
theorem qz{l:List Nat}{a:Nat}:(l++[a]).getD l.length 0=a:=by simp [yr]
theorem vk{A:List Arc}{s a i:Nat}{l:List Nat}(h:i<=l.length):jq A s (l++[a]) i=jq A s l i:=by
 unfold jq
 split
 . rfl
 . rw [qs (by omega)]
theorem j8.at{A:List Arc}{s t w:Nat}{l:List Nat}(h:j8 A s l t w):(∀i,i<l.length->l.getD i 0<A.length/\(A.getD (l.getD i 0) default).s=jq A s l i)/\jq A s l l.length=t/\sumA A l l.length=w:=by
 induction h with
 |nil=>exact⟨fun i hi=>absurd hi (Nat.not_lt_zero _),rfl,rfl⟩
 | @snoc l w a _ ha ih=>
   obtain⟨h1,h2,h3⟩:=ih
   have hl:(l++[a]).length=l.length+1:=by simp
   refine⟨fun i hi=>?_,?_,?_⟩
   . rcases Nat.lt_or_ge i l.length with h|h
     . rw [qs h,vk (Nat.le_of_lt h)];exact h1 i h
     . have:i=l.length:=by omega
       subst this
       rw [qz,vk (zi _)]
       exact⟨ha,h2.symm⟩
   . rw [hl]
     unfold jq
     rw [if_neg (by omega),yZ,qz]
   . unfold sumA at h3⊢
     rw [yM]at h3⊢
     rw [zg,List.sum_append,h3]
     rfl
theorem sumA_succ{A:List Arc}{l:List Nat}{k:Nat}(h:k<l.length):sumA A l (k+1)=sumA A l k+(A.getD (l.getD k 0) default).w:=by
 have e:l.getD k 0=l[k]:=by rw [yr,yt h];rfl
 unfold sumA
 rw [e,yw h,zg,List.sum_append]
 simp
section
variable{A:List Arc}{N s:Nat}{al:Nat->Bool}{pi:Nat->Int}{σ:SS}
theorem Sv.pathA(h:Sv A N s al pi σ): ∀(n:Nat) {v:Nat},(σ.P v).length<=n->(v∈σ.O\/σ.K v≠none)->j8 A s (σ.P v).reverse v (σ.L v):=by
 intro n
 induction n with
 | zero=>
   intro v hl hv
   rcases h.path v hv with⟨rfl,p0,l0⟩|⟨a,_,_,_,_,hp,_⟩
   . rw [p0,l0];exact .nil
   . rw [hp]at hl;simp at hl
 | succ n ih=>
   intro v hl hv
   rcases h.path v hv with⟨rfl,p0,l0⟩|⟨a,ha,_,ht,hs,hp,hL⟩
   . rw [p0,l0];exact .nil
   . rw [hp]at hl⊢
     rw [hL,List.reverse_cons,<-ht]
     exact .snoc (ih (by rw [List.length_cons]at hl;omega) (.inl hs)) ha
end
end Go.Ab

end
section
namespace Go.Ab
open Go.Proofs
set_option maxRecDepth 10000
theorem ends_len{A:List Arc}{N s to:Nat}{al:Nat->Bool}{pi:Nat->Int}{σ:SS}{r:Fd}(hA: ∀a∈A,a.t<N/\a.w<=cQ)(hN:N<=12)(hl:A.length<=100)(he:Ends A al pi to σ r):Sv A N s al pi σ->σ.ev.length<=σ.O.length*200->r.arcs.length<=12/\r.ev.length<=3000:=by
 induction he with
 | @none σ hn=>
   intro h hev
   have:=h.len
   exact⟨yu _,by show σ.ev.length<=3000;omega⟩
 | @hit σ k hp=>
   intro h hev
   have h1:=h.len
   have h2:=(h.bd to).2
   refine⟨by show(σ.P to).reverse.length<=12;rw [List.length_reverse];omega,?_⟩
   show(σ.ev++[_]).length<=3000
   simp;omega
 | @step σ v k r hp hne _ ih=>
   intro h hev
   obtain⟨h1,h2⟩:=h.next hA hp.1
   refine ih h1 ?_
   have e1:=vZ A al pi v (cN σ v)
   have e2:(cN σ v).ev.length=σ.ev.length+1:=by show(σ.ev++[_]).length=_;simp
   rw [h2.O]
   show _<=(σ.O++[v]).length*200
   simp;omega
theorem found_len{γ:Gra}(hγ:Good γ){s to:Nat}(hs:s<γ.nodes){al:Nat->Bool}{pi:Nat->Int}{fd:Fd}(he:(s=to/\fd=⟨0,[],[]⟩)\/(s≠to/\Ends γ.arcs al pi to (eG pi s) fd)):fd.arcs.length<=12/\fd.ev.length<=3000:=by
 rcases he with⟨_,rfl⟩|⟨_,he⟩
 . exact⟨yu _,yu _⟩
 . refine ends_len (fun a ha=>⟨(hγ.arcs a ha).2.1,(hγ.arcs a ha).2.2⟩) hγ.n2 hγ.many he (sZ hs) ?_
   have k0:(eG pi s).ev.length=0:=by unfold eG;rw [qG];rfl
   omega
end Go.Ab
end
section
namespace Go.Ab
open Go.Proofs
theorem isD_back{A:List Arc}{b v x:Nat}(h:IsD (seen A Arc.t Arc.s) b v x):IsD A v b x:=by
 have b1: ∀a∈A,∃e∈seen A Arc.t Arc.s,e.s=a.t/\e.t=a.s/\e.w=a.w:=fun a ha=>⟨⟨a.t,a.s,a.w⟩,List.mem_map_of_mem ha,rfl,rfl,rfl⟩
 have b2: ∀a∈seen A Arc.t Arc.s,∃e∈A,e.s=a.t/\e.t=a.s/\e.w=a.w:=fun a ha=>by
  obtain⟨e,he,rfl⟩:=List.mem_map.1 ha
  exact⟨e,he,rfl,rfl,rfl⟩
 have key: ∀w,Wk A v b w↔Wk (seen A Arc.t Arc.s) b v w:=fun w=>⟨fun h=>by simpa using Wk.back b1 h .nil,fun h=>by simpa using Wk.back b2 h .nil⟩
 rcases h with⟨p1,p2,p3⟩|⟨p1,p2⟩
 . exact .inl ⟨p1,(key x).2 p2,fun w hw=>p3 w ((key w).1 hw)⟩
 . exact .inr ⟨p1,fun w hw=>p2 w ((key w).1 hw)⟩
section
variable{A:List Arc}{N s:Nat}{al:Nat->Bool}{pi:Nat->Int}{σ:SS}
theorem Sv.als(h:Sv A N s al pi σ): ∀(n:Nat) {v:Nat},(σ.P v).length<=n->(v∈σ.O\/σ.K v≠none)-> ∀a∈σ.P v,a<A.length/\al a=true:=by
 intro n
 induction n with
 | zero=>
   intro v hl hv a ha
   rw [List.eq_nil_of_length_eq_zero (Nat.le_zero.1 hl)]at ha;cases ha
 | succ n ih=>
   intro v hl hv a ha
   rcases h.path v hv with⟨rfl,p0,_⟩|⟨b,k1,k2,_,hs,hp,_⟩
   . rw [p0]at ha;cases ha
   . rw [hp]at hl ha
     rcases List.mem_cons.1 ha with rfl|ha
     . exact⟨k1,k2⟩
     . exact ih (by rw [List.length_cons]at hl;omega) (.inl hs) a ha
theorem ends_als{to:Nat}{r:Fd}(hA: ∀a∈A,a.t<N/\a.w<=cQ)(he:Ends A al pi to σ r):Sv A N s al pi σ-> ∀a∈r.arcs,a<A.length/\al a=true:=by
 induction he with
 |none hn=>intro _ a ha;cases ha
 | @hit σ k hp=>intro h a ha;exact h.als _ (zi _) (.inr (by rw [hp.1];nofun)) a (List.mem_reverse.1 ha)
 | @step σ v k r hp hne _ ih=>intro h;exact ih (h.next hA hp.1).1
theorem ends_far{to:Nat}{r:Fd}(hA: ∀a∈A,a.t<N/\a.w<=cQ)(hN:N<=12)(he:Ends A al pi to σ r):Sv A N s al pi σ->(r.dist<FAR/\j8 A s r.arcs to r.dist)\/(r.dist=FAR/\r.arcs=[]):=by
 induction he with
 |none hn=>intro _;exact .inr ⟨rfl,rfl⟩
 | @hit σ k hp=>
   intro h
   have h2:=(h.bd to).1
   have h3:=Nat.mul_le_mul_right cQ (zq h.len hN)
   have:=gY
   have:=kM
   exact .inl ⟨by show σ.L to<FAR;omega,h.pathA _ (zi _) (.inr (by rw [hp.1];nofun))⟩
 | @step σ v k r hp hne _ ih=>intro h;exact ih (h.next hA hp.1).1
end
section
variable{γ:Gra}{s to:Nat}
theorem pa(hγ:Good γ)(hs:s<γ.nodes){als:List Bool}{fd:Fd}(he:(s=to/\fd=⟨0,[],[]⟩)\/(s≠to/\Ends γ.arcs (alF als) (piF []) to (eG (piF []) s) fd)):
 IsD (jB γ.arcs (alF als) (piF [])) s to fd.dist/\((fd.dist<FAR/\j8 γ.arcs s fd.arcs to fd.dist)\/(fd.dist=FAR/\fd.arcs=[]/\s≠to))/\ ∀a∈fd.arcs,a<γ.arcs.length/\alF als a=true:=by
 have hA: ∀a∈γ.arcs,a.t<γ.nodes/\a.w<=cQ:=fun a ha=>⟨(hγ.arcs a ha).2.1,(hγ.arcs a ha).2.2⟩
 have far:=gY
 have p0:piF []=fun _=>(0:Int):=funext fun v=>if_pos rfl
 rcases he with⟨rfl,rfl⟩|⟨hne,he⟩
 . exact⟨.inl ⟨by show 0<FAR;omega,.nil,fun w _=>yu _⟩,.inl ⟨by show 0<FAR;omega,.nil⟩,fun a ha=>by cases ha⟩
 . have hF:Feas γ.arcs (alF als) (piF []):=fun i hi h=>by rw [p0];show(0:Int)<=_+0;omega
   have sv:Sv γ.arcs γ.nodes s (alF als) (piF []) (eG (piF []) s):=sZ hs
   refine⟨ends_isD hA hγ.n2 hF he sv (fe_init (by rw [p0];show(0:Int)<_;omega)) (fun h=>by
    have:(eG (piF []) s).O=[]:=by unfold eG dN;split<;>rfl
    rw [this]at h;cases h),?_,ends_als hA he sv⟩
   rcases ends_far hA hγ.n2 he sv with h|⟨h1,h2⟩
   . exact .inl h
   . exact .inr ⟨h1,h2,hne⟩
theorem run_all(hγ:Good γ)(hs:s<γ.nodes){fd:Fd}(he:(s=to/\fd=⟨0,[],[]⟩)\/(s≠to/\Ends γ.arcs (alF []) (piF []) to (eG (piF []) s) fd)):IsD γ.arcs s to fd.dist:=by
 have h:=(pa hγ hs he).1
 rw [show alF []=fun _=>true from rfl,show piF []=fun _=>(0:Int)from funext fun v=>if_pos rfl]at h
 exact h.congr fun a=>hArcs_all
theorem run_keeps(hγ:Good γ)(hs:s<γ.nodes)(ht:to<γ.nodes){c:Nat->Nat}(eT: ∀{s:Nat},s<γ.nodes-> ∀v,IsD (seen γ.arcs Arc.t Arc.s) s v (dOf (seen γ.arcs Arc.t Arc.s) s v)){als:List Bool}(hal: ∀i,i<γ.arcs.length->(alF als i=true↔i∈bK γ c (c to))){fd fe:Fd}
 (he:(s=to/\fd=⟨0,[],[]⟩)\/(s≠to/\Ends γ.arcs (alF als) (piF []) to (eG (piF []) s) fd)) (hf:(s=to/\fe=⟨0,[],[]⟩)\/(s≠to/\Ends γ.arcs (alF []) (piF []) to (eG (piF []) s) fe)):fd.dist=fe.dist:=by
 have h1:=run_all hγ hs hf
 have h2:=(pa hγ hs he).1
 have far:=gY
 have hOn: ∀a,a∈jB γ.arcs (alF als) (piF [])↔a∈γ.arcs/\onF γ.arcs (fun v b=>dOf (seen γ.arcs Arc.t Arc.s) b v) c (c to) a:=fun a=>by
  rw [m9]
  have q: ∀i,i<γ.arcs.length->(i∈bK γ c (c to)↔onF γ.arcs (fun v b=>dOf (seen γ.arcs Arc.t Arc.s) b v) c (c to) (γ.arcs.getD i default)):=fun i hi=>by
   rw [oN hi]
   unfold jX onF dW
   rw [decide_eq_true_iff]
   refine or_congr Iff.rfl ⟨?_,?_⟩
   . rintro⟨b,hb,h⟩
     obtain⟨_,hb⟩:=List.mem_filter.1 hb
     exact⟨b,qL.1 hb,of_decide_eq_true h⟩
   . rintro⟨b,hb,h⟩
     obtain⟨hc,e,he,rfl,h3⟩:=hb
     exact⟨e.t,List.mem_filter.2 ⟨List.mem_range.2 (hγ.arcs e he).2.1,qL.2 ⟨hc,e,he,rfl,h3⟩⟩,decide_eq_true h⟩
  constructor
  . rintro⟨i,hi,hin,rfl⟩
    exact⟨by rw [yr,yt hi];exact yx hi,(q i hi).1 ((hal i hi).1 hin.1)⟩
  . rintro⟨ha,ho⟩
    obtain⟨i,hi,rfl⟩:=List.mem_iff_getElem.1 ha
    have e:γ.arcs.getD i default=γ.arcs[i]:=by simp [yr,hi]
    refine⟨i,hi,⟨(hal i hi).2 ((q i hi).2 (by rw [e];exact ho)),?_,?_⟩,e⟩<;>rw [show piF []=fun _=>(0:Int)from funext fun v=>if_pos rfl]<;>show(0:Int)<_<;>omega
 have:=yn (A:=γ.arcs) (N:=γ.nodes) (fun a ha=>⟨(hγ.arcs a ha).1,(hγ.arcs a ha).2.1⟩) (d:=fun v b=>dOf (seen γ.arcs Arc.t Arc.s) b v) (fun v b hv hb=>isD_back (eT hb v)) hOn hs ht rfl h1
 exact h2.uniq this
end
end Go.Ab

end
section
namespace Go.Ab
open Go.Proofs
set_option maxRecDepth 10000
open Tryz in
def Tryz.FFwc139:=aj a1<|aj s1<|aj z1<|aj n1<|aj u2<|aj a2<|aj s2<|aj z2<|aj i2<|aj u3<|aj a3<|aj s3<|aj z3<|aj i3<|aj u4<|aj a4<|aj s4<|aj z4<|aj n4<|aj u5<|aj a5<|aj s5<|aj z5<|aj i5<|aj u6<|aj a6<|aj s6<|aj z6<|aj i6<|aj a28<|aj s28<|aj z28<|aj i28<|aj n28<|aj p28<|aj ff28<|aj d28<|aj u29<|aj a29<|aj s29<|aj z29<|aj q29<|aj i29<|aj n29<|aj u38<|aj a38<|aj s38<|aj z38<|aj q38<|aj n38<|aj a49<|aj s49<|aj z49<|aj i49<|aj n49<|aj p49<|aj ff49<|aj d49<|aj u190<|aj a190<|aj s190<|aj z190<|aj q190<|aj n190<|aj a192<|aj s192<|aj z192<|aj i192<|aj n192<|aj p192<|aj ff192<|aj d192<|aj a210<|aj s210<|aj z210<|n210
theorem wnode_ok{h0:Hp}(ok:h0.t.Sized h0.n){p:Value}{γ:Gra}{nb:Nat}(c:bz h0 nb p γ){v:Nat}(hv:v<γ.nodes):bF yC 73 [p,.int .i64 (v:Nat)] h0 (.bool true):=by
 have S:=Si ok
 have c0:(0:Int)<=(v:Int):=by omega
 have c1:(v:Int)<(γ.nodes:Int):=by omega
 refine ac (n:=13) (rs:=[.tmp 4]) rfl Tryz.e73 rfl rfl rfl (lbt rfl) ?_
 simp only [BS,LB,Nat.reduceLT,Nat.reduceEqDiff,c0]
 refine ar (cD S.ok c) ?_
 intro h g
 simp only [BS,LB,ae,Nat.reduceLT,Nat.reduceEqDiff,c1]
 exact g
theorem wsteps_ok{h0:Hp}(ok:h0.t.Sized h0.n){bp s:Nat}{vI:Value}(fI:Fl vI):Ret yC 74 [ptrTo bp,.int .i64 (s:Nat),vI] h0 fun r h'=>Gr h0 h'/\ ∃b3 b4 b5,r=.func (.func 139) #[] #[ptrTo b5,ptrTo b3,ptrTo b4]/\h0.n<=b3/\h0.n<=b4/\h0.n<=b5/\b4≠b3/\b4≠b5/\h'.load b3 0 1=some [ptrTo bp]/\Row h' b4 [.int .i64 (s:Nat)] 1/\h'.load b5 0 1=some [vI]:=by
 have S:=Si ok
 refine ac (n:=8) (rs:=[.tmp 6]) rfl Tryz.e74 rfl rfl rfl (lbt rfl) ?_
 simp only [BS,Nat.reduceLT]
 refine ag (cC (by exact dZ)) S ?_;clear S;intro h b3 S n_b3
 simp only [BS,Nat.reduceLT,Nat.reduceEqDiff,if_false]
 refine ag (cC (by exact bu)) S ?_;clear S;intro h b4 S n_b4
 simp only [BS,Nat.reduceLT,Nat.reduceEqDiff,if_false]
 refine ag (cC (by assumption)) S ?_;clear S;intro h b5 S n_b5
 simp only [BS,LB,ae,Nat.reduceLT,Nat.reduceEqDiff]
 have ap:=S.apart
 exact⟨S.gr,b3,b4,b5,rfl,n_b3,n_b4,n_b5,fun e=>(by subst e;simp [keys]at ap),fun e=>(by subst e;simp [keys]at ap),S.ld m2 rfl,S.row m1,S.ld m0 rfl⟩
theorem steps_it{hq h0:Hp}(okq:hq.t.Sized hq.n)(gq:Gr hq h0){γ:Gra}{nb bp:Nat}(hn:bz hq nb (ptrTo bp) γ){vI:Value}{ids:List Nat}{s t w:Nat}(hI:aC hq 1 bO vI ids)(hp:j8 γ.arcs s ids t w)(hl:ids.length<=1000){b3 b4 b5:Nat}
 (e3:h0.load b3 0 1=some [ptrTo bp]) (e4:Row h0 b4 [.int .i64 (s:Nat)] 1) (e5:h0.load b5 0 1=some [vI]) (d3:b4≠b3) (d5:b4≠b5) (dq:hq.n<=b4):
 IterW yC 139 [ptrTo b5,ptrTo b3,ptrTo b4] h0 (fun c=>c=b5\/c=b3\/c<hq.n) (· =b4) (ids.map fun(a:Nat)=>[.agg ⟨bw (γ.arcs.getD a default)⟩,.bool true]):=by
 intro lb J Z hz Y hW h F s' hb hF hj
 have ok0:=gq.ok
 obtain⟨p1,p2,p3⟩:=hp.at
 have row4:Row h b4 [.int .i64 (s:Nat)] 1:=Row.of_get (hb b4 rfl) e4
 have q5:=s'.load ok0 e5 (.inl rfl)
 have fI:=hI.fl
 refine enter (n:=35) (rs:=[]) rfl Tryz.e139 rfl rfl rfl (lbt rfl) ?_
 simp only [BS,LB,Nat.reduceLT,Tryz.FFwc139,q5,hI.lenq]
 refine aJ (fun(i:Nat) ρ h=>i<=ids.length/\ ∃F,ItS h0 (fun c=>c=b5\/c=b3\/c<hq.n) h F/\b4∉F/\J i h F/\Row h b4 [.int .i64 (jq γ.arcs s ids i:Nat)] 1/\ρ 0=.func (.yield lb) #[] #[]/\ρ 2=ptrTo b3/\ρ 3=ptrTo b4/\ρ 9=vI/\ρ 10=.int .i64 (ids.length:Nat)/\ρ 11=.int .i64 i) (fun i=>ids.length-i) ?_ 0 _ _ ?_
 . clear q5 row4 hj hF hb s' F h
   intro i ih ρ h ⟨hi,F,s',hF,hj,row4,r0,r2,r3,r9,r10,r11⟩
   have wi:aq .i64 ((i:Int)+1)=((i+1:Nat):Int):=by rw [wrap64]<;>omega
   by_cases hlt:i<ids.length
   . obtain⟨ha,hs'⟩:=p1 i hlt
     have ea:ids.getD i 0=ids[i]:=by rw [yr,yt hlt];rfl
     have en:jq γ.arcs s ids (i+1)=(γ.arcs.getD ids[i] default).t:=by
      unfold jq
      rw [if_neg (by omega),yZ,ea]
     have hx:(ids.map fun(a:Nat)=>[Value.agg ⟨bw (γ.arcs.getD a default)⟩,.bool true])[i]? =some [.agg ⟨bw (γ.arcs.getD ids[i] default)⟩,.bool true]:=by rw [yS,yt hlt];rfl
     rw [ea]at ha hs'
     obtain⟨a,ea'⟩: ∃a,ids[i]=a:=⟨_,rfl⟩
     have hI':aC h 1 bO vI ids:=s'.sl ok0 (hI.gr gq) (fun b h=>.inr (.inr (hI.lt okq h)))
     obtain⟨c,o,x0,y0⟩:=hI'.ix (kd:=.i64) bQ hlt
     rw [ea']at y0 ha hs' en hx
     replace y0:h.load c o 1=some [.int .i64 (a:Nat)]:=y0
     have q3:=s'.load ok0 e3 (.inr (.inl rfl))
     have q4:=row4.load1 (o:=0) rfl
     have nt:bz h nb (ptrTo bp) γ:=hn.keep okq (s'.keep (Gr.keep gq) gq.n (fun c hc=>.inr (.inr hc)))
     have S:=Si s'.ok
     have ga:γ.arcs[a]=γ.arcs.getD a default:=by simp [yr,ha]
     have b4lt:=row4.lt s'.ok
     simp only [BS,LB,Nat.reduceLT,Nat.reduceEqDiff,Tryz.FFwc139,r2,r9,r10,r11,ax,hlt,x0,y0,q3]
     refine step_ret (iW S.ok nt ha) ?_
     rintro rv h ⟨g4,rfl⟩
     replace S:=S.call g4
     rw [ga]
     generalize hA:γ.arcs.getD a default=A at hs' en hx
     have hs'':(A.s:Int)=(jq γ.arcs s ids i:Int):=by rw [hs']
     have hx':(ids.map fun(a:Nat)=>[Value.agg ⟨bw (γ.arcs.getD a default)⟩,.bool true])[i]? =some [.agg ⟨[.int .i64 (jq γ.arcs s ids i:Nat),.int .i64 A.t,.int .i64 A.w]⟩,.bool true]:=by rw [hx,<-hs'];rfl
     simp only [BS,LB,Nat.reduceLT,Nat.reduceEqDiff,Tryz.FFwc139,bw]
     refine ag aw S ?_;clear S;intro h b7 S n_b7
     simp only [BS,LB,Nat.reduceLT,Nat.reduceEqDiff]
     refine aA (S.store (i:=0) rfl ?_ ?_ rfl rfl ?_ ono) ?_
     . exact(by exact zm)
     . exact(by intro x e;cases e)
     . exact lbt rfl
     clear S;rintro h ⟨S,mo⟩;clear mo;simp only [LC,ah,lay,yF,yG,Nat.reduceAdd]at S
     have sA:=s'.gr S.gr
     have jA:=Y.gr _ _ _ _ hj S.gr
     have rowA:=row4.gr S.gr
     have q4':=rowA.load1 (o:=0) rfl
     have R7:=S.row (b:=b7) m0
     have n7:b7∉F:=fun hm=>by have:=s'.lt _ hm;have:=g4.n;omega
     have k7:=R7.lt S.ok
     have d7:b7≠b4:=fun e=>by have:=g4.n;omega
     simp only [BS,LB,Nat.reduceLT,Nat.reduceEqDiff,Tryz.FFwc139,r0,r3,q4',hs'',yA,yy,yB,S.ld (b:=b7) (o:=0) m0 rfl,S.lds (b:=b7) (o:=0) (n:=3) m0 (lbt rfl)]
     refine dw Y sA jA (i:=i) hx' ?_ ?_ ?_
     . intro h3 F3 a3 s3 f3 hF3
       have row3:Row h3 b4 [.int .i64 (jq γ.arcs s ids i:Nat)] 1:=f3.has (o:=.row _ 1) rowA hF
       have R7':=f3.has (o:=.row _ 1) R7 n7
       have nF3:b4∉F3:=fun hm=>(hF3 b4 hm).elim hF (fun h=>by have:=S.fr.n;omega)
       have l71:=Row.load1 (o:=1) R7' rfl
       have S:=St.init1 s3.ok (o:=.row _ 1) row3
       simp only [BS,LB,Nat.reduceLT,Nat.reduceEqDiff,Tryz.FFwc139,r3,l71]
       refine aA (aB S (i:=0) rfl zt bu (yK (lbt rfl)) ono) ?_
       clear S;rintro h4 ⟨S,_⟩
       simp only [LC]at S
       have fr:=S.fr
       simp only [BS,LB,Nat.reduceLT,Nat.reduceEqDiff,r11,wi]
       refine ih (i+1) _ _ (by omega) ⟨by omega,F3,?_,nF3,hW _ _ _ _ a3 fr,by rw [en];exact S.row m0,by simp [aa,r0],by simp [aa,r2,ab],by simp [aa,r3,ab],by simp [aa,r9],by simp [aa,r10],by simp [aa]⟩
       exact⟨fr.ok,zq s3.n fr.n,fun b hb hd=>(fr.get b (yD hb s3.n) (by rcases hd with h|h|h;exact fun e=>d5 (by omega);exact fun e=>d3 (by omega);exact fun e=>by omega)).trans (s3.data b hb hd),s3.apart,fun b hb=>yD (s3.lt b hb) fr.n⟩
     . intro h3 a3 _
       simp only [BS,LB,Nat.reduceLT,Nat.reduceEqDiff]
       exact eS rfl ⟨rfl,.inr (.inl ⟨_,rfl,a3⟩)⟩
     . intro v h3 a3
       exact absurd a3 (hz v h3)
   . simp only [BS,LB,Nat.reduceLT,r10,r11,ax,hlt]
     have:i=ids.length:=by omega
     subst this
     exact cR (dh ⟨rfl,_,rfl,rfl,.inl ⟨_,F,rfl,by rw [yI];exact hj⟩⟩)
 . exact⟨yu _,F,s',fun hm=>hF b4 hm rfl,hj,row4,by simp [aa,cf],by simp [aa,cf,ab],by simp [aa,cf,ab],by simp [aa],by simp [aa],by simp [aa]⟩
open Tryz in
def Tryz.FFwc229:=aj a1<|aj s1<|aj z1<|aj n1<|aj u2<|aj a2<|aj s2<|aj z2<|aj i2<|aj u3<|aj a3<|aj s3<|aj z3<|aj i3<|aj u4<|aj a4<|aj s4<|aj z4<|aj n4<|aj u5<|aj a5<|aj s5<|aj z5<|aj i5<|aj u6<|aj a6<|aj s6<|aj z6<|aj i6<|aj a7<|aj s7<|aj z7<|aj i7<|aj n7<|aj p7<|aj ff7<|aj d7<|aj a8<|aj s8<|aj z8<|aj i8<|aj n8<|aj p8<|aj ff8<|aj d8<|aj u9<|aj a9<|aj s9<|aj z9<|aj n9<|aj u10<|aj a10<|aj s10<|aj z10<|aj n10<|aj u11<|aj a11<|aj s11<|aj z11<|aj n11<|aj u12<|aj a12<|aj s12<|aj z12<|aj i12<|aj a13<|aj s13<|aj z13<|aj i13<|aj n13<|aj p13<|aj ff13<|aj d13<|aj u22<|aj a22<|aj s22<|aj z22<|aj q22<|aj n22<|aj a23<|aj s23<|aj z23<|aj i23<|aj n23<|aj p23<|aj ff23<|aj d23<|aj a28<|aj s28<|aj z28<|aj i28<|aj n28<|aj p28<|aj ff28<|aj d28<|aj u29<|aj a29<|aj s29<|aj z29<|aj q29<|aj i29<|aj n29<|aj u38<|aj a38<|aj s38<|aj z38<|aj q38<|aj n38<|aj a49<|aj s49<|aj z49<|aj i49<|aj n49<|aj p49<|aj ff49<|aj d49<|aj a132<|aj s132<|aj z132<|aj n132<|aj u190<|aj a190<|aj s190<|aj z190<|aj q190<|aj n190<|aj a192<|aj s192<|aj z192<|aj i192<|aj n192<|aj p192<|aj ff192<|d192
theorem pM{h0:Hp}(ok:h0.t.Sized h0.n){γ:Gra}(hγ:Good γ){nb bp:Nat}(hn:bz h0 nb (ptrTo bp) γ){vI:Value}{ids:List Nat}{s t w:Nat}(hs:s<γ.nodes)(hI:aC h0 1 bO vI ids)(hl:ids.length<=1000){u:Nat}(hp:j8 γ.arcs s ids u w)(hw:u=t\/(u≠t/\w=0)):
 Ret yC 29 [ptrTo bp,.int .i64 (s:Nat),.int .i64 (t:Nat),vI] h0 fun r h'=>Gr h0 h'/\r=.tuple #[.int .i64 (w:Nat),.bool (decide (u=t))]:=by
 have S:=Si ok
 have fI:=hI.fl
 obtain⟨p1,p2,p3⟩:=hp.at
 refine ac (n:=40) (rs:=[.cell 8 2,.tmp 9]) rfl Tryz.e29 rfl rfl rfl (lbt rfl) ?_
 simp only [BS,Tryz.FFwc229]
 refine ag aw S ?_;clear S;intro h b8 S n_b8
 simp only [BS,LB,Nat.reduceLT,Nat.reduceEqDiff]
 refine ar (wnode_ok S.ok (hn.gr S.gr) hs) ?_
 intro h g;replace S:=S.call g;clear g
 simp only [BS,LB,Nat.reduceLT,Nat.reduceEqDiff,Tryz.FFwc229]
 refine ag aw S ?_;clear S;intro h b10 S n_b10
 simp only [BS,LB,Nat.reduceLT,Nat.reduceEqDiff]
 refine aA (aB S (i:=0) rfl zt bu (yK (lbt rfl)) ono) ?_
 clear S;rintro h ⟨S,_⟩
 simp only [LC]at S
 simp only [BS,LB,Nat.reduceLT,Nat.reduceEqDiff,run_label]
 have k0:=S.fr.n
 refine step_ret (wsteps_ok S.ok fI) ?_
 rintro r hA ⟨g,b3,b4,b5,rfl,n3,n4,n5,d3,d5,y3,y4,y5⟩
 have k8:=(S.row (b:=b8) m1).lt S.ok
 have k10:=(S.row (b:=b10) m0).lt S.ok
 replace S:=S.call g
 have it:=steps_it ok S.gr hn hI hp hl y3 y4 y5 d3 d5 (by omega)
 simp only [BS]
 refine g9 S (g:=139) (a:=#[]) (b:=#[ptrTo b5,ptrTo b3,ptrTo b4]) (by simp [bS,aa,ab]) rfl rfl ?_
 intro h2 db lb S' hdb hlb g2
 have ne10:b10≠b4:=by omega
 have ne8:b8≠b4:=by omega
 obtain⟨X,hX,S'⟩: ∃X:eX,X=_/\St NoM h0 h2 [(lb,.loop X),(db,.dfr),(b10,.row [.int .i64 (s:Nat)] 1),(b8,.row [.int .i64 0] 1)] []:=⟨_,rfl,S'⟩
 have z0:jq γ.arcs s ids 0=s:=rfl
 have z1:sumA γ.arcs ids 0=0:=rfl
 have y4':=y4.lt S.ok
 have hJ:Yld yC lb (fun k h' F=>St NoM h0 h' [(lb,.loop X),(db,.dfr),(b10,.row [.int .i64 (jq γ.arcs s ids k:Nat)] 1),(b8,.row [.int .i64 (sumA γ.arcs ids k:Nat)] 1)] []/\k<=ids.length/\sumA γ.arcs ids k<=k*2147483647/\F=[lb,db,b10,b8]) (fun _ _=>False) (ids.map fun(a:Nat)=>[.agg ⟨bw (γ.arcs.getD a default)⟩,.bool true]):=by
  refine⟨?_,?_,fun _ _ h=>h.elim,?_⟩
  . rintro i h F ⟨S,_,_,rfl⟩;exact⟨S.ok,fun b hb=>S.key_lt (by simpa [keys]using hb)⟩
  . rintro i h F h' ⟨S,a,b,rfl⟩ gg;exact⟨S.call gg,a,b,rfl⟩
  . rintro i x hR F hx ⟨S,a,hb,rfl⟩
    have hil:i<ids.length:=by
     have:=(List.getElem?_eq_some_iff.1 hx).1
     simpa using this
    rw [yS,yt hil]at hx
    cases hx
    obtain⟨ha,hs'⟩:=p1 i hil
    have ea:ids.getD i 0=ids[i]:=by rw [yr,yt hil];rfl
    have en:jq γ.arcs s ids (i+1)=(γ.arcs.getD ids[i] default).t:=by
     unfold jq
     rw [if_neg (by omega),yZ,ea]
    have hsum:=sumA_succ (A:=γ.arcs) hil
    rw [ea]at hsum ha
    have hw2:(γ.arcs.getD ids[i] default).w<=2147483647:=by
     have:γ.arcs.getD ids[i] default∈γ.arcs:=by rw [yr,yt ha];exact yx ha
     exact(hγ.arcs _ this).2.2
    have ws:aq .i64 ((sumA γ.arcs ids i:Int)+((γ.arcs.getD ids[i] default).w:Int))=((sumA γ.arcs ids (i+1):Nat):Int):=by rw [hsum,wrap64]<;>omega
    subst hX
    refine hQ (S.get m0) (by rw [Tryz.e29];rfl) rfl ?_
    have S0:=S
    replace S:=S.base
    simp only [BS,Tryz.FFwc229,bw]
    refine ag aw S ?_;clear S;intro h b11 S n_b11
    simp only [BS,LB,Nat.reduceLT,Nat.reduceEqDiff]
    refine aA (S.store (i:=0) rfl ?_ ?_ rfl rfl ?_ ono) ?_
    . exact(by exact zm)
    . exact(by intro x e;cases e)
    . exact lbt rfl
    clear S;rintro h ⟨S,mo⟩;clear mo;simp only [LC,ah,lay,yF,yG,Nat.reduceAdd]at S
    simp only [BS,LB,Nat.reduceLT,Nat.reduceEqDiff]
    refine gw S (i:=1) rfl rfl rfl rfl rfl ?_
    clear S;intro h S
    simp only [LC]at S
    simp only [BS,LB,Nat.reduceLT,Nat.reduceEqDiff,Tryz.FFwc229,ws,S.ld (b:=b8) (o:=0) m4 rfl,S.ld (b:=b11) (o:=2) m0 rfl]
    refine aA (aB S (i:=4) rfl zu bu (yK (lbt rfl)) ono) ?_
    clear S;rintro h ⟨S,_⟩
    simp only [LC]at S
    simp only [BS,LB,Nat.reduceLT,Nat.reduceEqDiff,Tryz.FFwc229,S.ld (b:=b11) (o:=1) m0 rfl]
    refine aA (aB S (i:=3) rfl zt bu (yK (lbt rfl)) ono) ?_
    clear S;rintro h ⟨S,_⟩
    simp only [LC]at S
    simp only [BS]
    refine d6 S (i:=1) rfl ?_
    clear S;intro h S
    simp only [LC]at S
    rw [<-en]at S
    refine .inl ⟨rfl,_,⟨S0.rebase S.drop1,by omega,by omega,rfl⟩,?_,fun c hc=>.inl hc⟩
    have:=S.fr
    simp only [keys,List.map_cons,List.map_nil,List.filterMap_nil,yY]at this
    exact this
 refine fu (it lb _ _ (fun _ _ h=>h) hJ ?_ h2 [lb,db,b10,b8] ?_ (fun b hb=>?_) (fun b hb=>?_) ⟨by rw [z0,z1];exact S',yu _,by rw [z1];exact yu _,rfl⟩) fun o rc h' y=>hU y ?_
 . rintro i h F h' ⟨T,a,b,rfl⟩ mo
   refine⟨T.step mo (fun c hc=>.inr (by subst hc;omega)) (fun c hc e=>?_),a,b,rfl⟩
   subst e
   simp only [keys,List.map_cons,List.map_nil,List.filterMap_nil,yY,zn,yO,or_false]at hc
   omega
 . refine⟨S'.ok,g2.n,fun b hb _=>g2.get b hb,fun b hb h=>?_,fun b hb=>S'.key_lt (by simpa [keys]using hb)⟩
   simp only [zn,yO,or_false]at hb
   rcases hb with rfl|rfl|rfl|rfl
   . omega
   . omega
   . rcases h.2 with e|e|e<;>omega
   . rcases h.2 with e|e|e<;>omega
 . subst hb
   exact g2.get _ y4'
 . intro e
   subst e
   simp only [zn,yO,or_false]at hb
   omega
 . rintro F ⟨T,_,_,rfl⟩
   rw [yI]at T
   rw [p2,p3]at T
   subst hX
   refine⟨_,T.get m0,Nat.zero_ne_one,?_⟩
   replace T:=T.dead
   have S:=T
   have c0: ¬(u:Int)<0:=by omega
   have c0': ¬(t:Int)<0:=by omega
   show Run _ _ _ _ _ _ _ _
   by_cases hut:u=t
   . have c1:(u:Int)=(t:Int):=by omega
     simp only [BS,LB,Nat.reduceLT,Nat.reduceEqDiff,Tryz.FFwc229,c0',c1,S.ld (b:=b10) (o:=0) m1 rfl,S.ld (b:=b8) (o:=0) m2 rfl]
     refine aA (aB T (i:=2) rfl zu bu (yK (lbt rfl)) ono) ?_
     clear S;rintro h3 ⟨S,_⟩
     simp only [LC]at S
     simp only [BS]
     refine eP (iw [db] _ (L:=[(b10,_),(b8,_)]) S.base fun h4 S4=>?_)
     refine⟨rfl,(fJ (by decide) (by simp only [aN,ab,Nat.reduceEqDiff,reduceIte];exact lS Tryz.a2 (S4.ld (b:=b8) (o:=0) m1 rfl))).2 ((gV (by decide)).2 (eV.2 ⟨(S.rebase S4).gr,?_⟩))⟩
     rw [decide_eq_true hut];rfl
   . have c1: ¬(u:Int)=(t:Int):=by omega
     have w0:w=0:=(hw.resolve_left hut).2
     subst w0
     simp only [BS,LB,Nat.reduceLT,Nat.reduceEqDiff,yN,Tryz.FFwc229,c0,c1,S.ld (b:=b10) (o:=0) m1 rfl,S.ld (b:=b8) (o:=0) m2 rfl]
     refine aA (aB T (i:=2) rfl zu bu (yK (lbt rfl)) ono) ?_
     clear S;rintro h3 ⟨S,_⟩
     simp only [LC]at S
     simp only [BS]
     refine eP (iw [db] _ (L:=[(b10,_),(b8,_)]) S.base fun h4 S4=>?_)
     refine⟨rfl,(fJ (by decide) (by simp only [aN,ab,Nat.reduceEqDiff,reduceIte];exact lS Tryz.a2 (S4.ld (b:=b8) (o:=0) m1 rfl))).2 ((gV (by decide)).2 (eV.2 ⟨(S.rebase S4).gr,?_⟩))⟩
     rw [decide_eq_false hut];rfl
open Tryz in
def Tryz.FFfl135:=aj a1<|aj s1<|aj z1<|aj n1<|aj u2<|aj a2<|aj s2<|aj z2<|aj i2<|aj u3<|aj a3<|aj s3<|aj z3<|aj i3<|aj u4<|aj a4<|aj s4<|aj z4<|aj n4<|aj u5<|aj a5<|aj s5<|aj z5<|aj i5<|aj u6<|aj a6<|aj s6<|aj z6<|aj i6<|aj a7<|aj s7<|aj z7<|aj i7<|aj n7<|aj p7<|aj ff7<|aj d7<|aj a8<|aj s8<|aj z8<|aj i8<|aj n8<|aj p8<|aj ff8<|aj d8<|aj u9<|aj a9<|aj s9<|aj z9<|aj n9<|aj u10<|aj a10<|aj s10<|aj z10<|aj n10<|aj u11<|aj a11<|aj s11<|aj z11<|aj n11<|aj u12<|aj a12<|aj s12<|aj z12<|aj i12<|aj a13<|aj s13<|aj z13<|aj i13<|aj n13<|aj p13<|aj ff13<|aj d13<|aj a14<|aj s14<|aj z14<|aj i14<|aj n14<|aj p14<|aj ff14<|aj d14<|aj u15<|aj a15<|aj s15<|aj z15<|aj q15<|aj i15<|aj n15<|aj u16<|aj a16<|aj s16<|aj z16<|aj q16<|aj i16<|aj n16<|aj u17<|aj a17<|aj s17<|aj z17<|aj q17<|aj i17<|aj n17<|aj a18<|aj s18<|aj z18<|aj i18<|aj n18<|aj p18<|aj ff18<|aj d18<|aj a19<|aj s19<|aj z19<|aj i19<|aj n19<|aj p19<|aj ff19<|aj d19<|aj a20<|aj s20<|aj z20<|aj q20<|aj n20<|aj u21<|aj a21<|aj s21<|aj z21<|aj i21<|aj u22<|aj a22<|aj s22<|aj z22<|aj q22<|aj n22<|aj a23<|aj s23<|aj z23<|aj i23<|aj n23<|aj p23<|aj ff23<|aj d23<|aj a24<|aj s24<|aj z24<|aj i24<|aj n24<|aj p24<|aj ff24<|aj d24<|aj u25<|aj a25<|aj s25<|aj z25<|aj q25<|aj n25<|aj u26<|aj a26<|aj s26<|aj z26<|aj q26<|aj n26<|aj a28<|aj s28<|aj z28<|aj i28<|aj n28<|aj p28<|aj ff28<|aj d28<|aj u29<|aj a29<|aj s29<|aj z29<|aj q29<|aj i29<|aj n29<|aj u30<|aj a30<|aj s30<|aj z30<|aj q30<|aj i30<|aj n30<|aj u34<|aj a34<|aj s34<|aj z34<|aj q34<|aj i34<|aj n34<|aj u38<|aj a38<|aj s38<|aj z38<|aj q38<|aj n38<|aj u43<|aj a43<|aj s43<|aj z43<|aj q43<|aj n43<|aj a49<|aj s49<|aj z49<|aj i49<|aj n49<|aj p49<|aj ff49<|aj d49<|aj u52<|aj a52<|aj s52<|aj z52<|aj q52<|aj n52<|aj a54<|aj s54<|aj z54<|aj i54<|aj n54<|aj p54<|aj ff54<|aj d54<|aj u55<|aj a55<|aj s55<|aj z55<|aj i55<|aj a59<|aj s59<|aj z59<|aj i59<|aj n59<|aj p59<|aj ff59<|aj d59<|aj a115<|aj s115<|aj z115<|aj i115<|aj n115<|aj p115<|aj ff115<|aj d115<|aj a117<|aj s117<|aj z117<|aj i117<|aj n117<|aj p117<|aj ff117<|aj d117<|aj u121<|aj a121<|aj s121<|aj z121<|aj q121<|aj i121<|aj n121<|aj a164<|aj s164<|aj z164<|aj i164<|aj n164<|aj p164<|aj ff164<|aj d164<|aj u190<|aj a190<|aj s190<|aj z190<|aj q190<|aj n190<|aj a192<|aj s192<|aj z192<|aj i192<|aj n192<|aj p192<|aj ff192<|aj d192<|aj u294<|aj a294<|aj s294<|aj z294<|aj i294<|aj u324<|aj a324<|aj s324<|aj z324<|aj i324<|aj a357<|aj s357<|aj z357<|aj i357<|aj n357<|aj p357<|aj ff357<|aj d357<|aj u358<|aj a358<|aj s358<|aj z358<|aj n358<|aj a360<|aj s360<|aj z360<|aj i360<|aj n360<|aj u362<|aj a362<|aj s362<|aj z362<|aj i362<|aj a363<|aj s363<|aj z363<|aj n363<|aj u364<|aj a364<|aj s364<|aj z364<|aj i364<|aj u365<|aj a365<|aj s365<|aj z365<|aj i365<|aj a367<|aj s367<|aj z367<|aj i367<|aj n367<|aj p367<|aj ff367<|d367
theorem fold_ge(l:List Int)(a:Int):a<=l.foldl max a/\ ∀x∈l,x<=l.foldl max a:=by
 induction l generalizing a with
 |nil=>exact⟨Int.le_refl _,fun x h=>by cases h⟩
 | cons y ys ih=>
   obtain⟨h1,h2⟩:=ih (max a y)
   refine⟨by rw [List.foldl_cons];omega,fun x hx=>?_⟩
   rw [List.foldl_cons]
   rcases List.mem_cons.1 hx with rfl|hx
   . omega
   . exact h2 x hx
theorem lmax_ge{l:List Int}{x:Int}(h:x∈l):x<=eK l:=by
 cases l with
 |nil=>cases h
 | cons y ys=>
   rw [eK]
   rcases List.mem_cons.1 h with rfl|h
   . exact(fold_ge ys _).1
   . exact(fold_ge ys _).2 x h
theorem slB_of{h:Hp}{bl n:Nat}{f:Nat->Bool}(R:Row h bl (df n f) 1):aC h 1 encB (.slice (some ⟨bl,0,none⟩) n n) ((yv n).map f):=by
 refine .inr ⟨bl,0,none,n,by simp,by simp,?_⟩
 rw [R.load (by rw [oa];simp),yA,yU (by rw [oa];simp),ze]
 exact congrArg some zo
theorem alF_of{n:Nat}{f:Nat->Bool}{i:Nat}(hi:i<n):alF ((yv n).map f) i=f i:=by
 unfold alF
 have:((yv n).map f).isEmpty=false:=by
  cases n with
  |zero=>omega
  |succ n=>simp [List.range_succ]
 rw [this,Bool.false_or]
 simp [yr,hi]
theorem ry {h0:Hp} (ok:h0.t.Sized h0.n) {vB vO:Value} {B O:List Int} {u:Nat} (hB:SlW h0 .u8 vB B) (hO:SlW h0 .u8 vO O) (cO: ∀x∈O,0<=x/\x<=255) (lu:u<=255):
 bF yC 5 [.agg ⟨[vB,vO]⟩,.int .u8 (u:Nat)] h0 (.bool true):=by
 have S:=Si ok
 have fB:=hB.sl.fl
 have fO:=hO.sl.fl
 refine ac (n:=120) (rs:=[.tmp 4]) rfl Tryz.e5 rfl rfl rfl (lbt rfl) ?_
 simp only [BS,Nat.reduceLT]
 refine ag (bE (by intro x e;cases e)) S ?_;clear S;intro h b1 S n_b1;simp only [ah]at S
 simp only [BS,LB]
 refine ar (pK S.ok) ?_
 intro h1 g1;replace S:=S.call g1;clear g1
 have hB':SlW h1 .u8 vB B:=hB.imp (fun h=>h) (fun⟨b,o,c,h1,h2,h3⟩=>⟨b,o,c,h1,h2,S.old h3 (fun h=>h)⟩)
 have hO':SlW h1 .u8 vO O:=hO.imp (fun h=>h) (fun⟨b,o,c,h1,h2,h3⟩=>⟨b,o,c,h1,h2,S.old h3 (fun h=>h)⟩)
 simp only [BS,LB,Nat.reduceLT,Nat.reduceEqDiff,Tryz.FFfl135,yA,yy,yB,S.lds (b:=b1) (o:=0) (n:=2) m0 (lbt rfl)]
 refine step_ret (vQ S.ok hB' hO' cO) ?_;intro v h ⟨g,γ,vx,vy,va,p,q,m,er,hγ,⟨kp,hp⟩,⟨kq,hq⟩,lm,ga,bm,mz,_⟩;replace S:=S.call g;clear g
 subst er
 have n1:=hγ.n1
 have n2:=hγ.n2
 have many:=hγ.many
 obtain⟨bp,ep⟩: ∃b,p=ptrTo b:=by obtain⟨b,_,_,_,_,_,e,_⟩:=hp.ex;exact⟨b,e⟩
 obtain⟨bq,eq⟩: ∃b,q=ptrTo b:=by obtain⟨b,_,e,_⟩:=hq;exact⟨b,e⟩
 subst ep eq
 have eT: ∀{s:Nat},s<γ.nodes-> ∀v,IsD (seen γ.arcs Arc.t Arc.s) s v (dOf (seen γ.arcs Arc.t Arc.s) s v):=fun hs v=>exTo S.ok hγ hp hs v
 obtain⟨c,hc⟩: ∃c:Nat->Nat,∀v,v<γ.nodes->m.getD v 0=(c v:Int):=⟨fun v=>(m.getD v 0).toNat,fun v hv=>by
  have hv':v<m.length:=by omega
  have:=mz _ (yx hv')
  have e:m.getD v 0=m[v]:=by rw [yr,yt hv',yV]
  show m.getD v 0=((m.getD v 0).toNat:Int)
  rw [e];omega⟩
 have cel:fV h kq (ptrTo bq) γ.nodes m c:=⟨hq,lm,hc⟩
 obtain⟨M,hM⟩: ∃M:Nat,eK m+1=(M:Int):=⟨(eK m+1).toNat,by omega⟩
 simp only [BS,LB,Nat.reduceLT,Nat.reduceEqDiff,Tryz.FFfl135,cZ]
 have g0:=S.gr
 clear S;have S:=Si g0.ok
 rename Hp=>hG
 refine ag aw S ?_;clear S;intro h b5 S n_b5
 have fx:=ga.X.fl
 have fy:=ga.Y.fl
 have fa:=ga.A.fl
 simp only [BS,LB,Nat.reduceLT,Nat.reduceEqDiff]
 refine aA (S.store (i:=0) rfl yQ (by intro x e;cases e) rfl (by simp only [ah,yJ,yL,fx.2.1,fy.2.1,fa.2.1,yz];rfl) (lbt rfl) ono) ?_
 clear S;rintro h ⟨S,_⟩
 simp only [LC,ah,lay,yF,yG,Nat.reduceAdd]at S
 simp only [BS,LB,Nat.reduceLT,Nat.reduceEqDiff,Tryz.FFfl135]
 refine step_ret (ofB_ok S.ok hγ (hp.gr S.gr) (cel.gr S.gr) hM (by omega)) ?_
 rintro r hF ⟨g,fp,fb,Bt,rfl,nf,nfb,hne,BN,oB⟩
 replace S:=S.call g;clear g
 generalize hlong:(γ.arcs.length+7)/8=long at*
 have rest: ∀{h:Hp},Gr hF h->gJ h fp fb M γ.arcs.length long Bt:=fun g=>BN.gr g
 have gF:Gr hF hF:=Gr.refl S.ok
 have nz:(γ.nodes:Int)≠0:=by omega
 have tm:(u:Int).tmod (γ.nodes:Int)=((u%γ.nodes:Nat):Int):=by rw [Int.tmod_eq_emod_of_nonneg (by omega)];exact(Int.natCast_emod _ _).symm
 have wu:aq .i64 (u:Int)=(u:Int):=by rw [wrap64]<;>omega
 simp only [BS,LB,jg,cj,ji,Nat.reduceLT,Nat.reduceEqDiff,Tryz.FFfl135,wu,mN nz,tm,S.ld (b:=b5) (o:=0) m0 rfl]
 have hs:u%γ.nodes<γ.nodes:=Nat.mod_lt _ (by omega)
 generalize u%γ.nodes=s at hs
 refine aJ (fun(t:Nat) ρ h=>t<=γ.nodes/\Gr hG h/\Gr hF h/\Row h b5 [.int .i64 γ.nodes,vx,vy,va] 1/\ρ 5=ptrTo b5/\ρ 6=ptrTo bp/\ρ 7=ptrTo bq/\ρ 8=ptrTo fp/\ρ 9=.int .i64 s/\ρ 10=.int .i64 t) (fun t=>γ.nodes-t) ?_ 0 _ _ ?_
 . clear S gF
   intro t ih ρ h ⟨htl,gG,gF,R5,r5,r6,r7,r8,r9,r10⟩
   have w:aq .i64 ((t:Int)+1)=((t+1:Nat):Int):=by rw [wrap64]<;>omega
   have l5:=R5.load1 (o:=0) rfl
   by_cases hlt:t<γ.nodes
   . rename Hp=>hI
     have S:=Si gG.ok
     simp only [BS,LB,Nat.reduceLT,Nat.reduceEqDiff,Nat.reduceAdd,Tryz.FFfl135,r5,r6,r9,r10,ax,hlt,l5]
     refine step_ret (rY S.ok hγ (hp.gr gG) hs hlt (als:=[]) (pis:=[]) (.inl ⟨rfl,rfl⟩) (.inl rfl) (.inl ⟨rfl,rfl⟩) (.inl rfl)) ?_
     rintro r h2 ⟨g2,v1,f1,rfl,⟨vA1,vE1,rfl,GA1,GE1,_,_⟩,run1⟩
     replace S:=S.call g2;clear g2
     have sA1:aC h2 1 bO vA1 f1.arcs:=GA1.sl rfl bQ (by decide)
     have sE1:=GE1.sl (enc:=iO) (xs:=f1.ev) rfl oO (by decide)
     have fA1:=sA1.fl
     have fE1:=sE1.fl
     simp only [BS,LB,Nat.reduceLT,Nat.reduceEqDiff,Tryz.FFfl135]
     refine ag aw S ?_;clear S;intro h b11 S n_b11
     simp only [BS,LB,Nat.reduceLT,Nat.reduceEqDiff]
     refine aA (S.store (i:=0) rfl Tryz.s54 (by intro x e;cases e) rfl (by simp only [ah,yJ,yL,fA1.2.1,fE1.2.1,yz];rfl) (lbt rfl) ono) ?_
     clear S;rintro h ⟨S,_⟩
     simp only [LC,ah,lay,yF,yG,Nat.reduceAdd]at S
     simp only [BS,LB,Nat.reduceLT,Nat.reduceEqDiff,r6,r7,r8,r9,r10]
     refine ar (lK S.ok (cel.gr (gG.trans S.gr)) hlt) ?_
     intro h3 g3;replace S:=S.call g3;clear g3
     have hcM:c t<M:=by
      have h1:=hc t hlt
      have hv':t<m.length:=by omega
      have e:m.getD t 0=m[t]:=by rw [yr,yt hv',yV]
      have:=lmax_ge (yx hv')
      omega
     simp only [BS,LB,Nat.reduceLT,Nat.reduceEqDiff]
     refine step_ret (tz S.ok (rest (gF.trans S.gr)) hcM (by omega) (by omega) hlong.symm) ?_
     rintro r h4 ⟨g4,bl,rfl,RA,nA⟩
     replace S:=S.call g4;clear g4
     have sB:aC h4 1 encB (.slice (some ⟨bl,0,none⟩) γ.arcs.length γ.arcs.length) ((yv γ.arcs.length).map (dH Bt long (c t))):=slB_of RA
     simp only [BS,LB,Nat.reduceLT,Nat.reduceEqDiff,Nat.reduceAdd,Tryz.FFfl135]
     refine step_ret (rY S.ok hγ (hp.gr (gG.trans S.gr)) hs hlt (pis:=[]) sB (.inr (by simp)) (.inl ⟨rfl,rfl⟩) (.inl rfl)) ?_
     rintro r h5 ⟨g5,v2,f2,rfl,⟨vA2,vE2,rfl,GA2,GE2,_,_⟩,run2⟩
     replace S:=S.call g5;clear g5
     rename Hp=>hJ
     have sA2:aC hJ 1 bO vA2 f2.arcs:=GA2.sl rfl bQ (by decide)
     have sE2:=GE2.sl (enc:=iO) (xs:=f2.ev) rfl oO (by decide)
     have fA2:=sA2.fl
     have fE2:=sE2.fl
     have gIJ:=S.gr
     have gGJ:=gG.trans S.gr
     have gFJ:=gF.trans S.gr
     have R11:=S.row (b:=b11) m0
     clear S
     have S:=Si gIJ.ok
     have hal: ∀i,i<γ.arcs.length->(alF ((yv γ.arcs.length).map (dH Bt long (c t))) i=true↔i∈bK γ c (c t)):=fun i hi=>by
      rw [alF_of hi,oB _ i hi]
      simp only [yB,yO,and_false,or_false,hcM,true_and]
     have hd:f2.dist=f1.dist:=run_keeps hγ hs hlt eT hal run2 run1
     obtain⟨_,hpa,hon⟩:=pa hγ hs run2
     have hl12:=(found_len hγ hs run2).1
     simp only [BS,LB,Nat.reduceLT,Nat.reduceEqDiff,Tryz.FFfl135]
     refine ag aw S ?_;clear S;intro h b13 S n_b13
     simp only [BS,LB,Nat.reduceLT,Nat.reduceEqDiff]
     refine aA (S.store (i:=0) rfl Tryz.s54 (by intro x e;cases e) rfl (by simp only [ah,yJ,yL,fA2.2.1,fE2.2.1,yz];rfl) (lbt rfl) ono) ?_
     clear S;rintro h ⟨S,_⟩
     simp only [LC,ah,lay,yF,yG,Nat.reduceAdd]at S
     have l11:=(R11.gr S.gr).load1 (o:=0) rfl
     have hF':=gY
     rw [<-hd]at l11
     simp only [BS,LB,Nat.reduceLT,Nat.reduceEqDiff,Tryz.FFfl135,r6,r9,r10,l11,S.ld (b:=b13) (o:=0) m0 rfl,S.ld (b:=b13) (o:=1) m0 rfl]
     rcases hpa with⟨hlf,hpa⟩|⟨hef,hnil,hne'⟩
     . refine step_ret (pM S.ok hγ (hp.gr (gGJ.trans S.gr)) hs (sA2.gr S.gr) (by omega) hpa (t:=t) (.inl rfl)) ?_
       rintro r h6 ⟨g6,rfl⟩
       replace S:=S.call g6;replace l11:=g6.load l11;clear g6
       have hlf':(f2.dist:Int)<72057594037927936:=by omega
       simp only [BS,LB,Nat.reduceLT,Nat.reduceEqDiff,Tryz.FFfl135,l11,hlf',S.ld (b:=b13) (o:=0) m0 rfl]
       refine aJ (fun(i:Nat) ρ h=>i<=f2.arcs.length/\St NoM hJ h [(b13,.row [.int .i64 f2.dist,vA2,vE2] 1)] []/\ρ 5=ptrTo b5/\ρ 6=ptrTo bp/\ρ 7=ptrTo bq/\ρ 8=ptrTo fp/\ρ 9=.int .i64 s/\ρ 10=.int .i64 t/\ρ 13=ptrTo b13/\ρ 17=.int .i64 i) (fun i=>f2.arcs.length-i) ?_ 0 _ _ ?_
       . clear S r5 r6 r7 r8 r9 r10
         intro i ihi ρ h ⟨hi,S,r5,r6,r7,r8,r9,r10,r13,r17⟩
         have wi:aq .i64 ((i:Int)+1)=((i+1:Nat):Int):=by rw [wrap64]<;>omega
         by_cases hit:i<f2.arcs.length
         . simp only [BS,LB,Nat.reduceLT,Nat.reduceEqDiff,Tryz.FFfl135,r13,r17,ax,hit,sA2.lenq,S.ld (b:=b13) (o:=1) m0 rfl]
           obtain⟨d,oo,x0,y0⟩:=(sA2.gr S.gr).ix (kd:=.i64) bQ hit
           have hv:=hon _ (yx hit)
           generalize f2.arcs[i]=a at hv y0
           have hbit:dH Bt long (c t) a=true:=by rw [<-alF_of (f:=dH Bt long (c t)) hv.1];exact hv.2
           replace y0:h.load d oo 1=some [.int .i64 (a:Nat)]:=y0
           have ld:=bH S.ok y0
           have l13:=(S.row (b:=b13) m0).lt S.ok
           refine ay (aF rfl) (q:=0) (ps:=[(3,8),(3,5)]) (by kernel_rfl) ?_
           simp only [BS,LB,cls,Nat.reduceLT,Nat.reduceEqDiff,Nat.reduceAdd,Nat.reducePow,Nat.reduceDiv,Nat.reduceMod,Nat.reduceLeDiff,r7,r8,r10]
           refine cy (lK S.ok (cel.gr (gGJ.trans S.gr)) hlt) ?_
           intro h7 g7
           have e1:=az g7 ld
           have e2:=az g7 l13
           have k7:=g7.n
           replace S:=S.call g7;replace y0:=g7.load y0;clear g7
           simp only [BS,LB,cls,Nat.reduceLT,Nat.reduceEqDiff,Nat.reduceAdd,Nat.reducePow,Nat.reduceDiv,Nat.reduceMod,Nat.reduceLeDiff,Tryz.FFfl135,r13,r17,x0,y0,S.ld (b:=b13) (o:=1) m0 rfl]
           have hget:=pS S.ok (rest (gFJ.trans S.gr)) hcM hv.1 (by omega) (by omega) hlong.symm
           rw [hbit]at hget
           refine cy hget ?_
           intro h8 g8
           have e3:=az g8 (yD ld k7)
           have e4:=az g8 (yD l13 k7)
           replace S:=S.call g8;clear g8
           simp only [BS,LB,cls,Nat.reduceLT,Nat.reduceEqDiff,Nat.reduceAdd,Nat.reducePow,Nat.reduceDiv,Nat.reduceMod,Nat.reduceLeDiff,r17]
           refine⟨by simp only [bj,bC,aW,bA,aZ,ne_eq,not_false_eq_true,bG,bU,bg,aY,bS,cM,aN,Nat.reduceLT,Nat.reduceEqDiff,reduceIte,yz,r5,r6,r7,r8,r9,r10,r13,r17,ab,aM e1,aR e1,aM e2,aR e2,aM e3,aR e3,aM e4,aR e4],?_⟩
           simp only [wi]
           exact ihi (i+1) _ _ (by omega) ⟨by omega,S,by simp [aa,r5,ab],by simp [aa,r6,ab],by simp [aa,r7,ab],by simp [aa,r8,ab],by simp [aa,r9],by simp [aa,r10],by simp [aa,r13,ab],by simp [aa]⟩
         . simp only [BS,LB,ae,Nat.reduceLT,Nat.reduceEqDiff,Tryz.FFfl135,r10,r13,r17,ax,hit,sA2.lenq,w,S.ld (b:=b13) (o:=1) m0 rfl]
           exact ih (t+1) _ _ (by omega) ⟨by omega,gGJ.trans S.gr,gFJ.trans S.gr,R5.gr (gIJ.trans S.gr),by simp [aa,r5,ab],by simp [aa,r6,ab],by simp [aa,r7,ab],by simp [aa,r8,ab],by simp [aa,r9],by simp [aa]⟩
       . exact⟨yu _,S,by simp [aa,r5,ab],by simp [aa,r6,ab],by simp [aa,r7,ab],by simp [aa,r8,ab],by simp [aa,r9],by simp [aa,r10],by simp [aa,ab],by simp [aa]⟩
     . have hpn:j8 γ.arcs s f2.arcs s 0:=by rw [hnil];exact .nil
       refine step_ret (pM S.ok hγ (hp.gr (gGJ.trans S.gr)) hs (sA2.gr S.gr) (by omega) hpn (t:=t) (.inr ⟨hne',rfl⟩)) ?_
       rintro r h6 ⟨g6,rfl⟩
       replace S:=S.call g6;replace l11:=g6.load l11;clear g6
       have hlf': ¬(f2.dist:Int)<72057594037927936:=by omega
       simp only [BS,LB,Nat.reduceLT,Nat.reduceEqDiff,yN,Tryz.FFfl135,l11,hlf',S.ld (b:=b13) (o:=0) m0 rfl]
       refine aJ (fun(i:Nat) ρ h=>i<=f2.arcs.length/\St NoM hJ h [(b13,.row [.int .i64 f2.dist,vA2,vE2] 1)] []/\ρ 5=ptrTo b5/\ρ 6=ptrTo bp/\ρ 7=ptrTo bq/\ρ 8=ptrTo fp/\ρ 9=.int .i64 s/\ρ 10=.int .i64 t/\ρ 13=ptrTo b13/\ρ 17=.int .i64 i) (fun i=>f2.arcs.length-i) ?_ 0 _ _ ?_
       . clear S r5 r6 r7 r8 r9 r10
         intro i ihi ρ h ⟨hi,S,r5,r6,r7,r8,r9,r10,r13,r17⟩
         have wi:aq .i64 ((i:Int)+1)=((i+1:Nat):Int):=by rw [wrap64]<;>omega
         by_cases hit:i<f2.arcs.length
         . simp only [BS,LB,Nat.reduceLT,Nat.reduceEqDiff,Tryz.FFfl135,r13,r17,ax,hit,sA2.lenq,S.ld (b:=b13) (o:=1) m0 rfl]
           obtain⟨d,oo,x0,y0⟩:=(sA2.gr S.gr).ix (kd:=.i64) bQ hit
           have hv:=hon _ (yx hit)
           generalize f2.arcs[i]=a at hv y0
           have hbit:dH Bt long (c t) a=true:=by rw [<-alF_of (f:=dH Bt long (c t)) hv.1];exact hv.2
           replace y0:h.load d oo 1=some [.int .i64 (a:Nat)]:=y0
           have ld:=bH S.ok y0
           have l13:=(S.row (b:=b13) m0).lt S.ok
           refine ay (aF rfl) (q:=0) (ps:=[(3,8),(3,5)]) (by kernel_rfl) ?_
           simp only [BS,LB,cls,Nat.reduceLT,Nat.reduceEqDiff,Nat.reduceAdd,Nat.reducePow,Nat.reduceDiv,Nat.reduceMod,Nat.reduceLeDiff,r7,r8,r10]
           refine cy (lK S.ok (cel.gr (gGJ.trans S.gr)) hlt) ?_
           intro h7 g7
           have e1:=az g7 ld
           have e2:=az g7 l13
           have k7:=g7.n
           replace S:=S.call g7;replace y0:=g7.load y0;clear g7
           simp only [BS,LB,cls,Nat.reduceLT,Nat.reduceEqDiff,Nat.reduceAdd,Nat.reducePow,Nat.reduceDiv,Nat.reduceMod,Nat.reduceLeDiff,Tryz.FFfl135,r13,r17,x0,y0,S.ld (b:=b13) (o:=1) m0 rfl]
           have hget:=pS S.ok (rest (gFJ.trans S.gr)) hcM hv.1 (by omega) (by omega) hlong.symm
           rw [hbit]at hget
           refine cy hget ?_
           intro h8 g8
           have e3:=az g8 (yD ld k7)
           have e4:=az g8 (yD l13 k7)
           replace S:=S.call g8;clear g8
           simp only [BS,LB,cls,Nat.reduceLT,Nat.reduceEqDiff,Nat.reduceAdd,Nat.reducePow,Nat.reduceDiv,Nat.reduceMod,Nat.reduceLeDiff,r17]
           refine⟨by simp only [bj,bC,aW,bA,aZ,ne_eq,not_false_eq_true,bG,bU,bg,aY,bS,cM,aN,Nat.reduceLT,Nat.reduceEqDiff,reduceIte,yz,r5,r6,r7,r8,r9,r10,r13,r17,ab,aM e1,aR e1,aM e2,aR e2,aM e3,aR e3,aM e4,aR e4],?_⟩
           simp only [wi]
           exact ihi (i+1) _ _ (by omega) ⟨by omega,S,by simp [aa,r5,ab],by simp [aa,r6,ab],by simp [aa,r7,ab],by simp [aa,r8,ab],by simp [aa,r9],by simp [aa,r10],by simp [aa,r13,ab],by simp [aa]⟩
         . simp only [BS,LB,ae,Nat.reduceLT,Nat.reduceEqDiff,Tryz.FFfl135,r10,r13,r17,ax,hit,sA2.lenq,w,S.ld (b:=b13) (o:=1) m0 rfl]
           exact ih (t+1) _ _ (by omega) ⟨by omega,gGJ.trans S.gr,gFJ.trans S.gr,R5.gr (gIJ.trans S.gr),by simp [aa,r5,ab],by simp [aa,r6,ab],by simp [aa,r7,ab],by simp [aa,r8,ab],by simp [aa,r9],by simp [aa]⟩
       . exact⟨yu _,S,by simp [aa,r5,ab],by simp [aa,r6,ab],by simp [aa,r7,ab],by simp [aa,r8,ab],by simp [aa,r9],by simp [aa,r10],by simp [aa,ab],by simp [aa]⟩
   . have:t=γ.nodes:=by omega
     subst this
     simp only [BS,LB,ae,Nat.reduceLT,Nat.reduceEqDiff,Tryz.FFfl135,r5,r10,ax,hlt,l5]
     exact g0.trans gG
 . exact⟨yu _,S.gr,gF,S.row m0,by simp [aa,ab],by simp [aa,ab],by simp [aa,ab],by simp [aa,ab],by simp [aa],by simp [aa]⟩
end Go.Ab
end
section
namespace Go.Ab
open Go.ChangeShapes Go.WideShapes Go.RowKit
theorem rowAt_le{P:Program}{fits:TypeId->Bool}{d:Nat}{e:TypeId}{count off n:Nat}(h:rowAt P fits d e count off n=true):off<=count*P.cellsOf e:=by
 cases d with
 |zero=>cases h
 | succ d=>
   unfold rowAt at h
   simp only []at h
   split at h
   . cases h
   . rename_i hs
     have hpos:0<P.cellsOf e:=by omega
     have hdm:=Nat.div_add_mod off (P.cellsOf e)
     simp only [Bool.or_eq_true,Bool.and_eq_true,beq_iff_eq,decide_eq_true_eq]at h
     rcases h with⟨⟨h1,h2⟩,_⟩|⟨h1,_⟩
     . have:P.cellsOf e*(off/P.cellsOf e)<=P.cellsOf e*count:=Nat.mul_le_mul_left _ (by omega)
       rw [Nat.mul_comm count];omega
     . have:P.cellsOf e*(off/P.cellsOf e+1)<=P.cellsOf e*count:=Nat.mul_le_mul_left _ (by omega)
       have hlt:=Nat.mod_lt off hpos
       rw [Nat.mul_add,yH]at this
       rw [Nat.mul_comm count];omega
theorem liesAt_le{P:Program}{d:Nat}: ∀{e:TypeId} {count off:Nat} {u:TypeId} {n:Nat},liesAt P d e count off u n=true->off<=count*P.cellsOf e:=by
 induction d with
 |zero=>intro e count off u n h;cases h
 | succ d ih=>
   intro e count off u n h
   unfold liesAt at h
   rw [Bool.or_eq_true]at h
   rcases h with h|h
   . exact rowAt_le h
   . split at h
     . exact ih h
     . cases h
theorem has_W{P:Program}{W:World}{r:_root_.Go.Reach}{base:Nat}{a:Addr}{e:TypeId}{n:Nat}(h:W.has P r base a e n):a.spot=none/\a.block<W.heap.size/\ ∃l,(hpW W).load (a.block+16) a.off 0=some l:=by
 obtain⟨_,hsp,row,cells,hsh,hl⟩:=h
 have hle:=liesAt_le hl
 have hle2:a.off<=cells:=zq hle (Nat.div_mul_le_self _ _)
 unfold World.shape? at hsh
 split at hsh
 next cs el fz ho=>
  cases hsh
  have hlt:=(Array.getElem?_eq_some_iff.1 ho).1
  have hr:Row (hpW W) (a.block+16) (cs.toList.map (jG W.heap.size)) 0:=⟨_,_,by rw [pf,ho];rfl,Tr.sized_ofList _,fun j=>Tr.get_ofList _ j⟩
  exact⟨hsp,hlt,_,hr.load (o:=a.off) (n:=0) (by simpa using hle2)⟩
 . cases hsh
section
variable{H:Type}{enc:TypeId×Value->H}{P:Program}
theorem sK{W:World}{base fuel:Nat}{s e:TypeId}{k:IntKind}{c:Value}{sp:Nat->Bool}{hd:Bool}{x:DataW H×List MemPlace}(hs:P.underlying s=some (.slice e))(he:P.underlying e=some (.int k))(hc:P.cellsOf e=1)
 (hok:Cell.okWide P W .any base s c) (h:DataW.trod enc P W 0 sp hd fuel s [c]=some x): ∃zs:List Int,SlW (hpW W) k (jG W.heap.size c) zs/\(∀z∈zs,(Lit.int k z).wf=true)/\zs.length<=9223372036854775807:=by
 rcases Go.ChangeShapes.open_ints hs he hc h with⟨e1,_⟩|⟨a,len,cap,zs,e1,hb,hl,hm,hz,_,hcell,hwf⟩
 . cases e1
   exact⟨[],.inl ⟨rfl,rfl⟩,fun z hz=>(by cases hz),by simp⟩
 . cases e1
   unfold Cell.okWide at hok
   rw [hs]at hok
   simp only [Cell.ok,hs]at hok
   obtain⟨hle1,hmax,hhas⟩:=hok
   obtain⟨hsp,hlt,h0⟩:=has_W hhas
   have hlz:len<=zs.length:=by rw [hz];split<;>omega
   refine⟨zs.take len,.inr ⟨a.block+16,a.off,cap,?_,?_,?_⟩,fun z hz=>hwf z (List.mem_of_mem_take hz),by
    have:(cap:Int)<=9223372036854775807:=hmax
    rw [yX];omega⟩
   . rw [yX,zh hlz]
     simp only [jG,if_pos hl,if_pos (And.intro hsp hlt)]
   . rw [yX,zh hlz];exact hl
   . rw [yX,zh hlz,yH]
     rw [load_join (f:=fun i=>.int k (zs.getD i 0)) h0 (fun i hi=>load_W hsp (hcell i (by omega)))]
     congr 1
     have e4: ∀l:List Int,l.flatMap (encI k)=l.map fun x=>.int k x:=fun l=>by
      rw [zj,zo,zj];rfl
     rw [e4]
     refine List.ext_getElem? fun i=>?_
     rw [yS,yS,List.getElem?_take]
     by_cases hi:i<len
     . rw [if_pos hi,List.getElem?_range hi,yt (show i<zs.length by omega)]
       simp [yr,show i<zs.length by omega]
     . rw [if_neg hi,List.getElem?_eq_none (by simpa using hi)];rfl
theorem open_slV{W:World}{base:Nat}{s e:TypeId}{k:IntKind}{v:Value}{sp:Nat->Bool}{hd:Bool}{d:DataW H}{p:List MemPlace}(hs:P.underlying s=some (.slice e))(he:P.underlying e=some (.int k))(hc:P.cellsOf e=1)
 (hval:Value.okWide P W .any base s v) (h:DataW.Trod enc P W 0 sp hd s v d p): ∃zs:List Int,SlW (hpW W) k (absA W.heap.size v) zs/\(∀z∈zs,(Lit.int k z).wf=true)/\zs.length<=9223372036854775807:=by
 unfold Value.okWide at hval
 rw [hs]at hval
 obtain⟨fuel,h⟩:=h
 have hc0: ∀l:Array Value,v≠ .agg l:=by
  rintro l rfl
  simp only [Cell.okWide,hs,Cell.ok]at hval
 have hcs:v.cells.toList=[v]:=by cases v<;>first|rfl|exact absurd rfl (hc0 _)
 rw [hcs]at h
 have ha:absA W.heap.size v=jG W.heap.size v:=by cases v<;>first|rfl|exact absurd rfl (hc0 _)
 rw [ha]
 exact sK hs he hc hval h
theorem ww{W:World}{base:Nat}{t s e:TypeId}{k:IntKind}{f0 f1:Field}{v:Value}{sp:Nat->Bool}{hd:Bool}{d:DataW H}{p:List MemPlace}(ht:P.underlying t=some (.struct #[f0,f1]))(o0:f0.offset=0)(o1:f1.offset=1)(t0:f0.type=s)(t1:f1.type=s)
 (hs:P.underlying s=some (.slice e)) (he:P.underlying e=some (.int k)) (hc:P.cellsOf e=1) (hcs:P.cellsOf s=1) (hct:P.cellsOf t=2) (hts:P.cellTypes P.depth t=some [s,s])
 (hval:Value.okWide P W .any base t v) (h:DataW.Trod enc P W 0 sp hd t v d p):
 ∃(c0 c1:Value) (xs ys:List Int),v=.agg #[c0,c1]/\SlW (hpW W) k (jG W.heap.size c0) xs/\SlW (hpW W) k (jG W.heap.size c1) ys/\(∀z∈xs,(Lit.int k z).wf=true)/\ ∀z∈ys,(Lit.int k z).wf=true:=by
 unfold Value.okWide at hval
 rw [ht]at hval
 obtain⟨cs,rfl,hsz,ts,e1,_,hrow⟩:=hval
 rw [hts]at e1
 cases e1
 rw [hct]at hsz
 obtain⟨l⟩:=cs
 simp only [List.size_toArray]at hsz
 obtain⟨c0,c1,rfl⟩:=len2 hsz
 obtain⟨fuel,h⟩:=h
 obtain⟨y0,y1,n,_,_,h1,h2⟩:=Go.ChangeShapes.trod_struct2 ht h
 rw [o0,t0,hcs]at h1
 rw [o1,t1,hcs]at h2
 obtain⟨u0,e0,k0⟩:=hrow 0 c0 rfl
 obtain⟨u1,e1,k1⟩:=hrow 1 c1 rfl
 cases e0
 cases e1
 obtain⟨xs,hx,wx,_⟩:=sK hs he hc k0 h1
 obtain⟨ys,hy,wy,_⟩:=sK hs he hc k1 h2
 exact⟨c0,c1,xs,ys,rfl,hx,hy,wx,wy⟩
end
end Go.Ab

end

/- Nets, cells, flags: what the functions do (part 5). -/
import Derived.Test.YtfdopodkngggfaaGreatDoorNetD
import Derived.ChangeSlices
import Derived.ChangeArms
import Derived.ChangeSame
open Go.Ab.Tryz renaming abEnv->zM,s103->Xk,u33->Xm,s47->Xn,e3E->Xz
open List renaming getD_eq_getElem?_getD->zN,getElem?_eq_getElem->zO,drop->zQ,take->zR,range->zW,getElem?_map->zY,take_succ_cons->zZ,getElem_mem->Xa,length_take->Xb,drop_zero->Xc,all_cons->Xd,take_zero->Xe,all_nil->Xf,length_singleton->Xg,flatMap_eq_foldl->Xh,length_append->Xi,mem_append_left->Xl,filterMap_nil->Xp,getElem?_cons_zero->Xt,getElem?_cons_succ->Xu,append_nil->Xv,range_succ->Xw,mem_append_right->Xy,map_cons->XA,mem_cons->XB,map_eq_flatMap->XC,getElem?_range->XD,getElem_of_mem->XE,map_nil->XF
open Bool renaming and_true->zP
open Nat renaming le_trans->zS,zero_le->zT,lt_of_succ_le->zU,le_refl->zV,mul_one->Xj,lt_of_lt_of_le->Xq,min_eq_left->Xx,zero_mul->XG,zero_add->XH,one_mul->XI
open Int renaming cast_ofNat_Int->zX,le_refl->Xo,tmod_eq_emod_of_nonneg->Xr,eq_ofNat_of_zero_le->Xs
set_option maxHeartbeats 4000000
set_option linter.defProp false
set_option linter.unusedVariables false
set_option linter.unusedSimpArgs false
section
namespace Go.Ab
open Go.Proofs
set_option maxRecDepth 10000
def Tryz.FFbo939:=aj Z1<|aj Z2<|aj Z0<|aj Z3<|aj Z7<|aj Z9<|aj Z14<|aj Z17<|aj Z19<|aj Z27<|aj Z40<|aj Z29<|aj Z37<|aj Z41<|aj Z47<|aj Z53<|aj Z39<|aj Z67<|aj Z65<|aj Z36<|aj Z5<|aj Z6<|aj Z10<|aj Z4<|aj Z15<|aj Z25<|aj Z33<|aj Z31<|aj Z34<|aj Z35<|aj Z12<|aj Z11<|aj Z26<|aj Z42<|aj Z43<|aj Z44<|aj Z45<|aj Z32<|aj Z16<|aj Z54<|aj Z23<|aj Z50<|aj Z51<|aj Z55<|aj Z56<|aj Z48<|aj Z57<|aj Z58<|aj Z59<|aj Z60<|aj Z61<|aj Z62<|Z46
section
variable{A:List Arc}{N r:Nat}{al:Nat->Bool}{pi:Nat->Int}{i:Bool}{x:Sd}
theorem SvB.nxt(h:SvB A N r al pi i x): ∀(n:Nat) {v:Nat},(x.P v).length<=n->(x.L v).isSome=true->NxtL (nxB A i x.P) v (x.P v):=by
 intro n
 induction n with
 | zero=>
   intro v hp _
   have e:=List.length_eq_zero_iff.1 (Nat.le_zero.1 hp)
   rw [e]
   exact .nil (by unfold nxB;rw [e])
 | succ n ih=>
   intro v hp hl
   obtain⟨l,hl⟩:=Option.isSome_iff_exists.1 hl
   rcases h.path v l hl with⟨_,p0,_⟩|⟨a,m,h1,_,_,_,h5,h6,_⟩
   . rw [p0]
     exact .nil (by unfold nxB;rw [p0])
   . have e:=ih (v:=fsB i (A.getD a default)) (by rw [h5,List.length_cons]at hp;omega) (by rw [h6];rfl)
     rw [h5]
     exact .cons (by unfold nxB;rw [h5]) e
theorem SvB.nxtD(h:SvB A N r al pi i x){v y w:Nat}(hl:(x.L v).isSome=true)(hn:nxB A i x.P v=some (y,w)):(x.L w).isSome=true:=by
 obtain⟨l,hl⟩:=Option.isSome_iff_exists.1 hl
 rcases h.path v l hl with⟨_,p0,_⟩|⟨a,m,h1,_,_,_,h5,h6,_⟩
 . unfold nxB at hn;rw [p0]at hn;cases hn
 . unfold nxB at hn;rw [h5]at hn;cases hn;rw [h6];rfl
end
theorem bo_init{h1 h2 h3:Hp}{br:Nat}{pn:Value}{s t:Nat}{vPi:Value}{x y:Sx}{F1 F2:List Nat}{N:Nat}(ok1:h1.t.Sized h1.n)(R:Row h3 br (eW pn s t vPi (fun j=>if j=true then y else x) (.slice none 0 0) ⟨fun _=>cR,[],FAR,0⟩) 1)(lb:br<h1.n)
 (f2:Mo (· =br) h2 h3) (n12:h1.n<=h2.n) (hx: ∀q∈x.L false,Has h2 q.1 q.2) (hy: ∀q∈y.L true,Has h3 q.1 q.2) (ox:x.Ok cR) (oy:y.Ok cR) (Hx:bj h2 F1 (ptrTo x.p) N (fun _=>none)) (Hy:bj h3 F2 (ptrTo y.p) N (fun _=>none))
 (nx: ∀c∈keys (x.L false) []++F1,h1.n<=c) (ny: ∀c∈keys (y.L true) []++F2,h2.n<=c) (dx:(keys (x.L false) []).Nodup) (dy:(keys (y.L true) []).Nodup) (ax: ∀c∈F1,c∉keys (x.L false) []) (ay: ∀c∈F2,c∉keys (y.L true) []):
 dG h3 br pn s t vPi (fun j=>if j=true then y else x) (fun j=>if j=true then F2 else F1) (.slice none 0 0) N ⟨fun _=>cR,[],FAR,0⟩/\ ∀c∈boB br pn s t vPi (fun j=>if j=true then y else x) (fun j=>if j=true then F2 else F1) (.slice none 0 0) ⟨fun _=>cR,[],FAR,0⟩,c=br\/h1.n<=c:=by
 have ok2:=f2.ok0
 have lx: ∀c∈keys (x.L false) [],c<h2.n:=fun c hc=>by
  simp only [keys,Xp,Xv]at hc
  obtain⟨q,hq,rfl⟩:=List.mem_map.1 hc
  exact(hx q hq).lt ok2
 have lF:=Hx.lt ok2
 have kx: ∀c∈keys (x.L false) [],h1.n<=c:=fun c hc=>nx c (Xl _ hc)
 have kf: ∀c∈F1,h1.n<=c:=fun c hc=>nx c (Xy _ hc)
 have ky: ∀c∈keys (y.L true) [],h2.n<=c:=fun c hc=>ny c (Xl _ hc)
 have kg: ∀c∈F2,h2.n<=c:=fun c hc=>ny c (Xy _ hc)
 have eK:keys (boL false br pn s t vPi (fun j=>if j=true then y else x) (.slice none 0 0) ⟨fun _=>cR,[],FAR,0⟩) (boG (.slice none 0 0) ⟨fun _=>cR,[],FAR,0⟩)=br::(keys (x.L false) []++keys (y.L true) []):=by
  simp [keys,boL,boG,dN]
 have own: ∀q∈boL false br pn s t vPi (fun j=>if j=true then y else x) (.slice none 0 0) ⟨fun _=>cR,[],FAR,0⟩,Has h3 q.1 q.2:=fun q hq=>by
  rcases List.mem_cons.1 hq with rfl|hq
  . exact R
  . rcases List.mem_append.1 hq with hq|hq
    . have hq:q∈x.L false:=hq
      refine f2.has (hx q hq) fun e=>?_
      have:=kx q.1 (by simp only [keys,Xp,Xv];exact List.mem_map.2 ⟨q,hq,rfl⟩)
      omega
    . exact hy q hq
 refine⟨⟨own,.inl ⟨rfl,rfl⟩,?_,?_,?_,?_⟩,?_⟩
 . rw [eK,List.nodup_cons,List.nodup_append]
   refine⟨fun hm=>?_,dx,dy,fun a ha b hb e=>?_⟩
   . rcases List.mem_append.1 hm with h|h
     . have:=kx _ h;omega
     . have:=ky _ h;omega
   . have:=lx a ha
     have:=ky b hb
     omega
 . intro i
   cases i
   . exact Hx.mo f2 (fun c hc e=>by have:=kf c hc;omega)
   . exact Hy
 . intro i
   cases i
   . exact ox
   . exact oy
 . intro i c hc
   rw [eK]
   cases i
   . have hc:c∈F1:=hc
     have:=lF c hc
     have:=kf c hc
     refine⟨fun hm=>?_,fun hm=>?_⟩
     . rcases List.mem_cons.1 hm with h|h
       . omega
       . rcases List.mem_append.1 h with h|h
         . exact ax c hc h
         . have:=ky c h;omega
     . have:=kg c hm;omega
   . have hc:c∈F2:=hc
     have:=kg c hc
     refine⟨fun hm=>?_,fun hm=>?_⟩
     . rcases List.mem_cons.1 hm with h|h
       . omega
       . rcases List.mem_append.1 h with h|h
         . have:=lx c h;omega
         . exact ay c hc h
     . have hm:c∈F1:=hm
       have:=lF c hm;omega
 . intro c hc
   unfold boB at hc
   rw [eK]at hc
   rcases List.mem_append.1 hc with h|h
   . rcases List.mem_cons.1 h with h|h
     . exact .inl h
     . rcases List.mem_append.1 h with h|h
       . exact .inr (kx c h)
       . exact .inr (zS n12 (ky c h))
   . rcases List.mem_append.1 h with h|h
     . exact .inr (kf c h)
     . exact .inr (zS n12 (kg c h))
theorem st_rg{h:Hp}(ok:h.t.Sized h.n){b:Nat}{l:List Value}{v:Value}{vs:List Value}(R:Row h b l 1)(G:fj h (v,1,vs))(hne: ∀c,av v c->c≠b):St (fun c=>c=b\/av v c) h h [(b,.row l 1)] [(v,1,vs)]:=by
 refine⟨Mo.refl ok,fun p hp=>?_,fun p hp=>?_,?_⟩
 . rw [List.mem_singleton.1 hp];exact⟨.inr (.inl rfl),R⟩
 . rw [List.mem_singleton.1 hp]
   refine⟨G,fun c hc=>.inr (.inr ?_)⟩
   rcases G with⟨e,_⟩|⟨b',n,e,_⟩
   . simp only []at e;subst e;cases hc
   . simp only []at e;subst e;cases hc;rfl
 . rcases G with⟨e,_⟩|⟨b',n,e,_⟩
   . simp only []at e;subst e;exact(by simp:([b]:List Nat).Nodup)
   . simp only []at e;subst e
     have:=hne b' rfl
     simp [keys,dN]
     exact fun h=>this h.symm
theorem natC_flat(l:List Nat):(l.flatMap cJ).all iM=true:=by
 induction l with
 |nil=>rfl
 |cons x l ih=>rw [List.flatMap_cons,List.all_append,ih];rfl
theorem BiI.keyB{A:List Arc}{N:Nat}{rt:Bool->Nat}{al:Nat->Bool}{pi:Nat->Int}{σ:Bi}(h:BiI A N rt al pi σ)(hN:N<=12)(i:Bool)(v:Nat)(k:Int)(hk:(σ.sd i).K v=some k): -1000000000000000000<=k/\k<=1000000000000000000:=by
 obtain⟨_,l,hl,e⟩:=(h.sv i).op v k hk
 obtain⟨_,op,h3,_⟩:=(h.sv i).lab v l hl
 have h5:=Nat.mul_le_mul_right bz (zS (h.sv i).len hN)
 have wm:=kD
 have fr:=gO
 obtain⟨o1,o2⟩:=op
 cases i
 . have e2:qB pi false v=pi v:=rfl
   omega
 . have e2:qB pi true v= -pi v:=rfl
   omega
theorem zF {h0:Hp} (ok:h0.t.Sized h0.n) {bp nb s t:Nat} {γ:Gra} (hγ:Good γ) (hn:bN h0 nb (ptrTo bp) γ) {vPi:Value} {pis:List Int} (sP:aA h0 1 (encI .i64) vPi pis) (lP:pis.length=γ.nodes) (hs:s<γ.nodes) (ht:t<γ.nodes) (hst:s≠t):
 Ret zM 39 [ptrTo bp,.agg ⟨[.int .i64 (s:Nat),.int .i64 (t:Nat),.slice none 0 0,vPi]⟩] h0 fun r h'=>Gr h0 h'/\ ∃vA vE τ,r=.tuple #[.agg ⟨[.int .i64 (τ.dist:Nat),vA,vE]⟩,.int .i64 0]/\jI γ.arcs (fun _=>true) (fun v=>pis.getD v 0) (ip (fun v=>pis.getD v 0) s t) τ/\
  aA h' 4 fd vE τ.ev/\aA h' 1 cJ vA (if τ.dist<FAR then arcsB τ else [])/\ ∀c,av vA c\/av vE c->h0.n<=c:=by
 have S:=Si ok
 have fP:=sP.fl
 have n2:=hγ.n2
 have far:=gO
 have hst': ¬((s:Int)=(t:Int)):=by omega
 have hA: ∀a∈γ.arcs,a.s<γ.nodes/\a.t<γ.nodes/\a.w<=bz:=fun a ha=>hγ.arcs a ha
 refine ab (n:=113) (rs:=[.cell 4 103,.tmp 5]) rfl Tryz.e39 rfl rfl rfl (lbt rfl) ?_
 simp only [BS,Nat.reduceLT]
 refine ag (aZ (by intro x e;cases e)) S ?_;clear S;intro h b3 S n_b3;simp only [an]at S
 simp only [BS,Tryz.FFbo939]
 refine ag aF S ?_;clear S;intro h b4 S n_b4
 simp only [BS,LB,Nat.reduceLT,Nat.reduceEqDiff,Tryz.FFbo939,Xc,zZ,Xe,S.lds (b:=b3) (o:=0) (n:=4) m1 (lbt rfl)]
 refine au (right_ok S.ok (hn.gr S.gr) hs ht (sP.gr S.gr) lP) ?_
 intro h g;replace S:=S.call g;clear g
 simp only [BS,LB,Nat.reduceLT,Nat.reduceEqDiff,Nat.reduceAdd,Nat.reduceLeDiff,Tryz.FFbo939,hst',Xc,zZ,Xe,S.ld (b:=b3) (o:=0) m1 rfl,S.ld (b:=b3) (o:=1) m1 rfl,S.lds (b:=b3) (o:=0) (n:=4) m1 (lbt rfl)]
 refine ag (aZ (by intro x e;cases e)) S ?_;clear S;intro h b29 S n_b29;simp only [an]at S
 have Rq:=S.row (b:=b29) m0
 have R3:=S.row (b:=b3) m2
 have R4:=S.row (b:=b4) m1
 have k3:=R3.lt S.ok
 have k4:=R4.lt S.ok
 have kq:=Rq.lt S.ok
 have ap:=S.apart
 simp only [keys,XA,XF,Xp,Xv,List.nodup_cons,XB,List.not_mem_nil,or_false,not_or]at ap
 have ne3:b3≠b29:=fun e=>by omega
 have ne4:b4≠b29:=fun e=>by omega
 have g0:=S.gr
 have okA:=S.ok
 have eF:((FAR:Nat):Int)=72057594037927936:=by rw [gO];rfl
 rename Hp=>hA'
 have gOf: ∀{h:Hp},Mo (· =b29) hA' h->Gr h0 h:=fun f=>(g0.fr.trans f (fun i hi=>.inr (by subst hi;omega)):Mo NoM h0 _).gr
 have rOf: ∀{h:Hp} {b:Nat} {l:List Value},Mo (· =b29) hA' h->Row hA' b l 1->b≠b29->Row h b l 1:=fun {h b l} f r e=>f.has (b:=b) (o:=.row l 1) r e
 simp only [BS,LB,Nat.reduceLT,Nat.reduceEqDiff,Tryz.FFbo939,S.ld (b:=b3) (o:=0) m2 rfl]
 have rc:Ret zM 84 [ptrTo b29,.int .i64 0,.int .i64 (s:Nat),.int .i64 1,.func (.func (outF false)) #[ptrTo bp] #[],.func (.func (lO false)) #[] #[]] hA' _:=us okA (hn.gr g0) Rq rfl rfl (i:=false) (v:=s) iq iq
 refine step_ret rc ?_
 rintro r h1 ⟨f1,x,F1,R1,hx,xA,xH,ox,Hx,nx,dx,ax⟩
 clear rc
 clear S
 have S:=Si f1.ok
 have R3':Row h1 b3 _ 1:=f1.has (b:=b3) (o:=.row _ 1) R3 ne3
 simp only [BS,LB,Nat.reduceLT,Nat.reduceEqDiff,Tryz.FFbo939,R3'.load1 (o:=1) rfl]
 have rc:Ret zM 84 [ptrTo b29,.int .i64 1,.int .i64 (t:Nat),.int .i64 (-1),.func (.func (outF true)) #[ptrTo bp] #[],.func (.func (lO true)) #[] #[]] h1 _:=us f1.ok (hn.gr (gOf f1)) R1 rfl rfl (i:=true) (v:=t) iq iq
 refine step_ret rc ?_
 rintro r h2 ⟨f2,y,F2,R2,hy,yA,yH,oy,Hy,ny,dy,ay⟩
 clear rc
 have R2':Row h2 b29 (eW (ptrTo bp) s t vPi (fun j=>if j=true then y else x) (.slice none 0 0) ⟨fun _=>cR,[],FAR,0⟩) 1:=by
  unfold eW
  rw [eF]
  exact R2
 obtain⟨A0,pB0⟩:=bo_init okA R2' kq f2 f1.n hx hy ox oy Hx Hy nx ny dx dy ax ay
 have eV0: ∀j:Bool,((fun j:Bool=>if j=true then y else x) j).vA=.func (.func (outF j)) #[ptrTo bp] #[]/\((fun j:Bool=>if j=true then y else x) j).vH=.func (.func (lO j)) #[] #[]:=fun j=>by
  cases j
  . exact⟨xA,xH⟩
  . exact⟨yA,yH⟩
 have fA2:Mo (· =b29) hA' h2:=f1.trans f2 (fun i hi=>.inl hi)
 clear R2 R2' hx hy ox oy Hx Hy nx ny dx dy ax ay xA xH yA yH f1 f2 R1 R3' S
 generalize(fun j:Bool=>if j=true then y else x)=X0 at A0 pB0 eV0
 generalize(fun j:Bool=>if j=true then F2 else F1)=F0 at A0 pB0
 have nP: ∀{h:Hp} {X:Bool->Sx} {F:Bool->List Nat} {vE:Value} {σ:Bi},(∀c∈boB b29 (ptrTo bp) s t vPi X F vE σ,c=b29\/hA'.n<=c)-> ∀c,av vPi c->c∉boB b29 (ptrTo bp) s t vPi X F vE σ:=fun {h X F vE σ} pB c hc hm=>by
  have h1:=sP.blt ok hc
  have h2:=g0.n
  rcases pB c hm with h|h<;>omega
 have okB:=fA2.ok
 have S:=Si okB
 rename Hp=>hB
 have l5:=A0.rows.1.load1 (o:=5) rfl
 have l30:=(rOf fA2 R3 ne3).load1 (o:=0) rfl
 simp only [BS]
 refine aD (aM rfl) (q:=0) (ps:=[]) (by kernel_rfl) ?_
 simp only [BS,LB,cls,Nat.reduceLT,Nat.reduceEqDiff,Nat.reduceAdd,Nat.reducePow,Nat.reduceDiv,Nat.reduceMod,Nat.reduceLeDiff,Int.reduceToNat,Int.reduceLE,Int.reduceLT,zX,Tryz.FFbo939,l5,l30]
 have rc:Ret zM 89 [ptrTo b29,ptrTo (X0 false).b,.int .i64 (s:Nat),.int .i64 (-1),.int .i64 0] hB _:=pb okB A0 (sP.gr (gOf fA2)) lP (nP (h:=hB) pB0) n2 (tS (A:=γ.arcs) (al:=fun _=>true) (s:=s) (t:=t)) (i:=false) (v:=s) (lab:=0) (p:=[]) hs (zT _)
 refine dp rc ?_
 rintro r hC ⟨f4,X1,F1,A1,e1,sub1⟩
 clear rc
 simp only [BS,LB,Nat.reduceAdd]
 have pB1: ∀c∈boB b29 (ptrTo bp) s t vPi X1 F1 (.slice none 0 0) _,c=b29\/hA'.n<=c:=fun c hc=>(sub1 c hc).elim (fun h=>pB0 c h) (fun h=>.inr (zS fA2.n h))
 have fA3:Mo (· =b29) hA' hC:=fA2.trans f4 pB0
 have I1:=(tS (A:=γ.arcs) (al:=fun _=>true) (pi:=fun v=>pis.getD v 0) (s:=s) (t:=t)).reach (b:=false) (v:=s) (p:=[]) (lab:=0) n2 hs (zT _) (zT _) (.inl ⟨rfl,rfl,rfl⟩)
 clear S
 have S:=Si fA3.ok
 have l6:=A1.rows.1.load1 (o:=6) rfl
 have l31:=(rOf fA3 R3 ne3).load1 (o:=1) rfl
 refine aD (aM rfl) (q:=0) (ps:=[]) (by kernel_rfl) ?_
 simp only [BS,LB,cls,Nat.reduceLT,Nat.reduceEqDiff,Nat.reduceAdd,Nat.reducePow,Nat.reduceDiv,Nat.reduceMod,Nat.reduceLeDiff,Int.reduceToNat,Int.reduceLE,Int.reduceLT,zX,Tryz.FFbo939,l6,l31]
 have rc:Ret zM 89 [ptrTo b29,ptrTo (X1 true).b,.int .i64 (t:Nat),.int .i64 (-1),.int .i64 0] hC _:=pb fA3.ok A1 (sP.gr (gOf fA3)) lP (nP (h:=hC) pB1) n2 I1 (i:=true) (v:=t) (lab:=0) (p:=[]) ht (zT _)
 refine dp rc ?_
 rintro r hD ⟨f5,X2,F2,A2,e2,sub2⟩
 clear rc
 simp only [BS,LB,Nat.reduceLT,Nat.reduceEqDiff,Nat.reduceAdd]
 have eI:aU (fun v=>pis.getD v 0) true (aU (fun v=>pis.getD v 0) false ⟨fun _=>cR,[],FAR,0⟩ s 0 []) t 0 []=ip (fun v=>pis.getD v 0) s t:=rfl
 rw [eI]at A2 sub2
 have pB2: ∀c∈boB b29 (ptrTo bp) s t vPi X2 F2 (.slice none 0 0) (ip (fun v=>pis.getD v 0) s t),c=b29\/hA'.n<=c:=fun c hc=>(sub2 c hc).elim (fun h=>pB1 c h) (fun h=>.inr (zS fA3.n h))
 have fA4:Mo (· =b29) hA' hD:=fA3.trans f5 pB1
 have I2:=initB_I (A:=γ.arcs) (al:=fun _=>true) (pi:=fun v=>pis.getD v 0) n2 hs ht
 have eV2: ∀j,(X2 j).vA=.func (.func (outF j)) #[ptrTo bp] #[]/\(X2 j).vH=.func (.func (lO j)) #[] #[]:=fun j=>⟨(e2 j).2.1.trans ((e1 j).2.1.trans (eV0 j).1),(e2 j).2.2.trans ((e1 j).2.2.trans (eV0 j).2)⟩
 have O2:=fun j=>tP (pi:=fun v=>pis.getD v 0) (s:=s) (t:=t) j
 refine step_ret (xg fA4.ok A2 (I2.keyB n2) (I2.distLe n2)) ?_
 rintro r hE ⟨gE,nx⟩
 simp only [BS,LB,Nat.reduceLT,Nat.reduceEqDiff]
 have A3:=A2.gr gE
 have fA5:Mo (· =b29) hA' hE:=fA4.trans (gE.fr (M:=NoM)) (fun _ h=>h.elim)
 refine bA (fun(σ:Bi) ρ h=> ∃X F vE,Mo (· =b29) hA' h/\dG h b29 (ptrTo bp) s t vPi X F vE γ.nodes σ/\(∀c∈boB b29 (ptrTo bp) s t vPi X F vE σ,c=b29\/hA'.n<=c)/\(∀j,(X j).vA=.func (.func (outF j)) #[ptrTo bp] #[]/\(X j).vH=.func (.func (lO j)) #[] #[])/\BiI γ.arcs γ.nodes (rtB s t) (fun _=>true) (fun v=>pis.getD v 0) σ/\σ.ev.length<=200*((σ.sd false).O.length+(σ.sd true).O.length)/\
  (∀τ,jI γ.arcs (fun _=>true) (fun v=>pis.getD v 0) σ τ->jI γ.arcs (fun _=>true) (fun v=>pis.getD v 0) (ip (fun v=>pis.getD v 0) s t) τ)/\((StopB σ/\ρ 7=.pointer none)\/ ∃i,TurnB σ i/\ρ 7=ptrTo (X i).b)/\ρ 0=ptrTo bp/\ρ 4=ptrTo b4/\ρ 6=ptrTo b29) (fun σ=>2*γ.nodes-((σ.sd false).O.length+(σ.sd true).O.length)) ?_ (ip (fun v=>pis.getD v 0) s t) _ _ ?_
 . clear A2 A3 A1 A0 I2 I1 O2 pB0 pB1 pB2 fA2 fA3 fA4 fA5 nx e1 e2 eV0 eV2 sub1 sub2 eI gE f4 f5 S l5 l30 l6 l31
   intro σ ih ρ h ⟨X,F,vE,fh,A,pB,eV,I,hev,hEnd,nx,r0,r4,r6⟩
   have o1:=(I.sv false).len
   have o2:=(I.sv true).len
   rcases nx with⟨hst,r7⟩|⟨i,tu,r7⟩
   . have gh:=gOf fh
     have okh:=fh.ok
     have S0:=A.st okh false
     have l7:=A.rows.1.load1 (o:=7) rfl
     have l5:=A.rows.1.load1 (o:=5) rfl
     have R4h:=rOf fh R4 ne4
     have k4h:=R4h.lt okh
     have nE: ∀c,av vE c->h0.n<=c/\c≠b29/\c≠b4/\c<h.n:=fun c hc=>by
      have h1:=pB c (Xl _ (eC (p:=(vE,4,σ.ev.flatMap fd)) m0 (pP A.ev hc)))
      have h2:c≠b29:=fun e=>(S0.gblk m0 hc).2 (by rw [e];exact m0)
      have h3:=A.ev.lt okh (pP A.ev hc)
      have:=g0.n
      rcases h1 with h|h
      . exact absurd h h2
      . exact⟨by omega,h2,by omega,h3⟩
     have sE:aA h 4 fd vE σ.ev:=A.ev.sl rfl nY (by decide)
     have fE:=sE.fl
     by_cases hd:σ.dist<FAR
     . have hd':(σ.dist:Int)<72057594037927936:=by omega
       obtain⟨x,y,q1,q2,_⟩:=(I.dm.resolve_left (fun h=>by omega)) false
       have q2:(σ.sd true).L σ.meet=some y:=q2
       have sv0:=I.sv false
       have sv1:=I.sv true
       have len0:=(sv0.lab _ _ q1).2.2.2.1
       have len1:=(sv1.lab _ _ q2).2.2.2.1
       have nd:=(List.nodup_cons.1 (show(b29::_).Nodup from A.nd)).1
       have x1b:(X true).b≠b29:=fun e=>nd (by rw [<-e];simp [Sx.L])
       have x1m:(X true).ma≠b29:=fun e=>nd (by rw [<-e];simp [Sx.L])
       clear S0
       simp only [BS,LB,Nat.reduceLT,Nat.reduceEqDiff,Int.reduceToNat,Int.reduceLE,Int.reduceLT,zX,Tryz.FFbo939,r6,r7,l7,hd',l5]
       refine step_ret (back_ok okh (hn.gr gh) hγ (A.bk false) (eV false).2 (D:=fun v=>((σ.sd false).L v).isSome=true) (fun v hv=>⟨hv,sv0.ids _ (zV _) hv⟩) (fun v y w hv hn=>sv0.nxtD hv hn) (by rw [q1];rfl) (sv0.nxt _ (zV _) (by rw [q1];rfl)) (by omega)) ?_
       rintro v1 h1 ⟨g1,G1,n1⟩
       have fv1:Fl v1:=G1.fl
       have ne1: ∀c,av v1 c->c≠b29:=fun c hc e=>by have:=n1 c hc;have:=A.rows.1.lt okh;omega
       have S:=st_rg g1.ok (A.rows.1.gr g1) G1 ne1
       simp only [eW]at S
       simp only [BS,LB,Nat.reduceLT,Nat.reduceEqDiff,Nat.reduceAdd,Tryz.FFbo939]
       refine aC (aI S (i:=0) rfl Tryz.s33 fv1 (zU (lbt rfl)) ono) ?_
       clear S;rintro h2 ⟨S,mo2⟩
       simp only [LC]at S
       simp only [BS,LB,Nat.reduceLT,Nat.reduceEqDiff,Nat.reduceAdd,Tryz.FFbo939,r6,S.ld (b:=b29) (o:=8) m0 rfl]
       refine step_ret (yx S.ok (S.gown _ m0).1 (by omega)) ?_
       rintro r h3 ⟨f3,G3⟩
       have Rw3:Row h3 b29 _ 1:=f3.has (b:=b29) (o:=.row _ 1) (S.row m0) (fun hc=>ne1 _ hc rfl)
       have S3:=st_rg f3.ok Rw3 G3 ne1
       clear S
       have S:=S3
       clear S3
       have fT:Mo (· =b29) h h3:=((g1.fr (M:=(· =b29))).trans mo2 (fun i hi=>.inl hi)).trans f3 (fun i hi=>.inr (n1 i hi))
       have fh3:Mo (· =b29) hA' h3:=fh.trans fT (fun i hi=>.inl hi)
       have B1:BkAt h3 b29 (ptrTo bp) σ.meet true (X true) (σ.sd true):=⟨Rw3.load1 (o:=0) rfl,Rw3.load1 (o:=10) rfl,fT.has (b:=(X true).b) (o:=.row _ 1) (A.rows.2 true) x1b,fT.has (b:=(X true).ma) (o:=.map _ _) (A.bk true).map x1m,A.ok true⟩
       have k29:=Rw3.lt f3.ok
       simp only [BS]
       refine aD (aM rfl) (q:=0) (ps:=[(5,12)]) (by kernel_rfl) ?_
       simp only [BS,LB,cls,Nat.reduceLT,Nat.reduceEqDiff,Nat.reduceAdd,Nat.reducePow,Nat.reduceDiv,Nat.reduceMod,Nat.reduceLeDiff,Int.reduceToNat,Int.reduceLE,Int.reduceLT,zX,Tryz.FFbo939,r6,S.ld (b:=b29) (o:=8) m0 rfl,S.ld (b:=b29) (o:=6) m0 rfl]
       refine dp (back_ok f3.ok (hn.gr (gOf fh3)) hγ B1 (eV true).2 (D:=fun v=>((σ.sd true).L v).isSome=true) (fun v hv=>⟨hv,sv1.ids _ (zV _) hv⟩) (fun v y w hv hn=>sv1.nxtD hv hn) (by rw [q2];rfl) (sv1.nxt _ (zV _) (by rw [q2];rfl)) (by omega)) ?_
       rintro v2 h4 ⟨g4,G2,n2'⟩
       have e29:=aw g4 k29
       replace S:=S.call g4
       have s2:aA h4 1 cJ v2 ((σ.sd true).P σ.meet):=G2.sl rfl ii (by decide)
       simp only [BS,LB,cls,Nat.reduceLT,Nat.reduceEqDiff,Nat.reduceAdd,Nat.reducePow,Nat.reduceDiv,Nat.reduceMod,Nat.reduceLeDiff]
       refine jK (S.grow (j:=0) (m:=((σ.sd true).P σ.meet).length) (new:=((σ.sd true).P σ.meet).flatMap cJ) rfl Xm Xz (by decide) Tryz.n33 s2.src (by rw [nG];omega) (by decide) (natC_flat _) (by rw [nG,nG,List.length_reverse];omega)) ?_
       clear S;rintro h5 vA S
       simp only [LC]at S
       have fvA:Fl vA:=(S.gown _ m0).1.fl
       simp only [BS,LB,cls,Nat.reduceLT,Nat.reduceEqDiff,Nat.reduceAdd,Nat.reducePow,Nat.reduceDiv,Nat.reduceMod,Nat.reduceLeDiff,Tryz.FFbo939]
       refine dK (aI S (i:=0) rfl Tryz.s33 fvA (zU (lbt rfl)) ono) ?_
       clear S;rintro h6 ⟨S,mo6⟩
       simp only [LC]at S
       simp only [BS,LB,Nat.reduceLT,Nat.reduceEqDiff,Nat.reduceAdd,Tryz.FFbo939,r6]
       refine⟨by simp only [bH,bO,bg,bV,bD,ne_eq,not_false_eq_true,bU,cu,bJ,bF,cB,dt,aS,Nat.reduceLT,Nat.reduceEqDiff,reduceIte,zP,r0,r4,r6,r7,ae,mR,aB e29,aG e29],?_⟩
       have okh6:=S.ok
       have fA6:Mo (fun c=>c=b29\/av v1 c) h3 h6:=S.fr
       have fh6:Mo (· =b29) h h6:=fT.trans fA6 (fun i hi=>hi.elim .inl (fun h=>.inr (n1 i h)))
       have R46:Row h6 b4 _ 1:=fh6.has (b:=b4) (o:=.row _ 1) R4h ne4
       have l79:=S.lds (b:=b29) (o:=7) (n:=3) m0 (lbt rfl)
       simp only [zQ,zR]at l79
       have sA:aA h6 1 cJ vA (arcsB σ):=(S.gown _ m0).1.sl (by unfold arcsB;rw [List.flatMap_append]) ii (by decide)
       have nA: ∀c,av vA c->h0.n<=c/\c≠b4:=fun c hc=>by
        obtain⟨h1,h2⟩:=S.gblk m0 hc
        have:=gh.n
        have:=fT.n
        rcases h1 with h|h|h
        . exact⟨by omega,by omega⟩
        . exact absurd (by rw [h];exact m0) h2
        . have:=n1 c h
          exact⟨by omega,by omega⟩
       have sE6:=sE.mo fh6 (fun c hc e=>(nE c hc).2.1 e)
       have g6:Gr h0 h6:=gOf (fh.trans fh6 (fun i hi=>.inl hi))
       clear S
       have S:=St.init1 okh6 (o:=.row _ 1) R46
       simp only [BS,LB,Nat.reduceLT,Nat.reduceEqDiff,r4,l79]
       refine aC (S.store (i:=0) rfl Xk (by intro x e;cases e) rfl (by simp only [an,Xd,Xf,fvA.2.1,fE.2.1,zP];rfl) (lbt rfl) ono) ?_
       clear S;rintro h7 ⟨S,mo7⟩
       simp only [LC,an,lay,zR,zQ,Nat.reduceAdd]at S
       simp only [BS,ac]
       refine(dk (by decide) (by simp only [aS,r4,ae,Nat.reduceEqDiff,reduceIte];exact cw Tryz.a103 Xk (S.lds (b:=b4) (o:=0) (n:=3) m0 (lbt rfl)))).2 ?_
       refine(fu (by decide)).2 (dZ.2 ?_)
       have gZ:Gr h0 h7:=(g6.fr.trans S.fr (fun i hi=>.inr (by subst hi;omega)):Mo NoM h0 h7).gr
       exact⟨gZ,vA,vE,σ,rfl,hEnd σ (.stop hst),sE6.mo mo7 (fun c hc e=>(nE c hc).2.2.1 e),by rw [if_pos hd];exact sA.mo mo7 (fun c hc e=>(nA c hc).2 e),fun c hc=>hc.elim (fun h=>(nA c h).1) (fun h=>(nE c h).1)⟩
     . have hd': ¬(σ.dist:Int)<72057594037927936:=by omega
       have l79:=A.rows.1.load (o:=7) (n:=3) (lbt rfl)
       simp only [eW,zQ,zR]at l79
       have g6:=gh
       have fN:Fl (.slice none 0 0):=bL
       have S:=St.init1 okh (o:=.row _ 1) R4h
       simp only [BS,LB,Nat.reduceLT,Nat.reduceEqDiff,Tryz.FFbo939,r6,r7,l7,hd']
       simp only [BS,LB,Nat.reduceLT,Nat.reduceEqDiff,r4,l79]
       refine aC (S.store (i:=0) rfl Xk (by intro x e;cases e) rfl (by simp only [an,Xd,Xf,fN.2.1,fE.2.1,zP];rfl) (lbt rfl) ono) ?_
       clear S;rintro h7 ⟨S,mo7⟩
       simp only [LC,an,lay,zR,zQ,Nat.reduceAdd]at S
       simp only [BS,ac]
       refine(dk (by decide) (by simp only [aS,r4,ae,Nat.reduceEqDiff,reduceIte];exact cw Tryz.a103 Xk (S.lds (b:=b4) (o:=0) (n:=3) m0 (lbt rfl)))).2 ?_
       refine(fu (by decide)).2 (dZ.2 ?_)
       have gZ:Gr h0 h7:=(g6.fr.trans S.fr (fun i hi=>.inr (by subst hi;omega)):Mo NoM h0 h7).gr
       exact⟨gZ,_,vE,σ,rfl,hEnd σ (.stop hst),sE.mo mo7 (fun c hc e=>(nE c hc).2.2.1 e),by rw [if_neg hd];exact .inl ⟨rfl,rfl⟩,fun c hc=>hc.elim (fun h=>h.elim) (fun h=>(nE c h).1)⟩
   . obtain⟨v,k,hp⟩: ∃v k,iA (σ.sd i).K v k:=by
      obtain⟨v,k,u,l,p1,p2,_,_⟩:=tu
      cases i
      . exact⟨v,k,p1⟩
      . exact⟨u,l,p2⟩
     have gh:=gOf fh
     have hB': ∀c∈boB b29 (ptrTo bp) s t vPi X F vE σ,h0.n<=c:=fun c hc=>(pB c hc).elim (fun e=>by omega) (fun e=>zS g0.n e)
     simp only [BS,LB,Nat.reduceLT,Nat.reduceEqDiff,Tryz.FFbo939,r6,r7]
     refine step_ret (bstep_ok gh hγ hn A hB' sP lP I (by omega) hp (eV i).1 (eV i).2) ?_
     rintro r h1 ⟨f1,X',F',vE',A',e',sub'⟩
     obtain⟨I',ke⟩:=qC n2 hA I hp.1
     have ev':(fG γ.arcs (fun _=>true) (fun v=>pis.getD v 0) i v (aV σ i v)).ev.length<=σ.ev.length+200:=by
      have h1:=rR (A:=γ.arcs) (al:=fun _=>true) (pi:=fun v=>pis.getD v 0) (b:=i) (v:=v) (outs γ.arcs (fsB i) γ.arcs.length v) (σ:=aV σ i v)
      have h2:(aV σ i v).ev.length=σ.ev.length+1:=by simp [aV]
      have h3:=jY γ.arcs (fsB i) γ.arcs.length v
      have:=hγ.many
      unfold fG
      omega
     have eO:((fG γ.arcs (fun _=>true) (fun v=>pis.getD v 0) i v (aV σ i v)).sd false).O.length+((fG γ.arcs (fun _=>true) (fun v=>pis.getD v 0) i v (aV σ i v)).sd true).O.length=(σ.sd false).O.length+(σ.sd true).O.length+1:=by
      have k1:=ke.O
      have k2:=ke.ot
      rw [clo_b]at k1
      rw [clo_n]at k2
      cases i
      . rw [k1,show((fG γ.arcs (fun _=>true) (fun v=>pis.getD v 0) false v (aV σ false v)).sd true)=σ.sd true from k2]
        simp only [Xi,Xg]
        omega
      . rw [k1,show((fG γ.arcs (fun _=>true) (fun v=>pis.getD v 0) true v (aV σ true v)).sd false)=σ.sd false from k2]
        simp only [Xi,Xg]
        omega
     have hEnd': ∀τ,jI γ.arcs (fun _=>true) (fun v=>pis.getD v 0) (fG γ.arcs (fun _=>true) (fun v=>pis.getD v 0) i v (aV σ i v)) τ->jI γ.arcs (fun _=>true) (fun v=>pis.getD v 0) (ip (fun v=>pis.getD v 0) s t) τ:=fun τ h=>hEnd τ (.step tu hp h)
     generalize fG γ.arcs (fun _=>true) (fun v=>pis.getD v 0) i v (aV σ i v)=τ at A' sub' I' ev' eO hEnd'
     have p1:=(I'.sv false).len
     have p2:=(I'.sv true).len
     have fh1:Mo (· =b29) hA' h1:=fh.trans f1 pB
     simp only [BS,LB,Nat.reduceLT,Nat.reduceEqDiff,r6]
     refine step_ret (xg fh1.ok A' (I'.keyB n2) (I'.distLe n2)) ?_
     rintro r h2 ⟨g2,nx'⟩
     simp only [BS,LB,Nat.reduceLT,Nat.reduceEqDiff]
     refine ih τ _ _ (by omega) ⟨X',F',vE',fh1.trans (g2.fr (M:=NoM)) (fun _ h=>h.elim),A'.gr g2,fun c hc=>(sub' c hc).elim (pB c) (fun h=>.inr (zS fh.n h)),fun j=>⟨(e' j).2.1.trans (eV j).1,(e' j).2.2.trans (eV j).2⟩,I',by omega,hEnd',?_,by simp [aa,r0,ae],by simp [aa,r4,ae],by simp [aa,r6,ae]⟩
     rcases nx' with⟨a,rfl⟩|⟨j,a,rfl⟩
     . exact .inl ⟨a,by simp [aa]⟩
     . exact .inr ⟨j,a,by simp [aa,ae]⟩
 . refine⟨X2,F2,_,fA5,A3,pB2,eV2,I2,by rw [pO];exact zT _,fun τ h=>h,?_,by simp [aa,cD,ae],by simp [aa,ae],by simp [aa,ae]⟩
   rcases nx with⟨a,rfl⟩|⟨j,a,rfl⟩
   . exact .inl ⟨a,by simp [aa]⟩
   . exact .inr ⟨j,a,by simp [aa,ae]⟩
end Go.Ab

end
section
namespace Go.Ab
def swJ(l:List Nat)(j:Nat):List Nat:=(l.set j (l.getD (j-1) 0)).set (j-1) (l.getD j 0)
def bub(key:Nat->Int):Nat->List Nat->List Nat
 |0,l=>l
 |j+1,l=>if key (l.getD j 0)<key (l.getD (j+1) 0)then bub key j (swJ l (j+1))else l
def iz(key:Nat->Int)(k:Nat)(l:List Nat):List Nat:=(zW k).foldl (fun l i=>bub key (i+1) l) l
theorem oz(key:Nat->Int)(k:Nat)(l:List Nat):iz key (k+1) l=bub key (k+1) (iz key k l):=by
 unfold iz;rw [Xw,List.foldl_append];rfl
theorem swJ_len(l:List Nat)(j:Nat):(swJ l j).length=l.length:=by simp [swJ]
theorem vf{l:List Nat}{j:Nat}(h:j<l.length):(swJ l j).Perm l:=by
 have:((l.set j l[j-1]).set (j-1) l[j]).Perm l:=List.set_set_perm h (by omega)
 unfold swJ
 rwa [show l.getD (j-1) 0=l[j-1] by simp [zN,show j-1<l.length by omega],show l.getD j 0=l[j] by simp [zN,h]]
theorem vd{key:Nat->Int}: ∀(j:Nat) {l:List Nat},j<l.length->(bub key j l).Perm l
 |0,l,_=>.refl _
 | j+1,l,h=>by
   unfold bub
   split
   . exact(vd j (by rw [swJ_len];omega)).trans (vf h)
   . exact .refl _
theorem oB{key:Nat->Int}{l:List Nat}: ∀(k:Nat),k<l.length\/k=0->(iz key k l).Perm l
 |0,_=>.refl _
 | k+1,h=>by
   have ih:=oB (key:=key) (l:=l) k (by omega)
   rw [oz]
   exact(vd (k+1) (by rw [ih.length_eq];omega)).trans ih
end Go.Ab

end
section
namespace Go.Ab
open Go.Proofs
set_option maxRecDepth 10000
def Tryz.FFa1228:=aj Z1<|aj Z2<|aj Z0<|aj Z3<|aj Z7<|aj Z9<|aj Z4<|Z63
def Tryz.FFa1152:=aj Z0<|aj Z4<|Z63
def Tryz.FFa144:=aj Z1<|aj Z2<|aj Z0<|aj Z3<|Z4
def Tryz.FFa180:=aj Z1<|aj Z2<|aj Z0<|aj Z4<|Z63
def gT(l:List Nat):List Value:=l.map fun(x:Nat)=>.int .i64 x
theorem tW(l:List Nat):l.flatMap cJ=gT l:=by
 unfold gT;rw [Xh,XC,Xh];rfl
theorem pF(l:List Nat):(gT l).length=l.length:=by simp [gT]
theorem natM_at{l:List Nat}{i:Nat}(h:i<l.length):(gT l)[i]? =some (.int .i64 (l.getD i 0:Nat)):=by
 unfold gT;rw [zY,zO h];simp [zN,h]
theorem vQ(l:List Nat)(i x:Nat):(gT l).set i (.int .i64 (x:Nat))=gT (l.set i x):=by unfold gT;rw [List.map_set]
theorem xy{a b:Int}:jZ a b<0↔a<b:=by
 unfold jZ
 split
 . omega
 . split<;>omega
def CmpF(E:Env)(hq:Hp)(g:FuncId)(post:List Value)(N:Nat)(key:Nat->Int):Prop:= ∀h,Gr hq h-> ∀i j,i<N->j<N->bK E g ([.int .i64 (i:Nat),.int .i64 (j:Nat)]++post) h (.int .i64 (jZ (key j) (key i)))
theorem y8 {hq h0:Hp} (gq:Gr hq h0) {b N:Nat} {xs:List Nat} {g:FuncId} {post:Array Value} {key:Nat->Int} (row:Row h0 b (gT xs) 1) (hb:hq.n<=b) (hn:xs.length<=20) (hx: ∀x∈xs,x<N) (hc:CmpF zM hq g post.toList N key):
 Ret zM 228 [.slice (some ⟨b,0,some 1⟩) xs.length xs.length,.int .i64 0,.int .i64 (xs.length:Nat),.func (.func g) #[] post] h0 fun _ h'=>Mo (· =b) h0 h'/\Row h' b (gT (iz key (xs.length-1) xs)) 1:=by
 have ok:=gq.ok
 have S:=St.init1 ok (o:=.row _ 1) row
 have w1:aq .i64 (0+1)=((0+1:Nat):Int):=rfl
 refine ab (n:=53) (rs:=[]) rfl Tryz.e228 rfl rfl rfl (lbt rfl) ?_
 simp only [BS,LB,Nat.reduceLT,Nat.reduceEqDiff,Int.reduceAdd]
 refine bA (fun(i:Nat) ρ h=>i<=xs.length-1/\St (· =b) h0 h [(b,.row (gT (iz key i xs)) 1)] []/\ρ 0=.slice (some ⟨b,0,some 1⟩) xs.length xs.length/\ρ 1=.int .i64 0/\ρ 2=.int .i64 (xs.length:Nat)/\ρ 3=.func (.func g) #[] post/\ρ 8=.int .i64 ((i+1:Nat):Int)) (fun i=>xs.length-i) ?_ 0 _ _ ?_
 . clear S
   intro i ih ρ h ⟨hi,S,r0,r1,r2,r3,r8⟩
   by_cases hlt:i+1<xs.length
   . simp only [BS,LB,Nat.reduceLT,Nat.reduceEqDiff,r2,r8,aP,hlt]
     have pmI:=oB (key:=key) (l:=xs) i (.inl (by omega))
     refine bA (fun(j:Nat) ρ h=>j<=i+1/\ ∃l,l.Perm xs/\bub key j l=bub key (i+1) (iz key i xs)/\St (· =b) h0 h [(b,.row (gT l) 1)] []/\ρ 0=.slice (some ⟨b,0,some 1⟩) xs.length xs.length/\ρ 1=.int .i64 0/\ρ 2=.int .i64 (xs.length:Nat)/\ρ 3=.func (.func g) #[] post/\ρ 8=.int .i64 ((i+1:Nat):Int)/\ρ 9=.int .i64 (j:Nat)) (fun j=>j) ?_ (i+1) _ _ ?_
     . clear S r0 r1 r2 r3 r8
       intro j ihj ρ h ⟨hj,l,pm,hbub,S,r0,r1,r2,r3,r8,r9⟩
       have ll:=pm.length_eq
       have wi:aq .i64 (((i+1:Nat):Int)+1)=((i+1+1:Nat):Int):=by rw [wrap64]<;>omega
       by_cases hj0:0<j
       . obtain⟨k,rfl⟩: ∃k,j=k+1:=⟨j-1,by omega⟩
         have cj:(0:Int)<((k+1:Nat):Int):=by omega
         have wk:aq .i64 (((k+1:Nat):Int)-1)=(k:Int):=by rw [wrap64]<;>omega
         have k1:k+1<xs.length:=by omega
         have k0:k<xs.length:=by omega
         have q1:=(S.row (b:=b) m0).load1 (natM_at (i:=k+1) (by omega))
         have q0:=(S.row (b:=b) m0).load1 (natM_at (i:=k) (by omega))
         have d1:l.getD (k+1) 0<N:=by
          refine hx _ (pm.mem_iff.1 ?_)
          rw [zN,zO (by omega)];exact Xa _
         have d0:l.getD k 0<N:=by
          refine hx _ (pm.mem_iff.1 ?_)
          rw [zN,zO (by omega)];exact Xa _
         simp only [BS]
         refine aD (aM rfl) (q:=0) (ps:=[]) (by kernel_rfl) ?_
         simp only [BS,LB,cls,Nat.reduceLT,Nat.reduceEqDiff,Nat.reduceAdd,Nat.reducePow,Nat.reduceDiv,Nat.reduceMod,Nat.reduceLeDiff,Tryz.FFa1228,r0,r1,r3,r9,cj,wk,k1,k0,q1,q0]
         refine df (hc _ (((gq.fr (M:=NoM)).trans S.fr (fun c e=>.inr (by omega))).gr) _ _ d1 d0) ?_
         intro h g1
         replace S:=S.call g1
         by_cases hk:key (l.getD k 0)<key (l.getD (k+1) 0)
         . have ck:jZ (key (l.getD k 0)) (key (l.getD (k+1) 0))<0:=xy.2 hk
           replace q1:=g1.load q1
           replace q0:=g1.load q0
           simp only [BS,LB,cls,Nat.reduceLT,Nat.reduceEqDiff,Nat.reduceAdd,Nat.reducePow,Nat.reduceDiv,Nat.reduceMod,Nat.reduceLeDiff,ck]
           refine aD (aM rfl) (q:=0) (ps:=[]) (by kernel_rfl) ?_
           simp only [BS,LB,cls,Nat.reduceLT,Nat.reduceEqDiff,Nat.reduceAdd,Nat.reducePow,Nat.reduceDiv,Nat.reduceMod,Nat.reduceLeDiff,Tryz.FFa1228,r0,r9,wk,k1,k0,q1,q0]
           refine dK (aI S (i:=0) rfl Tryz.s3 bG (by rw [pF];omega) ono) ?_
           clear S;rintro h3 ⟨S,mo1⟩
           simp only [LC]at S
           simp only [BS,LB,cls,Nat.reduceLT,Nat.reduceEqDiff,Nat.reduceAdd,Nat.reducePow,Nat.reduceDiv,Nat.reduceMod,Nat.reduceLeDiff,Tryz.FFa1228,k0]
           refine dK (aI S (i:=0) rfl Tryz.s3 bG (by rw [List.length_set,pF];omega) ono) ?_
           clear S;rintro h4 ⟨S,mo2⟩
           simp only [LC]at S
           rw [vQ,vQ]at S
           simp only [BS,LB,Nat.reduceLT,Nat.reduceEqDiff,Nat.reduceAdd,r9,wk]
           have e:bub key (k+1) l=bub key k (swJ l (k+1)):=by
            show(if _ then _ else _)=_
            rw [if_pos hk]
           exact ihj k _ _ (by omega) ⟨by omega,swJ l (k+1),(vf (by omega)).trans pm,by rw [<-e];exact hbub,S,by simp [aa,r0],by simp [aa,r1],by simp [aa,r2],by simp [aa,r3],by simp [aa,r8],by simp [aa]⟩
         . have ck: ¬jZ (key (l.getD k 0)) (key (l.getD (k+1) 0))<0:=fun h=>hk (xy.1 h)
           have e:bub key (k+1) l=l:=by
            show(if _ then _ else _)=_
            rw [if_neg hk]
           rw [e]at hbub
           simp only [BS,LB,cls,Nat.reduceLT,Nat.reduceEqDiff,Nat.reduceAdd,Nat.reducePow,Nat.reduceDiv,Nat.reduceMod,Nat.reduceLeDiff,r8,ck,wi]
           exact ih (i+1) _ _ (by omega) ⟨by omega,by rw [oz,<-hbub];exact S,by simp [aa,r0],by simp [aa,r1],by simp [aa,r2],by simp [aa,r3],by simp [aa]⟩
       . have ej:j=0:=by omega
         subst ej
         have hb0:l=bub key (i+1) (iz key i xs):=hbub
         have cj: ¬(0:Int)<((0:Nat):Int):=by omega
         simp only [BS]
         refine aD (aM rfl) (q:=0) (ps:=[]) (by kernel_rfl) ?_
         simp only [BS,LB,cls,Nat.reduceLT,Nat.reduceEqDiff,Nat.reduceAdd,Nat.reducePow,Nat.reduceDiv,Nat.reduceMod,Nat.reduceLeDiff,Int.reduceLT,zX,r1,r8,r9,wi]
         exact ih (i+1) _ _ (by omega) ⟨by omega,by rw [oz,<-hb0];exact S,by simp [aa,r0],by simp [aa,r1],by simp [aa,r2],by simp [aa,r3],by simp [aa]⟩
     . exact⟨zV _,_,pmI,rfl,S,by simp [aa,r0],by simp [aa,r1],by simp [aa,r2],by simp [aa,r3],by simp [aa,r8],by simp [aa]⟩
   . simp only [BS,LB,Nat.reduceLT,Nat.reduceEqDiff,r2,r8,aP,hlt]
     have ei:i=xs.length-1:=by omega
     subst ei
     exact⟨S.fr,S.row m0⟩
 . exact⟨zT _,S,by simp [aa,cD],by simp [aa,cD],by simp [aa,cD],by simp [aa,cD],by simp [aa];rfl⟩
theorem stable_ok{hq h0:Hp}(gq:Gr hq h0){b N:Nat}{xs:List Nat}{g:FuncId}{post:Array Value}{key:Nat->Int}(row:Row h0 b (gT xs) 1)(hb:hq.n<=b)(hn:xs.length<20)(hx: ∀x∈xs,x<N)(hc:CmpF zM hq g post.toList N key):
 Ret zM 207 [.slice (some ⟨b,0,some 1⟩) xs.length xs.length,.int .i64 (xs.length:Nat),.func (.func g) #[] post] h0 fun _ h'=>Mo (· =b) h0 h'/\Row h' b (gT (iz key (xs.length-1) xs)) 1:=by
 have ok:=gq.ok
 have c1: ¬(20:Int)<=(xs.length:Int):=by omega
 have c2: ¬(20:Int)<(xs.length:Int):=by omega
 have S:=Si ok
 refine ab (n:=63) (rs:=[]) rfl Tryz.e207 rfl rfl rfl (lbt rfl) ?_
 simp only [BS,LB,Nat.reduceLT,Nat.reduceEqDiff]
 rw [bC]
 simp only [BS,LB,Nat.reduceLT,Nat.reduceEqDiff,c1]
 refine step_ret (y8 gq row hb (by omega) hx hc) ?_
 rintro r h ⟨f,R⟩
 simp only [BS]
 rw [bC]
 simp only [BS,LB,Nat.reduceLT,Nat.reduceEqDiff,c2]
 exact⟨f,R⟩
theorem uW{hq h0:Hp}(gq:Gr hq h0){b N:Nat}{xs:List Nat}{g:FuncId}{post:Array Value}{key:Nat->Int}(row:Row h0 b (gT xs) 1)(hb:hq.n<=b)(hn:xs.length<20)(hx: ∀x∈xs,x<N)(hc:CmpF zM hq g post.toList N key):
 Ret zM 152 [.slice (some ⟨b,0,some 1⟩) xs.length xs.length,.func (.func g) #[] post] h0 fun _ h'=>Mo (· =b) h0 h'/\Row h' b (gT (iz key (xs.length-1) xs)) 1:=by
 refine ab (n:=9) (rs:=[]) rfl Tryz.e152 rfl rfl rfl (lbt rfl) ?_
 simp only [BS,LB,Nat.reduceLT,Nat.reduceEqDiff,Tryz.FFa1152]
 refine step_ret (stable_ok gq row hb hn hx hc) ?_
 rintro r h q
 simp only [BS]
 exact q
theorem xn{h0:Hp}(ok:h0.t.Sized h0.n){v:Value}{xs:List Nat}(hs:aA h0 1 cJ v xs)(hl:xs.length<1000000)(hx:xs≠ []):Ret zM 44 [v] h0 fun r h'=>Gr h0 h'/\ ∃b,r=.slice (some ⟨b,0,some 1⟩) xs.length xs.length/\Row h' b (gT xs) 1/\h0.n<=b:=by
 have S:=Si ok
 rcases hs with⟨_,rfl⟩|⟨b,o,s,c,rfl,h2,h3⟩
 . exact absurd rfl hx
 . refine ab (n:=8) (rs:=[.tmp 2]) rfl Tryz.e44 rfl rfl rfl (lbt rfl) ?_
   simp only [BS,LB,Nat.reduceLT,Nat.reduceEqDiff,Tryz.FFa144]
   refine ag (cm (by exact Xm) (by exact Xz) (by decide) (by rfl)) S ?_;clear S;intro h bb S n_bb;simp only [LC,aY,bM,an,Nat.reduceMul,Nat.reduceAdd,XG,XH,Xj,XI]at S
   simp only [BS,LB,Nat.reduceLT,Nat.reduceEqDiff]
   have k0:=S.fr.n
   refine fL (S.cloneW (enc:=cJ) (ys:=xs) Xm Xz (by decide) Tryz.n33 (.inr ⟨b,o,s,c,rfl,h2,S.old h3 (fun h=>h)⟩) ii (by decide) (by omega) (S.row m0)) ?_
   rintro h' v ⟨S',g,sl,hc,w⟩
   obtain⟨b',rfl,row⟩:=w hx
   simp only [BS,LB,ac,Nat.reduceLT,Nat.reduceEqDiff]
   rw [tW]at row
   exact⟨S'.gr,b',rfl,row,(hc b' rfl).elim (fun e=>by omega) (fun e=>zS k0 e)⟩
theorem first_ok{hq h0:Hp}(gq:Gr hq h0){N:Nat}{v:Value}{xs:List Nat}{g:FuncId}{post:Array Value}{key:Nat->Int}(hs:aA h0 1 cJ v xs)(hne:xs≠ [])(hn:xs.length<20)(hx: ∀x∈xs,x<N)(hc:CmpF zM hq g post.toList N key){m:Nat}(hm:1<=m):
 Ret zM 80 [v,.int .i64 (m:Nat),.func (.func g) #[] post] h0 fun r h'=>Gr h0 h'/\aA h' 1 cJ r ((iz key (xs.length-1) xs).take (min m xs.length))/\ ∀c,av r c->h0.n<=c:=by
 have ok:=gq.ok
 have mn:min (m:Int) (xs.length:Int)=((min m xs.length:Nat):Int):=by omega
 have pm:=oB (key:=key) (l:=xs) (xs.length-1) (by cases xs with|nil=>exact absurd rfl hne|cons a l=>simp)
 have S:=Si ok
 refine ab (n:=18) (rs:=[.tmp 6]) rfl Tryz.e80 rfl rfl rfl (lbt rfl) ?_
 simp only [BS,LB,Nat.reduceLT,Nat.reduceEqDiff]
 refine step_ret (xn S.ok hs (by omega) hne) ?_
 rintro r h ⟨g1,b,rfl,row,nb⟩
 have hbq:hq.n<=b:=zS gq.n nb
 simp only [BS,LB,Nat.reduceLT,Nat.reduceEqDiff]
 refine step_ret (uW (gq.trans g1) row hbq hn hx hc) ?_
 rintro r h2 ⟨f,R⟩
 have sl:=xq (kd:=.i64) (b:=b) (len:=xs.length) (n:=min m xs.length) Xm Tryz.s3 (cap:=xs.length) (Nat.min_le_right _ _)
 simp only [BS,LB,ac,Nat.reduceLT,Nat.reduceEqDiff,Option.map_some,Option.map_none,Tryz.FFa180,mn,sl]
 refine⟨((g1.fr (M:=NoM)).trans f (fun c e=>.inr (by omega))).gr,?_,fun c hc=>by have hc:b=c:=hc;omega⟩
 have tl:((iz key (xs.length-1) xs).take (min m xs.length)).length=min m xs.length:=by rw [Xb,pm.length_eq];omega
 refine .inr ⟨b,0,some 1,xs.length,by rw [tl],by rw [tl];exact Nat.min_le_right _ _,?_⟩
 rw [tl,R.load (by rw [pF,pm.length_eq];omega),tW,Xc,Xj]
 unfold gT
 rw [List.map_take]
def Tryz.FFa281:=aj Z1<|aj Z2<|aj Z0<|aj Z4<|aj Z21<|aj Z18<|Z22
def Tryz.FFa244:=aj Z1<|aj Z2<|aj Z0<|aj Z3<|Z4
def Tryz.FFa2152:=aj Z0<|aj Z4<|Z63
def Tryz.FFa280:=aj Z1<|aj Z2<|aj Z0<|aj Z4<|Z63
def Tryz.FFa237:=aj Z1<|aj Z2<|aj Z0<|aj Z3<|aj Z7<|aj Z9<|aj Z14<|aj Z4<|aj Z21<|aj Z18<|aj Z22<|Z63
def keyB(N n:Nat)(R Q:Nat->List Int)(s w:Int)(i:Nat):Int:=du N n R Q i s w
def actL(N n:Nat)(R Q:Nat->List Int)(s w most:Int):List Nat:=(iz (keyB N n R Q s w) (n-1) (zW n)).take (min (max most 1).toNat n)
theorem zj{hq:Hp}{m N:Nat}{p:Value}{l:List Int}{R Q:Nat->List Int}(t:TabAt hq m p N l R Q)(hR: ∀i,i<l.length->(R i).length=N)(hQ: ∀i,i<l.length->(Q i).length=N)(hl:l.length<1000){s w:Int}{b4 b5 b6:Nat}(l4:hq.load b4 0 1=some [p])(l5:hq.load b5 0 1=some [.int .i64 s])(l6:hq.load b6 0 1=some [.int .i64 w]):
 CmpF zM hq 81 [ptrTo b4,ptrTo b5,ptrTo b6] l.length (keyB N l.length R Q s w):=by
 intro h g i j hi hj
 have fp:Fl p:=by obtain⟨b,_,_,_,rfl,_⟩:=t.ex;exact dX
 have S:=Si g.ok
 have z4:=bI g.ok (g.load l4)
 have z5:=bI g.ok (g.load l5)
 have z6:=bI g.ok (g.load l6)
 refine ab (n:=19) (rs:=[.tmp 7]) rfl Tryz.e81 rfl rfl rfl (lbt rfl) ?_
 simp only [BS,LB]
 refine aD (aM rfl) (q:=0) (ps:=[(4,8),(4,7),(4,5)]) (by kernel_rfl) ?_
 simp only [BS,LB,cls,Nat.reduceLT,Nat.reduceEqDiff,Nat.reduceAdd,Nat.reducePow,Nat.reduceDiv,Nat.reduceMod,Nat.reduceLeDiff,Tryz.FFa281,g.load l4,g.load l5,g.load l6]
 refine df (tZ S.ok ((t.gr g).gr S.gr) hR hQ hl) ?_
 intro h1 g1
 have v4:=aw g1 z4
 have v5:=aw g1 z5
 have v6:=aw g1 z6
 replace S:=S.call g1
 simp only [BS,LB,cls,Nat.reduceLT,Nat.reduceEqDiff,Nat.reduceAdd,Nat.reducePow,Nat.reduceDiv,Nat.reduceMod,Nat.reduceLeDiff,Tryz.FFa281,g1.load (g.load l4),g1.load (g.load l5),g1.load (g.load l6)]
 refine df (tZ S.ok ((t.gr g).gr S.gr) hR hQ hl) ?_
 intro h2 g2
 replace S:=S.call g2
 simp only [BS,LB,cls,Nat.reduceLT,Nat.reduceEqDiff,Nat.reduceAdd,Nat.reducePow,Nat.reduceDiv,Nat.reduceMod,Nat.reduceLeDiff]
 refine df (xe S.ok) ?_
 intro h3 g3
 replace S:=S.call g3
 simp only [BS,LB,cls,ac,Nat.reduceLT,Nat.reduceEqDiff,Nat.reduceAdd,Nat.reducePow,Nat.reduceDiv,Nat.reduceMod,Nat.reduceLeDiff]
 refine⟨by simp only [bH,bO,bg,bV,bD,ne_eq,not_false_eq_true,bU,cu,bJ,bF,cB,dt,aS,Nat.reduceLT,Nat.reduceEqDiff,reduceIte,zP,ae,cD,aG v4,aG v5,aG v6],?_⟩
 exact⟨rfl,S.gr⟩
theorem insNil_ok{h0:Hp}(ok:h0.t.Sized h0.n){v:Value}:bK zM 228 [.slice none 0 0,.int .i64 0,.int .i64 0,v] h0 (.tuple #[]):=by
 have S:=Si ok
 have w1:aq .i64 1=1:=rfl
 have c1: ¬(1:Int)<0:=by decide
 refine ab (n:=53) (rs:=[]) rfl Tryz.e228 rfl rfl rfl (lbt rfl) ?_
 simp only [BS,LB,Nat.reduceLT,Nat.reduceEqDiff,Int.reduceAdd,w1]
 rw [bC]
 simp only [BS,LB,ac,Nat.reduceLT,Nat.reduceEqDiff,c1]
 exact S.gr
theorem xP{h0:Hp}(ok:h0.t.Sized h0.n){m:Nat}{g:FuncId}{post:Array Value}:bK zM 80 [.slice none 0 0,.int .i64 (m:Nat),.func (.func g) #[] post] h0 (.slice none 0 0):=by
 have S:=Si ok
 have cl:bK zM 44 [.slice none 0 0] h0 (.slice none 0 0):=by
  refine ab (n:=8) (rs:=[.tmp 2]) rfl Tryz.e44 rfl rfl rfl (lbt rfl) ?_
  simp only [BS,LB,ac,Nat.reduceLT,Nat.reduceEqDiff,Tryz.FFa244]
  exact S.gr
 have mn:min (m:Int) 0=0:=by omega
 have c1: ¬(20:Int)<=0:=by decide
 have c2: ¬(20:Int)<0:=by decide
 have so: ∀{h:Hp},h.t.Sized h.n->bK zM 152 [.slice none 0 0,.func (.func g) #[] post] h (.tuple #[]):=fun {h} okh=>by
  have S:=Si okh
  have st:bK zM 207 [.slice none 0 0,.int .i64 0,.func (.func g) #[] post] h (.tuple #[]):=by
   refine ab (n:=63) (rs:=[]) rfl Tryz.e207 rfl rfl rfl (lbt rfl) ?_
   simp only [BS,LB,Nat.reduceLT,Nat.reduceEqDiff]
   rw [bC]
   simp only [BS,LB,Nat.reduceLT,Nat.reduceEqDiff,c1]
   refine au (insNil_ok S.ok) ?_;intro h g;replace S:=S.call g;clear g
   simp only [BS]
   rw [bC]
   simp only [BS,LB,ac,Nat.reduceLT,Nat.reduceEqDiff,c2]
   exact S.gr
  refine ab (n:=9) (rs:=[]) rfl Tryz.e152 rfl rfl rfl (lbt rfl) ?_
  simp only [BS,LB,Nat.reduceLT,Nat.reduceEqDiff,zX,Tryz.FFa2152]
  refine au st ?_;intro h' g';replace S:=S.call g'
  simp only [BS,LB,ac]
  exact S.gr
 have sl:dQ zM 33 (.slice none 0 0) none (some (.int .i64 0)) none=some (.slice none 0 0):=by
  simp only [dQ,Xm,Tryz.s3,eg,dW]
  rfl
 refine ab (n:=18) (rs:=[.tmp 6]) rfl Tryz.e80 rfl rfl rfl (lbt rfl) ?_
 simp only [BS,LB,Nat.reduceLT,Nat.reduceEqDiff]
 refine au cl ?_;intro h g1;replace S:=S.call g1
 simp only [BS,LB,Nat.reduceLT,Nat.reduceEqDiff]
 refine au (so S.ok) ?_;intro h g1;replace S:=S.call g1
 simp only [BS,LB,ac,Nat.reduceLT,Nat.reduceEqDiff,zX,Option.map_some,Option.map_none,Tryz.FFa280,mn,sl]
 exact S.gr
theorem yC{h0:Hp}(ok:h0.t.Sized h0.n){m N:Nat}{p:Value}{l:List Int}{R Q:Nat->List Int}(t:TabAt h0 m p N l R Q)(hR: ∀i,i<l.length->(R i).length=N)(hQ: ∀i,i<l.length->(Q i).length=N)(hl:l.length<=16){s w most:Int}:
 Ret zM 37 [p,.int .i64 s,.int .i64 w,.int .i64 most] h0 fun r h'=>Gr h0 h'/\aA h' 1 cJ r (actL N l.length R Q s w most)/\ ∀c,av r c->h0.n<=c:=by
 have S:=Si ok
 have fp:Fl p:=by obtain⟨b,_,_,_,rfl,_⟩:=t.ex;exact dX
 obtain⟨mk,hmk⟩: ∃k:Nat,max most 1=(k:Int):=⟨(max most 1).toNat,by omega⟩
 have hmk':(max most 1).toNat=mk:=by omega
 refine ab (n:=27) (rs:=[.tmp 8]) rfl Tryz.e37 rfl rfl rfl (lbt rfl) ?_
 simp only [BS,Nat.reduceLT]
 refine ag (cI (by assumption)) S ?_;clear S;intro h b4 S n_b4
 simp only [BS,Nat.reduceLT,Nat.reduceEqDiff,if_false]
 refine ag (cI (by exact bG)) S ?_;clear S;intro h b5 S n_b5
 simp only [BS,Nat.reduceLT,Nat.reduceEqDiff,if_false]
 refine ag (cI (by exact bG)) S ?_;clear S;intro h b6 S n_b6
 simp only [BS,LB,Nat.reduceLT,Nat.reduceEqDiff,Tryz.FFa237,S.ld (b:=b4) (o:=0) m2 rfl]
 have k0:=S.fr.n
 refine step_ret (lW S.ok (t.gr S.gr) (by omega)) ?_
 rintro r h ⟨g,sl,hc⟩
 replace S:=S.call g
 simp only [BS,LB,Nat.reduceLT,Nat.reduceEqDiff,Tryz.FFa237,sl.lenq]
 replace S:=S.nilG (k:=1)
 refine bA (fun(i:Nat) ρ h=>i<=l.length/\ ∃vR,St NoM h0 h [(b6,.row [.int .i64 w] 1),(b5,.row [.int .i64 s] 1),(b4,.row [p] 1)] [(vR,1,gT (zW i))]/\(i=0->vR=.slice none 0 0)/\ρ 3=.int .i64 most/\ρ 4=ptrTo b4/\ρ 5=ptrTo b5/\ρ 6=ptrTo b6/\ρ 9=vR/\ρ 13=.int .i64 (l.length:Nat)/\ρ 14=.int .i64 i) (fun i=>l.length-i) ?_ 0 _ _ ?_
 . clear S
   intro i ih ρ h ⟨hi,vR,S,hv,r3,r4,r5,r6,r9,r13,r14⟩
   have wi:aq .i64 ((i:Int)+1)=((i+1:Nat):Int):=by rw [wrap64]<;>omega
   by_cases hlt:i<l.length
   . simp only [BS,LB,Nat.reduceLT,Nat.reduceEqDiff,r9,r13,r14,aP,hlt]
     refine ag (cm (by exact Xm) (by exact Xz) (by decide) (by rfl)) S ?_;clear S;intro h bt S n_bt;simp only [LC,aY,bM,an,Nat.reduceMul,Nat.reduceAdd,XG,XH,Xj,XI]at S
     simp only [BS,LB,Nat.reduceLT,Nat.reduceEqDiff]
     have src:aO h 1 (.slice (some ⟨bt,0,none⟩) 1 1)=some (1,[.int .i64 (i:Nat)]):=by simp only [aO];rw [S.lds (b:=bt) (o:=0) (n:=1*1) m0 (lbt rfl)];rfl
     replace S:=S.drop1
     refine fL (S.grow (j:=0) (m:=1) (new:=[.int .i64 (i:Nat)]) rfl Xm Xz (by decide) Tryz.n33 src rfl (by decide) rfl (by rw [pF];simp;omega)) ?_
     clear S src;rintro h vR' S
     simp only [LC]at S
     have e:gT (zW i)++[.int .i64 (i:Nat)]=gT (zW (i+1)):=by unfold gT;rw [Xw,List.map_append];rfl
     rw [e]at S
     simp only [BS,LB,Nat.reduceLT,Nat.reduceEqDiff,r14,wi]
     exact ih (i+1) _ _ (by omega) ⟨by omega,vR',S,fun h=>(by omega),by simp [aa,r3],by simp [aa,r4,ae],by simp [aa,r5,ae],by simp [aa,r6,ae],by simp [aa],by simp [aa,r13],by simp [aa]⟩
   . have ei:i=l.length:=by omega
     subst ei
     simp only [BS,LB,Nat.reduceLT,Nat.reduceEqDiff,r3,r4,r5,r6,r9,r13,r14,aP,hlt]
     by_cases hn:l.length=0
     . have ev:=hv hn
       subst ev
       have kS:=S.fr.n
       rw [hmk]
       refine au (xP S.ok) ?_
       intro h' g
       replace S:=S.call g
       simp only [BS,LB,ac,Nat.reduceLT,Nat.reduceEqDiff]
       refine⟨S.gr,.inl ⟨rfl,?_⟩,fun c hc=>hc.elim⟩
       unfold actL
       rw [hn];simp
     . have sA:aA h 1 cJ vR (zW l.length):=(S.gown _ m0).1.sl (tW _).symm ii (by decide)
       have kS:=S.fr.n
       have cf:=zj (t.gr S.gr) hR hQ (by omega) (s:=s) (w:=w) (b4:=b4) (b5:=b5) (b6:=b6) (S.ld m2 rfl) (S.ld m1 rfl) (S.ld m0 rfl)
       rw [hmk]
       refine step_ret (first_ok (N:=l.length) (m:=mk) (Gr.refl S.ok) sA (by intro e;have:=congrArg List.length e;rw [List.length_range]at this;exact hn this) (by simp;omega) (fun x hx=>List.mem_range.1 hx) cf (by omega)) ?_
       rintro r h' ⟨g,sl',hc'⟩
       replace S:=S.call g
       simp only [BS,LB,ac,Nat.reduceLT,Nat.reduceEqDiff]
       rw [List.length_range]at sl'
       exact⟨S.gr,by unfold actL;rw [hmk'];exact sl',fun c hc=>zS kS (hc' c hc)⟩
 . exact⟨zT _,_,S,fun _=>rfl,by simp [aa,cD],by simp [aa,ae],by simp [aa,ae],by simp [aa,ae],by simp [aa],by simp [aa],by simp [aa]⟩

open Tryz in
def Tryz.FFb2167:=aj Z1<|aj Z2<|aj Z0<|aj Z3<|aj Z4<|aj Z21<|aj Z18<|aj Z22<|aj Z87<|aj a234<|aj s234<|aj z234<|n234
theorem gI.keep{h h':Hp}{m n:Nat}{v:Value}{R:Nat->List Int}(ok:h.t.Sized h.n)(g:ir h h')(r:gI h m v n R):gI h' m v n R:=by
 obtain⟨ws,a,b,c,d⟩:=r
 exact⟨ws,a.keep ok g,b,c,fun i w hw=>⟨(d i w hw).1.keep ok g,(d i w hw).2⟩⟩
theorem TabAt.keep{h h':Hp}{m N:Nat}{p:Value}{l:List Int}{R Q:Nat->List Int}(ok:h.t.Sized h.n)(g:ir h h')(t:TabAt h m p N l R Q):TabAt h' m p N l R Q:=by
 obtain⟨b,vM,vT,vF,e,h1,h2,h3,h4,h5,h6⟩:=t.ex
 exact⟨b,vM,vT,vF,e,g.row ok h1,h2.keep ok g,h3.keep ok g,h4.keep ok g,h5,h6⟩
theorem bEach_ok{h0:Hp}(ok:h0.t.Sized h0.n){pt ve:Value}(f1:Fl pt)(f2:Fl ve):Ret zM 96 [pt,ve] h0 fun v h'=>Gr h0 h'/\ ∃b1 b2,v=.func (.func 167) #[] #[ptrTo b1,ptrTo b2]/\h0.n<=b1/\h0.n<=b2/\h'.load b1 0 1=some [pt]/\h'.load b2 0 1=some [ve]:=by
 have S:=Si ok
 refine ab (n:=6) (rs:=[.tmp 4]) rfl Tryz.e96 rfl rfl rfl (lbt rfl) ?_
 simp only [BS,Nat.reduceLT]
 refine ag (cI (by assumption)) S ?_;clear S;intro h b1 S n_b1
 simp only [BS,Nat.reduceLT,Nat.reduceEqDiff,if_false]
 refine ag (cI (by assumption)) S ?_;clear S;intro h b2 S n_b2
 simp only [BS,LB,ac,Nat.reduceLT,Nat.reduceEqDiff]
 exact⟨S.gr,b1,b2,rfl,n_b1,n_b2,S.ld m1 rfl,S.ld m0 rfl⟩
def TellF(E:Env)(hq:Hp)(g:FuncId)(post:List Value)(N:Nat)(f:Nat->Int):Prop:= ∀h,h.t.Sized h.n->ir hq h-> ∀v,v<N->bK E g ([.int .i64 (v:Nat)]++post) h (.int .i64 (f v))
theorem bEach_it{hq h0:Hp}(okq:hq.t.Sized hq.n)(ok0:h0.t.Sized h0.n)(kq:ir hq h0)(nq:hq.n<=h0.n){m N:Nat}{pt:Value}{l:List Int}{R Q:Nat->List Int}(t:TabAt hq m pt N l R Q)(hN:N<=1000){b1 b2:Nat}{g:FuncId}{post:Array Value}{f:Nat->Int}(hf:TellF zM hq g post.toList N f)
 (e1:h0.load b1 0 1=some [pt]) (e2:h0.load b2 0 1=some [.func (.func g) #[] post]):
 qG zM 167 [] [ptrTo b1,ptrTo b2] h0 (fun c=>c=b1\/c=b2\/c<hq.n) ((zW N).map fun(v:Nat)=>[.int .i64 (f v)]):=by
 intro lb J Z hz Y h F s hj
 have l1:=s.load ok0 e1 (.inl rfl)
 have fp:Fl pt:=by obtain⟨b,_,_,_,rfl,_⟩:=t.ex;exact dX
 refine enter (n:=17) (rs:=[]) rfl Tryz.e167 rfl rfl rfl (lbt rfl) ?_
 simp only [BS,LB,Nat.reduceLT,Tryz.FFb2167,l1]
 refine au (oD s.ok (t.keep okq (s.keep kq nq (fun c hc=>.inr (.inr hc))))) ?_
 intro h' g1
 have sA:=s.gr g1
 have jA:=Y.gr _ _ _ _ hj g1
 simp only [BS]
 refine bA (fun(i:Nat) ρ h=>i<=N/\ ∃F,ItS h0 (fun c=>c=b1\/c=b2\/c<hq.n) h F/\J i h F/\ρ 0=.func (.yield lb) #[] #[]/\ρ 1=ptrTo b1/\ρ 2=ptrTo b2/\ρ 6=.int .i64 (N:Nat)/\ρ 7=.int .i64 i) (fun i=>N-i) ?_ 0 _ _ ?_
 . clear l1 s hj sA jA F g1 h
   intro i ih ρ h ⟨hi,F,s,hj,r0,r1,r2,r6,r7⟩
   have w:aq .i64 ((i:Int)+1)=((i+1:Nat):Int):=by rw [wrap64]<;>omega
   by_cases hlt:i<N
   . have l2:=s.load ok0 e2 (.inr (.inl rfl))
     have hx:((zW N).map fun(v:Nat)=>[Value.int .i64 (f v)])[i]? =some [.int .i64 (f i)]:=by rw [zY,XD hlt];rfl
     simp only [BS,LB,Nat.reduceLT,Nat.reduceEqDiff,Tryz.FFb2167,r0,r2,r6,r7,aP,hlt,l2]
     refine au (hf _ s.ok (s.keep kq nq (fun c hc=>.inr (.inr hc))) i hlt) ?_
     intro h2 g2
     simp only [BS,LB,Nat.reduceLT,Nat.reduceEqDiff]
     refine gf Y (s.gr g2) (Y.gr _ _ _ _ hj g2) (i:=i) hx ?_ ?_ ?_
     . intro h3 F3 a s3 _ _
       simp only [BS,LB,Nat.reduceLT,Nat.reduceEqDiff,r7,w]
       exact ih (i+1) _ _ (by omega) ⟨by omega,F3,s3,a,by simp [aa,r0],by simp [aa,r1,ae],by simp [aa,r2,ae],by simp [aa,r6],by simp [aa]⟩
     . intro h3 a _
       simp only [BS,LB,Nat.reduceLT,Nat.reduceEqDiff]
       exact iV rfl ⟨rfl,.inr (.inl ⟨_,rfl,a⟩)⟩
     . intro v h3 a
       exact absurd a (hz v h3)
   . simp only [BS,LB,Nat.reduceLT,r6,r7,aP,hlt]
     have:i=N:=by omega
     subst this
     exact dD (cS ⟨rfl,_,rfl,rfl,.inl ⟨_,F,rfl,by simpa using hj⟩⟩)
 . exact⟨zT _,F,sA,jA,by simp [aa,cD],by simp [aa,cD,ae],by simp [aa,cD,ae],by simp [aa],by simp [aa]⟩
def TabQ(h:Hp)(pt:Value)(nd:Nat)(l:List Int)(R Q:Nat->List Int):Prop:=(∃m,TabAt h m pt nd l R Q/\(∀i,i<l.length->(R i).length=nd)/\ ∀i,i<l.length->(Q i).length=nd)\/(pt=.pointer none/\nd=0/\l=[])
theorem TabQ.gr{h h':Hp}{pt:Value}{nd:Nat}{l:List Int}{R Q:Nat->List Int}(t:TabQ h pt nd l R Q)(g:Gr h h'):TabQ h' pt nd l R Q:=t.imp (fun⟨m,a,b⟩=>⟨m,a.gr g,b⟩) (fun h=>h)
def ansV(c:Int)(d:Int)(vA vB:Value):Value:=.agg ⟨[.int .i64 c,.int .i64 d,vA,vB]⟩
end Go.Ab
end
section
namespace Go.Ab
section
variable{key:Nat->Int}{n m:Nat}
theorem fK{α:Type}{f:α->Int}{d:Int}: ∀(l:List α) (b:Int),l.foldl (fun b i=>max b (f i)) b<=d↔b<=d/\ ∀i∈l,f i<=d
 | [],b=>by simp
 | x::l,b=>by
   rw [List.foldl_cons,fK l]
   simp only [XB,forall_eq_or_imp]
   constructor
   . rintro⟨h1,h2⟩;exact⟨by omega,by omega,h2⟩
   . rintro⟨h1,h2,h3⟩;exact⟨by omega,h3⟩
end
end Go.Ab

end
section
namespace Go.Ab
open Go.Proofs
set_option maxRecDepth 10000
section
variable{γ:Gra}{l:List Int}
theorem yV(eT: ∀{s:Nat},s<γ.nodes-> ∀v,IsD (seen γ.arcs Arc.t Arc.s) s v (dOf (seen γ.arcs Arc.t Arc.s) s v))(eF: ∀{s:Nat},s<γ.nodes-> ∀v,IsD (seen γ.arcs Arc.s Arc.t) s v (dOf (seen γ.arcs Arc.s Arc.t) s v))(hl:eE γ.nodes l)
 {v u w d:Nat} (hv:v<γ.nodes) (hu:u<γ.nodes) (hw:w<γ.nodes) (hd:IsD (seen γ.arcs Arc.s Arc.t) v u d) (hdf:d<FAR) (i:Int):du γ.nodes l.length (toR γ l) (frR γ l) i v w<=d+du γ.nodes l.length (toR γ l) (frR γ l) i u w:=by
 unfold du
 by_cases hi:0<=i/\i<(l.length:Int)
 . rw [if_pos ⟨by omega,by omega,hi⟩,if_pos ⟨by omega,by omega,hi⟩]
   obtain⟨i,rfl⟩:=Xs hi.1
   have hi:i<l.length:=by omega
   have hm:=hl.2 i hi
   obtain⟨s,es⟩: ∃s:Nat,l.getD i 0=s:=⟨(l.getD i 0).toNat,by omega⟩
   have hs:s<γ.nodes:=by omega
   rw [mY hi hv,mY hi hw,mY hi hu,mX hi hv,mX hi hw,mX hi hu,es,Int.toNat_natCast]
   have hF:=gO
   have a1:=(eT hs v).le
   have a2:=(eT hs w).le
   have a3:=(eF hs v).le
   have a4:=(eF hs w).le
   have a5:=(eT hs u).le
   have a6:=(eF hs u).le
   have t1:=fun h2=>tri_to (uL γ.arcs) hd (eT hs v) (eT hs u) hdf h2
   have t2:=fun h2=>tri_fr hd (eF hs v) (eF hs u) hdf h2
   rw [jo (by omega) (by omega),jo (by omega) (by omega),jo (by omega) (by omega),jo (by omega) (by omega)]
   generalize dOf (seen γ.arcs Arc.t Arc.s) s v=p1 at*
   generalize dOf (seen γ.arcs Arc.t Arc.s) s u=p2 at*
   generalize dOf (seen γ.arcs Arc.t Arc.s) s w=p3 at*
   generalize dOf (seen γ.arcs Arc.s Arc.t) s v=q1 at*
   generalize dOf (seen γ.arcs Arc.s Arc.t) s u=q2 at*
   generalize dOf (seen γ.arcs Arc.s Arc.t) s w=q3 at*
   have k1:p2<FAR->p1<=d+p2:=fun h=>(t1 h).2
   have k1':p2<FAR->p1<FAR:=fun h=>(t1 h).1
   have k2:q1<FAR->q2<=q1+d:=fun h=>(t2 h).2
   have k2':q1<FAR->q2<FAR:=fun h=>(t2 h).1
   clear t1 t2 eT eF hl
   have e1:(if p3<72057594037927936 then(if p1<72057594037927936 then max 0 ((p1:Int)-p3)else 72057594037927936)else 0)<=d+(if p3<72057594037927936 then(if p2<72057594037927936 then max 0 ((p2:Int)-p3)else 72057594037927936)else 0):=by
    by_cases h2:p2<FAR
    . have:=k1 h2
      have:=k1' h2
      repeat' split
      all_goals omega
    . repeat' split
      all_goals omega
   have e2:(if q1<72057594037927936 then(if q3<72057594037927936 then max 0 ((q3:Int)-q1)else 72057594037927936)else 0)<=d+(if q2<72057594037927936 then(if q3<72057594037927936 then max 0 ((q3:Int)-q2)else 72057594037927936)else 0):=by
    by_cases h2:q1<FAR
    . have:=k2 h2
      have:=k2' h2
      repeat' split
      all_goals omega
    . repeat' split
      all_goals omega
   omega
 . rw [if_neg (fun h=>hi h.2.2),if_neg (fun h=>hi h.2.2)]
   omega
theorem ud(eT: ∀{s:Nat},s<γ.nodes-> ∀v,IsD (seen γ.arcs Arc.t Arc.s) s v (dOf (seen γ.arcs Arc.t Arc.s) s v))(eF: ∀{s:Nat},s<γ.nodes-> ∀v,IsD (seen γ.arcs Arc.s Arc.t) s v (dOf (seen γ.arcs Arc.s Arc.t) s v))(hl:eE γ.nodes l)
 {v u w d:Nat} (hv:v<γ.nodes) (hu:u<γ.nodes) (hw:w<γ.nodes) (hd:IsD (seen γ.arcs Arc.s Arc.t) v u d) (hdf:d<FAR) (act:List Int):cQ γ.nodes l.length (toR γ l) (frR γ l) v w act<=d+cQ γ.nodes l.length (toR γ l) (frR γ l) u w act:=by
 have h:=(fK (f:=fun i=>du γ.nodes l.length (toR γ l) (frR γ l) i u w) act 0).1 (Xo _)
 refine(fK (f:=fun i=>du γ.nodes l.length (toR γ l) (frR γ l) i v w) act 0).2 ⟨?_,fun i hi=>?_⟩
 . have:=h.1
   unfold cQ
   omega
 . have h1:=yV eT eF hl hv hu hw hd hdf i
   have h2:=h.2 i hi
   unfold cQ
   omega
theorem jO{N n:Nat}{R Q:Nat->List Int}{v w:Int}{act:List Int}:0<=cQ N n R Q v w act:=((fK (f:=fun i=>du N n R Q i v w) act 0).1 (Xo _)).1
end
end Go.Ab

end
section
namespace Go.Ab
open Go.Proofs
set_option maxRecDepth 10000
theorem yM{N n:Nat}{R Q:Nat->List Int}{i v:Int}:du N n R Q i v v=0:=by
 have: ∀x:Int,lu x x=0:=fun x=>by unfold lu wy;repeat' split;all_goals omega
 unfold du
 split
 . rw [this,this];rfl
 . rfl
theorem uD{N n:Nat}{R Q:Nat->List Int}{v:Int}(act:List Int):cQ N n R Q v v act=0:=by
 refine Int.le_antisymm ((fK (f:=fun i=>du N n R Q i v v) act 0).2 ⟨Xo _,fun i _=>?_⟩) jO
 show du N n R Q i v v<=0
 rw [yM]
 exact Xo _
theorem wk_first{A:List Arc}{N v u x:Nat}(hA: ∀a∈A,a.s<N)(h:Wk A v u x):v=u\/v<N:=by
 induction h with
 |nil=>exact .inl rfl
 | snoc ha _ ih=>
   rcases ih with e|h
   . exact .inr (by rw [e];exact hA _ ha)
   . exact .inr h
section
variable{γ:Gra}{l:List Int}
end
end Go.Ab

end
section
namespace Go.Ab
open Go.Proofs
set_option maxRecDepth 10000
def lL(a b:Int):Int:=if wy a<72057594037927936 then(if wy b<72057594037927936 then wy a-wy b else 72057594037927936)else 72057594037927936
theorem twinD_nn{a b:Int}(ha:0<=a)(hb:0<=b):lL a b=if a<(FAR:Int)/\b<(FAR:Int)then a-b else(FAR:Int):=by
 have:=gO
 unfold lL wy
 repeat' split
 all_goals omega
section
variable{γ:Gra}{l:List Int}
theorem yg(eT: ∀{s:Nat},s<γ.nodes-> ∀v,IsD (seen γ.arcs Arc.t Arc.s) s v (dOf (seen γ.arcs Arc.t Arc.s) s v))(eF: ∀{s:Nat},s<γ.nodes-> ∀v,IsD (seen γ.arcs Arc.s Arc.t) s v (dOf (seen γ.arcs Arc.s Arc.t) s v))(hl:eE γ.nodes l)
 {v u w d:Nat} (hv:v<γ.nodes) (hu:u<γ.nodes) (hw:w<γ.nodes) (hd:IsD (seen γ.arcs Arc.s Arc.t) v u d) (hdf:d<FAR) (i:Int):du γ.nodes l.length (toR γ l) (frR γ l) i w u<=d+du γ.nodes l.length (toR γ l) (frR γ l) i w v:=by
 unfold du
 by_cases hi:0<=i/\i<(l.length:Int)
 . rw [if_pos ⟨by omega,by omega,hi⟩,if_pos ⟨by omega,by omega,hi⟩]
   obtain⟨i,rfl⟩:=Xs hi.1
   have hi:i<l.length:=by omega
   have hm:=hl.2 i hi
   obtain⟨s,es⟩: ∃s:Nat,l.getD i 0=s:=⟨(l.getD i 0).toNat,by omega⟩
   have hs:s<γ.nodes:=by omega
   rw [mY hi hv,mY hi hw,mY hi hu,mX hi hv,mX hi hw,mX hi hu,es,Int.toNat_natCast]
   have hF:=gO
   have a1:=(eT hs v).le
   have a2:=(eT hs w).le
   have a3:=(eF hs v).le
   have a4:=(eF hs w).le
   have a5:=(eT hs u).le
   have a6:=(eF hs u).le
   have t1:=fun h2=>tri_to (uL γ.arcs) hd (eT hs v) (eT hs u) hdf h2
   have t2:=fun h2=>tri_fr hd (eF hs v) (eF hs u) hdf h2
   rw [jo (by omega) (by omega),jo (by omega) (by omega),jo (by omega) (by omega),jo (by omega) (by omega)]
   generalize dOf (seen γ.arcs Arc.t Arc.s) s v=p1 at*
   generalize dOf (seen γ.arcs Arc.t Arc.s) s u=p2 at*
   generalize dOf (seen γ.arcs Arc.t Arc.s) s w=p3 at*
   generalize dOf (seen γ.arcs Arc.s Arc.t) s v=q1 at*
   generalize dOf (seen γ.arcs Arc.s Arc.t) s u=q2 at*
   generalize dOf (seen γ.arcs Arc.s Arc.t) s w=q3 at*
   have k1:p2<FAR->p1<=d+p2:=fun h=>(t1 h).2
   have k1':p2<FAR->p1<FAR:=fun h=>(t1 h).1
   have k2:q1<FAR->q2<=q1+d:=fun h=>(t2 h).2
   have k2':q1<FAR->q2<FAR:=fun h=>(t2 h).1
   clear t1 t2 eT eF hl
   have e1:(if p2<72057594037927936 then(if p3<72057594037927936 then max 0 ((p3:Int)-p2)else 72057594037927936)else 0)<=d+(if p1<72057594037927936 then(if p3<72057594037927936 then max 0 ((p3:Int)-p1)else 72057594037927936)else 0):=by
    by_cases h2:p2<FAR
    . have:=k1 h2
      have:=k1' h2
      repeat' split
      all_goals omega
    . repeat' split
      all_goals omega
   have e2:(if q3<72057594037927936 then(if q2<72057594037927936 then max 0 ((q2:Int)-q3)else 72057594037927936)else 0)<=d+(if q3<72057594037927936 then(if q1<72057594037927936 then max 0 ((q1:Int)-q3)else 72057594037927936)else 0):=by
    by_cases h2:q1<FAR
    . have:=k2 h2
      have:=k2' h2
      repeat' split
      all_goals omega
    . repeat' split
      all_goals omega
   omega
 . rw [if_neg (fun h=>hi h.2.2),if_neg (fun h=>hi h.2.2)]
   omega
theorem sn(eT: ∀{s:Nat},s<γ.nodes-> ∀v,IsD (seen γ.arcs Arc.t Arc.s) s v (dOf (seen γ.arcs Arc.t Arc.s) s v))(eF: ∀{s:Nat},s<γ.nodes-> ∀v,IsD (seen γ.arcs Arc.s Arc.t) s v (dOf (seen γ.arcs Arc.s Arc.t) s v))(hl:eE γ.nodes l)
 {v u w d:Nat} (hv:v<γ.nodes) (hu:u<γ.nodes) (hw:w<γ.nodes) (hd:IsD (seen γ.arcs Arc.s Arc.t) v u d) (hdf:d<FAR) (act:List Int):cQ γ.nodes l.length (toR γ l) (frR γ l) w u act<=d+cQ γ.nodes l.length (toR γ l) (frR γ l) w v act:=by
 have h:=(fK (f:=fun i=>du γ.nodes l.length (toR γ l) (frR γ l) i w v) act 0).1 (Xo _)
 refine(fK (f:=fun i=>du γ.nodes l.length (toR γ l) (frR γ l) i w u) act 0).2 ⟨?_,fun i hi=>?_⟩
 . have:=h.1
   unfold cQ
   omega
 . have h1:=yg eT eF hl hv hu hw hd hdf i
   have h2:=h.2 i hi
   unfold cQ
   omega
noncomputable def twP(γ:Gra)(l act:List Int)(s w:Nat)(v:Nat):Int:=lL (cQ γ.nodes l.length (toR γ l) (frR γ l) v w act) (cQ γ.nodes l.length (toR γ l) (frR γ l) s v act)
theorem twP_eq{act:List Int}{s w v:Nat}:twP γ l act s w v=if cQ γ.nodes l.length (toR γ l) (frR γ l) v w act<(FAR:Int)/\cQ γ.nodes l.length (toR γ l) (frR γ l) s v act<(FAR:Int)then cQ γ.nodes l.length (toR γ l) (frR γ l) v w act-cQ γ.nodes l.length (toR γ l) (frR γ l) s v act else(FAR:Int):=twinD_nn jO jO
theorem twP_op{act:List Int}{s w v:Nat}:OpB (twP γ l act s w) v↔cQ γ.nodes l.length (toR γ l) (frR γ l) v w act<(FAR:Int)/\cQ γ.nodes l.length (toR γ l) (frR γ l) s v act<(FAR:Int):=by
 have b1:=jO (N:=γ.nodes) (n:=l.length) (R:=toR γ l) (Q:=frR γ l) (v:=(v:Int)) (w:=(w:Int)) (act:=act)
 have b2:=jO (N:=γ.nodes) (n:=l.length) (R:=toR γ l) (Q:=frR γ l) (v:=(s:Int)) (w:=(v:Int)) (act:=act)
 unfold OpB
 rw [twP_eq]
 split
 . constructor
   . intro _;assumption
   . intro _;omega
 . constructor
   . intro h;omega
   . intro h;exact absurd h (by assumption)
theorem twP_feas(eT: ∀{s:Nat},s<γ.nodes-> ∀v,IsD (seen γ.arcs Arc.t Arc.s) s v (dOf (seen γ.arcs Arc.t Arc.s) s v))(eF: ∀{s:Nat},s<γ.nodes-> ∀v,IsD (seen γ.arcs Arc.s Arc.t) s v (dOf (seen γ.arcs Arc.s Arc.t) s v))(hl:eE γ.nodes l)(hγ:Good γ)
 {s w:Nat} (hs:s<γ.nodes) (hw:w<γ.nodes) (act:List Int) (al:Nat->Bool):mP γ.arcs al (twP γ l act s w):=by
 intro i hi hin
 obtain⟨_,o1,o2⟩:=hin
 have ha:γ.arcs.getD i default∈γ.arcs:=by rw [zN,zO hi];exact Xa hi
 generalize γ.arcs.getD i default=a at ha o1 o2
 obtain⟨h1,h2,h3⟩:=hγ.arcs a ha
 have p1:=twP_op.1 o1
 have p2:=twP_op.1 o2
 rw [twP_eq,twP_eq,if_pos p1,if_pos p2]
 have hd:=eF h1 a.t
 have hwk:Wk (seen γ.arcs Arc.s Arc.t) a.s a.t (0+a.w):=by rw [jm];exact .snoc ha .nil
 have hq:=hd.wk hwk
 have k1:=ud eT eF hl h1 h2 hw hd hq.1 act
 have k2:=sn eT eF hl h1 h2 hs hd hq.1 act
 omega
theorem twP_open(eT: ∀{s:Nat},s<γ.nodes-> ∀v,IsD (seen γ.arcs Arc.t Arc.s) s v (dOf (seen γ.arcs Arc.t Arc.s) s v))(eF: ∀{s:Nat},s<γ.nodes-> ∀v,IsD (seen γ.arcs Arc.s Arc.t) s v (dOf (seen γ.arcs Arc.s Arc.t) s v))(hl:eE γ.nodes l)
 {s w v x y:Nat} (hs:s<γ.nodes) (hw:w<γ.nodes) (hv:v<γ.nodes) (act:List Int) (h1:Wk γ.arcs s v x) (h2:Wk γ.arcs v w y):OpB (twP γ l act s w) v:=by
 refine twP_op.2 ⟨?_,?_⟩
 . have hd:=eF hv w
   have hq:=hd.wk (by rw [jm];exact h2)
   have:=ud eT eF hl hv hw hw hd hq.1 act
   rw [uD]at this
   omega
 . have hd:=eF hs v
   have hq:=hd.wk (by rw [jm];exact h1)
   have:=sn eT eF hl hs hv hs hd hq.1 act
   rw [uD]at this
   omega
theorem wk_hB{A:List Arc}{s w:Nat}{al:Nat->Bool}{pi:Nat->Int}(hal: ∀i,al i=true)(hp: ∀v x y,Wk A s v x->Wk A v w y->OpB pi v){v x:Nat}(h:Wk A s v x):(∃y,Wk A v w y)->Wk (hB A al pi false) s v x:=by
 induction h with
 |nil=>intro _;exact .nil
 | @snoc z a ha hz ih=>
   rintro⟨y,hy⟩
   have h1:Wk A a.s w (0+a.w+y):=(Wk.snoc ha .nil).trans hy
   obtain⟨i,hi,e⟩:=XE ha
   have e':A.getD i default=a:=by rw [zN,zO hi,e];rfl
   refine .snoc (nw.2 ⟨i,hi,⟨hal i,by rw [e'];exact hp _ _ _ hz h1,by rw [e'];exact hp _ _ _ (.snoc ha hz) hy⟩,by rw [e'];rfl⟩) (ih ⟨_,h1⟩)
theorem hB_sub{A:List Arc}{al:Nat->Bool}{pi:Nat->Int}{a:Arc}(h:a∈hB A al pi false):a∈A:=by
 obtain⟨i,hi,_,rfl⟩:=nw.1 h
 have:(⟨fsB false (A.getD i default),ftB false (A.getD i default),(A.getD i default).w⟩:Arc)=A.getD i default:=rfl
 rw [this,zN,zO hi];exact Xa hi
end
end Go.Ab

end
section
namespace Go.Ab
open Go.Proofs
set_option maxRecDepth 10000
def Tryz.FFtwb166:=aj Z1<|aj Z2<|aj Z0<|aj Z3<|aj Z9<|aj Z14<|aj Z5<|Z88
def Tryz.FFtwb97:=aj Z1<|aj Z2<|aj Z0<|aj Z4<|aj Z21<|aj Z18<|Z22
def Tryz.FFtwb40:=aj Z1<|aj Z2<|aj Z0<|aj Z3<|aj Z5<|aj Z4<|aj Z21<|aj Z18<|aj Z22<|aj Z88<|Z87
theorem uT{h0:Hp}(ok:h0.t.Sized h0.n){g:FuncId}{post:Array Value}{D W:Nat->Prop}{xs:List Int}(it:IterW zM g post.toList h0 D W (xs.map fun(x:Int)=>[.int .i64 x]))(hW: ∀b,W b->b<h0.n)(hn:xs.length<100000):
 Ret zM 166 [.slice none 0 0,.func (.func g) #[] post] h0 fun r h'=>Mo W h0 h'/\fj h' (r,1,ints xs)/\ ∀c,av r c->h0.n<=c:=by
 have S:=Si ok
 refine ab (n:=13) (rs:=[.tmp 4]) rfl Tryz.e166 rfl rfl rfl (lbt rfl) ?_
 simp only [BS,Nat.reduceLT]
 refine ag (cI (by exact bL)) S ?_;clear S;intro h b2 S n_b2
 simp only [BS,Nat.reduceLT,Nat.reduceEqDiff,if_false]
 replace S:=S.nilG (k:=1)
 have g0:=S.gr
 replace S:=S.monoM (M:=W)
 have fr0:=S.fr
 refine kA S (g:=g) (a:=#[]) (b:=post) (by simp [cB,aa,bn,ce]) rfl rfl ?_
 intro h2 db lb S' hdb hlb g2
 obtain⟨X,hX,S'⟩: ∃X:fF,X=_/\St W h0 h2 [(lb,.loop X),(db,.dfr),(b2,.row [.slice none 0 0] 1)] [(.slice none 0 0,1,[])]:=⟨_,rfl,S'⟩
 have nW: ∀c,h0.n<=c-> ¬W c:=fun c h hw=>by have:=hW c hw;omega
 have hJ:Yld zM lb (fun k h' F=> ∃(vR:Value),St W h0 h' [(lb,.loop X),(db,.dfr),(b2,.row [vR] 1)] [(vR,1,ints (xs.take k))]/\k<=xs.length/\(∀c∈F,h0.n<=c)/\F=keys [(lb,.loop X),(db,.dfr),(b2,.row [vR] 1)] [(vR,1,ints (xs.take k))]) (fun _ _=>False) (xs.map fun(x:Int)=>[.int .i64 x]):=by
  refine⟨?_,?_,fun _ _ h=>h.elim,?_⟩
  . rintro i h F ⟨vR,S,_,_,rfl⟩;exact⟨S.ok,fun b hb=>S.key_lt hb⟩
  . rintro i h F h' ⟨vR,S,a,b,rfl⟩ gg;exact⟨vR,S.call gg,a,b,rfl⟩
  . rintro i x hR F hx ⟨vR,S,a,b,rfl⟩
    have hil:i<xs.length:=by
     have:=(List.getElem?_eq_some_iff.1 hx).1
     simpa using this
    rw [zY,zO hil]at hx
    cases hx
    have tk:ints (xs.take (i+1))=ints (xs.take i)++[.int .i64 xs[i]]:=by rw [List.take_add_one,zO hil];exact nD _ _
    have tl:(xs.take i).length<=i:=by rw [Xb];omega
    subst hX
    refine kB (S.get m0) (by rw [Tryz.e166];rfl) rfl ?_
    have S0:=S
    replace S:=S.base
    simp only [BS,LB,Nat.reduceLT,Nat.reduceEqDiff]
    refine jG S (i:=0) rfl rfl rfl rfl rfl ?_
    clear S;intro h S
    simp only [LC]at S
    simp only [BS,LB,Nat.reduceLT,Nat.reduceEqDiff,Tryz.FFtwb166,S.ld (b:=b2) (o:=0) m2 rfl]
    refine ag (cm (by exact Tryz.u24) (by exact Tryz.e2E) (by decide) (by rfl)) S ?_;clear S;intro h bs S n_bs;simp only [LC,aY,bM,an,Nat.reduceMul,Nat.reduceAdd,XG,XH,Xj,XI]at S
    simp only [BS,LB,Nat.reduceLT,Nat.reduceEqDiff]
    have src:aO h 1 (.slice (some ⟨bs,0,none⟩) 1 1)=some (1,[.int .i64 xs[i]]):=by simp only [aO];rw [S.lds (b:=bs) (o:=0) (n:=1*1) m0 (lbt rfl)];rfl
    replace S:=S.drop1
    refine fL (S.grow (j:=0) (m:=1) (new:=[.int .i64 xs[i]]) rfl Tryz.u24 Tryz.e2E (by decide) Tryz.n24 src rfl (by decide) rfl (by rw [cN];simp;omega)) ?_
    clear S src;rintro h vR' S
    simp only [LC]at S
    have fv:Fl vR':=(S.gown _ m0).1.fl
    simp only [BS,LB,Nat.reduceLT,Nat.reduceEqDiff]
    refine aC (aI S (i:=2) rfl Tryz.s24 fv (zU (lbt rfl)) ono) ?_
    clear S;rintro h ⟨S,_⟩
    simp only [LC]at S
    simp only [BS]
    refine gK S (i:=0) rfl ?_
    clear S;intro h S
    simp only [LC]at S
    rw [<-tk]at S
    have fin:=S0.rebase S
    refine .inl ⟨rfl,_,⟨vR',fin,by omega,fun c hc=>?_,rfl⟩,S.fr,fun c hc=>(S.key_own hc).symm⟩
    rcases S.key_own hc with h1|h1
    . have:=S0.fr.n;omega
    . exact b c h1
 have hF0: ∀c∈keys [(lb,Ob.loop X),(db,.dfr),(b2,.row [.slice none 0 0] 1)] [(.slice none 0 0,1,[])],h0.n<=c:=fun c hc=>by
  have n2:=n_b2
  have:=fr0.n
  simp [keys,dN]at hc
  omega
 refine eY (it lb _ _ (fun _ _ h=>h) hJ ?_ h2 _ ?_ ?_ (fun c hc=>nW c (hF0 c hc)) ⟨_,S',zT _,hF0,rfl⟩) fun o rc h' y=>oq y ?_
 . rintro i h F h' ⟨vR,S,a,b,rfl⟩ gg
   exact⟨vR,S.step gg (fun c hc=>.inl hc) (fun c hc hw=>nW c (b c hc) hw),a,b,rfl⟩
 . have gg:Mo W h0 h2:=S'.fr
   exact⟨S'.ok,S'.fr.n,fun b hb _=>(g0.trans g2).get b hb,fun b hb h=>by have:=hF0 b hb;omega,fun b hb=>S'.key_lt hb⟩
 . exact fun b hb=>(g0.trans g2).get b (hW b hb)
 . rintro F ⟨vR,T,a,b,rfl⟩
   rw [List.length_map,List.take_length]at T b
   subst hX
   refine⟨_,T.get m0,Nat.zero_ne_one,?_⟩
   replace T:=T.dead
   have S:=T
   show Run _ _ _ _ _ _ _ _
   simp only [BS,LB,Nat.reduceLT,Nat.reduceEqDiff,Tryz.FFtwb166,S.ld (b:=b2) (o:=0) m1 rfl]
   refine ff (kw [db] _ (L:=[(b2,_)]) T.base fun h3 S3=>⟨rfl,_,rfl,?_⟩)
   refine⟨(T.fr.trans S3.fr (fun c hc=>(T.key_own hc).symm):Mo W h0 h3),(S3.gown _ m0).1,fun x hx=>?_⟩
   refine b x ?_
   have:dN (vR,1,ints xs)=some x:=pP (T.gown _ m0).1 hx
   exact eC m0 this
theorem yy{h0:Hp}(ok:h0.t.Sized h0.n){g:FuncId}{post:Array Value}{D W:Nat->Prop}{xs:List Int}(it:IterW zM g post.toList h0 D W (xs.map fun(x:Int)=>[.int .i64 x]))(hW: ∀b,W b->b<h0.n)(hn:xs.length<100000):
 Ret zM 95 [.func (.func g) #[] post] h0 fun r h'=>Mo W h0 h'/\fj h' (r,1,ints xs)/\ ∀c,av r c->h0.n<=c:=by
 have S:=Si ok
 refine ab (n:=5) (rs:=[.tmp 2]) rfl Tryz.e95 rfl rfl rfl (lbt rfl) ?_
 simp only [BS,LB,Nat.reduceLT,Nat.reduceEqDiff]
 refine step_ret (uT S.ok it hW hn) ?_
 rintro r h ⟨f,q⟩
 simp only [BS,LB,ac,Nat.reduceLT,Nat.reduceEqDiff]
 exact⟨f,q⟩
theorem xJ{h0:Hp}(ok:h0.t.Sized h0.n){v t:Int}:bK zM 98 [.int .i64 v,.int .i64 t] h0 (.int .i64 (lL v t)):=by
 have S:=Si ok
 have b1:=wy_bd v
 have b2:=wy_bd t
 have w:aq .i64 (wy v-wy t)=wy v-wy t:=by rw [wrap64]<;>omega
 refine ab (n:=18) (rs:=[.tmp 4]) rfl Tryz.e98 rfl rfl rfl (lbt rfl) ?_
 simp only [BS,LB,Nat.reduceLT,Nat.reduceEqDiff]
 refine au (oo S.ok) ?_;intro h g;replace S:=S.call g;clear g
 unfold lL
 by_cases h1:wy v<72057594037927936
 . simp only [BS,LB,Nat.reduceLT,Nat.reduceEqDiff,h1]
   refine au (oo S.ok) ?_;intro h g;replace S:=S.call g;clear g
   by_cases h2:wy t<72057594037927936
   . simp only [BS,LB,Nat.reduceLT,Nat.reduceEqDiff,h2]
     refine au (oY S.ok) ?_;intro h g;replace S:=S.call g;clear g
     simp only [BS,LB,Nat.reduceLT,Nat.reduceEqDiff]
     refine au (oY S.ok) ?_;intro h g;replace S:=S.call g;clear g
     simp only [BS,LB,ac,Nat.reduceLT,Nat.reduceEqDiff,w]
     exact S.gr
   . simp only [BS,LB,ac,Nat.reduceLT,Nat.reduceEqDiff,h2]
     exact S.gr
 . simp only [BS,LB,ac,Nat.reduceLT,Nat.reduceEqDiff,h1]
   exact S.gr
theorem twin1_ok{hq:Hp}{m N:Nat}{p:Value}{l:List Int}{R Q:Nat->List Int}(okq:hq.t.Sized hq.n)(t:TabAt hq m p N l R Q)(hR: ∀i,i<l.length->(R i).length=N)(hQ: ∀i,i<l.length->(Q i).length=N)(hl:l.length<1000){va:Value}{act:List Int}(ha:aA hq 1 (encI .i64) va act)(hal:act.length<1000){s w:Int}{b4 b5 b6 b7:Nat}(l4:hq.load b4 0 1=some [p])(l5:hq.load b5 0 1=some [va])(l6:hq.load b6 0 1=some [.int .i64 s])(l7:hq.load b7 0 1=some [.int .i64 w]):
 TellF zM hq 97 [ptrTo b4,ptrTo b5,ptrTo b7,ptrTo b6] N (fun v=>lL (cQ N l.length R Q v w act) (cQ N l.length R Q s v act)):=by
 intro h ok k v hv
 have fp:Fl p:=by obtain⟨b,_,_,_,rfl,_⟩:=t.ex;exact dX
 have fa:=ha.fl
 have S:=Si ok
 have k4:=k.load okq l4
 have k5:=k.load okq l5
 have k6:=k.load okq l6
 have k7:=k.load okq l7
 have z4:=bI ok k4
 have z5:=bI ok k5
 have z6:=bI ok k6
 have z7:=bI ok k7
 refine ab (n:=18) (rs:=[.tmp 6]) rfl Tryz.e97 rfl rfl rfl (lbt rfl) ?_
 simp only [BS,LB]
 refine aD (aM rfl) (q:=0) (ps:=[(4,7),(4,6),(4,5)]) (by kernel_rfl) ?_
 simp only [BS,LB,cls,Nat.reduceLT,Nat.reduceEqDiff,Nat.reduceAdd,Nat.reducePow,Nat.reduceDiv,Nat.reduceMod,Nat.reduceLeDiff,Tryz.FFtwb97,k4,k5,k7]
 refine df (w7 S.ok (t.keep okq k) hR hQ hl (ha.keep okq k) hal) ?_
 intro h1 g1
 have e4:=aw g1 z4
 have e5:=aw g1 z5
 have e6:=aw g1 z6
 have e7:=aw g1 z7
 replace S:=S.call g1
 have n1:=g1.n
 simp only [BS,LB,cls,Nat.reduceLT,Nat.reduceEqDiff,Nat.reduceAdd,Nat.reducePow,Nat.reduceDiv,Nat.reduceMod,Nat.reduceLeDiff,Tryz.FFtwb97,g1.load k4,g1.load k5,g1.load k6]
 refine df (w7 S.ok ((t.keep okq k).gr g1) hR hQ hl ((ha.keep okq k).gr g1) hal) ?_
 intro h2 g2
 have f4:=aw g2 (show b4<_ by omega)
 have f5:=aw g2 (show b5<_ by omega)
 have f6:=aw g2 (show b6<_ by omega)
 have f7:=aw g2 (show b7<_ by omega)
 replace S:=S.call g2
 simp only [BS,LB,cls,Nat.reduceLT,Nat.reduceEqDiff,Nat.reduceAdd,Nat.reducePow,Nat.reduceDiv,Nat.reduceMod,Nat.reduceLeDiff]
 refine df (xJ S.ok) ?_
 intro h3 g3
 replace S:=S.call g3
 simp only [BS,LB,cls,ac,Nat.reduceLT,Nat.reduceEqDiff,Nat.reduceAdd,Nat.reducePow,Nat.reduceDiv,Nat.reduceMod,Nat.reduceLeDiff]
 refine⟨by simp only [bH,bO,bg,bV,bD,ne_eq,not_false_eq_true,bU,cu,bJ,bF,cB,dt,aS,Nat.reduceLT,Nat.reduceEqDiff,reduceIte,zP,ae,bn,ce,aB e4,aG e4,aB e5,aG e5,aB e6,aG e6,aB e7,aG e7,aB f4,aG f4,aB f5,aG f5,aB f6,aG f6,aB f7,aG f7],?_⟩
 exact S.gr
theorem bTwin_ok{h0:Hp}(ok:h0.t.Sized h0.n){m N:Nat}{p:Value}{l:List Int}{R Q:Nat->List Int}(t:TabAt h0 m p N l R Q)(hR: ∀i,i<l.length->(R i).length=N)(hQ: ∀i,i<l.length->(Q i).length=N)(hl:l.length<1000)(hN:N<=1000){va:Value}{act:List Int}(ha:aA h0 1 (encI .i64) va act)(hal:act.length<1000){s w:Nat}(hs:s<N)(hw:w<N):
 Ret zM 40 [p,va,.int .i64 (s:Nat),.int .i64 (w:Nat)] h0 fun r h'=>Gr h0 h'/\aA h' 1 (encI .i64) r ((zW N).map fun(v:Nat)=>lL (cQ N l.length R Q v w act) (cQ N l.length R Q s v act))/\ ∀c,av r c->h0.n<=c:=by
 have fp:Fl p:=by obtain⟨b,_,_,_,rfl,_⟩:=t.ex;exact dX
 have fa:=ha.fl
 have S:=Si ok
 have c0:0<=(w:Int)/\(w:Int)<(N:Int):=by omega
 have c1:0<=(s:Int)/\(s:Int)<(N:Int):=by omega
 have dc:decide (0<=(w:Int)/\(w:Int)<(N:Int))=true:=decide_eq_true c0
 have ds:decide (0<=(s:Int)/\(s:Int)<(N:Int))=true:=decide_eq_true c1
 refine ab (n:=23) (rs:=[.tmp 8]) rfl Tryz.e40 rfl rfl rfl (lbt rfl) ?_
 simp only [BS,Nat.reduceLT]
 refine ag (cI (by assumption)) S ?_;clear S;intro h b4 S n_b4
 simp only [BS,Nat.reduceLT,Nat.reduceEqDiff,if_false]
 refine ag (cI (by assumption)) S ?_;clear S;intro h b5 S n_b5
 simp only [BS,Nat.reduceLT,Nat.reduceEqDiff,if_false]
 refine ag (cI (by exact bG)) S ?_;clear S;intro h b6 S n_b6
 simp only [BS,Nat.reduceLT,Nat.reduceEqDiff,if_false]
 refine ag (cI (by exact bG)) S ?_;clear S;intro h b7 S n_b7
 have gq:=S.gr
 have l4:=S.ld (b:=b4) (o:=0) m3 rfl
 have l5:=S.ld (b:=b5) (o:=0) m2 rfl
 have l6:=S.ld (b:=b6) (o:=0) m1 rfl
 have l7:=S.ld (b:=b7) (o:=0) m0 rfl
 have okq:=S.ok
 clear S
 rename Hp=>hq
 have S:=Si okq
 have tf:=twin1_ok okq (t.gr gq) hR hQ hl (ha.gr gq) hal l4 l5 l6 l7
 simp only [BS,LB,Nat.reduceLT,Nat.reduceEqDiff,Tryz.FFtwb40,l4,l6]
 refine au (gL S.ok (t.gr gq)) ?_
 intro h g;replace S:=S.call g;clear g
 simp only [BS,LB,Nat.reduceLT,Nat.reduceEqDiff,Tryz.FFtwb40,ds,S.old l4 (fun h=>h),S.old l7 (fun h=>h)]
 refine au (gL S.ok ((t.gr gq).gr S.gr)) ?_
 intro h g;replace S:=S.call g;clear g
 simp only [BS,LB,Nat.reduceLT,Nat.reduceEqDiff,Tryz.FFtwb40,dc,S.old l4 (fun h=>h)]
 refine step_ret (bEach_ok S.ok fp iq) ?_
 rintro r h ⟨g,b1,b2,rfl,n1,n2,y1,y2⟩
 replace S:=S.call g;clear g
 have it:=bEach_it okq S.ok S.gr.keep S.fr.n (t.gr gq) hN tf y1 y2
 have kn:=S.fr.n
 have kG:=gq.n
 rename Hp=>hE
 simp only [BS,LB,Nat.reduceLT,Nat.reduceEqDiff]
 generalize hxs:((zW N).map fun(v:Nat)=>lL (cQ N l.length R Q v w act) (cQ N l.length R Q s v act))=xs
 have hlx:xs.length=N:=by rw [<-hxs];simp
 replace it:qG zM 167 [] [ptrTo b1,ptrTo b2] hE (fun c=>c=b1\/c=b2\/c<hq.n) (xs.map fun x=>[.int .i64 x]):=by rw [<-hxs,List.map_map];exact it
 refine step_ret (yy S.ok (post:=#[ptrTo b1,ptrTo b2]) (iter_w it) (fun _ h=>h.elim) (by omega)) ?_
 rintro r h2 ⟨f,G,nr⟩
 have g2:=f.gr
 simp only [BS,LB,ac,Nat.reduceLT,Nat.reduceEqDiff]
 exact⟨gq.trans (S.gr.trans g2),G.sl rfl (fun _=>rfl) (by decide),fun c hc=>by have:=nr c hc;omega⟩
end Go.Ab
end
section
namespace Go.Ab
open Go.Proofs
set_option maxRecDepth 10000
def Tryz.FFtwn41:=aj Z1<|aj Z3<|aj Z36<|aj Z15<|Z89
def Tryz.FFtwn73:=aj Z1<|aj Z0<|aj Z3<|aj Z6<|aj Z10<|aj Z12<|Z11
def Tryz.FFtwn74:=aj Z3<|aj Z6<|aj Z10<|aj Z15<|aj Z12<|Z11
def Tryz.FFtwn75:=aj Z1<|aj Z0<|aj Z3<|aj Z64<|aj Z15<|Z49
def Tryz.FFtwn76:=aj Z2<|aj Z0<|aj Z3<|aj Z64<|aj Z15<|Z49
def Tryz.FFtwn77:=aj Z0<|aj Z3<|aj Z6<|aj Z10<|aj Z4<|aj Z15<|aj Z21<|aj Z18<|aj Z22<|aj Z12<|Z11
open Tryz in
def Tryz.FFtwn36:=aj Z1<|aj Z2<|aj Z0<|aj Z3<|aj Z7<|aj Z9<|aj Z64<|aj Z6<|aj Z10<|aj Z4<|aj Z21<|aj Z18<|aj Z22<|aj Z12<|aj Z11<|aj Z49<|aj u158<|aj a158<|aj s158<|aj z158<|n158
def Tryz.FFtwn35:=aj Z1<|aj Z2<|aj Z0<|aj Z3<|aj Z7<|aj Z36<|aj Z4<|aj Z15<|aj Z79<|Z89
def Tryz.FFtwn38:=aj Z1<|aj Z2<|aj Z0<|aj Z3<|aj Z4<|aj Z15<|aj Z25<|aj Z31<|Z34
theorem lG{h0:Hp}(ok:h0.t.Sized h0.n){c:Int}:Ret zM 41 [.bool true,.int .i64 c] h0 fun _ h'=>Gr h0 h':=by
 have S:=Si ok
 refine ab (n:=9) (rs:=[]) rfl Tryz.e41 rfl rfl rfl (lbt rfl) ?_
 simp only [BS,LB,Nat.reduceLT,Nat.reduceEqDiff]
 exact S.gr
def trouV(c:Int):Value:=.iface 98 (.agg ⟨[.int .i64 c]⟩)
theorem need_no{h0:Hp}(ok:h0.t.Sized h0.n){c:Int}:dS zM 41 [.bool false,.int .i64 c] none h0 fun o rc h'=>o=.pan (trouV c)/\Gr h0 h':=by
 have S:=Si ok
 refine enter (n:=9) (rs:=[]) rfl Tryz.e41 rfl rfl rfl (lbt rfl) ?_
 simp only [BS,LB,Nat.reduceLT,Nat.reduceEqDiff,Tryz.FFtwn41]
 exact hZ (cS ⟨rfl,S.gr⟩)
section
variable{h0:Hp}{bp nb s w:Nat}{γ:Gra}
theorem uN(ok:h0.t.Sized h0.n)(c:bN h0 nb (ptrTo bp) γ){b3:Nat}(l:h0.load b3 0 1=some [ptrTo bp]){v:Nat}(hv:v<γ.nodes):bK zM 73 [.int .i64 (v:Nat),ptrTo b3] h0 (.bool true):=by
 have S:=Si ok
 have c1:(0:Int)<=(v:Int):=by omega
 refine ab (n:=12) (rs:=[.tmp 3]) rfl Tryz.e73 rfl rfl rfl (lbt rfl) ?_
 simp only [BS,LB,Nat.reduceLT,Nat.reduceEqDiff,Tryz.FFtwn73,l,c1]
 refine au (dP S.ok (c.gr S.gr)) ?_;intro h g;replace S:=S.call g;clear g
 simp only [BS,LB,ac,Nat.reduceLT,Nat.reduceEqDiff,aP,hv]
 exact S.gr
theorem asked2_ok(ok:h0.t.Sized h0.n){b3:Nat}(l:h0.load b3 0 1=some [ptrTo bp]):Ret zM 74 [ptrTo b3] h0 fun _ h'=>Gr h0 h':=by
 have S:=Si ok
 refine ab (n:=4) (rs:=[]) rfl Tryz.e74 rfl rfl rfl (lbt rfl) ?_
 simp only [BS,LB,Nat.reduceLT,Nat.reduceEqDiff,Tryz.FFtwn74,l]
 refine step_ret (lG S.ok) ?_
 intro r h g;replace S:=S.call g;clear g
 simp only [BS]
 exact S.gr
theorem asked3_ok(ok:h0.t.Sized h0.n)(c:bN h0 nb (ptrTo bp) γ){b3 b5 b6:Nat}(l3:h0.load b3 0 1=some [ptrTo bp])(l6:h0.load b6 0 1=some [.func (.func 73) #[] #[ptrTo b3]])(l5:h0.load b5 1 1=some [.int .i64 (s:Nat)])(hs:s<γ.nodes):Ret zM 75 [ptrTo b6,ptrTo b5] h0 fun _ h'=>Gr h0 h':=by
 have S:=Si ok
 refine ab (n:=7) (rs:=[]) rfl Tryz.e75 rfl rfl rfl (lbt rfl) ?_
 simp only [BS,LB,Nat.reduceLT,Nat.reduceEqDiff,Tryz.FFtwn75,l6,l5]
 refine au (uN S.ok c l3 hs) ?_
 intro h g;replace S:=S.call g;clear g
 simp only [BS,LB,Nat.reduceLT,Nat.reduceEqDiff]
 refine step_ret (lG S.ok) ?_
 intro r h g;replace S:=S.call g;clear g
 simp only [BS]
 exact S.gr
theorem asked4_ok(ok:h0.t.Sized h0.n)(c:bN h0 nb (ptrTo bp) γ){b3 b5 b6:Nat}(l3:h0.load b3 0 1=some [ptrTo bp])(l6:h0.load b6 0 1=some [.func (.func 73) #[] #[ptrTo b3]])(l5:h0.load b5 2 1=some [.int .i64 (w:Nat)])(hw:w<γ.nodes):Ret zM 76 [ptrTo b6,ptrTo b5] h0 fun _ h'=>Gr h0 h':=by
 have S:=Si ok
 refine ab (n:=7) (rs:=[]) rfl Tryz.e76 rfl rfl rfl (lbt rfl) ?_
 simp only [BS,LB,Nat.reduceLT,Nat.reduceEqDiff,Tryz.FFtwn76,l6,l5]
 refine au (uN S.ok c l3 hw) ?_
 intro h g;replace S:=S.call g;clear g
 simp only [BS,LB,Nat.reduceLT,Nat.reduceEqDiff]
 refine step_ret (lG S.ok) ?_
 intro r h g;replace S:=S.call g;clear g
 simp only [BS]
 exact S.gr
theorem asked5_ok(ok:h0.t.Sized h0.n)(c:bN h0 nb (ptrTo bp) γ){m:Nat}{pt:Value}{l:List Int}{R Q:Nat->List Int}(t:TabAt h0 m pt γ.nodes l R Q)(hl:l.length<=16)(h1:1<=l.length){b3 b4:Nat}(l3:h0.load b3 0 1=some [ptrTo bp])(l4:h0.load b4 0 1=some [pt]):Ret zM 77 [ptrTo b4,ptrTo b3] h0 fun _ h'=>Gr h0 h':=by
 have S:=Si ok
 have ft:Fl pt:=by obtain⟨b,_,_,_,rfl,_⟩:=t.ex;exact dX
 have z3:=bI ok l3
 have z4:=bI ok l4
 have c1:(0:Int)<(l.length:Int):=by omega
 refine ab (n:=14) (rs:=[]) rfl Tryz.e77 rfl rfl rfl (lbt rfl) ?_
 simp only [BS]
 refine aD (aM rfl) (q:=0) (ps:=[(6,7)]) (by kernel_rfl) ?_
 simp only [BS,LB,cls,Nat.reduceLT,Nat.reduceEqDiff,Nat.reducePow,Nat.reduceDiv,Nat.reduceMod,Nat.reduceLeDiff,Tryz.FFtwn77,l4]
 refine dp (lW S.ok (t.gr S.gr) (by omega)) ?_
 rintro r h1 ⟨g1,sl,_⟩
 replace S:=S.call g1
 have v4:=aw g1 z4
 have v3:=aw g1 z3
 simp only [BS,LB,cls,Nat.reduceLT,Nat.reduceEqDiff,Nat.reduceAdd,Nat.reducePow,Nat.reduceDiv,Nat.reduceMod,Nat.reduceLeDiff,Tryz.FFtwn77,sl.lenq,c1,g1.load l4]
 refine df (oD S.ok (t.gr S.gr)) ?_
 intro h2 g2
 have n1:=g1.n
 have n2:=g2.n
 have k4:=aw g2 (show b4<_ by omega)
 have k3:=aw g2 (show b3<_ by omega)
 replace S:=S.call g2
 simp only [BS,LB,cls,Nat.reduceLT,Nat.reduceEqDiff,Nat.reduceAdd,Nat.reducePow,Nat.reduceDiv,Nat.reduceMod,Nat.reduceLeDiff,Tryz.FFtwn77,g2.load (g1.load l3)]
 refine df (dP S.ok (c.gr S.gr)) ?_
 intro h3 g3
 have q4:=aw g3 (show b4<_ by omega)
 have q3:=aw g3 (show b3<_ by omega)
 have n3:=g3.n
 replace S:=S.call g3
 simp only [BS,LB,cls,Nat.reduceLT,Nat.reduceEqDiff,Nat.reduceAdd,Nat.reducePow,Nat.reduceDiv,Nat.reduceMod,Nat.reduceLeDiff]
 refine dp (lG S.ok) ?_
 intro r h4 g4
 have w4:=aw g4 (show b4<_ by omega)
 have w3:=aw g4 (show b3<_ by omega)
 replace S:=S.call g4
 simp only [BS,Nat.reduceAdd]
 refine⟨by simp only [bH,bO,bg,bV,bD,ne_eq,not_false_eq_true,bU,cu,bJ,bF,cB,dt,aS,Nat.reduceLT,Nat.reduceEqDiff,reduceIte,zP,ae,cD,aB v3,aG v3,aB v4,aG v4,aB k3,aG k3,aB k4,aG k4,aB q3,aG q3,aB q4,aG q4,aB w3,aG w3,aB w4,aG w4],?_⟩
 exact S.gr
theorem build_ask{g1 g2 g3 g4:FuncId}{a1 a2 a3 a4:Array Value}:jP zM 158 [(0,.func (.func g1) #[] a1),(1,.func (.func g2) #[] a2),(2,.func (.func g3) #[] a3),(3,.func (.func g4) #[] a4)]=some (.agg ⟨[.func (.func g1) #[] a1,.func (.func g2) #[] a2,.func (.func g3) #[] a3,.func (.func g4) #[] a4]⟩):=by
 unfold jP
 rw [Tryz.z158,Tryz.u158]
 simp only [Tryz.s1]
 rfl
theorem om{g1 g2 g3 g4:FuncId}{a1 a2 a3 a4:Array Value}:iS zM 158 (.agg ⟨[.func (.func g1) #[] a1,.func (.func g2) #[] a2,.func (.func g3) #[] a3,.func (.func g4) #[] a4]⟩) (.int .i64 0)=some (.func (.func g1) #[] a1)/\
 iS zM 158 (.agg ⟨[.func (.func g1) #[] a1,.func (.func g2) #[] a2,.func (.func g3) #[] a3,.func (.func g4) #[] a4]⟩) (.int .i64 1)=some (.func (.func g2) #[] a2)/\
 iS zM 158 (.agg ⟨[.func (.func g1) #[] a1,.func (.func g2) #[] a2,.func (.func g3) #[] a3,.func (.func g4) #[] a4]⟩) (.int .i64 2)=some (.func (.func g3) #[] a3)/\
 iS zM 158 (.agg ⟨[.func (.func g1) #[] a1,.func (.func g2) #[] a2,.func (.func g3) #[] a3,.func (.func g4) #[] a4]⟩) (.int .i64 3)=some (.func (.func g4) #[] a4):=by
 unfold iS
 rw [Tryz.u158]
 simp only [Tryz.s1]
 refine⟨?_,?_,?_,?_⟩<;>rfl
theorem asked_ok(ok:h0.t.Sized h0.n)(c:bN h0 nb (ptrTo bp) γ){m:Nat}{pt q0:Value}{l:List Int}{R Q:Nat->List Int}(t:TabAt h0 m pt γ.nodes l R Q)(hl:l.length<=16)(h1:1<=l.length){a:Int}(fq:Fl q0)(hs:s<γ.nodes)(hw:w<γ.nodes):
 Ret zM 36 [ptrTo bp,pt,.agg ⟨[q0,.int .i64 (s:Nat),.int .i64 (w:Nat),.int .i64 a]⟩] h0 fun _ h'=>Gr h0 h':=by
 have ft:Fl pt:=by obtain⟨b,_,_,_,rfl,_⟩:=t.ex;exact dX
 have S:=Si ok
 refine ab (n:=21) (rs:=[]) rfl Tryz.e36 rfl rfl rfl (lbt rfl) ?_
 simp only [BS,Nat.reduceLT]
 refine ag (cI (by exact dX)) S ?_;clear S;intro h b3 S n_b3
 simp only [BS,Nat.reduceLT,Nat.reduceEqDiff,if_false]
 refine ag (cI (by assumption)) S ?_;clear S;intro h b4 S n_b4
 simp only [BS,Nat.reduceLT,Nat.reduceEqDiff,if_false]
 refine ag (aZ (by intro x e;cases e)) S ?_;clear S;intro h b5 S n_b5;simp only [an]at S
 simp only [BS,LB,Nat.reduceLT,Nat.reduceEqDiff,Tryz.FFtwn36]
 refine ag aF S ?_;clear S;intro h b6 S n_b6
 simp only [BS,LB,Nat.reduceLT,Nat.reduceEqDiff]
 refine aC (aI S (i:=0) rfl ?_ ?_ ?_ ono) ?_
 . exact(by simp only [Tryz.FFtwn36])
 . exact(by exact iq)
 . exact zU (lbt rfl)
 clear S;rintro h ⟨S,mo⟩;clear mo;simp only [LC,an,lay,zR,zQ,Nat.reduceAdd]at S
 have l3:=S.ld (b:=b3) (o:=0) m3 rfl
 have l4:=S.ld (b:=b4) (o:=0) m2 rfl
 have l51:=S.ld (b:=b5) (o:=1) m1 rfl
 have l52:=S.ld (b:=b5) (o:=2) m1 rfl
 have l6:=S.ld (b:=b6) (o:=0) m0 rfl
 have w1:aq .i64 1=1:=rfl
 have w2:aq .i64 2=2:=rfl
 have w3:aq .i64 3=3:=rfl
 have w4:aq .i64 4=4:=rfl
 simp only [BS,LB,Nat.reduceLT,Nat.reduceEqDiff,build_ask]
 rw [bC]
 simp only [BS,LB,Nat.reduceLT,Nat.reduceEqDiff,Int.reduceLT,om]
 refine step_ret (asked2_ok S.ok l3) ?_
 intro r h g;replace S:=S.call g
 replace l3:=g.load l3;replace l4:=g.load l4;replace l51:=g.load l51;replace l52:=g.load l52;replace l6:=g.load l6;clear g
 simp only [BS,LB,Nat.reduceLT,Nat.reduceEqDiff,Int.reduceAdd,w1]
 rw [bC]
 simp only [BS,LB,Nat.reduceLT,Nat.reduceEqDiff,Int.reduceLT,om]
 refine step_ret (asked3_ok S.ok (c.gr S.gr) l3 l6 l51 hs) ?_
 intro r h g;replace S:=S.call g
 replace l3:=g.load l3;replace l4:=g.load l4;replace l51:=g.load l51;replace l52:=g.load l52;replace l6:=g.load l6;clear g
 simp only [BS,LB,Nat.reduceLT,Nat.reduceEqDiff,Int.reduceAdd,w2]
 rw [bC]
 simp only [BS,LB,Nat.reduceLT,Nat.reduceEqDiff,Int.reduceLT,om]
 refine step_ret (asked4_ok S.ok (c.gr S.gr) l3 l6 l52 hw) ?_
 intro r h g;replace S:=S.call g
 replace l3:=g.load l3;replace l4:=g.load l4;replace l51:=g.load l51;replace l52:=g.load l52;replace l6:=g.load l6;clear g
 simp only [BS,LB,Nat.reduceLT,Nat.reduceEqDiff,Int.reduceAdd,w3]
 rw [bC]
 simp only [BS,LB,Nat.reduceLT,Nat.reduceEqDiff,Int.reduceLT,om]
 refine step_ret (asked5_ok S.ok (c.gr S.gr) (t.gr S.gr) hl h1 l3 l4) ?_
 intro r h g;replace S:=S.call g;clear g
 simp only [BS,LB,Nat.reduceLT,Nat.reduceEqDiff,Int.reduceAdd,w4]
 rw [bC]
 simp only [BS,LB,Nat.reduceLT,Nat.reduceEqDiff,Int.reduceLT]
 exact S.gr
theorem wG(ok:h0.t.Sized h0.n){b:Nat}:dS zM 35 [ptrTo b] none h0 fun o rc h'=>(∃v,o=.ret v)/\rc=none/\Gr h0 h':=by
 have S:=Si ok
 refine enter (n:=18) (rs:=[]) rfl Tryz.e35 rfl rfl rfl (lbt rfl) ?_
 simp only [BS,LB,Nat.reduceLT,Nat.reduceEqDiff,Tryz.FFtwn35]
 exact dD (cS ⟨rfl,_,rfl,⟨_,rfl⟩,rfl,S.gr⟩)
theorem trun1_yes(ok:h0.t.Sized h0.n){b:Nat}{cells:List Value}(R:Row h0 b cells 1)(hl:cells.length=4){c:Int}:dS zM 35 [ptrTo b] (some (trouV c,false)) h0 fun o rc h'=>(∃v,o=.ret v)/\rc=some (trouV c,true)/\Mo (· =b) h0 h'/\Row h' b [.int .i64 c,.int .i64 0,.slice none 0 0,.slice none 0 0] 1:=by
 have S:=St.init1 ok (o:=.row cells 1) R
 refine enter (n:=18) (rs:=[]) rfl Tryz.e35 rfl rfl rfl (lbt rfl) ?_
 simp only [BS,LB,Nat.reduceLT,Nat.reduceEqDiff,Tryz.FFtwn35,trouV]
 refine ag aF S ?_;clear S;intro h b2 S n_b2
 simp only [BS,LB,Nat.reduceLT,Nat.reduceEqDiff]
 refine aC (S.store (i:=0) rfl ?_ ?_ rfl rfl ?_ ono) ?_
 . exact(by exact Tryz.s98)
 . exact(by intro x e;cases e)
 . exact lbt rfl
 clear S;rintro h ⟨S,mo⟩;clear mo;simp only [LC,an,lay,zR,zQ,Nat.reduceAdd]at S
 simp only [BS,LB,Nat.reduceLT,Nat.reduceEqDiff,Nat.reduceAdd,Tryz.FFtwn35,S.ld (b:=b2) (o:=0) m0 rfl]
 refine aC (S.store (i:=1) rfl Xn (by intro x e;cases e) rfl rfl (by rw [hl];exact zV _) ono) ?_
 clear S;rintro h3 ⟨S,mo⟩
 simp only [LC]at S
 have R3:=S.row (b:=b) m1
 have eL:lay cells 0 (an (.agg ⟨[.int .i64 c,.int .i64 0,.slice none 0 0,.slice none 0 0]⟩))=[.int .i64 c,.int .i64 0,.slice none 0 0,.slice none 0 0]:=by
  match cells,hl with
  | [_,_,_,_],_=>rfl
 rw [eL]at R3
 simp only [BS]
 exact dD (cS ⟨rfl,_,rfl,⟨_,rfl⟩,rfl,S.fr,R3⟩)
theorem got_ok(ok:h0.t.Sized h0.n){d:Int}{vA vE:Value}(fA:Fl vA)(fE:Fl vE):Ret zM 38 [.agg ⟨[.int .i64 d,vA,vE]⟩,.int .i64 0] h0 fun r h'=>Gr h0 h'/\r=.agg ⟨[.int .i64 d,vA,vE]⟩:=by
 have S:=Si ok
 refine ab (n:=10) (rs:=[.cell 4 103]) rfl Tryz.e38 rfl rfl rfl (lbt rfl) ?_
 simp only [BS,Nat.reduceLT]
 refine ag (aZ (by intro x e;cases e)) S ?_;clear S;intro h b2 S n_b2;simp only [an]at S
 simp only [BS,Tryz.FFtwn38]
 refine ag aF S ?_;clear S;intro h b4 S n_b4
 simp only [BS,LB,Nat.reduceLT,Nat.reduceEqDiff]
 refine step_ret (lG S.ok) ?_
 intro r h g;replace S:=S.call g;clear g
 simp only [BS,LB,Nat.reduceLT,Nat.reduceEqDiff,Tryz.FFtwn38,Xc,zZ,Xe,S.lds (b:=b2) (o:=0) (n:=3) m1 (lbt rfl)]
 refine aC (S.store (i:=0) rfl Xk (by intro x e;cases e) rfl (by simp only [an,Xd,Xf,fA.2.1,fE.2.1,zP];rfl) (lbt rfl) ono) ?_
 clear S;rintro h3 ⟨S,mo⟩
 simp only [LC,an,lay,zR,zQ,Nat.reduceAdd]at S
 simp only [BS,ac]
 refine(dk (by decide) (by simp only [aS,ae,Nat.reduceEqDiff,reduceIte];exact cw Tryz.a103 Xk (S.lds (b:=b4) (o:=0) (n:=3) m0 (lbt rfl)))).2 (dZ.2 ?_)
 exact⟨S.gr,rfl⟩
end
end Go.Ab

end
section
namespace Go.Ab
open Go.Proofs
set_option maxRecDepth 10000
def Tryz.FFtwr13:=aj Z1<|aj Z2<|aj Z0<|aj Z3<|aj Z7<|aj Z9<|aj Z14<|aj Z17<|aj Z19<|aj Z5<|aj Z64<|aj Z6<|aj Z10<|aj Z4<|aj Z15<|aj Z79<|aj Z25<|aj Z21<|aj Z33<|aj Z31<|aj Z34<|aj Z35<|aj Z18<|aj Z22<|aj Z12<|Z11
def twL(N:Nat)(l:List Int)(R Q:Nat->List Int)(act:List Int)(s w:Nat):List Int:=(zW N).map fun(v:Nat)=>lL (cQ N l.length R Q v w act) (cQ N l.length R Q s v act)
def natI(l:List Nat):List Int:=l.map fun(x:Nat)=>(x:Int)
theorem zJ{h0:Hp}(ok:h0.t.Sized h0.n){bp nb m:Nat}{γ:Gra}(hγ:Good γ)(hn:bN h0 nb (ptrTo bp) γ){pt q0:Value}{l:List Int}{R Q:Nat->List Int}(t:TabAt h0 m pt γ.nodes l R Q)(lR: ∀i,i<l.length->(R i).length=γ.nodes)(lQ: ∀i,i<l.length->(Q i).length=γ.nodes)(hl:l.length<=16)(h1:1<=l.length)(fq:Fl q0){s w:Nat}(hs:s<γ.nodes)(hw:w<γ.nodes){a:Int}:
 Ret zM 13 [ptrTo bp,pt,.agg ⟨[q0,.int .i64 (s:Nat),.int .i64 (w:Nat),.int .i64 a]⟩] h0 fun r h'=>Gr h0 h'/\ ∃c d vA vB vE,r=.tuple #[ansV c d vA vB,vE]/\(∀x,(av vA x\/av vB x\/av vE x)->h0.n<=x)/\
  ((s =w/\c=0/\d=0/\vA=.slice none 0 0/\vB=.slice none 0 0/\vE=.slice none 0 0)\/
   (s ≠w/\ ∃τ,jI γ.arcs (fun _=>true) (fun v=>(twL γ.nodes l R Q (natI (actL γ.nodes l.length R Q s w a)) s w).getD v 0) (ip (fun v=>(twL γ.nodes l R Q (natI (actL γ.nodes l.length R Q s w a)) s w).getD v 0) s w) τ/\
     aA h' 4 fd vE τ.ev/\
     ((FAR<=τ.dist/\c=20/\d=0/\vA=.slice none 0 0/\vB=.slice none 0 0)\/
      (τ.dist<FAR/\c=0/\d=(τ.dist:Nat)/\aA h' 1 cJ vA (arcsB τ)/\aA h' 1 cJ vB (actL γ.nodes l.length R Q s w a))))):=by
 have S:=Si ok
 have ft:Fl pt:=by obtain⟨b,_,_,_,rfl,_⟩:=t.ex;exact dX
 have far:=gO
 refine ab (n:=59) (rs:=[.cell 6 47,.tmp 7]) rfl Tryz.e13 rfl rfl rfl (lbt rfl) ?_
 simp only [BS,Nat.reduceLT]
 refine ag (aZ (by intro x e;cases e)) S ?_;clear S;intro h b5 S n_b5;simp only [an]at S
 simp only [BS,Tryz.FFtwr13]
 refine ag aF S ?_;clear S;intro h b6 S n_b6
 simp only [BS,LB,Nat.reduceLT,Nat.reduceEqDiff,Tryz.FFtwr13,Xc,zZ,Xe,S.lds (b:=b5) (o:=0) (n:=4) m1 (lbt rfl)]
 refine step_ret (asked_ok S.ok (hn.gr S.gr) (t.gr S.gr) hl h1 fq hs hw) ?_
 intro r h g;replace S:=S.call g;clear g
 by_cases hsw:s=w
 . subst hsw
   simp only [BS,LB,Nat.reduceLT,Nat.reduceEqDiff,Tryz.FFtwr13,Xc,zZ,Xe,S.ld (b:=b5) (o:=1) m1 rfl,S.ld (b:=b5) (o:=2) m1 rfl,S.lds (b:=b6) (o:=0) (n:=4) m0 (lbt rfl)]
   refine aC (S.store (i:=0) rfl Xn (by intro x e;cases e) rfl rfl (lbt rfl) ono) ?_
   clear S;rintro h3 ⟨S,mo⟩
   simp only [LC,an,lay,zR,zQ,Nat.reduceAdd]at S
   simp only [BS]
   refine ff (un_fn (eY (wG S.ok) fun o rc h' ⟨a,b,g⟩=>⟨a,b,cS ⟨rfl,?_⟩⟩))
   replace S:=S.call g
   refine(dk (by decide) (by simp only [aS,ae,Nat.reduceEqDiff,reduceIte];exact cw Tryz.a47 Xn (S.lds (b:=b6) (o:=0) (n:=4) m0 (lbt rfl)))).2 ?_
   refine(fu (by decide)).2 (dZ.2 ?_)
   exact⟨S.gr,_,_,_,_,_,rfl,fun x hx=>(by rcases hx with h|h|h<;>exact h.elim),.inl ⟨rfl,rfl,rfl,rfl,rfl⟩⟩
 . have hft: ¬((s:Int)=(w:Int)):=by omega
   simp only [BS,LB,Nat.reduceLT,Nat.reduceEqDiff,Tryz.FFtwr13,hft,S.ld (b:=b5) (o:=1) m1 rfl,S.ld (b:=b5) (o:=2) m1 rfl,S.ld (b:=b5) (o:=3) m1 rfl]
   have k6:=(S.row (b:=b6) m0).lt S.ok
   refine step_ret (yC S.ok (t.gr S.gr) lR lQ hl) ?_
   rintro vB h ⟨g,sB,nB⟩
   replace S:=S.call g;clear g
   have la:(actL γ.nodes l.length R Q s w a).length<=16:=by unfold actL;rw [Xb];omega
   have R5:=S.row (b:=b5) m1
   have R6:=S.row (b:=b6) m0
   have S0:=S
   have gV:=S.gr
   have kV:=gV.n
   have okV:=S.ok
   have l51:=R5.load1 (o:=1) rfl
   have l52:=R5.load1 (o:=2) rfl
   have p5:=R5.lt okV
   have f1:=hγ.n2
   simp only [BS,LB,Nat.reduceLT,Nat.reduceEqDiff]
   clear S
   have S:=Si okV
   rename Hp=>hV
   refine aD (nU (ord:=[17,0,1,2,3,4,5,6,7,8,9,10,11,12,13,14,15,16,18]) rfl rfl (by simp only [gk,reix,fZ,Xt,Xu,List.map_toArray,XA,XF,Nat.reduceBEq,cond_true,cond_false];exact rfl)) (q:=1) (ps:=[(0,17),(0,14),(5,12),(3,12),(0,12)]) (by kernel_rfl) ?_
   simp only [BS,LB,cls,Nat.reducePow,Nat.reduceDiv,Nat.reduceMod,Nat.reduceLeDiff,Tryz.FFtwr13]
   refine dC aF S ?_;clear S;intro h b9 S n_b9 e_b9
   have p9:=S.fr.n
   have gB:=S.gr
   have r9:=S.row (b:=b9) m0
   have q9:=r9.lt S.ok
   simp only [BS,LB,cls,Nat.reduceLT,Nat.reduceEqDiff,Nat.reduceAdd,Nat.reducePow,Nat.reduceDiv,Nat.reduceMod,Nat.reduceLeDiff,Tryz.FFtwr13,gB.load l51,gB.load l52]
   refine dp (bTwin_ok S.ok ((t.gr gV).gr gB) lR lQ (by omega) (by omega) (sl_nat (sB.gr gB)) (by rw [List.length_map];omega) hs hw) ?_
   rintro vP h ⟨g,sP,nP⟩
   have e1:leaves _ _ b5=true:=aw g (Xq p5 p9)
   have e2:leaves _ _ b9=true:=aw g q9
   have kq:=g.n
   replace S:=S.call g;clear g
   simp only [BS,LB,cls,Nat.reduceLT,Nat.reduceEqDiff,Nat.reduceAdd,Nat.reducePow,Nat.reduceDiv,Nat.reduceMod,Nat.reduceLeDiff,Tryz.FFtwr13,sP.fl]
   refine dp (zF S.ok hγ ((hn.gr gV).gr S.gr) sP (by simp) hs hw hsw) ?_
   rintro r h ⟨g,xA,xE,τ,rfl,he,sE,sA,nAE⟩
   have e3:leaves _ _ b5=true:=aw g (Xq p5 (zS p9 kq))
   have e4:leaves _ _ b9=true:=aw g (Xq q9 kq)
   have kr:=g.n
   have y1:Fl xA:=sA.fl
   have y2:Fl xE:=sE.fl
   replace S:=S.call g
   simp only [BS,LB,cls,Nat.reduceLT,Nat.reduceEqDiff,Nat.reduceAdd,Nat.reducePow,Nat.reduceDiv,Nat.reduceMod,Nat.reduceLeDiff]
   refine dp (got_ok S.ok y1 y2) ?_
   rintro r h ⟨g,rfl⟩
   have e5:leaves _ _ b5=true:=aw g (by omega)
   have e6:leaves _ _ b9=true:=aw g (by omega)
   have sE:=sE.gr g
   have sA:=sA.gr g
   replace S:=S.call g
   simp only [BS,LB,cls,Nat.reduceLT,Nat.reduceEqDiff,Nat.reduceAdd,Nat.reducePow,Nat.reduceDiv,Nat.reduceMod,Nat.reduceLeDiff]
   refine dK (S.store (i:=0) rfl Xk (by intro x e;cases e) rfl (by simp only [an,Xd,Xf,y1.2.1,y2.2.1,zP];rfl) (lbt rfl) ono) ?_
   have okG:=S.ok
   have b9x: ∀c,av xA c\/av xE c->c≠b9:=fun c hc e=>by
    have:=nAE c hc
    omega
   clear S;rintro h3 ⟨S,mo⟩
   simp only [LC,an,lay,zR,zQ,Nat.reduceAdd]at S
   simp only [BS,LB,Nat.reduceLT,Nat.reduceEqDiff,Nat.reduceAdd,Tryz.FFtwr13]
   refine⟨by simp only [bH,bO,bg,bV,bD,ne_eq,not_false_eq_true,bU,cu,bJ,bF,cB,dt,aS,Nat.reduceLT,Nat.reduceEqDiff,reduceIte,zP,ae,mR,aG e1,aB e1,aG e2,aB e2,aG e3,aB e3,aG e4,aB e4,aG e5,aB e5,aG e6,aB e6,<-e_b9],?_⟩
   have r9:=S.row (b:=b9) m0
   have j0:=r9.load1 (o:=0) rfl
   have j1:=r9.load1 (o:=1) rfl
   have j2:=r9.load1 (o:=2) rfl
   have n9:b6≠b9:=fun e=>by have:=(S0.row (b:=b6) m0).lt okV;omega
   have G1':aA h3 1 cJ xA _:=sA.mo mo (fun c hc e=>b9x c (.inl hc) e)
   have G2':aA h3 4 fd xE τ.ev:=sE.mo mo (fun c hc e=>b9x c (.inr hc) e)
   have sB':=sB.gr S.gr
   have k5:=(S0.row (b:=b6) m0).lt okV
   have S1:=S0.call S.gr
   clear S
   have S:=S1
   clear S1
   simp only [BS,LB,Nat.reduceLT,Nat.reduceEqDiff,Tryz.FFtwr13,j0,j2]
   by_cases hd:τ.dist<FAR
   . have hd':(τ.dist:Int)<72057594037927936:=by omega
     simp only [decide_true,hd']
     refine step_ret (lG S.ok) ?_
     intro r h4 g4
     replace S:=S.call g4
     simp only [BS,LB,Nat.reduceLT,Nat.reduceEqDiff,Nat.reduceAdd,Tryz.FFtwr13,y1,sB.fl,g4.load j0,g4.load j1]
     refine aC (S.store (i:=0) rfl Xn (by intro x e;cases e) rfl (by simp only [an,Xd,Xf,y1.2.1,sB.fl.2.1,zP];rfl) (lbt rfl) ono) ?_
     clear S;rintro h5 ⟨S,mo5⟩
     simp only [LC,an,lay,zR,zQ,Nat.reduceAdd]at S
     simp only [BS,LB,Nat.reduceLT,Nat.reduceEqDiff]
     refine ff (un_fn (eY (wG S.ok) fun o rc h' ⟨a,b,g⟩=>⟨a,b,cS ⟨rfl,?_⟩⟩))
     replace S:=S.call g
     refine(dk (by decide) (by simp only [aS,ae,Nat.reduceEqDiff,reduceIte];exact cw Tryz.a47 Xn (S.lds (b:=b6) (o:=0) (n:=4) m0 (lbt rfl)))).2 ?_
     refine(fu (by decide)).2 (dZ.2 ?_)
     rw [if_pos hd]at G1'
     have zE:=((G2'.gr g4).mo mo5 (fun c hc e=>by have:=nAE c (.inr hc);omega)).gr g
     have zA:=((G1'.gr g4).mo mo5 (fun c hc e=>by have:=nAE c (.inl hc);omega)).gr g
     have zB:=((sB'.gr g4).mo mo5 (fun c hc e=>by have:=nB c hc;omega)).gr g
     exact⟨S.gr,_,_,_,_,_,rfl,fun x hx=>(by rcases hx with h|h|h;(have:=nAE x (.inl h);omega);(have:=nB x h;omega);(have:=nAE x (.inr h);omega)),.inr ⟨hsw,τ,he,zE,.inr ⟨hd,rfl,rfl,zA,zB⟩⟩⟩
   . have hd': ¬(τ.dist:Int)<72057594037927936:=by omega
     simp only [decide_false,hd']
     refine vb (need_no S.ok) ?_
     rintro x rc h4 ⟨rfl,g4⟩
     replace S:=S.call g4
     simp only [BS]
     refine hZ (un_fn_pan (eY (trun1_yes S.ok (S.row (b:=b6) m0) rfl) fun o rc h' ⟨a,e,f,R⟩=>⟨a,_,_,e,cS ?_⟩))
     have gz:Gr h0 h':=(S.fr.trans f (fun i hi=>.inr (by subst hi;exact n_b6)):Mo NoM h0 h').gr
     simp only [if_true]
     refine(dk (by decide) (by simp only [aS,ae,Nat.reduceEqDiff,reduceIte];exact cw Tryz.a47 Xn (R.load (o:=0) (n:=4) (lbt rfl)))).2 ?_
     refine(fu (by decide)).2 (dZ.2 ?_)
     have zE:=(G2'.gr g4).mo f (fun c hc e=>by have:=nAE c (.inr hc);omega)
     exact⟨gz,_,_,_,_,_,rfl,fun x hx=>(by rcases hx with h|h|h;exact h.elim;exact h.elim;(have:=nAE x (.inr h);omega)),.inr ⟨hsw,τ,he,zE,.inl ⟨by omega,rfl,rfl,rfl,rfl⟩⟩⟩
end Go.Ab
end
section
namespace Go.Ab
open Go.Proofs
set_option maxRecDepth 10000
section
variable{γ:Gra}{l:List Int}{pi:Nat->Int}
theorem twin_of(eT: ∀{s:Nat},s<γ.nodes-> ∀v,IsD (seen γ.arcs Arc.t Arc.s) s v (dOf (seen γ.arcs Arc.t Arc.s) s v))(eF: ∀{s:Nat},s<γ.nodes-> ∀v,IsD (seen γ.arcs Arc.s Arc.t) s v (dOf (seen γ.arcs Arc.s Arc.t) s v))(hl:eE γ.nodes l)(hγ:Good γ)
 {s w:Nat} (hs:s<γ.nodes) (hw:w<γ.nodes) {act:List Int} (al:Nat->Bool) (hpi: ∀v,v<γ.nodes->pi v=twP γ l act s w v):mP γ.arcs al pi/\ ∀v x y,Wk γ.arcs s v x->Wk γ.arcs v w y->OpB pi v:=by
 have nd: ∀v x,Wk γ.arcs v w x->v=w\/v<γ.nodes:=fun v x hx=>wk_first (fun a ha=>(hγ.arcs a ha).1) hx
 refine⟨fun i hi hin=>?_,fun v x y h1 h2=>?_⟩
 . have ha:γ.arcs.getD i default∈γ.arcs:=by rw [zN,zO hi];exact Xa hi
   obtain⟨h1,h2,_⟩:=hγ.arcs _ ha
   have hF:=twP_feas eT eF hl hγ hs hw act al i hi
   obtain⟨i1,i2,i3⟩:=hin
   unfold OpB at i2 i3
   rw [hpi _ h1]at i2
   rw [hpi _ h2]at i3
   have:=hF ⟨i1,i2,i3⟩
   rw [hpi _ h1,hpi _ h2]
   exact this
 . have hv:v<γ.nodes:=(nd v y h2).elim (fun h=>h▸hw) (fun h=>h)
   have:=twP_open eT eF hl hs hw hv act h1 h2
   unfold OpB at this⊢
   rw [hpi _ hv]
   exact this
theorem twL_at{act:List Int}{s w v:Nat}(hv:v<γ.nodes):((zW γ.nodes).map fun(v:Nat)=>lL (cQ γ.nodes l.length (toR γ l) (frR γ l) v w act) (cQ γ.nodes l.length (toR γ l) (frR γ l) s v act)).getD v 0=twP γ l act s w v:=by
 simp [zN,hv,twP]
end
end Go.Ab

end
section
namespace Go.Ab
open Go.Proofs
set_option maxRecDepth 10000


def Tryz.FFl20q17:=aj Z1<|aj Z2<|aj Z0<|aj Z3<|aj Z7<|aj Z66<|aj Z71<|aj Z5<|aj Z78<|aj Z64<|aj Z13<|aj Z6<|Z8
theorem SlW.grE{h h':Hp}{kd:IntKind}{v:Value}{xs:List Int}(s:SlW h kd v xs)(g:Gr h h'):SlW h' kd v xs:=s.imp (fun h=>h) (fun⟨b,o,c,h1,h2,h3⟩=>⟨b,o,c,h1,h2,g.load h3⟩)
theorem yS{h0:Hp}(ok:h0.t.Sized h0.n):bK zM 16 [] h0 (.bool true):=ret_orc rfl ⟨rfl,Gr.refl ok⟩
theorem yQ{h0:Hp}(ok:h0.t.Sized h0.n){vB vM vN vx vy va:Value}{f t:Nat}{a:Int}{γ:Gra}(fB:Fl vB)(fM:Fl vM)(fN:Fl vN)(fx:Fl vx)(fy:Fl vy)(fa:Fl va)(hf:f<=255)(ht:t<=255)(n1:1<=γ.nodes):
 Ret zM 17 [.agg ⟨[vB,vM,.int .u8 (f:Nat),.int .u8 (t:Nat),.int .i8 a,vN]⟩,fW γ vx vy va] h0 fun r h'=>Gr h0 h'/\r=.agg ⟨[.int .i64 3,.int .i64 ((f%γ.nodes:Nat):Int),.int .i64 ((t%γ.nodes:Nat):Int),.int .i64 (aq .i64 a)]⟩:=by
 have S:=Si ok
 have wf:aq .i64 (f:Int)=(f:Int):=by rw [wrap64]<;>omega
 have wt:aq .i64 (t:Int)=(t:Int):=by rw [wrap64]<;>omega
 have nz:(γ.nodes:Int)≠0:=by omega
 have tmf:(f:Int).tmod (γ.nodes:Int)=((f%γ.nodes:Nat):Int):=by rw [Xr (by omega)];exact(Int.natCast_emod _ _).symm
 have tmt:(t:Int).tmod (γ.nodes:Int)=((t%γ.nodes:Nat):Int):=by rw [Xr (by omega)];exact(Int.natCast_emod _ _).symm
 refine ab (n:=21) (rs:=[.cell 4 28]) rfl Tryz.e17 rfl rfl rfl (lbt rfl) ?_
 simp only [BS,Nat.reduceLT,fW]
 refine ag (aZ (by intro x e;cases e)) S ?_;clear S;intro h b2 S n_b2;simp only [an]at S
 simp only [BS,Nat.reduceLT,Nat.reduceEqDiff,if_false]
 refine ag (aZ (by intro x e;cases e)) S ?_;clear S;intro h b3 S n_b3;simp only [an]at S
 simp only [BS,Tryz.FFl20q17]
 refine ag aF S ?_;clear S;intro h b4 S n_b4
 simp only [BS]
 refine aD (aM rfl) (q:=0) (ps:=[]) (by kernel_rfl) ?_
 simp only [BS,LB,jH,bW,jz,cls,Nat.reduceLT,Nat.reduceEqDiff,Nat.reduceAdd,Nat.reducePow,Nat.reduceDiv,Nat.reduceMod,Nat.reduceLeDiff,Tryz.FFl20q17,wf,wt,nQ nz,tmf,tmt,S.ld (b:=b2) (o:=2) m2 rfl,S.ld (b:=b2) (o:=3) m2 rfl,S.ld (b:=b2) (o:=4) m2 rfl,S.ld (b:=b3) (o:=0) m1 rfl]
 refine dK (S.store (i:=0) rfl Tryz.s28 (by intro x e;cases e) rfl rfl (lbt rfl) ono) ?_
 clear S;rintro h3 ⟨S,mo⟩
 simp only [LC,an,lay,zR,zQ,Nat.reduceAdd]at S
 simp only [BS,LB,ac,Nat.reduceAdd]
 refine(dk (by decide) (by simp only [aS,ae,Nat.reduceEqDiff,reduceIte];exact cw Tryz.a28 Tryz.s28 (S.lds (b:=b4) (o:=0) (n:=4) m0 (lbt rfl)))).2 (dZ.2 ?_)
 exact⟨S.gr,rfl⟩
theorem toR_len{γ:Gra}{l:List Int}{i:Nat}:(toR γ l i).length=γ.nodes:=by unfold toR;exact jn _ _ _
theorem frR_len{γ:Gra}{l:List Int}{i:Nat}:(frR γ l i).length=γ.nodes:=by unfold frR;exact jn _ _ _
open Tryz in
def Tryz.FFtr3106:=aj Z1<|aj Z2<|aj Z0<|aj Z3<|aj Z25<|aj Z31<|aj a189<|aj s189<|aj z189<|n189
open Tryz in
def Tryz.FFtr319:=aj Z1<|aj Z2<|aj Z0<|aj Z3<|aj Z7<|aj Z19<|aj Z29<|aj Z37<|aj Z41<|aj Z25<|aj Z31<|aj a125<|aj s125<|aj z125<|n125
def pN(i:Bool)(ev:List Ev2)(k:Nat):Option (Nat×Ev2):=match ev[k]? with
 |some e=>if e.kind=0/\e.side=i then some (k,e)else none
 |none=>none
def ez(i:Bool)(ev:List Ev2)(n:Nat):List (Nat×Ev2):=(zW n).filterMap (pN i ev)
theorem mF(i:Bool)(ev:List Ev2)(n:Nat):ez i ev (n+1)=ez i ev n++(pN i ev n).toList:=by
 unfold ez
 rw [Xw,List.filterMap_append]
 cases h:pN i ev n<;>simp [h]
theorem popP2_at{b:Bool}{ev:List Ev2}{i:Nat}{x:Nat×Ev2}(h:pN b ev i=some x): ∀n,i<n->(ez b ev n)[(ez b ev i).length]? =some x:=by
 intro n
 induction n with
 |zero=>intro hi;omega
 | succ n ih=>
   intro hi
   rw [mF]
   by_cases hn:i<n
   . have:=ih hn
     rw [List.getElem?_append_left (List.getElem?_eq_some_iff.1 this).1];exact this
   . have:i=n:=by omega
     subst this
     rw [List.getElem?_append_right (zV _),h]
     simp
theorem popP2_mem{b:Bool}{ev:List Ev2}{n:Nat}{p:Nat×Ev2}(h:p∈ez b ev n):p.2∈ev/\p.2.kind=0/\p.2.side=b:=by
 obtain⟨i,_,hi⟩:=List.mem_filterMap.1 h
 unfold pN at hi
 split at hi
 . rename_i e he
   split at hi
   . cases hi
     exact⟨List.mem_of_getElem? he,by assumption⟩
   . cases hi
 . cases hi
def pairX2(p:Nat×Ev2):List Value:=[.int .i64 (p.1:Nat),.agg ⟨fd p.2⟩]
theorem xO{h0:Hp}{sd:Bool}(ok:h0.t.Sized h0.n){vE:Value}(fE:Fl vE):Ret zM 51 [vE,.int .i64 0,.int .i64 (eu sd:Nat)] h0 fun v h'=>Gr h0 h'/\ ∃b1 b2 b3,v=.func (.func 106) #[] #[ptrTo b1,ptrTo b2,ptrTo b3]/\h0.n<=b1/\h0.n<=b2/\h0.n<=b3/\h'.load b1 0 1=some [vE]/\h'.load b2 0 1=some [.int .i64 0]/\h'.load b3 0 1=some [.int .i64 (eu sd:Nat)]:=by
 have S:=Si ok
 refine ab (n:=8) (rs:=[.tmp 6]) rfl Tryz.e51 rfl rfl rfl (lbt rfl) ?_
 simp only [BS,Nat.reduceLT]
 refine ag (cI (by assumption)) S ?_;clear S;intro h b1 S n_b1
 simp only [BS,Nat.reduceLT,Nat.reduceEqDiff,if_false]
 refine ag (cI (by exact bG)) S ?_;clear S;intro h b2 S n_b2
 simp only [BS,Nat.reduceLT,Nat.reduceEqDiff,if_false]
 refine ag (cI (by exact bG)) S ?_;clear S;intro h b3 S n_b3
 simp only [BS,LB,ac,Nat.reduceLT,Nat.reduceEqDiff]
 exact⟨S.gr,b1,b2,b3,rfl,n_b1,n_b2,n_b3,S.ld m2 rfl,S.ld m1 rfl,S.ld m0 rfl⟩
theorem of1_it2{h0:Hp}{sd:Bool}(ok0:h0.t.Sized h0.n){vE:Value}{ev:List Ev2}(hE:aA h0 4 fd vE ev)(hl:ev.length<=100000){b1 b2 b3:Nat}(e1:h0.load b1 0 1=some [vE])(e2:h0.load b2 0 1=some [.int .i64 0])(e3:h0.load b3 0 1=some [.int .i64 (eu sd:Nat)]):
 qG zM 106 [] [ptrTo b1,ptrTo b2,ptrTo b3] h0 (fun c=>c=b1\/c=b2\/c=b3\/av vE c) ((ez sd ev ev.length).map pairX2):=by
 intro lb J Z hz Y h F s hj
 have l1:=s.load ok0 e1 (.inl rfl)
 have fE:=hE.fl
 refine enter (n:=32) (rs:=[]) rfl Tryz.e106 rfl rfl rfl (lbt rfl) ?_
 simp only [BS,LB,Nat.reduceLT,Tryz.FFtr3106,l1,hE.lenq]
 refine bA (fun(i:Nat) ρ h=>i<=ev.length/\ ∃F,ItS h0 (fun c=>c=b1\/c=b2\/c=b3\/av vE c) h F/\J (ez sd ev i).length h F/\ρ 0=.func (.yield lb) #[] #[]/\ρ 1=ptrTo b1/\ρ 2=ptrTo b2/\ρ 3=ptrTo b3/\ρ 7=vE/\ρ 8=.int .i64 (ev.length:Nat)/\ρ 9=.int .i64 i) (fun i=>ev.length-i) ?_ 0 _ _ ?_
 . clear l1 s hj F h
   intro i ih ρ h ⟨hi,F,s,hj,r0,r1,r2,r3,r7,r8,r9⟩
   have w:aq .i64 ((i:Int)+1)=((i+1:Nat):Int):=by rw [wrap64]<;>omega
   by_cases hlt:i<ev.length
   . have l2:=s.load ok0 e2 (.inr (.inl rfl))
     have l3:=s.load ok0 e3 (.inr (.inr (.inl rfl)))
     obtain⟨c,o,x0,y0⟩:=(s.sl ok0 hE (fun b h=>.inr (.inr (.inr h)))).ix (kd:=.i64) nY hlt
     have S:=Si s.ok
     obtain⟨e,ee⟩: ∃e,ev[i]=e:=⟨_,rfl⟩
     rw [ee]at y0
     have pa:pN sd ev i=if e.kind=0/\e.side=sd then some (i,e)else none:=by
      unfold pN;rw [zO hlt,ee]
     obtain⟨kd,s2,id,lab⟩:=e
     replace y0:h.load c o 4=some [.int .i64 kd,.int .i64 (eu s2:Nat),.int .i64 id,.int .i64 lab]:=y0
     simp only []at pa
     simp only [BS,LB,Nat.reduceLT,Nat.reduceEqDiff,Tryz.FFtr3106,r7,r8,r9,aP,hlt,x0,y0]
     refine ag aF S ?_;clear S;intro h b6 S n_b6
     simp only [BS,LB,Nat.reduceLT,Nat.reduceEqDiff]
     refine aC (S.store (i:=0) rfl Tryz.s80 (by intro x e;cases e) rfl rfl (lbt rfl) ono) ?_
     clear S;rintro h ⟨S,mo⟩;clear mo
     simp only [LC,an,lay,zR,zQ,Nat.reduceAdd]at S
     have sA:=s.gr S.gr
     have jA:=Y.gr _ _ _ _ hj S.gr
     have m2:=S.gr.load l2
     have m3:=S.gr.load l3
     by_cases hk:kd=0
     . have k0:(kd:Int)=0:=by omega
       by_cases hs:s2=sd
       . have k1:((eu s2:Nat):Int)=((eu sd:Nat):Int):=by rw [hs]
         rw [if_pos ⟨hk,hs⟩]at pa
         have hx:((ez sd ev ev.length).map pairX2)[(ez sd ev i).length]? =some [.int .i64 (i:Nat),.agg ⟨[.int .i64 0,.int .i64 (eu sd:Nat),.int .i64 id,.int .i64 lab]⟩]:=by
          rw [zY,popP2_at pa _ hlt,hk,hs];rfl
         have ln:(ez sd ev (i+1)).length=(ez sd ev i).length+1:=by rw [mF,pa];simp
         simp only [BS,LB,Nat.reduceLT,Nat.reduceEqDiff,Tryz.FFtr3106,r0,r2,r3,k0,k1,m2,m3,S.ld (b:=b6) (o:=0) m0 rfl,S.ld (b:=b6) (o:=1) m0 rfl,S.lds (b:=b6) (o:=0) (n:=4) m0 (lbt rfl)]
         refine gf Y sA jA (i:=(ez sd ev i).length) hx ?_ ?_ ?_
         . intro h3 F3 a s3 _ _
           simp only [BS,LB,Nat.reduceLT,Nat.reduceEqDiff,r9,w]
           exact ih (i+1) _ _ (by omega) ⟨by omega,F3,s3,by rw [ln];exact a,by simp [aa,r0],by simp [aa,r1,ae],by simp [aa,r2,ae],by simp [aa,r3,ae],by simp [aa,r7],by simp [aa,r8],by simp [aa]⟩
         . intro h3 a _
           simp only [BS,LB,Nat.reduceLT,Nat.reduceEqDiff]
           exact iV rfl ⟨rfl,.inr (.inl ⟨_,rfl,a⟩)⟩
         . intro v h3 a
           exact absurd a (hz v h3)
       . have k1: ¬((eu s2:Nat):Int)=((eu sd:Nat):Int):=fun e=>hs (by cases s2<;>cases sd<;>first|rfl|(exact absurd e (by decide)))
         rw [if_neg (fun h=>hs h.2)]at pa
         have ln:ez sd ev (i+1)=ez sd ev i:=by rw [mF,pa];simp
         simp only [BS,LB,Nat.reduceLT,Nat.reduceEqDiff,Tryz.FFtr3106,r2,r3,r9,k0,k1,m2,m3,w,S.ld (b:=b6) (o:=0) m0 rfl,S.ld (b:=b6) (o:=1) m0 rfl]
         exact ih (i+1) _ _ (by omega) ⟨by omega,F,sA,by rw [ln];exact jA,by simp [aa,r0],by simp [aa,r1,ae],by simp [aa,r2,ae],by simp [aa,r3,ae],by simp [aa,r7],by simp [aa,r8],by simp [aa]⟩
     . have k0: ¬(kd:Int)=0:=by omega
       rw [if_neg (fun h=>hk h.1)]at pa
       have ln:ez sd ev (i+1)=ez sd ev i:=by rw [mF,pa];simp
       simp only [BS,LB,Nat.reduceLT,Nat.reduceEqDiff,Tryz.FFtr3106,r2,r9,k0,m2,w,S.ld (b:=b6) (o:=0) m0 rfl,S.ld (b:=b6) (o:=1) m0 rfl]
       exact ih (i+1) _ _ (by omega) ⟨by omega,F,sA,by rw [ln];exact jA,by simp [aa,r0],by simp [aa,r1,ae],by simp [aa,r2,ae],by simp [aa,r3,ae],by simp [aa,r7],by simp [aa,r8],by simp [aa]⟩
   . simp only [BS,LB,Nat.reduceLT,r8,r9,aP,hlt]
     have:i=ev.length:=by omega
     subst this
     exact dD (cS ⟨rfl,_,rfl,rfl,.inl ⟨_,F,rfl,by simpa using hj⟩⟩)
 . exact⟨zT _,F,s,hj,by simp [aa,cD],by simp [aa,cD,ae],by simp [aa,cD,ae],by simp [aa,cD,ae],by simp [aa],by simp [aa],by simp [aa]⟩
theorem oP{h0:Hp}{sd:Bool}(ok:h0.t.Sized h0.n){vE:Value}{ev:List Ev2}(hE:aA h0 4 fd vE ev)(hl:ev.length<=100000){v:Nat}:
 Ret zM 19 [vE,.int .i64 (eu sd:Nat),.int .i64 (v:Nat)] h0 fun r h'=>Gr h0 h'/\ ∃(x:Nat) (b:Bool),r=.tuple #[.int .i64 (x:Nat),.bool b]/\((b=true/\ ∃e∈ev,e.kind=0/\e.side=sd/\e.id=v/\x=e.lab)\/b=false):=by
 have S:=Si ok
 have fE:=hE.fl
 refine ab (n:=21) (rs:=[.cell 6 2,.cell 7 4]) rfl Tryz.e19 rfl rfl rfl (lbt rfl) ?_
 simp only [BS,Nat.reduceLT]
 refine ag (aZ (by intro x e;cases e)) S ?_;clear S;intro h b5 S n_b5;simp only [an]at S
 simp only [BS,Tryz.FFtr319]
 refine ag aF S ?_;clear S;intro h b6 S n_b6
 simp only [BS,Tryz.FFtr319]
 refine ag aF S ?_;clear S;intro h b7 S n_b7
 simp only [BS,LB,Nat.reduceLT,Nat.reduceEqDiff]
 refine step_ret (xO (sd:=sd) S.ok fE) ?_
 rintro r h ⟨g,b1,b2,b3,rfl,n1,n2,n3,y1,y2,y3⟩
 have k5:=(S.row (b:=b5) m2).lt S.ok
 have k6:=(S.row (b:=b6) m1).lt S.ok
 have k7:=(S.row (b:=b7) m0).lt S.ok
 have hEl:=fun {c} hc=>hE.lt ok (b:=c) hc
 have kn0:=S.fr.n
 have hE':=hE.gr (S.gr.trans g)
 replace S:=S.call g
 have it:=of1_it2 S.ok hE' hl y1 y2 y3
 simp only [BS]
 rename Hp=>hA
 have S1:=S
 replace S:=S.base
 refine kA S (g:=106) (a:=#[]) (b:=#[ptrTo b1,ptrTo b2,ptrTo b3]) (by simp [cB,aa,ae]) rfl rfl ?_
 intro h2 db lb S' hdb hlb g2
 obtain⟨X,hX,S'⟩: ∃X:fF,X=_/\St (· ∈[b7,b6,b5]) hA h2 [(lb,.loop X),(db,.dfr),(b7,.row [.bool false] 1),(b6,.row [.int .i64 0] 1),(b5,.row [.int .i64 v] 1)] []:=⟨_,rfl,S'⟩
 have hJ:Yld zM lb (fun k h' F=>St (· ∈[b7,b6,b5]) hA h' [(lb,.loop X),(db,.dfr),(b7,.row [.bool false] 1),(b6,.row [.int .i64 0] 1),(b5,.row [.int .i64 v] 1)] []/\F=keys [(lb,.loop X),(db,.dfr),(b7,.row [.bool false] 1),(b6,.row [.int .i64 0] 1),(b5,.row [.int .i64 v] 1)] [])
  (fun o h'=>o=.ret (.bool false)/\ ∃(Y:fF) (e:Ev2),e∈ev/\e.kind=0/\e.side=sd/\e.id=v/\Y.st=2/\Y.pending=some .ret/\St (· ∈[b7,b6,b5]) hA h' [(lb,.loop Y),(db,.dfr),(b7,.row [.bool true] 1),(b6,.row [.int .i64 e.lab] 1),(b5,.row [.int .i64 v] 1)] []) ((ez sd ev ev.length).map pairX2):=by
  refine⟨?_,?_,?_,?_⟩
  . rintro i h F ⟨S,rfl⟩;exact⟨S.ok,fun b hb=>S.key_lt hb⟩
  . rintro i h F h' ⟨S,rfl⟩ gg;exact⟨S.call gg,rfl⟩
  . rintro h h' ⟨a,Y,e,e1,e2,e0,e3,e4,e5,S⟩ gg;exact⟨a,Y,e,e1,e2,e0,e3,e4,e5,S.call gg⟩
  . rintro i x hR F hx ⟨S,rfl⟩
    have hil:i<(ez sd ev ev.length).length:=by
     have:=(List.getElem?_eq_some_iff.1 hx).1
     simpa using this
    rw [zY,zO hil]at hx
    cases hx
    have pm:=popP2_mem (Xa hil)
    have tk:(ez sd ev ev.length).take (i+1)=(ez sd ev ev.length).take i++[(ez sd ev ev.length)[i]]:=List.take_succ_eq_append_getElem hil
    generalize(ez sd ev ev.length)[i]=p at tk pm
    obtain⟨j,⟨kd,s2,id,lab⟩⟩:=p
    simp only []at tk pm
    subst hX
    refine kB (S.get m0) (by rw [Tryz.e19];rfl) rfl ?_
    have S0:=S
    replace S:=S.base
    simp only [BS,Tryz.FFtr319,fd]
    refine ag aF S ?_;clear S;intro h b9 S n_b9
    simp only [BS,LB,Nat.reduceLT,Nat.reduceEqDiff]
    refine aC (S.store (i:=0) rfl Tryz.s80 (by intro x e;cases e) rfl rfl (lbt rfl) ono) ?_
    clear S;rintro h ⟨S,_⟩
    simp only [LC,an,lay,zR,zQ,Nat.reduceAdd]at S
    simp only [BS]
    refine jG S (i:=1) rfl rfl rfl rfl rfl ?_
    clear S;intro h S
    simp only [LC]at S
    by_cases hv:id=v
    . have hv':(id:Int)=(v:Int):=by omega
      simp only [BS,LB,Nat.reduceLT,Nat.reduceEqDiff,Tryz.FFtr319,hv',S.ld (b:=b9) (o:=2) m0 rfl,S.ld (b:=b5) (o:=0) m5 rfl,S.ld (b:=b9) (o:=3) m0 rfl]
      refine aC (aI S (i:=4) rfl Tryz.s2 bG (zU (lbt rfl)) ono) ?_
      clear S;rintro h ⟨S,_⟩
      simp only [LC]at S
      simp only [BS,LB,Nat.reduceLT,Nat.reduceEqDiff]
      refine aC (aI S (i:=3) rfl Tryz.s4 tN (zU (lbt rfl)) ono) ?_
      clear S;rintro h ⟨S,_⟩
      simp only [LC]at S
      simp only [BS]
      refine round_ret S (i:=1) rfl ?_
      clear S;intro h S
      simp only [LC]at S
      exact .inr (.inl ⟨rfl,⟨rfl,_,_,pm.1,pm.2.1,pm.2.2,hv,rfl,rfl,S0.rebase S.drop1⟩,S.ok⟩)
    . have hv': ¬(id:Int)=(v:Int):=by omega
      simp only [BS,LB,Nat.reduceLT,Nat.reduceEqDiff,Tryz.FFtr319,hv',S.ld (b:=b9) (o:=2) m0 rfl,S.ld (b:=b5) (o:=0) m5 rfl]
      refine gK S (i:=1) rfl ?_
      clear S;intro h S
      simp only [LC]at S
      exact .inl ⟨rfl,_,⟨S0.rebase S.drop1,rfl⟩,S.fr,S.drop1.key_new⟩
 have hne: ∀(b:Nat),b∈keys [(lb,Ob.loop X),(db,.dfr),(b7,.row [.bool false] 1),(b6,.row [.int .i64 0] 1),(b5,.row [.int .i64 v] 1)] []-> ¬(b<hA.n/\(b=b1\/b=b2\/b=b3\/av vE b)):=fun b hb h=>by
  rcases S'.key_own hb with h1|h1
  . omega
  . simp only [XB,List.not_mem_nil,or_false]at h1
    rcases h.2 with e|e|e|e
    . omega
    . omega
    . omega
    . have:=hEl e
      omega
 refine eY (it lb _ _ (fun v h hz=>by cases hz.1) hJ h2 _ ?_ ⟨S',rfl⟩) fun o rc h' y=>?_
 . exact⟨S'.ok,S'.fr.n,fun b hb hd=>g2.get b hb,hne,fun b hb=>S'.key_lt hb⟩
 . obtain⟨_,⟨u,F,rfl,T,rfl⟩|⟨u,rfl,hz,Y,e,he,hk,hsd,hi,st,pe,T⟩|⟨w,rfl,hz,_⟩⟩:=y
   . subst hX
     refine⟨_,T.get m0,Nat.zero_ne_one,?_⟩
     replace T:=T.dead
     show Run _ _ _ _ _ _ _ _
     simp only [BS,LB,Nat.reduceLT,Nat.reduceEqDiff]
     refine aC (aI T (i:=2) rfl Tryz.s2 bG (zU (lbt rfl)) ono) ?_
     clear T;rintro h3 ⟨T,_⟩
     simp only [List.set_cons_zero,List.set_cons_succ]at T
     simp only [BS,LB,Nat.reduceLT,Nat.reduceEqDiff]
     refine aC (aI T (i:=1) rfl Tryz.s4 tN (zU (lbt rfl)) ono) ?_
     clear T;rintro h4 ⟨T,_⟩
     simp only [List.set_cons_zero,List.set_cons_succ]at T
     simp only [BS]
     refine ff (kw [db] _ (L:=[(b7,_),(b6,_),(b5,_)]) T.base fun h5 S4=>?_)
     refine⟨rfl,(dk (by decide) (by simp only [aS,ae,Nat.reduceEqDiff,reduceIte];exact kI Tryz.a2 (S4.ld (b:=b6) (o:=0) m1 rfl))).2 ((dk (by decide) (by simp only [aS,ae,Nat.reduceEqDiff,reduceIte];exact kI Tryz.a4 (S4.ld (b:=b7) (o:=0) m0 rfl))).2 (dZ.2 ?_))⟩
     exact⟨((S1.rebase T).rebase S4).gr,0,false,rfl,.inr rfl⟩
   . refine⟨Y,T.get m0,by rw [st];decide,?_⟩
     rw [pe]
     replace T:=T.dead
     show Run _ _ _ _ _ _ _ _
     simp only [BS]
     refine ff (kw [db] _ (L:=[(b7,_),(b6,_),(b5,_)]) T.base fun h5 S4=>?_)
     refine⟨rfl,(dk (by decide) (by simp only [aS,ae,Nat.reduceEqDiff,reduceIte];exact kI Tryz.a2 (S4.ld (b:=b6) (o:=0) m1 rfl))).2 ((dk (by decide) (by simp only [aS,ae,Nat.reduceEqDiff,reduceIte];exact kI Tryz.a4 (S4.ld (b:=b7) (o:=0) m0 rfl))).2 (dZ.2 ?_))⟩
     exact⟨((S1.rebase T).rebase S4).gr,e.lab,true,rfl,.inl ⟨rfl,e,he,hk,hsd,hi,rfl⟩⟩
   . cases hz
end Go.Ab
end
section
namespace Go.Ab
open Go.Proofs
set_option maxRecDepth 10000
theorem wk_turn{A:List Arc}{v w x:Nat}(h:Wk (seen A Arc.t Arc.s) w v x):Wk A v w x:=by
 have hb: ∀a∈seen A Arc.t Arc.s,∃b∈A,b.s=a.t/\b.t=a.s/\b.w=a.w:=fun a ha=>by
  obtain⟨b,hb,rfl⟩:=List.mem_map.1 ha
  exact⟨b,hb,rfl,rfl,rfl⟩
 have:=Wk.back hb h (.nil:Wk A v v 0)
 rwa [Nat.add_zero]at this
theorem wk_hBT{A:List Arc}{s w:Nat}{al:Nat->Bool}{pi:Nat->Int}(hal: ∀i,al i=true)(hp: ∀v x y,Wk A s v x->Wk A v w y->OpB pi v){v x:Nat}(h:Wk (seen A Arc.t Arc.s) w v x):(∃y,Wk A s v y)->Wk (hB A al pi true) w v x:=by
 induction h with
 |nil=>intro _;exact .nil
 | @snoc z a ha hz ih=>
   rintro⟨y,hy⟩
   obtain⟨b,hb,rfl⟩:=List.mem_map.1 ha
   have hz':Wk A b.t w z:=wk_turn hz
   have hy:Wk A s b.s y:=hy
   have h1:Wk A s b.t (y+b.w):=.snoc hb hy
   have h2:Wk A b.s w (0+b.w+z):=(Wk.snoc hb .nil).trans hz'
   obtain⟨i,hi,e⟩:=XE hb
   have e':A.getD i default=b:=by rw [zN,zO hi,e];rfl
   exact .snoc (nw.2 ⟨i,hi,⟨hal i,by rw [e'];exact hp _ _ _ hy h2,by rw [e'];exact hp _ _ _ h1 hz'⟩,by rw [e'];rfl⟩) (ih ⟨_,h1⟩)
theorem hB_subT{A:List Arc}{al:Nat->Bool}{pi:Nat->Int}{a:Arc}(h:a∈hB A al pi true):a∈seen A Arc.t Arc.s:=by
 obtain⟨i,hi,_,rfl⟩:=nw.1 h
 exact List.mem_map.2 ⟨A.getD i default,by rw [zN,zO hi];exact Xa hi,rfl⟩
theorem uH{pi:Nat->Int}{i:Bool}{σ:Bi}{v lab:Nat}{p:List Nat}(h: ¬OpB pi v):aU pi i σ v lab p=σ:=by
 unfold aU
 rw [if_pos (.inr (.inl h))]
theorem ends_no{A:List Arc}{al:Nat->Bool}{pi:Nat->Int}{σ τ:Bi}(he:jI A al pi σ τ)(h0: ∃i,∀v,(σ.sd i).K v=none):τ=σ:=by
 cases he with
 |stop _=>rfl
 | step tu _ _=>
   obtain⟨v,k,u,l,p1,p2,_⟩:=tu
   obtain⟨i,hi⟩:=h0
   cases i
   . have:=p1.1;rw [hi]at this;cases this
   . have:=p2.1;rw [hi]at this;cases this
theorem ends_len {A:List Arc} {N:Nat} {al:Nat->Bool} {pi:Nat->Int} {rt:Bool->Nat} {σ τ:Bi} (hN:N<=12) (hA: ∀a∈A,a.s<N/\a.t<N/\a.w<=bz) (hl:A.length<=100) (he:jI A al pi σ τ):BiI A N rt al pi σ->σ.ev.length<=200*((σ.sd false).O.length+(σ.sd true).O.length)->τ.ev.length<=4800:=by
 induction he with
 | @stop σ _=>
   intro I h
   have o1:=(I.sv false).len
   have o2:=(I.sv true).len
   omega
 | @step σ τ i v k tu hp _ ih=>
   intro I h
   obtain⟨I',ke⟩:=qC hN hA I hp.1
   have ev':(fG A al pi i v (aV σ i v)).ev.length<=σ.ev.length+200:=by
    have evS: ∀(l:List Nat) (σ:Bi),(l.foldl (co A al pi i v) σ).ev.length<=σ.ev.length+l.length:=by
     intro l
     induction l with
     |nil=>intro σ;exact zV _
     | cons a l ihl=>
       intro σ
       have h1:=ihl (co A al pi i v σ a)
       have h2:(co A al pi i v σ a).ev.length<=σ.ev.length+1:=by
        unfold co
        split
        . rw [qs];simp [evB]
        . omega
       rw [List.foldl_cons,List.length_cons]
       omega
    have h1:=evS (outs A (fsB i) A.length v) (aV σ i v)
    have h2:(aV σ i v).ev.length=σ.ev.length+1:=by simp [aV]
    have h3:=jY A (fsB i) A.length v
    unfold fG
    omega
   have k1:=ke.O
   have k2:=ke.ot
   rw [clo_b]at k1
   rw [clo_n]at k2
   refine ih I' ?_
   cases i
   . rw [k1,show((fG A al pi false v (aV σ false v)).sd true)=σ.sd true from k2,Xi,Xg]
     omega
   . rw [k1,show((fG A al pi true v (aV σ true v)).sd false)=σ.sd false from k2,Xi,Xg]
     omega
section
variable{γ:Gra}{l:List Int}{pi:Nat->Int}
theorem yj(eT: ∀{s:Nat},s<γ.nodes-> ∀v,IsD (seen γ.arcs Arc.t Arc.s) s v (dOf (seen γ.arcs Arc.t Arc.s) s v))(eF: ∀{s:Nat},s<γ.nodes-> ∀v,IsD (seen γ.arcs Arc.s Arc.t) s v (dOf (seen γ.arcs Arc.s Arc.t) s v))(hl:eE γ.nodes l)(hγ:Good γ)
 {s w:Nat} (hs:s<γ.nodes) (hw:w<γ.nodes) {act:List Int} {al:Nat->Bool} (hal: ∀i,al i=true) (hpi: ∀v,v<γ.nodes->pi v=twP γ l act s w v) {τ:Bi} (he:jI γ.arcs al pi (ip pi s w) τ):
 τ.ev.length<=4800/\ ∀e∈τ.ev,e.kind=0->(e.side=false->dOf (seen γ.arcs Arc.s Arc.t) s e.id<=e.lab/\(dOf (seen γ.arcs Arc.s Arc.t) s e.id<FAR->dOf (seen γ.arcs Arc.t Arc.s) w e.id<FAR->e.lab=dOf (seen γ.arcs Arc.s Arc.t) s e.id))/\
  (e.side=true->dOf (seen γ.arcs Arc.t Arc.s) w e.id<=e.lab/\(dOf (seen γ.arcs Arc.s Arc.t) s e.id<FAR->dOf (seen γ.arcs Arc.t Arc.s) w e.id<FAR->e.lab=dOf (seen γ.arcs Arc.t Arc.s) w e.id)):=by
 have hA: ∀a∈γ.arcs,a.s<γ.nodes/\a.t<γ.nodes/\a.w<=bz:=fun a ha=>hγ.arcs a ha
 obtain⟨hF,hp⟩:=twin_of eT eF hl hγ hs hw al hpi
 have hI:=initB_I (A:=γ.arcs) (al:=al) (pi:=pi) hγ.n2 hs hw
 refine⟨ends_len hγ.n2 hA hγ.many he hI (by rw [pO];exact zT _),?_⟩
 by_cases ho:OpB pi s/\OpB pi w
 . have hE:=ends_EvP hγ.n2 hA hF he hI (initB_F ho.1 ho.2) (by rw [pO];intro e he;cases he)
   intro e hm hk
   obtain⟨k1,k2⟩:=hE e hm hk
   refine⟨fun hsd=>?_,fun hsd=>?_⟩
   . rw [hsd]at k1 k2
     have k1:Wk (hB γ.arcs al pi false) s e.id e.lab:=k1
     have k2: ∀x,Wk (hB γ.arcs al pi false) s e.id x->e.lab<=x:=k2
     have hD:=eF hs e.id
     have q:=hD.wk (by rw [jm];exact k1.mono (fun _=>hB_sub))
     refine⟨q.2.1,fun h1 h2=>?_⟩
     have w1:=hD.far h1
     rw [jm]at w1
     have w2:=wk_turn ((eT hw e.id).far h2)
     have:=k2 _ (wk_hB hal hp w1 ⟨_,w2⟩)
     have:=q.2.1
     rw [jm]at this⊢
     omega
   . rw [hsd]at k1 k2
     have k1:Wk (hB γ.arcs al pi true) w e.id e.lab:=k1
     have k2: ∀x,Wk (hB γ.arcs al pi true) w e.id x->e.lab<=x:=k2
     have hD:=eT hw e.id
     have q:=hD.wk (k1.mono (fun _=>hB_subT))
     refine⟨q.2.1,fun h1 h2=>?_⟩
     have w1:=hD.far h2
     have w2:=(eF hs e.id).far h1
     rw [jm]at w2
     have:=k2 _ (wk_hBT hal hp w1 ⟨_,w2⟩)
     have:=q.2.1
     omega
 . have hno: ∃i,∀v,((ip pi s w).sd i).K v=none:=by
    have k1:=iD (pi:=pi) (σ:=⟨fun _=>cR,[],FAR,0⟩) (b:=false) (v:=s) (lab:=0) (p:=[])
    have k2:=iD (pi:=pi) (σ:=aU pi false ⟨fun _=>cR,[],FAR,0⟩ s 0 []) (b:=true) (v:=w) (lab:=0) (p:=[])
    by_cases os:OpB pi s
    . have ow: ¬OpB pi w:=fun h=>ho ⟨os,h⟩
      refine⟨true,fun v=>?_⟩
      unfold ip
      rw [uH ow,show((aU pi false ⟨fun _=>cR,[],FAR,0⟩ s 0 []).sd true)=cR from k1.ot]
      rfl
    . refine⟨false,fun v=>?_⟩
      unfold ip
      rw [show((aU pi true (aU pi false ⟨fun _=>cR,[],FAR,0⟩ s 0 []) w 0 []).sd false)=_ from k2.ot]
      rw [uH os]
      rfl
   rw [ends_no he hno,pO]
   intro e hm;cases hm
end
end Go.Ab

end
section
namespace Go.Ab
open Go.Proofs
set_option maxRecDepth 10000
def Tryz.FFtl5:=aj Z1<|aj Z2<|aj Z0<|aj Z3<|aj Z7<|aj Z9<|aj Z14<|aj Z17<|aj Z19<|aj Z27<|aj Z40<|aj Z29<|aj Z37<|aj Z41<|aj Z47<|aj Z39<|aj Z66<|aj Z71<|aj Z5<|aj Z78<|aj Z64<|aj Z13<|aj Z6<|aj Z10<|aj Z4<|aj Z15<|aj Z79<|aj Z25<|aj Z21<|aj Z31<|aj Z8<|aj Z18<|aj Z22<|aj Z12<|aj Z11<|Z48
theorem rP {h0:Hp} (ok:h0.t.Sized h0.n) {vB vM vN:Value} {f t:Nat} {a:Int} {B ms:List Int} (hB:SlW h0 .u8 vB B) (hM:SlW h0 .u8 vM ms) (hMr: ∀x∈ms,0<=x/\x<=255) (fN:Fl vN) (hf:f<=255) (ht:t<=255):
 bK zM 5 [.agg ⟨[vB,vM,.int .u8 (f:Nat),.int .u8 (t:Nat),.int .i8 a,vN]⟩] h0 (.bool true):=by
 have S:=Si ok
 have fB:=hB.sl.fl
 have fM:=hM.sl.fl
 have far:=gO
 refine ab (n:=118) (rs:=[.tmp 2]) rfl Tryz.e5 rfl rfl rfl (lbt rfl) ?_
 simp only [BS,Nat.reduceLT]
 refine ag (aZ (by intro x e;cases e)) S ?_;clear S;intro h b1 S n_b1;simp only [an]at S
 simp only [BS,LB,Nat.reduceLT,Nat.reduceEqDiff,Tryz.FFtl5,Xc,zZ,Xe,S.lds (b:=b1) (o:=0) (n:=6) m0 (lbt rfl)]
 refine step_ret (made20_ok S.ok (hB.grE S.gr) (hM.grE S.gr) hMr fN) ?_
 rintro r h ⟨g,γ,vx,vy,va,bp,nb,vR,l,rfl,hγ,ga,hn,sR,hl,hl1,hl7,_⟩
 replace S:=S.call g
 have fx:=ga.X.fl
 have fy:=ga.Y.fl
 have fa:=ga.A.fl
 have fR:=sR.fl
 have n1:=hγ.n1
 have n2:=hγ.n2
 have R1:=S.row (b:=b1) m0
 have g0:=S.gr
 have okA:=S.ok
 rename Hp=>hA
 clear S
 have S:=Si okA
 simp only [BS,LB,Nat.reduceLT,Nat.reduceEqDiff,Tryz.FFtl5,fW]
 refine ag aF S ?_;clear S;intro h b3 S n_b3
 simp only [BS,LB,Nat.reduceLT,Nat.reduceEqDiff]
 refine aC (S.store (i:=0) rfl Tryz.s31 (by intro x e;cases e) rfl (by simp only [an,Xd,Xf,fx.2.1,fy.2.1,fa.2.1,zP];rfl) (lbt rfl) ono) ?_
 clear S;rintro h ⟨S,mo⟩;clear mo
 simp only [LC,an,lay,zR,zQ,Nat.reduceAdd]at S
 have l1:h.load b1 0 6=some [vB,vM,.int .u8 (f:Nat),.int .u8 (t:Nat),.int .i8 a,vN]:=(R1.gr S.gr).load (zV 6)
 have l3:h.load b3 0 4=some [.int .i64 γ.nodes,vx,vy,va]:=(S.row (b:=b3) m0).load (zV 4)
 simp only [BS,LB,Nat.reduceLT,Nat.reduceEqDiff,Tryz.FFtl5,l1,l3]
 have qo:=yQ (γ:=γ) (a:=a) S.ok fB fM fN fx fy fa hf ht n1
 unfold fW at qo
 refine step_ret qo ?_
 rintro r h ⟨g,rfl⟩
 have hs:f%γ.nodes<γ.nodes:=Nat.mod_lt _ (by omega)
 have hw:t%γ.nodes<γ.nodes:=Nat.mod_lt _ (by omega)
 generalize f%γ.nodes=s at hs
 generalize t%γ.nodes=w at hw
 generalize aq .i64 a=a'
 replace S:=S.call g
 simp only [BS,Tryz.FFtl5]
 refine ag aF S ?_;clear S;intro h b6 S n_b6
 simp only [BS,LB,Nat.reduceLT,Nat.reduceEqDiff]
 refine aC (S.store (i:=0) rfl Tryz.s28 (by intro x e;cases e) rfl rfl (lbt rfl) ono) ?_
 clear S;rintro h ⟨S,mo⟩;clear mo
 simp only [LC,an,lay,zR,zQ,Nat.reduceAdd]at S
 have R3:=S.row (b:=b3) m1
 have R6:=S.row (b:=b6) m0
 have k6:=R6.lt S.ok
 have gB:=S.gr
 have okB:=S.ok
 rename Hp=>hB1
 clear S
 have S:=Si okB
 simp only [BS]
 refine aD (nU (ord:=[9,0,1,2,3,4,5,6,7,8,10,11]) rfl rfl (by simp only [gk,reix,fZ,Xt,Xu,List.map_toArray,XA,XF,Nat.reduceBEq,cond_true,cond_false];exact rfl)) (q:=1) (ps:=[(0,6),(4,5),(0,4)]) (by kernel_rfl) ?_
 simp only [BS,LB,cls,Nat.reducePow,Nat.reduceDiv,Nat.reduceMod,Nat.reduceLeDiff,Tryz.FFtl5]
 refine dC aF S ?_;clear S;intro h b7 S n_b7 e_b7
 have p6:=S.fr.n
 have k7:=(S.row (b:=b7) m0).lt S.ok
 simp only [BS,LB,cls,Nat.reduceLT,Nat.reduceEqDiff,Nat.reduceAdd,Nat.reducePow,Nat.reduceDiv,Nat.reduceMod,Nat.reduceLeDiff]
 refine dp (tabOf_ok S.ok hγ (hn.gr (gB.trans S.gr)) (sR.gr (gB.trans S.gr)) (by omega)) ?_
 rintro pt h ⟨g5,hT⟩
 replace hT:=(hT.resolve_left (fun h=>h.1 hl)).2
 obtain⟨bt,et⟩: ∃b,pt=ptrTo b:=by obtain⟨b,_,_,_,e,_⟩:=hT.ex;exact⟨b,e⟩
 subst et
 have e1:=aw g5 (show b6<_ by omega)
 have e2:=aw g5 k7
 have q5:=g5.n
 replace S:=S.call g5
 have l6:=(R6.gr S.gr).load (o:=0) (n:=4) (zV 4)
 simp only [zQ,zR]at l6
 simp only [BS,LB,cls,Nat.reduceLT,Nat.reduceEqDiff,Nat.reduceAdd,Nat.reducePow,Nat.reduceDiv,Nat.reduceMod,Nat.reduceLeDiff,Tryz.FFtl5,l6]
 refine dp (zJ S.ok hγ (hn.gr (gB.trans S.gr)) hT (fun i _=>toR_len) (fun i _=>frR_len) (by omega) hl1 bG hs hw) ?_
 rintro r h ⟨g6,c,d,vA,vB',vE,rfl,nV,hr⟩
 have eT:=fun {s:Nat} (hs:s<γ.nodes) (v:Nat)=>exTo okA hγ hn hs v
 have eF:=fun {s:Nat} (hs:s<γ.nodes) (v:Nat)=>exFrom okA hγ hn hs v
 have e3:=aw g6 (show b6<_ by omega)
 have e4:=aw g6 (show b7<_ by omega)
 have fAE:Fl vA/\Fl vB'/\Fl vE:=by
  rcases hr with⟨_,_,_,rfl,rfl,rfl⟩|⟨_,τ,_,sE,⟨_,_,_,rfl,rfl⟩|⟨_,_,_,sA,sB⟩⟩
  . exact⟨bL,bL,bL⟩
  . exact⟨bL,bL,sE.fl⟩
  . exact⟨sA.fl,sB.fl,sE.fl⟩
 obtain⟨fA,fB',fE⟩:=fAE
 have hev: ∃ev:List Ev2,aA h 4 fd vE ev/\ev.length<=4800/\ ∀e∈ev,e.kind=0->(e.side=false->dOf (seen γ.arcs Arc.s Arc.t) s e.id<=e.lab/\(dOf (seen γ.arcs Arc.s Arc.t) s e.id<FAR->dOf (seen γ.arcs Arc.t Arc.s) w e.id<FAR->e.lab=dOf (seen γ.arcs Arc.s Arc.t) s e.id))/\
  (e.side=true->dOf (seen γ.arcs Arc.t Arc.s) w e.id<=e.lab/\(dOf (seen γ.arcs Arc.s Arc.t) s e.id<FAR->dOf (seen γ.arcs Arc.t Arc.s) w e.id<FAR->e.lab=dOf (seen γ.arcs Arc.t Arc.s) w e.id)):=by
  rcases hr with⟨_,_,_,_,_,rfl⟩|⟨_,τ,he,sE,_⟩
  . exact⟨[],.inl ⟨rfl,rfl⟩,zT _,fun e he=>by cases he⟩
  . obtain⟨h1,h2⟩:=yj eT eF hl hγ hs hw (al:=fun _=>true) (fun _=>rfl) (fun v hv=>twL_at hv) he
    exact⟨τ.ev,sE,h1,h2⟩
 obtain⟨ev,sE,lev,hev⟩:=hev
 replace S:=S.call g6
 simp only [BS,LB,cls,Nat.reduceLT,Nat.reduceEqDiff,Nat.reduceAdd,Nat.reducePow,Nat.reduceDiv,Nat.reduceMod,Nat.reduceLeDiff,ansV]
 refine dK (S.store (i:=0) rfl Xn (by intro x e;cases e) rfl (by simp only [an,Xd,Xf,fA.2.1,fB'.2.1,zP];rfl) (lbt rfl) ono) ?_
 clear S;rintro h7 ⟨S,mo⟩
 simp only [LC,an,lay,zR,zQ,Nat.reduceAdd]at S
 simp only [BS,LB,cls,Nat.reduceLT,Nat.reduceEqDiff,Nat.reduceAdd,Nat.reducePow,Nat.reduceDiv,Nat.reduceMod,Nat.reduceLeDiff]
 refine⟨by simp only [bH,bO,bg,bV,bD,ne_eq,not_false_eq_true,bU,cu,bJ,bF,cB,dt,aS,Nat.reduceLT,Nat.reduceEqDiff,reduceIte,zP,ae,mR,aG e1,aB e1,aG e2,aB e2,aG e3,aB e3,aG e4,aB e4,<-e_b7],?_⟩
 have R7:=S.row (b:=b7) m0
 have sE7:=sE.mo mo (fun y hy e=>by have:=nV y (.inr (.inr hy));omega)
 have gC:=gB.trans S.gr
 replace R6:=R6.gr S.gr
 replace R3:=R3.gr S.gr
 have okC:=S.ok
 have k6':=R6.lt okC
 have k7':=R7.lt okC
 clear S mo e1 e2 e3 e4
 rename Hp=>hC
 have S:=Si okC
 have ls:=sy okC hγ (ga.gr gC) (s:=s) hs (b:=false) (A':=seen γ.arcs Arc.s Arc.t) rfl (fun v _=>eF hs v)
 unfold fW at ls
 have l34:=R3.load (o:=0) (n:=4) (zV 4)
 simp only [zQ,zR]at l34
 have l61:=R6.load1 (o:=1) rfl
 have l62:=R6.load1 (o:=2) rfl
 refine aD (aM rfl) (q:=0) (ps:=[(3,6),(3,4)]) (by kernel_rfl) ?_
 simp only [BS,LB,cls,Nat.reduceLT,Nat.reduceEqDiff,Nat.reduceAdd,Nat.reducePow,Nat.reduceDiv,Nat.reduceMod,Nat.reduceLeDiff,Tryz.FFtl5,l34,l61]
 refine dp ls ?_
 rintro vF h ⟨g8,sF,nF⟩
 have e1:=aw g8 k6'
 have e3:=aw g8 (R3.lt okC)
 have q8:=g8.n
 replace S:=S.call g8
 have ls2:=sy S.ok hγ ((ga.gr gC).gr g8) (s:=w) hw (b:=true) (A':=seen γ.arcs Arc.t Arc.s) rfl (fun v _=>eT hw v)
 unfold fW at ls2
 simp only [BS,LB,cls,Nat.reduceLT,Nat.reduceEqDiff,Nat.reduceAdd,Nat.reducePow,Nat.reduceDiv,Nat.reduceMod,Nat.reduceLeDiff,Tryz.FFtl5,S.gr.load l34,S.gr.load l62]
 refine dp ls2 ?_
 rintro vT h ⟨g9,sT,nT⟩
 have e2:=aw g9 (show b6<_ by omega)
 have e4:=aw g9 (show b3<_ by have:=R3.lt okC;omega)
 replace S:=S.call g9
 simp only [BS,LB,cls,Nat.reduceLT,Nat.reduceEqDiff,Nat.reduceAdd,Nat.reducePow,Nat.reduceDiv,Nat.reduceMod,Nat.reduceLeDiff]
 refine⟨by simp only [bH,bO,bg,bV,bD,ne_eq,not_false_eq_true,bU,cu,bJ,bF,cB,dt,aS,Nat.reduceLT,Nat.reduceEqDiff,reduceIte,zP,ae,aG e1,aB e1,aG e2,aB e2,aG e3,aB e3,aG e4,aB e4],?_⟩
 have gD:=gC.trans S.gr
 replace sE7:=sE7.gr S.gr
 replace sF:=sF.gr g9
 replace R3:=R3.gr S.gr
 have okD:=S.ok
 clear S
 rename Hp=>hD
 refine bA (fun(v:Nat) ρ h=>v<=γ.nodes/\Gr hD h/\ρ 3=ptrTo b3/\ρ 8=vE/\ρ 9=vF/\ρ 10=vT/\ρ 11=.int .i64 v) (fun v=>γ.nodes-v) ?_ 0 _ _ ?_
 . intro v ih ρ h ⟨hv,g,r3,r8,r9,r10,r11⟩
   have S:=Si g.ok
   have wv:aq .i64 ((v:Int)+1)=((v+1:Nat):Int):=by rw [wrap64]<;>omega
   have l30:=(R3.gr g).load1 (o:=0) rfl
   by_cases hlt:v<γ.nodes
   . simp only [BS,LB,Nat.reduceLT,Nat.reduceEqDiff,Tryz.FFtl5,r3,r8,r11,aP,hlt,l30]
     have t0:Ret zM 19 [vE,.int .i64 0,.int .i64 (v:Nat)] h _:=oP (sd:=false) S.ok (sE7.gr g) (by omega) (v:=v)
     refine step_ret t0 ?_
     rintro r h1 ⟨g1,x,b,rfl,hx⟩
     replace S:=S.call g1
     simp only [BS,LB,Nat.reduceLT,Nat.reduceEqDiff,r8,r11]
     have t1:Ret zM 19 [vE,.int .i64 1,.int .i64 (v:Nat)] h1 _:=oP (sd:=true) S.ok ((sE7.gr g).gr g1) (by omega) (v:=v)
     refine step_ret t1 ?_
     rintro r h2 ⟨g2,y,c,rfl,hy⟩
     replace S:=S.call g2
     obtain⟨cF,oF,xF,yF⟩:=((sF.gr g).gr S.gr).ix (kd:=.i64) (dV .i64) (i:=v) (by rw [jn];exact hlt)
     obtain⟨cT,oT,xT,yT⟩:=((sT.gr g).gr S.gr).ix (kd:=.i64) (dV .i64) (i:=v) (by rw [jn];exact hlt)
     have eDF:(jh (seen γ.arcs Arc.s Arc.t) γ.nodes s)[v]'(by rw [jn];exact hlt)=(dOf (seen γ.arcs Arc.s Arc.t) s v:Nat):=by simp [jh]
     have eDT:(jh (seen γ.arcs Arc.t Arc.s) γ.nodes w)[v]'(by rw [jn];exact hlt)=(dOf (seen γ.arcs Arc.t Arc.s) w v:Nat):=by simp [jh]
     rw [eDF]at yF
     rw [eDT]at yT
     replace yF:h2.load cF oF 1=some [.int .i64 ((dOf (seen γ.arcs Arc.s Arc.t) s v:Nat):Int)]:=yF
     replace yT:h2.load cT oT 1=some [.int .i64 ((dOf (seen γ.arcs Arc.t Arc.s) w v:Nat):Int)]:=yT
     have kx:b=true->dOf (seen γ.arcs Arc.s Arc.t) s v<=x/\(dOf (seen γ.arcs Arc.s Arc.t) s v<FAR->dOf (seen γ.arcs Arc.t Arc.s) w v<FAR->x=dOf (seen γ.arcs Arc.s Arc.t) s v):=fun hb=>by
      rcases hx with⟨_,e,he,hk,hsd,hid,rfl⟩|hx
      . have:=(hev e he hk).1 hsd
        rw [hid]at this
        exact this
      . rw [hb]at hx;cases hx
     have ky:c=true->dOf (seen γ.arcs Arc.t Arc.s) w v<=y/\(dOf (seen γ.arcs Arc.s Arc.t) s v<FAR->dOf (seen γ.arcs Arc.t Arc.s) w v<FAR->y=dOf (seen γ.arcs Arc.t Arc.s) w v):=fun hc=>by
      rcases hy with⟨_,e,he,hk,hsd,hid,rfl⟩|hy
      . have:=(hev e he hk).2 hsd
        rw [hid]at this
        exact this
      . rw [hc]at hy;cases hy
     clear hx hy eDF eDT
     generalize dOf (seen γ.arcs Arc.s Arc.t) s v=DF at yF kx ky
     generalize dOf (seen γ.arcs Arc.t Arc.s) w v=DT at yT kx ky
     rcases b with _|_<;>rcases c with _|_<;>by_cases f1:DF<FAR<;>by_cases f2:DT<FAR
     . have i1:(DF:Int)<72057594037927936:=by omega
       have i2:(DT:Int)<72057594037927936:=by omega
       simp only [BS,LB,Nat.reduceLT,Nat.reduceEqDiff,Tryz.FFtl5,r9,r10,r11,wv,xF,yF,xT,yT,i1,i2]
       exact ih (v+1) _ _ (by omega) ⟨by omega,g.trans S.gr,by simp [aa,r3,ae],by simp [aa,r8],by simp [aa,r9],by simp [aa,r10],by simp [aa]⟩
     . have i1:(DF:Int)<72057594037927936:=by omega
       have i2: ¬(DT:Int)<72057594037927936:=by omega
       simp only [BS,LB,Nat.reduceLT,Nat.reduceEqDiff,Tryz.FFtl5,r9,r10,r11,wv,xF,yF,xT,yT,i1,i2]
       exact ih (v+1) _ _ (by omega) ⟨by omega,g.trans S.gr,by simp [aa,r3,ae],by simp [aa,r8],by simp [aa,r9],by simp [aa,r10],by simp [aa]⟩
     . have i1: ¬(DF:Int)<72057594037927936:=by omega
       have i2:(DT:Int)<72057594037927936:=by omega
       simp only [BS,LB,Nat.reduceLT,Nat.reduceEqDiff,Tryz.FFtl5,r9,r11,wv,xF,yF,i1]
       exact ih (v+1) _ _ (by omega) ⟨by omega,g.trans S.gr,by simp [aa,r3,ae],by simp [aa,r8],by simp [aa,r9],by simp [aa,r10],by simp [aa]⟩
     . have i1: ¬(DF:Int)<72057594037927936:=by omega
       have i2: ¬(DT:Int)<72057594037927936:=by omega
       simp only [BS,LB,Nat.reduceLT,Nat.reduceEqDiff,Tryz.FFtl5,r9,r11,wv,xF,yF,i1]
       exact ih (v+1) _ _ (by omega) ⟨by omega,g.trans S.gr,by simp [aa,r3,ae],by simp [aa,r8],by simp [aa,r9],by simp [aa,r10],by simp [aa]⟩
     . have i1:(DF:Int)<72057594037927936:=by omega
       have i2:(DT:Int)<72057594037927936:=by omega
       have l1: ¬(y:Int)<(DT:Int):=by have:=(ky rfl).1;omega
       have l2:((y:Int)=(DT:Int))=True:=eq_true (by have:=(ky rfl).2 f1 f2;omega)
       simp only [BS,LB,Nat.reduceLT,Nat.reduceEqDiff,Tryz.FFtl5,r9,r10,r11,wv,xF,yF,xT,yT,i1,i2,l1,l2]
       exact ih (v+1) _ _ (by omega) ⟨by omega,g.trans S.gr,by simp [aa,r3,ae],by simp [aa,r8],by simp [aa,r9],by simp [aa,r10],by simp [aa]⟩
     . have i1:(DF:Int)<72057594037927936:=by omega
       have i2: ¬(DT:Int)<72057594037927936:=by omega
       have l1: ¬(y:Int)<(DT:Int):=by have:=(ky rfl).1;omega
       simp only [BS,LB,Nat.reduceLT,Nat.reduceEqDiff,Tryz.FFtl5,r9,r10,r11,wv,xF,yF,xT,yT,i1,i2,l1]
       exact ih (v+1) _ _ (by omega) ⟨by omega,g.trans S.gr,by simp [aa,r3,ae],by simp [aa,r8],by simp [aa,r9],by simp [aa,r10],by simp [aa]⟩
     . have i1: ¬(DF:Int)<72057594037927936:=by omega
       have i2:(DT:Int)<72057594037927936:=by omega
       have l1: ¬(y:Int)<(DT:Int):=by have:=(ky rfl).1;omega
       simp only [BS,LB,Nat.reduceLT,Nat.reduceEqDiff,Tryz.FFtl5,r9,r10,r11,wv,xF,yF,xT,yT,i1,l1]
       exact ih (v+1) _ _ (by omega) ⟨by omega,g.trans S.gr,by simp [aa,r3,ae],by simp [aa,r8],by simp [aa,r9],by simp [aa,r10],by simp [aa]⟩
     . have i1: ¬(DF:Int)<72057594037927936:=by omega
       have i2: ¬(DT:Int)<72057594037927936:=by omega
       have l1: ¬(y:Int)<(DT:Int):=by have:=(ky rfl).1;omega
       simp only [BS,LB,Nat.reduceLT,Nat.reduceEqDiff,Tryz.FFtl5,r9,r10,r11,wv,xF,yF,xT,yT,i1,l1]
       exact ih (v+1) _ _ (by omega) ⟨by omega,g.trans S.gr,by simp [aa,r3,ae],by simp [aa,r8],by simp [aa,r9],by simp [aa,r10],by simp [aa]⟩
     . have i1:(DF:Int)<72057594037927936:=by omega
       have i2:(DT:Int)<72057594037927936:=by omega
       have j1: ¬(x:Int)<(DF:Int):=by have:=(kx rfl).1;omega
       have j2:((x:Int)=(DF:Int))=True:=eq_true (by have:=(kx rfl).2 f1 f2;omega)
       simp only [BS,LB,Nat.reduceLT,Nat.reduceEqDiff,Tryz.FFtl5,r9,r10,r11,wv,xF,yF,xT,yT,i1,i2,j1,j2]
       exact ih (v+1) _ _ (by omega) ⟨by omega,g.trans S.gr,by simp [aa,r3,ae],by simp [aa,r8],by simp [aa,r9],by simp [aa,r10],by simp [aa]⟩
     . have i1:(DF:Int)<72057594037927936:=by omega
       have i2: ¬(DT:Int)<72057594037927936:=by omega
       have j1: ¬(x:Int)<(DF:Int):=by have:=(kx rfl).1;omega
       simp only [BS,LB,Nat.reduceLT,Nat.reduceEqDiff,Tryz.FFtl5,r9,r10,r11,wv,xF,yF,xT,yT,i1,i2,j1]
       exact ih (v+1) _ _ (by omega) ⟨by omega,g.trans S.gr,by simp [aa,r3,ae],by simp [aa,r8],by simp [aa,r9],by simp [aa,r10],by simp [aa]⟩
     . have i1: ¬(DF:Int)<72057594037927936:=by omega
       have i2:(DT:Int)<72057594037927936:=by omega
       have j1: ¬(x:Int)<(DF:Int):=by have:=(kx rfl).1;omega
       simp only [BS,LB,Nat.reduceLT,Nat.reduceEqDiff,Tryz.FFtl5,r9,r11,wv,xF,yF,i1,j1]
       exact ih (v+1) _ _ (by omega) ⟨by omega,g.trans S.gr,by simp [aa,r3,ae],by simp [aa,r8],by simp [aa,r9],by simp [aa,r10],by simp [aa]⟩
     . have i1: ¬(DF:Int)<72057594037927936:=by omega
       have i2: ¬(DT:Int)<72057594037927936:=by omega
       have j1: ¬(x:Int)<(DF:Int):=by have:=(kx rfl).1;omega
       simp only [BS,LB,Nat.reduceLT,Nat.reduceEqDiff,Tryz.FFtl5,r9,r11,wv,xF,yF,i1,j1]
       exact ih (v+1) _ _ (by omega) ⟨by omega,g.trans S.gr,by simp [aa,r3,ae],by simp [aa,r8],by simp [aa,r9],by simp [aa,r10],by simp [aa]⟩
     . have i1:(DF:Int)<72057594037927936:=by omega
       have i2:(DT:Int)<72057594037927936:=by omega
       have j1: ¬(x:Int)<(DF:Int):=by have:=(kx rfl).1;omega
       have j2:((x:Int)=(DF:Int))=True:=eq_true (by have:=(kx rfl).2 f1 f2;omega)
       have l1: ¬(y:Int)<(DT:Int):=by have:=(ky rfl).1;omega
       have l2:((y:Int)=(DT:Int))=True:=eq_true (by have:=(ky rfl).2 f1 f2;omega)
       simp only [BS,LB,Nat.reduceLT,Nat.reduceEqDiff,Tryz.FFtl5,r9,r10,r11,wv,xF,yF,xT,yT,i1,i2,j1,j2,l1,l2]
       exact ih (v+1) _ _ (by omega) ⟨by omega,g.trans S.gr,by simp [aa,r3,ae],by simp [aa,r8],by simp [aa,r9],by simp [aa,r10],by simp [aa]⟩
     . have i1:(DF:Int)<72057594037927936:=by omega
       have i2: ¬(DT:Int)<72057594037927936:=by omega
       have j1: ¬(x:Int)<(DF:Int):=by have:=(kx rfl).1;omega
       have l1: ¬(y:Int)<(DT:Int):=by have:=(ky rfl).1;omega
       simp only [BS,LB,Nat.reduceLT,Nat.reduceEqDiff,Tryz.FFtl5,r9,r10,r11,wv,xF,yF,xT,yT,i1,i2,j1,l1]
       exact ih (v+1) _ _ (by omega) ⟨by omega,g.trans S.gr,by simp [aa,r3,ae],by simp [aa,r8],by simp [aa,r9],by simp [aa,r10],by simp [aa]⟩
     . have i1: ¬(DF:Int)<72057594037927936:=by omega
       have i2:(DT:Int)<72057594037927936:=by omega
       have j1: ¬(x:Int)<(DF:Int):=by have:=(kx rfl).1;omega
       have l1: ¬(y:Int)<(DT:Int):=by have:=(ky rfl).1;omega
       simp only [BS,LB,Nat.reduceLT,Nat.reduceEqDiff,Tryz.FFtl5,r9,r10,r11,wv,xF,yF,xT,yT,i1,j1,l1]
       exact ih (v+1) _ _ (by omega) ⟨by omega,g.trans S.gr,by simp [aa,r3,ae],by simp [aa,r8],by simp [aa,r9],by simp [aa,r10],by simp [aa]⟩
     . have i1: ¬(DF:Int)<72057594037927936:=by omega
       have i2: ¬(DT:Int)<72057594037927936:=by omega
       have j1: ¬(x:Int)<(DF:Int):=by have:=(kx rfl).1;omega
       have l1: ¬(y:Int)<(DT:Int):=by have:=(ky rfl).1;omega
       simp only [BS,LB,Nat.reduceLT,Nat.reduceEqDiff,Tryz.FFtl5,r9,r10,r11,wv,xF,yF,xT,yT,i1,j1,l1]
       exact ih (v+1) _ _ (by omega) ⟨by omega,g.trans S.gr,by simp [aa,r3,ae],by simp [aa,r8],by simp [aa,r9],by simp [aa,r10],by simp [aa]⟩
   . simp only [BS,LB,Nat.reduceLT,Nat.reduceEqDiff,Tryz.FFtl5,r3,r11,aP,hlt,l30]
     refine au (yS S.ok) ?_
     intro h10 g10;replace S:=S.call g10
     simp only [BS,LB,ac,Nat.reduceLT,Nat.reduceEqDiff]
     exact g0.trans (gD.trans (g.trans S.gr))
 . exact⟨zT _,Gr.refl okD,by simp [aa,ae],by simp [aa],by simp [aa],by simp [aa],by simp [aa]⟩
end Go.Ab
end
section
namespace Go.Ab
open Go.ChangeShapes Go.WideShapes Go.RowKit
theorem rowAt_le{P:Program}{fits:TypeId->Bool}{d:Nat}{e:TypeId}{count off n:Nat}(h:rowAt P fits d e count off n=true):off<=count*P.cellsOf e:=by
 cases d with
 |zero=>cases h
 | succ d=>
   unfold rowAt at h
   simp only []at h
   split at h
   . cases h
   . rename_i hs
     have hpos:0<P.cellsOf e:=by omega
     have hdm:=Nat.div_add_mod off (P.cellsOf e)
     simp only [Bool.or_eq_true,Bool.and_eq_true,beq_iff_eq,decide_eq_true_eq]at h
     rcases h with⟨⟨h1,h2⟩,_⟩|⟨h1,_⟩
     . have:P.cellsOf e*(off/P.cellsOf e)<=P.cellsOf e*count:=Nat.mul_le_mul_left _ (by omega)
       rw [Nat.mul_comm count];omega
     . have:P.cellsOf e*(off/P.cellsOf e+1)<=P.cellsOf e*count:=Nat.mul_le_mul_left _ (by omega)
       have hlt:=Nat.mod_lt off hpos
       rw [Nat.mul_add,Xj]at this
       rw [Nat.mul_comm count];omega
theorem liesAt_le{P:Program}{d:Nat}: ∀{e:TypeId} {count off:Nat} {u:TypeId} {n:Nat},liesAt P d e count off u n=true->off<=count*P.cellsOf e:=by
 induction d with
 |zero=>intro e count off u n h;cases h
 | succ d ih=>
   intro e count off u n h
   unfold liesAt at h
   rw [Bool.or_eq_true]at h
   rcases h with h|h
   . exact rowAt_le h
   . split at h
     . exact ih h
     . cases h
theorem has_W{P:Program}{W:World}{r:_root_.Go.Reach}{base:Nat}{a:Addr}{e:TypeId}{n:Nat}(h:W.has P r base a e n):a.spot=none/\a.block<W.heap.size/\ ∃l,(hpW W).load (a.block+16) a.off 0=some l:=by
 obtain⟨_,hsp,row,cells,hsh,hl⟩:=h
 have hle:=liesAt_le hl
 have hle2:a.off<=cells:=zS hle (Nat.div_mul_le_self _ _)
 unfold World.shape? at hsh
 split at hsh
 next cs el fz ho=>
  cases hsh
  have hlt:=(Array.getElem?_eq_some_iff.1 ho).1
  have hr:Row (hpW W) (a.block+16) (cs.toList.map (ji W.heap.size)) 0:=⟨_,_,by rw [qj,ho];rfl,Tr.sized_ofList _,fun j=>Tr.get_ofList _ j⟩
  exact⟨hsp,hlt,_,hr.load (o:=a.off) (n:=0) (by simpa using hle2)⟩
 . cases hsh
section
variable{H:Type}{enc:TypeId×Value->H}{P:Program}
theorem mT{W:World}{base fuel:Nat}{s e:TypeId}{k:IntKind}{c:Value}{sp:Nat->Bool}{hd:Bool}{x:DataW H×List MemPlace}(hs:P.underlying s=some (.slice e))(he:P.underlying e=some (.int k))(hc:P.cellsOf e=1)
 (hok:Cell.okWide P W .any base s c) (h:DataW.trod enc P W 0 sp hd fuel s [c]=some x): ∃zs:List Int,SlW (hpW W) k (ji W.heap.size c) zs/\(∀z∈zs,(Lit.int k z).wf=true)/\zs.length<=9223372036854775807:=by
 rcases Go.ChangeShapes.open_ints hs he hc h with⟨e1,_⟩|⟨a,len,cap,zs,e1,hb,hl,hm,hz,_,hcell,hwf⟩
 . cases e1
   exact⟨[],.inl ⟨rfl,rfl⟩,fun z hz=>(by cases hz),by simp⟩
 . cases e1
   unfold Cell.okWide at hok
   rw [hs]at hok
   simp only [Cell.ok,hs]at hok
   obtain⟨hle1,hmax,hhas⟩:=hok
   obtain⟨hsp,hlt,h0⟩:=has_W hhas
   have hlz:len<=zs.length:=by rw [hz];split<;>omega
   refine⟨zs.take len,.inr ⟨a.block+16,a.off,cap,?_,?_,?_⟩,fun z hz=>hwf z (List.mem_of_mem_take hz),by
    have:(cap:Int)<=9223372036854775807:=hmax
    rw [Xb];omega⟩
   . rw [Xb,Xx hlz]
     simp only [ji,if_pos hl,if_pos (And.intro hsp hlt)]
   . rw [Xb,Xx hlz];exact hl
   . rw [Xb,Xx hlz,Xj]
     rw [load_join (f:=fun i=>.int k (zs.getD i 0)) h0 (fun i hi=>load_W hsp (hcell i (by omega)))]
     congr 1
     have e4: ∀l:List Int,l.flatMap (encI k)=l.map fun x=>.int k x:=fun l=>by
      rw [Xh,XC,Xh];rfl
     rw [e4]
     refine List.ext_getElem? fun i=>?_
     rw [zY,zY,List.getElem?_take]
     by_cases hi:i<len
     . rw [if_pos hi,XD hi,zO (show i<zs.length by omega)]
       simp [zN,show i<zs.length by omega]
     . rw [if_neg hi,List.getElem?_eq_none (by simpa using hi)];rfl
theorem open_slV{W:World}{base:Nat}{s e:TypeId}{k:IntKind}{v:Value}{sp:Nat->Bool}{hd:Bool}{d:DataW H}{p:List MemPlace}(hs:P.underlying s=some (.slice e))(he:P.underlying e=some (.int k))(hc:P.cellsOf e=1)
 (hval:Value.okWide P W .any base s v) (h:DataW.Trod enc P W 0 sp hd s v d p): ∃zs:List Int,SlW (hpW W) k (absA W.heap.size v) zs/\(∀z∈zs,(Lit.int k z).wf=true)/\zs.length<=9223372036854775807:=by
 unfold Value.okWide at hval
 rw [hs]at hval
 obtain⟨fuel,h⟩:=h
 have hc0: ∀l:Array Value,v≠ .agg l:=by
  rintro l rfl
  simp only [Cell.okWide,hs,Cell.ok]at hval
 have hcs:v.cells.toList=[v]:=by cases v<;>first|rfl|exact absurd rfl (hc0 _)
 rw [hcs]at h
 have ha:absA W.heap.size v=ji W.heap.size v:=by cases v<;>first|rfl|exact absurd rfl (hc0 _)
 rw [ha]
 exact mT hs he hc hval h
theorem open_sl2{W:World}{base:Nat}{t s e:TypeId}{k:IntKind}{f0 f1:Field}{v:Value}{sp:Nat->Bool}{hd:Bool}{d:DataW H}{p:List MemPlace}(ht:P.underlying t=some (.struct #[f0,f1]))(o0:f0.offset=0)(o1:f1.offset=1)(t0:f0.type=s)(t1:f1.type=s)
 (hs:P.underlying s=some (.slice e)) (he:P.underlying e=some (.int k)) (hc:P.cellsOf e=1) (hcs:P.cellsOf s=1) (hct:P.cellsOf t=2) (hts:P.cellTypes P.depth t=some [s,s])
 (hval:Value.okWide P W .any base t v) (h:DataW.Trod enc P W 0 sp hd t v d p):
 ∃(c0 c1:Value) (xs ys:List Int),v=.agg #[c0,c1]/\SlW (hpW W) k (ji W.heap.size c0) xs/\SlW (hpW W) k (ji W.heap.size c1) ys/\(∀z∈xs,(Lit.int k z).wf=true)/\ ∀z∈ys,(Lit.int k z).wf=true:=by
 unfold Value.okWide at hval
 rw [ht]at hval
 obtain⟨cs,rfl,hsz,ts,e1,_,hrow⟩:=hval
 rw [hts]at e1
 cases e1
 rw [hct]at hsz
 obtain⟨l⟩:=cs
 simp only [List.size_toArray]at hsz
 obtain⟨c0,c1,rfl⟩:=len2 hsz
 obtain⟨fuel,h⟩:=h
 obtain⟨y0,y1,n,_,_,h1,h2⟩:=Go.ChangeShapes.trod_struct2 ht h
 rw [o0,t0,hcs]at h1
 rw [o1,t1,hcs]at h2
 obtain⟨u0,e0,k0⟩:=hrow 0 c0 rfl
 obtain⟨u1,e1,k1⟩:=hrow 1 c1 rfl
 cases e0
 cases e1
 obtain⟨xs,hx,wx,_⟩:=mT hs he hc k0 h1
 obtain⟨ys,hy,wy,_⟩:=mT hs he hc k1 h2
 exact⟨c0,c1,xs,ys,rfl,hx,hy,wx,wy⟩
end
end Go.Ab

end
section
namespace Go.Ab
open Go.ChangeShapes Go.WideShapes Go.RowKit
section
variable{H:Type}{enc:TypeId×Value->H}{P:Program}
theorem len6g{α:Type}{l:List α}(h:l.length=6): ∃a b c d e f,l=[a,b,c,d,e,f]:=by
 match l,h with
 | [a,b,c,d,e,f],_=>exact⟨a,b,c,d,e,f,rfl⟩
theorem open_d20{W:World}{base:Nat}{t s0 s5 e0 e5 i2 i4:TypeId}{f0 f1 f2 f3 f4 f5:Field}{v:Value}{sp:Nat->Bool}{hd:Bool}{d:DataW H}{p:List MemPlace}(ht:P.underlying t=some (.struct #[f0,f1,f2,f3,f4,f5]))(o0:f0.offset=0)(o1:f1.offset=1)(o2:f2.offset=2)(o3:f3.offset=3)(o4:f4.offset=4)(o5:f5.offset=5)
 (t0:f0.type=s0) (t1:f1.type=s0) (t2:f2.type=i2) (t3:f3.type=i2) (t4:f4.type=i4) (t5:f5.type=s5) (h0:P.underlying s0=some (.slice e0)) (h2:P.underlying i2=some (.int .u8)) (h4:P.underlying i4=some (.int .i8)) (h5:P.underlying s5=some (.slice e5))
 (g0:P.underlying e0=some (.int .u8)) (g5:P.underlying e5=some (.int .i64)) (c0:P.cellsOf e0=1) (c5:P.cellsOf e5=1) (d0:P.cellsOf s0=1) (d2:P.cellsOf i2=1) (d4:P.cellsOf i4=1) (d5:P.cellsOf s5=1) (hct:P.cellsOf t=6) (hts:P.cellTypes P.depth t=some [s0,s0,i2,i2,i4,s5])
 (hval:Value.okWide P W .any base t v) (h:DataW.Trod enc P W 0 sp hd t v d p):
 ∃ (a b e:Value) (x y z:Int) (B M N:List Int),v=.agg #[a,b,.int .u8 x,.int .u8 y,.int .i8 z,e]/\SlW (hpW W) .u8 (ji W.heap.size a) B/\SlW (hpW W) .u8 (ji W.heap.size b) M/\SlW (hpW W) .i64 (ji W.heap.size e) N/\
   (∀z∈B,(Lit.int .u8 z).wf=true)/\(∀z∈M,(Lit.int .u8 z).wf=true)/\(Lit.int .u8 x).wf=true/\(Lit.int .u8 y).wf=true/\(Lit.int .i8 z).wf=true/\M.length<=9223372036854775807:=by
 unfold Value.okWide at hval
 rw [ht]at hval
 obtain⟨cs,rfl,hsz,ts,e1,_,hrow⟩:=hval
 rw [hts]at e1
 cases e1
 rw [hct]at hsz
 obtain⟨l⟩:=cs
 simp only [List.size_toArray]at hsz
 obtain⟨a,b,x,y,z,e,rfl⟩:=len6g hsz
 obtain⟨fuel,h⟩:=h
 obtain⟨xs,n,_,_,hl,hlen,hf⟩:=DataW.trod_struct ht h
 obtain⟨y0,y1,y2,y3,y4,y5,rfl⟩:=len6g (by rw [hlen];rfl:xs.length=6)
 have q0:=hf 0 f0 rfl
 have q1:=hf 1 f1 rfl
 have q2:=hf 2 f2 rfl
 have q3:=hf 3 f3 rfl
 have q4:=hf 4 f4 rfl
 have q5:=hf 5 f5 rfl
 rw [o0,t0,d0]at q0
 rw [o1,t1,d0]at q1
 rw [o2,t2,d2]at q2
 rw [o3,t3,d2]at q3
 rw [o4,t4,d4]at q4
 rw [o5,t5,d5]at q5
 have r: ∀(j:Nat) t v,[s0,s0,i2,i2,i4,s5][j%6]? =some t->[a,b,x,y,z,e][j]? =some v->Cell.okWide P W .any base t v:=fun j t v h1 h2=>by
  obtain⟨u,h3,h4⟩:=hrow j v (by simpa using h2)
  obtain rfl:t=u:=Option.some.inj (h1.symm.trans h3)
  exact h4
 obtain⟨B,hB,wB,_⟩:=mT h0 g0 c0 (r 0 s0 a rfl rfl) q0
 obtain⟨M,hM,wM,lM⟩:=mT h0 g0 c0 (r 1 s0 b rfl rfl) q1
 obtain⟨N,hN,wN,lN⟩:=mT h5 g5 c5 (r 5 s5 e rfl rfl) q5
 obtain⟨u,e2,_,wu⟩:=DataW.trod_int h2 q2
 obtain⟨v,e3,_,wv⟩:=DataW.trod_int h2 q3
 obtain⟨w,e4,_,ww⟩:=DataW.trod_int h4 q4
 cases e2
 cases e3
 cases e4
 exact⟨a,b,e,u,v,w,B,M,N,rfl,hB,hM,hN,wB,wM,wu,wv,ww,lM⟩
end
end Go.Ab

end

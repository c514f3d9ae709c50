/- Nets, cells, flags: what the functions do (part 5). -/
import Derived.Test.YtfdopodkngggfaaGreatDoorNetD
import Derived.ChangeSlices
import Derived.ChangeArms
import Derived.ChangeSame
open Go.Ab.Tryz renaming abEnv->zM,s47->Xw,s103->XA,u33->XD,s3->XE,e3E->XM,s28->XN
open List renaming getD_eq_getElem?_getD->zN,getElem?_eq_getElem->zV,drop->zX,take->zY,take_succ_cons->Xb,all_cons->Xe,all_nil->Xf,drop_zero->Xh,take_zero->Xi,range->Xj,getElem?_map->Xk,getElem?_cons_zero->Xl,getElem?_cons_succ->Xm,length_take->Xn,map_cons->Xo,map_nil->Xp,getElem_mem->Xq,filterMap_nil->Xr,flatMap_eq_foldl->Xt,map_toArray->Xu,append_nil->Xv,mem_cons->Xy,not_mem_nil->Xz,mem_append_left->XB,length_map->XC,mem_append_right->XK,length_singleton->XL,map_eq_flatMap->XO,getElem?_range->XP
open Bool renaming and_true->zW
open Nat renaming lt_of_succ_le->zZ,le_refl->Xa,le_trans->Xd,zero_le->Xg,lt_of_lt_of_le->Xs,mul_one->Xx,mod_lt->XH,min_eq_left->XJ,zero_mul->XQ,zero_add->XR,one_mul->XS
open Int renaming cast_ofNat_Int->Xc,le_refl->XF,tmod_eq_emod_of_nonneg->XG,eq_ofNat_of_zero_le->XI
set_option maxHeartbeats 4000000
set_option linter.defProp false
set_option linter.unusedVariables false
set_option linter.unusedSimpArgs false
section
namespace Go.Ab
open Go.Proofs
set_option maxRecDepth 10000
def Tryz.FFbo939:=aj Z1<|aj Z2<|aj Z0<|aj Z3<|aj Z7<|aj Z9<|aj Z13<|aj Z16<|aj Z19<|aj Z25<|aj Z36<|aj Z29<|aj Z37<|aj Z48<|aj Z53<|aj Z54<|aj Z45<|aj Z68<|aj Z67<|aj Z35<|aj Z5<|aj Z6<|aj Z10<|aj Z4<|aj Z15<|aj Z27<|aj Z32<|aj Z38<|aj Z33<|aj Z34<|aj Z12<|aj Z11<|aj Z26<|aj Z40<|aj Z41<|aj Z42<|aj Z43<|aj Z31<|aj Z17<|aj Z56<|aj Z23<|aj Z50<|aj Z51<|aj Z57<|aj Z58<|aj Z59<|aj Z60<|aj Z61<|aj Z62<|aj Z63<|aj Z64<|aj Z65<|Z46
section
variable{A:List Arc}{N r:Nat}{al:Nat->Bool}{pi:Nat->Int}{i:Bool}{x:Sd}
theorem SvB.nxt(h:SvB A N r al pi i x): ∀(n:Nat) {v:Nat},(x.P v).length<=n->(x.L v).isSome=true->NxtL (nxB A i x.P) v (x.P v):=by
 intro n
 induction n with
 | zero=>
   intro v hp _
   have e:=List.length_eq_zero_iff.1 (Nat.le_zero.1 hp)
   rw [e]
   exact .nil (by unfold nxB;rw [e])
 | succ n ih=>
   intro v hp hl
   obtain⟨l,hl⟩:=Option.isSome_iff_exists.1 hl
   rcases h.path v l hl with⟨_,p0,_⟩|⟨a,m,h1,_,_,_,h5,h6,_⟩
   . rw [p0]
     exact .nil (by unfold nxB;rw [p0])
   . have e:=ih (v:=fsB i (A.getD a default)) (by rw [h5,List.length_cons]at hp;omega) (by rw [h6];rfl)
     rw [h5]
     exact .cons (by unfold nxB;rw [h5]) e
theorem SvB.nxtD(h:SvB A N r al pi i x){v y w:Nat}(hl:(x.L v).isSome=true)(hn:nxB A i x.P v=some (y,w)):(x.L w).isSome=true:=by
 obtain⟨l,hl⟩:=Option.isSome_iff_exists.1 hl
 rcases h.path v l hl with⟨_,p0,_⟩|⟨a,m,h1,_,_,_,h5,h6,_⟩
 . unfold nxB at hn;rw [p0]at hn;cases hn
 . unfold nxB at hn;rw [h5]at hn;cases hn;rw [h6];rfl
end
theorem bo_init{h1 h2 h3:Hp}{br:Nat}{pn:Value}{s t:Nat}{vPi:Value}{x y:Sx}{F1 F2:List Nat}{N:Nat}(ok1:h1.t.Sized h1.n)(R:Row h3 br (eZ pn s t vPi (fun j=>if j=true then y else x) (.slice none 0 0) ⟨fun _=>dU,[],FAR,0⟩) 1)(lb:br<h1.n)
 (f2:Mo (· =br) h2 h3) (n12:h1.n<=h2.n) (hx: ∀q∈x.L false,Has h2 q.1 q.2) (hy: ∀q∈y.L true,Has h3 q.1 q.2) (ox:x.Ok dU) (oy:y.Ok dU) (Hx:bA h2 F1 (ptrTo x.p) N (fun _=>none)) (Hy:bA h3 F2 (ptrTo y.p) N (fun _=>none))
 (nx: ∀c∈keys (x.L false) []++F1,h1.n<=c) (ny: ∀c∈keys (y.L true) []++F2,h2.n<=c) (dx:(keys (x.L false) []).Nodup) (dy:(keys (y.L true) []).Nodup) (ax: ∀c∈F1,c∉keys (x.L false) []) (ay: ∀c∈F2,c∉keys (y.L true) []):
 dJ h3 br pn s t vPi (fun j=>if j=true then y else x) (fun j=>if j=true then F2 else F1) (.slice none 0 0) N ⟨fun _=>dU,[],FAR,0⟩/\ ∀c∈boB br pn s t vPi (fun j=>if j=true then y else x) (fun j=>if j=true then F2 else F1) (.slice none 0 0) ⟨fun _=>dU,[],FAR,0⟩,c=br\/h1.n<=c:=by
 have ok2:=f2.ok0
 have lx: ∀c∈keys (x.L false) [],c<h2.n:=fun c hc=>by
  simp only [keys,Xr,Xv]at hc
  obtain⟨q,hq,rfl⟩:=List.mem_map.1 hc
  exact(hx q hq).lt ok2
 have lF:=Hx.lt ok2
 have kx: ∀c∈keys (x.L false) [],h1.n<=c:=fun c hc=>nx c (XB _ hc)
 have kf: ∀c∈F1,h1.n<=c:=fun c hc=>nx c (XK _ hc)
 have ky: ∀c∈keys (y.L true) [],h2.n<=c:=fun c hc=>ny c (XB _ hc)
 have kg: ∀c∈F2,h2.n<=c:=fun c hc=>ny c (XK _ hc)
 have eK:keys (boL false br pn s t vPi (fun j=>if j=true then y else x) (.slice none 0 0) ⟨fun _=>dU,[],FAR,0⟩) (boG (.slice none 0 0) ⟨fun _=>dU,[],FAR,0⟩)=br::(keys (x.L false) []++keys (y.L true) []):=by
  simp [keys,boL,boG,dS]
 have own: ∀q∈boL false br pn s t vPi (fun j=>if j=true then y else x) (.slice none 0 0) ⟨fun _=>dU,[],FAR,0⟩,Has h3 q.1 q.2:=fun q hq=>by
  rcases List.mem_cons.1 hq with rfl|hq
  . exact R
  . rcases List.mem_append.1 hq with hq|hq
    . have hq:q∈x.L false:=hq
      refine f2.has (hx q hq) fun e=>?_
      have:=kx q.1 (by simp only [keys,Xr,Xv];exact List.mem_map.2 ⟨q,hq,rfl⟩)
      omega
    . exact hy q hq
 refine⟨⟨own,.inl ⟨rfl,rfl⟩,?_,?_,?_,?_⟩,?_⟩
 . rw [eK,List.nodup_cons,List.nodup_append]
   refine⟨fun hm=>?_,dx,dy,fun a ha b hb e=>?_⟩
   . rcases List.mem_append.1 hm with h|h
     . have:=kx _ h;omega
     . have:=ky _ h;omega
   . have:=lx a ha
     have:=ky b hb
     omega
 . intro i
   cases i
   . exact Hx.mo f2 (fun c hc e=>by have:=kf c hc;omega)
   . exact Hy
 . intro i
   cases i
   . exact ox
   . exact oy
 . intro i c hc
   rw [eK]
   cases i
   . have hc:c∈F1:=hc
     have:=lF c hc
     have:=kf c hc
     refine⟨fun hm=>?_,fun hm=>?_⟩
     . rcases List.mem_cons.1 hm with h|h
       . omega
       . rcases List.mem_append.1 h with h|h
         . exact ax c hc h
         . have:=ky c h;omega
     . have:=kg c hm;omega
   . have hc:c∈F2:=hc
     have:=kg c hc
     refine⟨fun hm=>?_,fun hm=>?_⟩
     . rcases List.mem_cons.1 hm with h|h
       . omega
       . rcases List.mem_append.1 h with h|h
         . have:=lx c h;omega
         . exact ay c hc h
     . have hm:c∈F1:=hm
       have:=lF c hm;omega
 . intro c hc
   unfold boB at hc
   rw [eK]at hc
   rcases List.mem_append.1 hc with h|h
   . rcases List.mem_cons.1 h with h|h
     . exact .inl h
     . rcases List.mem_append.1 h with h|h
       . exact .inr (kx c h)
       . exact .inr (Xd n12 (ky c h))
   . rcases List.mem_append.1 h with h|h
     . exact .inr (kf c h)
     . exact .inr (Xd n12 (kg c h))
theorem st_rg{h:Hp}(ok:h.t.Sized h.n){b:Nat}{l:List Value}{v:Value}{vs:List Value}(R:Row h b l 1)(G:fJ h (v,1,vs))(hne: ∀c,aw v c->c≠b):St (fun c=>c=b\/aw v c) h h [(b,.row l 1)] [(v,1,vs)]:=by
 refine⟨Mo.refl ok,fun p hp=>?_,fun p hp=>?_,?_⟩
 . rw [List.mem_singleton.1 hp];exact⟨.inr (.inl rfl),R⟩
 . rw [List.mem_singleton.1 hp]
   refine⟨G,fun c hc=>.inr (.inr ?_)⟩
   rcases G with⟨e,_⟩|⟨b',n,e,_⟩
   . simp only []at e;subst e;cases hc
   . simp only []at e;subst e;cases hc;rfl
 . rcases G with⟨e,_⟩|⟨b',n,e,_⟩
   . simp only []at e;subst e;exact(by simp:([b]:List Nat).Nodup)
   . simp only []at e;subst e
     have:=hne b' rfl
     simp [keys,dS]
     exact fun h=>this h.symm
theorem natC_flat(l:List Nat):(l.flatMap cd).all iU=true:=by
 induction l with
 |nil=>rfl
 |cons x l ih=>rw [List.flatMap_cons,List.all_append,ih];rfl
theorem BiI.keyB{A:List Arc}{N:Nat}{rt:Bool->Nat}{al:Nat->Bool}{pi:Nat->Int}{σ:Bi}(h:BiI A N rt al pi σ)(hN:N<=12)(i:Bool)(v:Nat)(k:Int)(hk:(σ.sd i).K v=some k): -1000000000000000000<=k/\k<=1000000000000000000:=by
 obtain⟨_,l,hl,e⟩:=(h.sv i).op v k hk
 obtain⟨_,op,h3,_⟩:=(h.sv i).lab v l hl
 have h5:=Nat.mul_le_mul_right bE (Xd (h.sv i).len hN)
 have wm:=kI
 have fr:=fD
 obtain⟨o1,o2⟩:=op
 cases i
 . have e2:qB pi false v=pi v:=rfl
   omega
 . have e2:qB pi true v= -pi v:=rfl
   omega
theorem zK {h0:Hp} (ok:h0.t.Sized h0.n) {bp nb s t:Nat} {γ:Gra} (hγ:Good γ) (hn:bF h0 nb (ptrTo bp) γ) {vPi:Value} {pis:List Int} (sP:aE h0 1 (encI .i64) vPi pis) (lP:pis.length=γ.nodes) (hs:s<γ.nodes) (ht:t<γ.nodes) (hst:s≠t):
 Ret zM 39 [ptrTo bp,.agg ⟨[.int .i64 (s:Nat),.int .i64 (t:Nat),.slice none 0 0,vPi]⟩] h0 fun r h'=>Gr h0 h'/\ ∃vA vE τ,r=.tuple #[.agg ⟨[.int .i64 (τ.dist:Nat),vA,vE]⟩,.int .i64 0]/\jt γ.arcs (fun _=>true) (fun v=>pis.getD v 0) (iJ (fun v=>pis.getD v 0) s t) τ/\
  aE h' 4 ig vE τ.ev/\aE h' 1 cd vA (if τ.dist<FAR then mi τ else [])/\ ∀c,aw vA c\/aw vE c->h0.n<=c:=by
 have S:=Si ok
 have fP:=sP.fl
 have n2:=hγ.n2
 have far:=fD
 have hst': ¬((s:Int)=(t:Int)):=by omega
 have hA: ∀a∈γ.arcs,a.s<γ.nodes/\a.t<γ.nodes/\a.w<=bE:=fun a ha=>hγ.arcs a ha
 refine ab (n:=113) (rs:=[.cell 4 103,.tmp 5]) rfl Tryz.e39 rfl rfl rfl (lbt rfl) ?_
 simp only [BS,Nat.reduceLT]
 refine ag (aW (by intro x e;cases e)) S ?_;clear S;intro h b3 S n_b3;simp only [ae]at S
 simp only [BS,Tryz.FFbo939]
 refine ag aC S ?_;clear S;intro h b4 S n_b4
 simp only [BS,LB,Nat.reduceLT,Nat.reduceEqDiff,Tryz.FFbo939,Xh,Xb,Xi,S.lds (b:=b3) (o:=0) (n:=4) m1 (lbt rfl)]
 refine aq (right_ok S.ok (hn.gr S.gr) hs ht (sP.gr S.gr) lP) ?_
 intro h g;replace S:=S.call g;clear g
 simp only [BS,LB,Nat.reduceLT,Nat.reduceEqDiff,Nat.reduceAdd,Nat.reduceLeDiff,Tryz.FFbo939,hst',Xh,Xb,Xi,S.ld (b:=b3) (o:=0) m1 rfl,S.ld (b:=b3) (o:=1) m1 rfl,S.lds (b:=b3) (o:=0) (n:=4) m1 (lbt rfl)]
 refine ag (aW (by intro x e;cases e)) S ?_;clear S;intro h b29 S n_b29;simp only [ae]at S
 have Rq:=S.row (b:=b29) m0
 have R3:=S.row (b:=b3) m2
 have R4:=S.row (b:=b4) m1
 have k3:=R3.lt S.ok
 have k4:=R4.lt S.ok
 have kq:=Rq.lt S.ok
 have ap:=S.apart
 simp only [keys,Xo,Xp,Xr,Xv,List.nodup_cons,Xy,Xz,or_false,not_or]at ap
 have ne3:b3≠b29:=fun e=>by omega
 have ne4:b4≠b29:=fun e=>by omega
 have g0:=S.gr
 have okA:=S.ok
 have eF:((FAR:Nat):Int)=72057594037927936:=by rw [fD];rfl
 rename Hp=>hA'
 have gOf: ∀{h:Hp},Mo (· =b29) hA' h->Gr h0 h:=fun f=>(g0.fr.trans f (fun i hi=>.inr (by subst hi;omega)):Mo NoM h0 _).gr
 have rOf: ∀{h:Hp} {b:Nat} {l:List Value},Mo (· =b29) hA' h->Row hA' b l 1->b≠b29->Row h b l 1:=fun {h b l} f r e=>f.has (b:=b) (o:=.row l 1) r e
 simp only [BS,LB,Nat.reduceLT,Nat.reduceEqDiff,Tryz.FFbo939,S.ld (b:=b3) (o:=0) m2 rfl]
 have rc:Ret zM 84 [ptrTo b29,.int .i64 0,.int .i64 (s:Nat),.int .i64 1,.func (.func (outF false)) #[ptrTo bp] #[],.func (.func (mq false)) #[] #[]] hA' _:=um okA (hn.gr g0) Rq rfl rfl (i:=false) (v:=s) iE iE
 refine step_ret rc ?_
 rintro r h1 ⟨f1,x,F1,R1,hx,xA,xH,ox,Hx,nx,dx,ax⟩
 clear rc
 clear S
 have S:=Si f1.ok
 have R3':Row h1 b3 _ 1:=f1.has (b:=b3) (o:=.row _ 1) R3 ne3
 simp only [BS,LB,Nat.reduceLT,Nat.reduceEqDiff,Tryz.FFbo939,R3'.load1 (o:=1) rfl]
 have rc:Ret zM 84 [ptrTo b29,.int .i64 1,.int .i64 (t:Nat),.int .i64 (-1),.func (.func (outF true)) #[ptrTo bp] #[],.func (.func (mq true)) #[] #[]] h1 _:=um f1.ok (hn.gr (gOf f1)) R1 rfl rfl (i:=true) (v:=t) iE iE
 refine step_ret rc ?_
 rintro r h2 ⟨f2,y,F2,R2,hy,yA,yH,oy,Hy,ny,dy,ay⟩
 clear rc
 have R2':Row h2 b29 (eZ (ptrTo bp) s t vPi (fun j=>if j=true then y else x) (.slice none 0 0) ⟨fun _=>dU,[],FAR,0⟩) 1:=by
  unfold eZ
  rw [eF]
  exact R2
 obtain⟨A0,pB0⟩:=bo_init okA R2' kq f2 f1.n hx hy ox oy Hx Hy nx ny dx dy ax ay
 have eV0: ∀j:Bool,((fun j:Bool=>if j=true then y else x) j).vA=.func (.func (outF j)) #[ptrTo bp] #[]/\((fun j:Bool=>if j=true then y else x) j).vH=.func (.func (mq j)) #[] #[]:=fun j=>by
  cases j
  . exact⟨xA,xH⟩
  . exact⟨yA,yH⟩
 have fA2:Mo (· =b29) hA' h2:=f1.trans f2 (fun i hi=>.inl hi)
 clear R2 R2' hx hy ox oy Hx Hy nx ny dx dy ax ay xA xH yA yH f1 f2 R1 R3' S
 generalize(fun j:Bool=>if j=true then y else x)=X0 at A0 pB0 eV0
 generalize(fun j:Bool=>if j=true then F2 else F1)=F0 at A0 pB0
 have nP: ∀{h:Hp} {X:Bool->Sx} {F:Bool->List Nat} {vE:Value} {σ:Bi},(∀c∈boB b29 (ptrTo bp) s t vPi X F vE σ,c=b29\/hA'.n<=c)-> ∀c,aw vPi c->c∉boB b29 (ptrTo bp) s t vPi X F vE σ:=fun {h X F vE σ} pB c hc hm=>by
  have h1:=sP.blt ok hc
  have h2:=g0.n
  rcases pB c hm with h|h<;>omega
 have okB:=fA2.ok
 have S:=Si okB
 rename Hp=>hB
 have l5:=A0.rows.1.load1 (o:=5) rfl
 have l30:=(rOf fA2 R3 ne3).load1 (o:=0) rfl
 simp only [BS]
 refine aF (aM rfl) (q:=0) (ps:=[]) (by kernel_rfl) ?_
 simp only [BS,LB,cls,Nat.reduceLT,Nat.reduceEqDiff,Nat.reduceAdd,Nat.reducePow,Nat.reduceDiv,Nat.reduceMod,Nat.reduceLeDiff,Int.reduceToNat,Int.reduceLE,Int.reduceLT,Xc,Tryz.FFbo939,l5,l30]
 have rc:Ret zM 89 [ptrTo b29,ptrTo (X0 false).b,.int .i64 (s:Nat),.int .i64 (-1),.int .i64 0] hB _:=pN okB A0 (sP.gr (gOf fA2)) lP (nP (h:=hB) pB0) n2 (ui (A:=γ.arcs) (al:=fun _=>true) (s:=s) (t:=t)) (i:=false) (v:=s) (lab:=0) (p:=[]) hs (Xg _)
 refine cB rc ?_
 rintro r hC ⟨f4,X1,F1,A1,e1,sub1⟩
 clear rc
 simp only [BS,LB,Nat.reduceAdd]
 have pB1: ∀c∈boB b29 (ptrTo bp) s t vPi X1 F1 (.slice none 0 0) _,c=b29\/hA'.n<=c:=fun c hc=>(sub1 c hc).elim (fun h=>pB0 c h) (fun h=>.inr (Xd fA2.n h))
 have fA3:Mo (· =b29) hA' hC:=fA2.trans f4 pB0
 have I1:=(ui (A:=γ.arcs) (al:=fun _=>true) (pi:=fun v=>pis.getD v 0) (s:=s) (t:=t)).reach (b:=false) (v:=s) (p:=[]) (lab:=0) n2 hs (Xg _) (Xg _) (.inl ⟨rfl,rfl,rfl⟩)
 clear S
 have S:=Si fA3.ok
 have l6:=A1.rows.1.load1 (o:=6) rfl
 have l31:=(rOf fA3 R3 ne3).load1 (o:=1) rfl
 refine aF (aM rfl) (q:=0) (ps:=[]) (by kernel_rfl) ?_
 simp only [BS,LB,cls,Nat.reduceLT,Nat.reduceEqDiff,Nat.reduceAdd,Nat.reducePow,Nat.reduceDiv,Nat.reduceMod,Nat.reduceLeDiff,Int.reduceToNat,Int.reduceLE,Int.reduceLT,Xc,Tryz.FFbo939,l6,l31]
 have rc:Ret zM 89 [ptrTo b29,ptrTo (X1 true).b,.int .i64 (t:Nat),.int .i64 (-1),.int .i64 0] hC _:=pN fA3.ok A1 (sP.gr (gOf fA3)) lP (nP (h:=hC) pB1) n2 I1 (i:=true) (v:=t) (lab:=0) (p:=[]) ht (Xg _)
 refine cB rc ?_
 rintro r hD ⟨f5,X2,F2,A2,e2,sub2⟩
 clear rc
 simp only [BS,LB,Nat.reduceLT,Nat.reduceEqDiff,Nat.reduceAdd]
 have eI:bj (fun v=>pis.getD v 0) true (bj (fun v=>pis.getD v 0) false ⟨fun _=>dU,[],FAR,0⟩ s 0 []) t 0 []=iJ (fun v=>pis.getD v 0) s t:=rfl
 rw [eI]at A2 sub2
 have pB2: ∀c∈boB b29 (ptrTo bp) s t vPi X2 F2 (.slice none 0 0) (iJ (fun v=>pis.getD v 0) s t),c=b29\/hA'.n<=c:=fun c hc=>(sub2 c hc).elim (fun h=>pB1 c h) (fun h=>.inr (Xd fA3.n h))
 have fA4:Mo (· =b29) hA' hD:=fA3.trans f5 pB1
 have I2:=qX (A:=γ.arcs) (al:=fun _=>true) (pi:=fun v=>pis.getD v 0) n2 hs ht
 have eV2: ∀j,(X2 j).vA=.func (.func (outF j)) #[ptrTo bp] #[]/\(X2 j).vH=.func (.func (mq j)) #[] #[]:=fun j=>⟨(e2 j).2.1.trans ((e1 j).2.1.trans (eV0 j).1),(e2 j).2.2.trans ((e1 j).2.2.trans (eV0 j).2)⟩
 have O2:=fun j=>tM (pi:=fun v=>pis.getD v 0) (s:=s) (t:=t) j
 refine step_ret (xB fA4.ok A2 (I2.keyB n2) (I2.distLe n2)) ?_
 rintro r hE ⟨gE,nx⟩
 simp only [BS,LB,Nat.reduceLT,Nat.reduceEqDiff]
 have A3:=A2.gr gE
 have fA5:Mo (· =b29) hA' hE:=fA4.trans (gE.fr (M:=NoM)) (fun _ h=>h.elim)
 refine bO (fun(σ:Bi) ρ h=> ∃X F vE,Mo (· =b29) hA' h/\dJ h b29 (ptrTo bp) s t vPi X F vE γ.nodes σ/\(∀c∈boB b29 (ptrTo bp) s t vPi X F vE σ,c=b29\/hA'.n<=c)/\(∀j,(X j).vA=.func (.func (outF j)) #[ptrTo bp] #[]/\(X j).vH=.func (.func (mq j)) #[] #[])/\BiI γ.arcs γ.nodes (rtB s t) (fun _=>true) (fun v=>pis.getD v 0) σ/\σ.ev.length<=200*((σ.sd false).O.length+(σ.sd true).O.length)/\
  (∀τ,jt γ.arcs (fun _=>true) (fun v=>pis.getD v 0) σ τ->jt γ.arcs (fun _=>true) (fun v=>pis.getD v 0) (iJ (fun v=>pis.getD v 0) s t) τ)/\((StopB σ/\ρ 7=.pointer none)\/ ∃i,TurnB σ i/\ρ 7=ptrTo (X i).b)/\ρ 0=ptrTo bp/\ρ 4=ptrTo b4/\ρ 6=ptrTo b29) (fun σ=>2*γ.nodes-((σ.sd false).O.length+(σ.sd true).O.length)) ?_ (iJ (fun v=>pis.getD v 0) s t) _ _ ?_
 . clear A2 A3 A1 A0 I2 I1 O2 pB0 pB1 pB2 fA2 fA3 fA4 fA5 nx e1 e2 eV0 eV2 sub1 sub2 eI gE f4 f5 S l5 l30 l6 l31
   intro σ ih ρ h ⟨X,F,vE,fh,A,pB,eV,I,hev,hEnd,nx,r0,r4,r6⟩
   have o1:=(I.sv false).len
   have o2:=(I.sv true).len
   rcases nx with⟨hst,r7⟩|⟨i,tu,r7⟩
   . have gh:=gOf fh
     have okh:=fh.ok
     have S0:=A.st okh false
     have l7:=A.rows.1.load1 (o:=7) rfl
     have l5:=A.rows.1.load1 (o:=5) rfl
     have R4h:=rOf fh R4 ne4
     have k4h:=R4h.lt okh
     have nE: ∀c,aw vE c->h0.n<=c/\c≠b29/\c≠b4/\c<h.n:=fun c hc=>by
      have h1:=pB c (XB _ (eC (p:=(vE,4,σ.ev.flatMap ig)) m0 (pQ A.ev hc)))
      have h2:c≠b29:=fun e=>(S0.gblk m0 hc).2 (by rw [e];exact m0)
      have h3:=A.ev.lt okh (pQ A.ev hc)
      have:=g0.n
      rcases h1 with h|h
      . exact absurd h h2
      . exact⟨by omega,h2,by omega,h3⟩
     have sE:aE h 4 ig vE σ.ev:=A.ev.sl rfl qu (by decide)
     have fE:=sE.fl
     by_cases hd:σ.dist<FAR
     . have hd':(σ.dist:Int)<72057594037927936:=by omega
       obtain⟨x,y,q1,q2,_⟩:=(I.dm.resolve_left (fun h=>by omega)) false
       have q2:(σ.sd true).L σ.meet=some y:=q2
       have sv0:=I.sv false
       have sv1:=I.sv true
       have len0:=(sv0.lab _ _ q1).2.2.2.1
       have len1:=(sv1.lab _ _ q2).2.2.2.1
       have nd:=(List.nodup_cons.1 (show(b29::_).Nodup from A.nd)).1
       have x1b:(X true).b≠b29:=fun e=>nd (by rw [<-e];simp [Sx.L])
       have x1m:(X true).ma≠b29:=fun e=>nd (by rw [<-e];simp [Sx.L])
       clear S0
       simp only [BS,LB,Nat.reduceLT,Nat.reduceEqDiff,Int.reduceToNat,Int.reduceLE,Int.reduceLT,Xc,Tryz.FFbo939,r6,r7,l7,hd',l5]
       refine step_ret (back_ok okh (hn.gr gh) hγ (A.bk false) (eV false).2 (D:=fun v=>((σ.sd false).L v).isSome=true) (fun v hv=>⟨hv,sv0.ids _ (Xa _) hv⟩) (fun v y w hv hn=>sv0.nxtD hv hn) (by rw [q1];rfl) (sv0.nxt _ (Xa _) (by rw [q1];rfl)) (by omega)) ?_
       rintro v1 h1 ⟨g1,G1,n1⟩
       have fv1:Fl v1:=G1.fl
       have ne1: ∀c,aw v1 c->c≠b29:=fun c hc e=>by have:=n1 c hc;have:=A.rows.1.lt okh;omega
       have S:=st_rg g1.ok (A.rows.1.gr g1) G1 ne1
       simp only [eZ]at S
       simp only [BS,LB,Nat.reduceLT,Nat.reduceEqDiff,Nat.reduceAdd,Tryz.FFbo939]
       refine aD (aG S (i:=0) rfl Tryz.s33 fv1 (zZ (lbt rfl)) ono) ?_
       clear S;rintro h2 ⟨S,mo2⟩
       simp only [LC]at S
       simp only [BS,LB,Nat.reduceLT,Nat.reduceEqDiff,Nat.reduceAdd,Tryz.FFbo939,r6,S.ld (b:=b29) (o:=8) m0 rfl]
       refine step_ret (yo S.ok (S.gown _ m0).1 (by omega)) ?_
       rintro r h3 ⟨f3,G3⟩
       have Rw3:Row h3 b29 _ 1:=f3.has (b:=b29) (o:=.row _ 1) (S.row m0) (fun hc=>ne1 _ hc rfl)
       have S3:=st_rg f3.ok Rw3 G3 ne1
       clear S
       have S:=S3
       clear S3
       have fT:Mo (· =b29) h h3:=((g1.fr (M:=(· =b29))).trans mo2 (fun i hi=>.inl hi)).trans f3 (fun i hi=>.inr (n1 i hi))
       have fh3:Mo (· =b29) hA' h3:=fh.trans fT (fun i hi=>.inl hi)
       have B1:BkAt h3 b29 (ptrTo bp) σ.meet true (X true) (σ.sd true):=⟨Rw3.load1 (o:=0) rfl,Rw3.load1 (o:=10) rfl,fT.has (b:=(X true).b) (o:=.row _ 1) (A.rows.2 true) x1b,fT.has (b:=(X true).ma) (o:=.map _ _) (A.bk true).map x1m,A.ok true⟩
       have k29:=Rw3.lt f3.ok
       simp only [BS]
       refine aF (aM rfl) (q:=0) (ps:=[(5,12)]) (by kernel_rfl) ?_
       simp only [BS,LB,cls,Nat.reduceLT,Nat.reduceEqDiff,Nat.reduceAdd,Nat.reducePow,Nat.reduceDiv,Nat.reduceMod,Nat.reduceLeDiff,Int.reduceToNat,Int.reduceLE,Int.reduceLT,Xc,Tryz.FFbo939,r6,S.ld (b:=b29) (o:=8) m0 rfl,S.ld (b:=b29) (o:=6) m0 rfl]
       refine cB (back_ok f3.ok (hn.gr (gOf fh3)) hγ B1 (eV true).2 (D:=fun v=>((σ.sd true).L v).isSome=true) (fun v hv=>⟨hv,sv1.ids _ (Xa _) hv⟩) (fun v y w hv hn=>sv1.nxtD hv hn) (by rw [q2];rfl) (sv1.nxt _ (Xa _) (by rw [q2];rfl)) (by omega)) ?_
       rintro v2 h4 ⟨g4,G2,n2'⟩
       have e29:=ar g4 k29
       replace S:=S.call g4
       have s2:aE h4 1 cd v2 ((σ.sd true).P σ.meet):=G2.sl rfl gT (by decide)
       simp only [BS,LB,cls,Nat.reduceLT,Nat.reduceEqDiff,Nat.reduceAdd,Nat.reducePow,Nat.reduceDiv,Nat.reduceMod,Nat.reduceLeDiff]
       refine jQ (S.grow (j:=0) (m:=((σ.sd true).P σ.meet).length) (new:=((σ.sd true).P σ.meet).flatMap cd) rfl XD XM (by decide) Tryz.n33 s2.src (by rw [nX];omega) (by decide) (natC_flat _) (by rw [nX,nX,List.length_reverse];omega)) ?_
       clear S;rintro h5 vA S
       simp only [LC]at S
       have fvA:Fl vA:=(S.gown _ m0).1.fl
       simp only [BS,LB,cls,Nat.reduceLT,Nat.reduceEqDiff,Nat.reduceAdd,Nat.reducePow,Nat.reduceDiv,Nat.reduceMod,Nat.reduceLeDiff,Tryz.FFbo939]
       refine du (aG S (i:=0) rfl Tryz.s33 fvA (zZ (lbt rfl)) ono) ?_
       clear S;rintro h6 ⟨S,mo6⟩
       simp only [LC]at S
       simp only [BS,LB,Nat.reduceLT,Nat.reduceEqDiff,Nat.reduceAdd,Tryz.FFbo939,r6]
       refine⟨by simp only [bz,bI,aX,bM,aZ,ne_eq,not_false_eq_true,bN,bW,bw,aY,cm,c7,aQ,Nat.reduceLT,Nat.reduceEqDiff,reduceIte,zW,r0,r4,r6,r7,an,iT,az e29,aA e29],?_⟩
       have okh6:=S.ok
       have fA6:Mo (fun c=>c=b29\/aw v1 c) h3 h6:=S.fr
       have fh6:Mo (· =b29) h h6:=fT.trans fA6 (fun i hi=>hi.elim .inl (fun h=>.inr (n1 i h)))
       have R46:Row h6 b4 _ 1:=fh6.has (b:=b4) (o:=.row _ 1) R4h ne4
       have l79:=S.lds (b:=b29) (o:=7) (n:=3) m0 (lbt rfl)
       simp only [zX,zY]at l79
       have sA:aE h6 1 cd vA (mi σ):=(S.gown _ m0).1.sl (by unfold mi;rw [List.flatMap_append]) gT (by decide)
       have nA: ∀c,aw vA c->h0.n<=c/\c≠b4:=fun c hc=>by
        obtain⟨h1,h2⟩:=S.gblk m0 hc
        have:=gh.n
        have:=fT.n
        rcases h1 with h|h|h
        . exact⟨by omega,by omega⟩
        . exact absurd (by rw [h];exact m0) h2
        . have:=n1 c h
          exact⟨by omega,by omega⟩
       have sE6:=sE.mo fh6 (fun c hc e=>(nE c hc).2.1 e)
       have g6:Gr h0 h6:=gOf (fh.trans fh6 (fun i hi=>.inl hi))
       clear S
       have S:=St.init1 okh6 (o:=.row _ 1) R46
       simp only [BS,LB,Nat.reduceLT,Nat.reduceEqDiff,r4,l79]
       refine aD (S.store (i:=0) rfl XA (by intro x e;cases e) rfl (by simp only [ae,Xe,Xf,fvA.2.1,fE.2.1,zW];rfl) (lbt rfl) ono) ?_
       clear S;rintro h7 ⟨S,mo7⟩
       simp only [LC,ae,lay,zY,zX,Nat.reduceAdd]at S
       simp only [BS,ac]
       refine(dP (by decide) (by simp only [aQ,r4,an,Nat.reduceEqDiff,reduceIte];exact cC Tryz.a103 XA (S.lds (b:=b4) (o:=0) (n:=3) m0 (lbt rfl)))).2 ?_
       refine(eQ (by decide)).2 (eo.2 ?_)
       have gZ:Gr h0 h7:=(g6.fr.trans S.fr (fun i hi=>.inr (by subst hi;omega)):Mo NoM h0 h7).gr
       exact⟨gZ,vA,vE,σ,rfl,hEnd σ (.stop hst),sE6.mo mo7 (fun c hc e=>(nE c hc).2.2.1 e),by rw [if_pos hd];exact sA.mo mo7 (fun c hc e=>(nA c hc).2 e),fun c hc=>hc.elim (fun h=>(nA c h).1) (fun h=>(nE c h).1)⟩
     . have hd': ¬(σ.dist:Int)<72057594037927936:=by omega
       have l79:=A.rows.1.load (o:=7) (n:=3) (lbt rfl)
       simp only [eZ,zX,zY]at l79
       have g6:=gh
       have fN:Fl (.slice none 0 0):=aV
       have S:=St.init1 okh (o:=.row _ 1) R4h
       simp only [BS,LB,Nat.reduceLT,Nat.reduceEqDiff,Tryz.FFbo939,r6,r7,l7,hd']
       simp only [BS,LB,Nat.reduceLT,Nat.reduceEqDiff,r4,l79]
       refine aD (S.store (i:=0) rfl XA (by intro x e;cases e) rfl (by simp only [ae,Xe,Xf,fN.2.1,fE.2.1,zW];rfl) (lbt rfl) ono) ?_
       clear S;rintro h7 ⟨S,mo7⟩
       simp only [LC,ae,lay,zY,zX,Nat.reduceAdd]at S
       simp only [BS,ac]
       refine(dP (by decide) (by simp only [aQ,r4,an,Nat.reduceEqDiff,reduceIte];exact cC Tryz.a103 XA (S.lds (b:=b4) (o:=0) (n:=3) m0 (lbt rfl)))).2 ?_
       refine(eQ (by decide)).2 (eo.2 ?_)
       have gZ:Gr h0 h7:=(g6.fr.trans S.fr (fun i hi=>.inr (by subst hi;omega)):Mo NoM h0 h7).gr
       exact⟨gZ,_,vE,σ,rfl,hEnd σ (.stop hst),sE.mo mo7 (fun c hc e=>(nE c hc).2.2.1 e),by rw [if_neg hd];exact .inl ⟨rfl,rfl⟩,fun c hc=>hc.elim (fun h=>h.elim) (fun h=>(nE c h).1)⟩
   . obtain⟨v,k,hp⟩: ∃v k,iF (σ.sd i).K v k:=by
      obtain⟨v,k,u,l,p1,p2,_,_⟩:=tu
      cases i
      . exact⟨v,k,p1⟩
      . exact⟨u,l,p2⟩
     have gh:=gOf fh
     have hB': ∀c∈boB b29 (ptrTo bp) s t vPi X F vE σ,h0.n<=c:=fun c hc=>(pB c hc).elim (fun e=>by omega) (fun e=>Xd g0.n e)
     simp only [BS,LB,Nat.reduceLT,Nat.reduceEqDiff,Tryz.FFbo939,r6,r7]
     refine step_ret (bstep_ok gh hγ hn A hB' sP lP I (by omega) hp (eV i).1 (eV i).2) ?_
     rintro r h1 ⟨f1,X',F',vE',A',e',sub'⟩
     obtain⟨I',ke⟩:=qJ n2 hA I hp.1
     have ev':(iu γ.arcs (fun _=>true) (fun v=>pis.getD v 0) i v (bJ σ i v)).ev.length<=σ.ev.length+200:=by
      have h1:=rJ (A:=γ.arcs) (al:=fun _=>true) (pi:=fun v=>pis.getD v 0) (b:=i) (v:=v) (outs γ.arcs (fsB i) γ.arcs.length v) (σ:=bJ σ i v)
      have h2:(bJ σ i v).ev.length=σ.ev.length+1:=by simp [bJ]
      have h3:=mb γ.arcs (fsB i) γ.arcs.length v
      have:=hγ.many
      unfold iu
      omega
     have eO:((iu γ.arcs (fun _=>true) (fun v=>pis.getD v 0) i v (bJ σ i v)).sd false).O.length+((iu γ.arcs (fun _=>true) (fun v=>pis.getD v 0) i v (bJ σ i v)).sd true).O.length=(σ.sd false).O.length+(σ.sd true).O.length+1:=by
      have k1:=ke.O
      have k2:=ke.ot
      rw [clo_b]at k1
      rw [clo_n]at k2
      cases i
      . rw [k1,show((iu γ.arcs (fun _=>true) (fun v=>pis.getD v 0) false v (bJ σ false v)).sd true)=σ.sd true from k2]
        simp only [List.length_append,XL]
        omega
      . rw [k1,show((iu γ.arcs (fun _=>true) (fun v=>pis.getD v 0) true v (bJ σ true v)).sd false)=σ.sd false from k2]
        simp only [List.length_append,XL]
        omega
     have hEnd': ∀τ,jt γ.arcs (fun _=>true) (fun v=>pis.getD v 0) (iu γ.arcs (fun _=>true) (fun v=>pis.getD v 0) i v (bJ σ i v)) τ->jt γ.arcs (fun _=>true) (fun v=>pis.getD v 0) (iJ (fun v=>pis.getD v 0) s t) τ:=fun τ h=>hEnd τ (.step tu hp h)
     generalize iu γ.arcs (fun _=>true) (fun v=>pis.getD v 0) i v (bJ σ i v)=τ at A' sub' I' ev' eO hEnd'
     have p1:=(I'.sv false).len
     have p2:=(I'.sv true).len
     have fh1:Mo (· =b29) hA' h1:=fh.trans f1 pB
     simp only [BS,LB,Nat.reduceLT,Nat.reduceEqDiff,r6]
     refine step_ret (xB fh1.ok A' (I'.keyB n2) (I'.distLe n2)) ?_
     rintro r h2 ⟨g2,nx'⟩
     simp only [BS,LB,Nat.reduceLT,Nat.reduceEqDiff]
     refine ih τ _ _ (by omega) ⟨X',F',vE',fh1.trans (g2.fr (M:=NoM)) (fun _ h=>h.elim),A'.gr g2,fun c hc=>(sub' c hc).elim (pB c) (fun h=>.inr (Xd fh.n h)),fun j=>⟨(e' j).2.1.trans (eV j).1,(e' j).2.2.trans (eV j).2⟩,I',by omega,hEnd',?_,by simp [aa,r0,an],by simp [aa,r4,an],by simp [aa,r6,an]⟩
     rcases nx' with⟨a,rfl⟩|⟨j,a,rfl⟩
     . exact .inl ⟨a,by simp [aa]⟩
     . exact .inr ⟨j,a,by simp [aa,an]⟩
 . refine⟨X2,F2,_,fA5,A3,pB2,eV2,I2,by rw [initB_ev];exact Xg _,fun τ h=>h,?_,by simp [aa,cK,an],by simp [aa,an],by simp [aa,an]⟩
   rcases nx with⟨a,rfl⟩|⟨j,a,rfl⟩
   . exact .inl ⟨a,by simp [aa]⟩
   . exact .inr ⟨j,a,by simp [aa,an]⟩
end Go.Ab

end
section
namespace Go.Ab
def swJ(l:List Nat)(j:Nat):List Nat:=(l.set j (l.getD (j-1) 0)).set (j-1) (l.getD j 0)
def bub(key:Nat->Int):Nat->List Nat->List Nat
 |0,l=>l
 |j+1,l=>if key (l.getD j 0)<key (l.getD (j+1) 0)then bub key j (swJ l (j+1))else l
def iC(key:Nat->Int)(k:Nat)(l:List Nat):List Nat:=(Xj k).foldl (fun l i=>bub key (i+1) l) l
theorem oN(key:Nat->Int)(k:Nat)(l:List Nat):iC key (k+1) l=bub key (k+1) (iC key k l):=by
 unfold iC;rw [List.range_succ,List.foldl_append];rfl
theorem swJ_len(l:List Nat)(j:Nat):(swJ l j).length=l.length:=by simp [swJ]
theorem vr{l:List Nat}{j:Nat}(h:j<l.length):(swJ l j).Perm l:=by
 have:((l.set j l[j-1]).set (j-1) l[j]).Perm l:=List.set_set_perm h (by omega)
 unfold swJ
 rwa [show l.getD (j-1) 0=l[j-1] by simp [zN,show j-1<l.length by omega],show l.getD j 0=l[j] by simp [zN,h]]
theorem wX{key:Nat->Int}: ∀(j:Nat) {l:List Nat},j<l.length->(bub key j l).Perm l
 |0,l,_=>.refl _
 | j+1,l,h=>by
   unfold bub
   split
   . exact(wX j (by rw [swJ_len];omega)).trans (vr h)
   . exact .refl _
theorem oG{key:Nat->Int}{l:List Nat}: ∀(k:Nat),k<l.length\/k=0->(iC key k l).Perm l
 |0,_=>.refl _
 | k+1,h=>by
   have ih:=oG (key:=key) (l:=l) k (by omega)
   rw [oN]
   exact(wX (k+1) (by rw [ih.length_eq];omega)).trans ih
end Go.Ab

end
section
namespace Go.Ab
open Go.Proofs
set_option maxRecDepth 10000
def Tryz.FFa1228:=aj Z1<|aj Z2<|aj Z0<|aj Z3<|aj Z7<|aj Z9<|aj Z4<|Z66
def Tryz.FFa1152:=aj Z0<|aj Z4<|Z66
def Tryz.FFa144:=aj Z1<|aj Z2<|aj Z0<|aj Z3<|Z4
def Tryz.FFa180:=aj Z1<|aj Z2<|aj Z0<|aj Z4<|Z66
def gI(l:List Nat):List Value:=l.map fun(x:Nat)=>.int .i64 x
theorem ue(l:List Nat):l.flatMap cd=gI l:=by
 unfold gI;rw [Xt,XO,Xt];rfl
theorem pU(l:List Nat):(gI l).length=l.length:=by simp [gI]
theorem natM_at{l:List Nat}{i:Nat}(h:i<l.length):(gI l)[i]? =some (.int .i64 (l.getD i 0:Nat)):=by
 unfold gI;rw [Xk,zV h];simp [zN,h]
theorem xu(l:List Nat)(i x:Nat):(gI l).set i (.int .i64 (x:Nat))=gI (l.set i x):=by unfold gI;rw [List.map_set]
theorem wW{a b:Int}:kp a b<0↔a<b:=by
 unfold kp
 split
 . omega
 . split<;>omega
def CmpF(E:Env)(hq:Hp)(g:FuncId)(post:List Value)(N:Nat)(key:Nat->Int):Prop:= ∀h,Gr hq h-> ∀i j,i<N->j<N->bH E g ([.int .i64 (i:Nat),.int .i64 (j:Nat)]++post) h (.int .i64 (kp (key j) (key i)))
theorem yT {hq h0:Hp} (gq:Gr hq h0) {b N:Nat} {xs:List Nat} {g:FuncId} {post:Array Value} {key:Nat->Int} (row:Row h0 b (gI xs) 1) (hb:hq.n<=b) (hn:xs.length<=20) (hx: ∀x∈xs,x<N) (hc:CmpF zM hq g post.toList N key):
 Ret zM 228 [.slice (some ⟨b,0,some 1⟩) xs.length xs.length,.int .i64 0,.int .i64 (xs.length:Nat),.func (.func g) #[] post] h0 fun _ h'=>Mo (· =b) h0 h'/\Row h' b (gI (iC key (xs.length-1) xs)) 1:=by
 have ok:=gq.ok
 have S:=St.init1 ok (o:=.row _ 1) row
 have w1:au .i64 (0+1)=((0+1:Nat):Int):=rfl
 refine ab (n:=53) (rs:=[]) rfl Tryz.e228 rfl rfl rfl (lbt rfl) ?_
 simp only [BS,LB,Nat.reduceLT,Nat.reduceEqDiff,Int.reduceAdd]
 refine bO (fun(i:Nat) ρ h=>i<=xs.length-1/\St (· =b) h0 h [(b,.row (gI (iC key i xs)) 1)] []/\ρ 0=.slice (some ⟨b,0,some 1⟩) xs.length xs.length/\ρ 1=.int .i64 0/\ρ 2=.int .i64 (xs.length:Nat)/\ρ 3=.func (.func g) #[] post/\ρ 8=.int .i64 ((i+1:Nat):Int)) (fun i=>xs.length-i) ?_ 0 _ _ ?_
 . clear S
   intro i ih ρ h ⟨hi,S,r0,r1,r2,r3,r8⟩
   by_cases hlt:i+1<xs.length
   . simp only [BS,LB,Nat.reduceLT,Nat.reduceEqDiff,r2,r8,aS,hlt]
     have pmI:=oG (key:=key) (l:=xs) i (.inl (by omega))
     refine bO (fun(j:Nat) ρ h=>j<=i+1/\ ∃l,l.Perm xs/\bub key j l=bub key (i+1) (iC key i xs)/\St (· =b) h0 h [(b,.row (gI l) 1)] []/\ρ 0=.slice (some ⟨b,0,some 1⟩) xs.length xs.length/\ρ 1=.int .i64 0/\ρ 2=.int .i64 (xs.length:Nat)/\ρ 3=.func (.func g) #[] post/\ρ 8=.int .i64 ((i+1:Nat):Int)/\ρ 9=.int .i64 (j:Nat)) (fun j=>j) ?_ (i+1) _ _ ?_
     . clear S r0 r1 r2 r3 r8
       intro j ihj ρ h ⟨hj,l,pm,hbub,S,r0,r1,r2,r3,r8,r9⟩
       have ll:=pm.length_eq
       have wi:au .i64 (((i+1:Nat):Int)+1)=((i+1+1:Nat):Int):=by rw [wrap64]<;>omega
       by_cases hj0:0<j
       . obtain⟨k,rfl⟩: ∃k,j=k+1:=⟨j-1,by omega⟩
         have cj:(0:Int)<((k+1:Nat):Int):=by omega
         have wk:au .i64 (((k+1:Nat):Int)-1)=(k:Int):=by rw [wrap64]<;>omega
         have k1:k+1<xs.length:=by omega
         have k0:k<xs.length:=by omega
         have q1:=(S.row (b:=b) m0).load1 (natM_at (i:=k+1) (by omega))
         have q0:=(S.row (b:=b) m0).load1 (natM_at (i:=k) (by omega))
         have d1:l.getD (k+1) 0<N:=by
          refine hx _ (pm.mem_iff.1 ?_)
          rw [zN,zV (by omega)];exact Xq _
         have d0:l.getD k 0<N:=by
          refine hx _ (pm.mem_iff.1 ?_)
          rw [zN,zV (by omega)];exact Xq _
         simp only [BS]
         refine aF (aM rfl) (q:=0) (ps:=[]) (by kernel_rfl) ?_
         simp only [BS,LB,cls,Nat.reduceLT,Nat.reduceEqDiff,Nat.reduceAdd,Nat.reducePow,Nat.reduceDiv,Nat.reduceMod,Nat.reduceLeDiff,Tryz.FFa1228,r0,r1,r3,r9,cj,wk,k1,k0,q1,q0]
         refine dk (hc _ (((gq.fr (M:=NoM)).trans S.fr (fun c e=>.inr (by omega))).gr) _ _ d1 d0) ?_
         intro h g1
         replace S:=S.call g1
         by_cases hk:key (l.getD k 0)<key (l.getD (k+1) 0)
         . have ck:kp (key (l.getD k 0)) (key (l.getD (k+1) 0))<0:=wW.2 hk
           replace q1:=g1.load q1
           replace q0:=g1.load q0
           simp only [BS,LB,cls,Nat.reduceLT,Nat.reduceEqDiff,Nat.reduceAdd,Nat.reducePow,Nat.reduceDiv,Nat.reduceMod,Nat.reduceLeDiff,ck]
           refine aF (aM rfl) (q:=0) (ps:=[]) (by kernel_rfl) ?_
           simp only [BS,LB,cls,Nat.reduceLT,Nat.reduceEqDiff,Nat.reduceAdd,Nat.reducePow,Nat.reduceDiv,Nat.reduceMod,Nat.reduceLeDiff,Tryz.FFa1228,r0,r9,wk,k1,k0,q1,q0]
           refine du (aG S (i:=0) rfl XE aU (by rw [pU];omega) ono) ?_
           clear S;rintro h3 ⟨S,mo1⟩
           simp only [LC]at S
           simp only [BS,LB,cls,Nat.reduceLT,Nat.reduceEqDiff,Nat.reduceAdd,Nat.reducePow,Nat.reduceDiv,Nat.reduceMod,Nat.reduceLeDiff,Tryz.FFa1228,k0]
           refine du (aG S (i:=0) rfl XE aU (by rw [List.length_set,pU];omega) ono) ?_
           clear S;rintro h4 ⟨S,mo2⟩
           simp only [LC]at S
           rw [xu,xu]at S
           simp only [BS,LB,Nat.reduceLT,Nat.reduceEqDiff,Nat.reduceAdd,r9,wk]
           have e:bub key (k+1) l=bub key k (swJ l (k+1)):=by
            show(if _ then _ else _)=_
            rw [if_pos hk]
           exact ihj k _ _ (by omega) ⟨by omega,swJ l (k+1),(vr (by omega)).trans pm,by rw [<-e];exact hbub,S,by simp [aa,r0],by simp [aa,r1],by simp [aa,r2],by simp [aa,r3],by simp [aa,r8],by simp [aa]⟩
         . have ck: ¬kp (key (l.getD k 0)) (key (l.getD (k+1) 0))<0:=fun h=>hk (wW.1 h)
           have e:bub key (k+1) l=l:=by
            show(if _ then _ else _)=_
            rw [if_neg hk]
           rw [e]at hbub
           simp only [BS,LB,cls,Nat.reduceLT,Nat.reduceEqDiff,Nat.reduceAdd,Nat.reducePow,Nat.reduceDiv,Nat.reduceMod,Nat.reduceLeDiff,r8,ck,wi]
           exact ih (i+1) _ _ (by omega) ⟨by omega,by rw [oN,<-hbub];exact S,by simp [aa,r0],by simp [aa,r1],by simp [aa,r2],by simp [aa,r3],by simp [aa]⟩
       . have ej:j=0:=by omega
         subst ej
         have hb0:l=bub key (i+1) (iC key i xs):=hbub
         have cj: ¬(0:Int)<((0:Nat):Int):=by omega
         simp only [BS]
         refine aF (aM rfl) (q:=0) (ps:=[]) (by kernel_rfl) ?_
         simp only [BS,LB,cls,Nat.reduceLT,Nat.reduceEqDiff,Nat.reduceAdd,Nat.reducePow,Nat.reduceDiv,Nat.reduceMod,Nat.reduceLeDiff,Int.reduceLT,Xc,r1,r8,r9,wi]
         exact ih (i+1) _ _ (by omega) ⟨by omega,by rw [oN,<-hb0];exact S,by simp [aa,r0],by simp [aa,r1],by simp [aa,r2],by simp [aa,r3],by simp [aa]⟩
     . exact⟨Xa _,_,pmI,rfl,S,by simp [aa,r0],by simp [aa,r1],by simp [aa,r2],by simp [aa,r3],by simp [aa,r8],by simp [aa]⟩
   . simp only [BS,LB,Nat.reduceLT,Nat.reduceEqDiff,r2,r8,aS,hlt]
     have ei:i=xs.length-1:=by omega
     subst ei
     exact⟨S.fr,S.row m0⟩
 . exact⟨Xg _,S,by simp [aa,cK],by simp [aa,cK],by simp [aa,cK],by simp [aa,cK],by simp [aa];rfl⟩
theorem stable_ok{hq h0:Hp}(gq:Gr hq h0){b N:Nat}{xs:List Nat}{g:FuncId}{post:Array Value}{key:Nat->Int}(row:Row h0 b (gI xs) 1)(hb:hq.n<=b)(hn:xs.length<20)(hx: ∀x∈xs,x<N)(hc:CmpF zM hq g post.toList N key):
 Ret zM 207 [.slice (some ⟨b,0,some 1⟩) xs.length xs.length,.int .i64 (xs.length:Nat),.func (.func g) #[] post] h0 fun _ h'=>Mo (· =b) h0 h'/\Row h' b (gI (iC key (xs.length-1) xs)) 1:=by
 have ok:=gq.ok
 have c1: ¬(20:Int)<=(xs.length:Int):=by omega
 have c2: ¬(20:Int)<(xs.length:Int):=by omega
 have S:=Si ok
 refine ab (n:=63) (rs:=[]) rfl Tryz.e207 rfl rfl rfl (lbt rfl) ?_
 simp only [BS,LB,Nat.reduceLT,Nat.reduceEqDiff]
 rw [bL]
 simp only [BS,LB,Nat.reduceLT,Nat.reduceEqDiff,c1]
 refine step_ret (yT gq row hb (by omega) hx hc) ?_
 rintro r h ⟨f,R⟩
 simp only [BS]
 rw [bL]
 simp only [BS,LB,Nat.reduceLT,Nat.reduceEqDiff,c2]
 exact⟨f,R⟩
theorem vc{hq h0:Hp}(gq:Gr hq h0){b N:Nat}{xs:List Nat}{g:FuncId}{post:Array Value}{key:Nat->Int}(row:Row h0 b (gI xs) 1)(hb:hq.n<=b)(hn:xs.length<20)(hx: ∀x∈xs,x<N)(hc:CmpF zM hq g post.toList N key):
 Ret zM 152 [.slice (some ⟨b,0,some 1⟩) xs.length xs.length,.func (.func g) #[] post] h0 fun _ h'=>Mo (· =b) h0 h'/\Row h' b (gI (iC key (xs.length-1) xs)) 1:=by
 refine ab (n:=9) (rs:=[]) rfl Tryz.e152 rfl rfl rfl (lbt rfl) ?_
 simp only [BS,LB,Nat.reduceLT,Nat.reduceEqDiff,Tryz.FFa1152]
 refine step_ret (stable_ok gq row hb hn hx hc) ?_
 rintro r h q
 simp only [BS]
 exact q
theorem wI{h0:Hp}(ok:h0.t.Sized h0.n){v:Value}{xs:List Nat}(hs:aE h0 1 cd v xs)(hl:xs.length<1000000)(hx:xs≠ []):Ret zM 44 [v] h0 fun r h'=>Gr h0 h'/\ ∃b,r=.slice (some ⟨b,0,some 1⟩) xs.length xs.length/\Row h' b (gI xs) 1/\h0.n<=b:=by
 have S:=Si ok
 rcases hs with⟨_,rfl⟩|⟨b,o,s,c,rfl,h2,h3⟩
 . exact absurd rfl hx
 . refine ab (n:=8) (rs:=[.tmp 2]) rfl Tryz.e44 rfl rfl rfl (lbt rfl) ?_
   simp only [BS,LB,Nat.reduceLT,Nat.reduceEqDiff,Tryz.FFa144]
   refine ag (cu (by exact XD) (by exact XM) (by decide) (by rfl)) S ?_;clear S;intro h bb S n_bb;simp only [LC,bq,bR,ae,Nat.reduceMul,Nat.reduceAdd,XQ,XR,Xx,XS]at S
   simp only [BS,LB,Nat.reduceLT,Nat.reduceEqDiff]
   have k0:=S.fr.n
   refine fZ (S.cloneW (enc:=cd) (ys:=xs) XD XM (by decide) Tryz.n33 (.inr ⟨b,o,s,c,rfl,h2,S.old h3 (fun h=>h)⟩) gT (by decide) (by omega) (S.row m0)) ?_
   rintro h' v ⟨S',g,sl,hc,w⟩
   obtain⟨b',rfl,row⟩:=w hx
   simp only [BS,LB,ac,Nat.reduceLT,Nat.reduceEqDiff]
   rw [ue]at row
   exact⟨S'.gr,b',rfl,row,(hc b' rfl).elim (fun e=>by omega) (fun e=>Xd k0 e)⟩
theorem first_ok{hq h0:Hp}(gq:Gr hq h0){N:Nat}{v:Value}{xs:List Nat}{g:FuncId}{post:Array Value}{key:Nat->Int}(hs:aE h0 1 cd v xs)(hne:xs≠ [])(hn:xs.length<20)(hx: ∀x∈xs,x<N)(hc:CmpF zM hq g post.toList N key){m:Nat}(hm:1<=m):
 Ret zM 80 [v,.int .i64 (m:Nat),.func (.func g) #[] post] h0 fun r h'=>Gr h0 h'/\aE h' 1 cd r ((iC key (xs.length-1) xs).take (min m xs.length))/\ ∀c,aw r c->h0.n<=c:=by
 have ok:=gq.ok
 have mn:min (m:Int) (xs.length:Int)=((min m xs.length:Nat):Int):=by omega
 have pm:=oG (key:=key) (l:=xs) (xs.length-1) (by cases xs with|nil=>exact absurd rfl hne|cons a l=>simp)
 have S:=Si ok
 refine ab (n:=18) (rs:=[.tmp 6]) rfl Tryz.e80 rfl rfl rfl (lbt rfl) ?_
 simp only [BS,LB,Nat.reduceLT,Nat.reduceEqDiff]
 refine step_ret (wI S.ok hs (by omega) hne) ?_
 rintro r h ⟨g1,b,rfl,row,nb⟩
 have hbq:hq.n<=b:=Xd gq.n nb
 simp only [BS,LB,Nat.reduceLT,Nat.reduceEqDiff]
 refine step_ret (vc (gq.trans g1) row hbq hn hx hc) ?_
 rintro r h2 ⟨f,R⟩
 have sl:=xF (kd:=.i64) (b:=b) (len:=xs.length) (n:=min m xs.length) XD XE (cap:=xs.length) (Nat.min_le_right _ _)
 simp only [BS,LB,ac,Nat.reduceLT,Nat.reduceEqDiff,Option.map_some,Option.map_none,Tryz.FFa180,mn,sl]
 refine⟨((g1.fr (M:=NoM)).trans f (fun c e=>.inr (by omega))).gr,?_,fun c hc=>by have hc:b=c:=hc;omega⟩
 have tl:((iC key (xs.length-1) xs).take (min m xs.length)).length=min m xs.length:=by rw [Xn,pm.length_eq];omega
 refine .inr ⟨b,0,some 1,xs.length,by rw [tl],by rw [tl];exact Nat.min_le_right _ _,?_⟩
 rw [tl,R.load (by rw [pU,pm.length_eq];omega),ue,Xh,Xx]
 unfold gI
 rw [List.map_take]
def Tryz.FFa281:=aj Z1<|aj Z2<|aj Z0<|aj Z4<|aj Z20<|aj Z18<|Z21
def Tryz.FFa244:=aj Z1<|aj Z2<|aj Z0<|aj Z3<|Z4
def Tryz.FFa2152:=aj Z0<|aj Z4<|Z66
def Tryz.FFa280:=aj Z1<|aj Z2<|aj Z0<|aj Z4<|Z66
def Tryz.FFa237:=aj Z1<|aj Z2<|aj Z0<|aj Z3<|aj Z7<|aj Z9<|aj Z13<|aj Z4<|aj Z20<|aj Z18<|aj Z21<|Z66
def keyB(N n:Nat)(R Q:Nat->List Int)(s w:Int)(i:Nat):Int:=dz N n R Q i s w
def actL(N n:Nat)(R Q:Nat->List Int)(s w most:Int):List Nat:=(iC (keyB N n R Q s w) (n-1) (Xj n)).take (min (max most 1).toNat n)
theorem zz{hq:Hp}{m N:Nat}{p:Value}{l:List Int}{R Q:Nat->List Int}(t:TabAt hq m p N l R Q)(hR: ∀i,i<l.length->(R i).length=N)(hQ: ∀i,i<l.length->(Q i).length=N)(hl:l.length<1000){s w:Int}{b4 b5 b6:Nat}(l4:hq.load b4 0 1=some [p])(l5:hq.load b5 0 1=some [.int .i64 s])(l6:hq.load b6 0 1=some [.int .i64 w]):
 CmpF zM hq 81 [ptrTo b4,ptrTo b5,ptrTo b6] l.length (keyB N l.length R Q s w):=by
 intro h g i j hi hj
 have fp:Fl p:=by obtain⟨b,_,_,_,rfl,_⟩:=t.ex;exact dR
 have S:=Si g.ok
 have z4:=bQ g.ok (g.load l4)
 have z5:=bQ g.ok (g.load l5)
 have z6:=bQ g.ok (g.load l6)
 refine ab (n:=19) (rs:=[.tmp 7]) rfl Tryz.e81 rfl rfl rfl (lbt rfl) ?_
 simp only [BS,LB]
 refine aF (aM rfl) (q:=0) (ps:=[(4,8),(4,7),(4,5)]) (by kernel_rfl) ?_
 simp only [BS,LB,cls,Nat.reduceLT,Nat.reduceEqDiff,Nat.reduceAdd,Nat.reducePow,Nat.reduceDiv,Nat.reduceMod,Nat.reduceLeDiff,Tryz.FFa281,g.load l4,g.load l5,g.load l6]
 refine dk (tQ S.ok ((t.gr g).gr S.gr) hR hQ hl) ?_
 intro h1 g1
 have v4:=ar g1 z4
 have v5:=ar g1 z5
 have v6:=ar g1 z6
 replace S:=S.call g1
 simp only [BS,LB,cls,Nat.reduceLT,Nat.reduceEqDiff,Nat.reduceAdd,Nat.reducePow,Nat.reduceDiv,Nat.reduceMod,Nat.reduceLeDiff,Tryz.FFa281,g1.load (g.load l4),g1.load (g.load l5),g1.load (g.load l6)]
 refine dk (tQ S.ok ((t.gr g).gr S.gr) hR hQ hl) ?_
 intro h2 g2
 replace S:=S.call g2
 simp only [BS,LB,cls,Nat.reduceLT,Nat.reduceEqDiff,Nat.reduceAdd,Nat.reducePow,Nat.reduceDiv,Nat.reduceMod,Nat.reduceLeDiff]
 refine dk (wP S.ok) ?_
 intro h3 g3
 replace S:=S.call g3
 simp only [BS,LB,cls,ac,Nat.reduceLT,Nat.reduceEqDiff,Nat.reduceAdd,Nat.reducePow,Nat.reduceDiv,Nat.reduceMod,Nat.reduceLeDiff]
 refine⟨by simp only [bz,bI,aX,bM,aZ,ne_eq,not_false_eq_true,bN,bW,bw,aY,cm,c7,aQ,Nat.reduceLT,Nat.reduceEqDiff,reduceIte,zW,an,cK,aA v4,aA v5,aA v6],?_⟩
 exact⟨rfl,S.gr⟩
theorem insNil_ok{h0:Hp}(ok:h0.t.Sized h0.n){v:Value}:bH zM 228 [.slice none 0 0,.int .i64 0,.int .i64 0,v] h0 (.tuple #[]):=by
 have S:=Si ok
 have w1:au .i64 1=1:=rfl
 have c1: ¬(1:Int)<0:=by decide
 refine ab (n:=53) (rs:=[]) rfl Tryz.e228 rfl rfl rfl (lbt rfl) ?_
 simp only [BS,LB,Nat.reduceLT,Nat.reduceEqDiff,Int.reduceAdd,w1]
 rw [bL]
 simp only [BS,LB,ac,Nat.reduceLT,Nat.reduceEqDiff,c1]
 exact S.gr
theorem yg{h0:Hp}(ok:h0.t.Sized h0.n){m:Nat}{g:FuncId}{post:Array Value}:bH zM 80 [.slice none 0 0,.int .i64 (m:Nat),.func (.func g) #[] post] h0 (.slice none 0 0):=by
 have S:=Si ok
 have cl:bH zM 44 [.slice none 0 0] h0 (.slice none 0 0):=by
  refine ab (n:=8) (rs:=[.tmp 2]) rfl Tryz.e44 rfl rfl rfl (lbt rfl) ?_
  simp only [BS,LB,ac,Nat.reduceLT,Nat.reduceEqDiff,Tryz.FFa244]
  exact S.gr
 have mn:min (m:Int) 0=0:=by omega
 have c1: ¬(20:Int)<=0:=by decide
 have c2: ¬(20:Int)<0:=by decide
 have so: ∀{h:Hp},h.t.Sized h.n->bH zM 152 [.slice none 0 0,.func (.func g) #[] post] h (.tuple #[]):=fun {h} okh=>by
  have S:=Si okh
  have st:bH zM 207 [.slice none 0 0,.int .i64 0,.func (.func g) #[] post] h (.tuple #[]):=by
   refine ab (n:=63) (rs:=[]) rfl Tryz.e207 rfl rfl rfl (lbt rfl) ?_
   simp only [BS,LB,Nat.reduceLT,Nat.reduceEqDiff]
   rw [bL]
   simp only [BS,LB,Nat.reduceLT,Nat.reduceEqDiff,c1]
   refine aq (insNil_ok S.ok) ?_;intro h g;replace S:=S.call g;clear g
   simp only [BS]
   rw [bL]
   simp only [BS,LB,ac,Nat.reduceLT,Nat.reduceEqDiff,c2]
   exact S.gr
  refine ab (n:=9) (rs:=[]) rfl Tryz.e152 rfl rfl rfl (lbt rfl) ?_
  simp only [BS,LB,Nat.reduceLT,Nat.reduceEqDiff,Xc,Tryz.FFa2152]
  refine aq st ?_;intro h' g';replace S:=S.call g'
  simp only [BS,LB,ac]
  exact S.gr
 have sl:dT zM 33 (.slice none 0 0) none (some (.int .i64 0)) none=some (.slice none 0 0):=by
  simp only [dT,XD,XE,eg,ee]
  rfl
 refine ab (n:=18) (rs:=[.tmp 6]) rfl Tryz.e80 rfl rfl rfl (lbt rfl) ?_
 simp only [BS,LB,Nat.reduceLT,Nat.reduceEqDiff]
 refine aq cl ?_;intro h g1;replace S:=S.call g1
 simp only [BS,LB,Nat.reduceLT,Nat.reduceEqDiff]
 refine aq (so S.ok) ?_;intro h g1;replace S:=S.call g1
 simp only [BS,LB,ac,Nat.reduceLT,Nat.reduceEqDiff,Xc,Option.map_some,Option.map_none,Tryz.FFa280,mn,sl]
 exact S.gr
theorem y8{h0:Hp}(ok:h0.t.Sized h0.n){m N:Nat}{p:Value}{l:List Int}{R Q:Nat->List Int}(t:TabAt h0 m p N l R Q)(hR: ∀i,i<l.length->(R i).length=N)(hQ: ∀i,i<l.length->(Q i).length=N)(hl:l.length<=16){s w most:Int}:
 Ret zM 37 [p,.int .i64 s,.int .i64 w,.int .i64 most] h0 fun r h'=>Gr h0 h'/\aE h' 1 cd r (actL N l.length R Q s w most)/\ ∀c,aw r c->h0.n<=c:=by
 have S:=Si ok
 have fp:Fl p:=by obtain⟨b,_,_,_,rfl,_⟩:=t.ex;exact dR
 obtain⟨mk,hmk⟩: ∃k:Nat,max most 1=(k:Int):=⟨(max most 1).toNat,by omega⟩
 have hmk':(max most 1).toNat=mk:=by omega
 refine ab (n:=27) (rs:=[.tmp 8]) rfl Tryz.e37 rfl rfl rfl (lbt rfl) ?_
 simp only [BS,Nat.reduceLT]
 refine ag (cJ (by assumption)) S ?_;clear S;intro h b4 S n_b4
 simp only [BS,Nat.reduceLT,Nat.reduceEqDiff,if_false]
 refine ag (cJ (by exact aU)) S ?_;clear S;intro h b5 S n_b5
 simp only [BS,Nat.reduceLT,Nat.reduceEqDiff,if_false]
 refine ag (cJ (by exact aU)) S ?_;clear S;intro h b6 S n_b6
 simp only [BS,LB,Nat.reduceLT,Nat.reduceEqDiff,Tryz.FFa237,S.ld (b:=b4) (o:=0) m2 rfl]
 have k0:=S.fr.n
 refine step_ret (my S.ok (t.gr S.gr) (by omega)) ?_
 rintro r h ⟨g,sl,hc⟩
 replace S:=S.call g
 simp only [BS,LB,Nat.reduceLT,Nat.reduceEqDiff,Tryz.FFa237,sl.lenq]
 replace S:=S.nilG (k:=1)
 refine bO (fun(i:Nat) ρ h=>i<=l.length/\ ∃vR,St NoM h0 h [(b6,.row [.int .i64 w] 1),(b5,.row [.int .i64 s] 1),(b4,.row [p] 1)] [(vR,1,gI (Xj i))]/\(i=0->vR=.slice none 0 0)/\ρ 3=.int .i64 most/\ρ 4=ptrTo b4/\ρ 5=ptrTo b5/\ρ 6=ptrTo b6/\ρ 9=vR/\ρ 13=.int .i64 (l.length:Nat)/\ρ 14=.int .i64 i) (fun i=>l.length-i) ?_ 0 _ _ ?_
 . clear S
   intro i ih ρ h ⟨hi,vR,S,hv,r3,r4,r5,r6,r9,r13,r14⟩
   have wi:au .i64 ((i:Int)+1)=((i+1:Nat):Int):=by rw [wrap64]<;>omega
   by_cases hlt:i<l.length
   . simp only [BS,LB,Nat.reduceLT,Nat.reduceEqDiff,r9,r13,r14,aS,hlt]
     refine ag (cu (by exact XD) (by exact XM) (by decide) (by rfl)) S ?_;clear S;intro h bt S n_bt;simp only [LC,bq,bR,ae,Nat.reduceMul,Nat.reduceAdd,XQ,XR,Xx,XS]at S
     simp only [BS,LB,Nat.reduceLT,Nat.reduceEqDiff]
     have src:aO h 1 (.slice (some ⟨bt,0,none⟩) 1 1)=some (1,[.int .i64 (i:Nat)]):=by simp only [aO];rw [S.lds (b:=bt) (o:=0) (n:=1*1) m0 (lbt rfl)];rfl
     replace S:=S.drop1
     refine fZ (S.grow (j:=0) (m:=1) (new:=[.int .i64 (i:Nat)]) rfl XD XM (by decide) Tryz.n33 src rfl (by decide) rfl (by rw [pU];simp;omega)) ?_
     clear S src;rintro h vR' S
     simp only [LC]at S
     have e:gI (Xj i)++[.int .i64 (i:Nat)]=gI (Xj (i+1)):=by unfold gI;rw [List.range_succ,List.map_append];rfl
     rw [e]at S
     simp only [BS,LB,Nat.reduceLT,Nat.reduceEqDiff,r14,wi]
     exact ih (i+1) _ _ (by omega) ⟨by omega,vR',S,fun h=>(by omega),by simp [aa,r3],by simp [aa,r4,an],by simp [aa,r5,an],by simp [aa,r6,an],by simp [aa],by simp [aa,r13],by simp [aa]⟩
   . have ei:i=l.length:=by omega
     subst ei
     simp only [BS,LB,Nat.reduceLT,Nat.reduceEqDiff,r3,r4,r5,r6,r9,r13,r14,aS,hlt]
     by_cases hn:l.length=0
     . have ev:=hv hn
       subst ev
       have kS:=S.fr.n
       rw [hmk]
       refine aq (yg S.ok) ?_
       intro h' g
       replace S:=S.call g
       simp only [BS,LB,ac,Nat.reduceLT,Nat.reduceEqDiff]
       refine⟨S.gr,.inl ⟨rfl,?_⟩,fun c hc=>hc.elim⟩
       unfold actL
       rw [hn];simp
     . have sA:aE h 1 cd vR (Xj l.length):=(S.gown _ m0).1.sl (ue _).symm gT (by decide)
       have kS:=S.fr.n
       have cf:=zz (t.gr S.gr) hR hQ (by omega) (s:=s) (w:=w) (b4:=b4) (b5:=b5) (b6:=b6) (S.ld m2 rfl) (S.ld m1 rfl) (S.ld m0 rfl)
       rw [hmk]
       refine step_ret (first_ok (N:=l.length) (m:=mk) (Gr.refl S.ok) sA (by intro e;have:=congrArg List.length e;rw [List.length_range]at this;exact hn this) (by simp;omega) (fun x hx=>List.mem_range.1 hx) cf (by omega)) ?_
       rintro r h' ⟨g,sl',hc'⟩
       replace S:=S.call g
       simp only [BS,LB,ac,Nat.reduceLT,Nat.reduceEqDiff]
       rw [List.length_range]at sl'
       exact⟨S.gr,by unfold actL;rw [hmk'];exact sl',fun c hc=>Xd kS (hc' c hc)⟩
 . exact⟨Xg _,_,S,fun _=>rfl,by simp [aa,cK],by simp [aa,an],by simp [aa,an],by simp [aa,an],by simp [aa],by simp [aa],by simp [aa]⟩

open Tryz in
def Tryz.FFb2167:=aj Z1<|aj Z2<|aj Z0<|aj Z3<|aj Z4<|aj Z20<|aj Z18<|aj Z21<|aj Z87<|aj a234<|aj s234<|aj z234<|n234
theorem gU.keep{h h':Hp}{m n:Nat}{v:Value}{R:Nat->List Int}(ok:h.t.Sized h.n)(g:iB h h')(r:gU h m v n R):gU h' m v n R:=by
 obtain⟨ws,a,b,c,d⟩:=r
 exact⟨ws,a.keep ok g,b,c,fun i w hw=>⟨(d i w hw).1.keep ok g,(d i w hw).2⟩⟩
theorem TabAt.keep{h h':Hp}{m N:Nat}{p:Value}{l:List Int}{R Q:Nat->List Int}(ok:h.t.Sized h.n)(g:iB h h')(t:TabAt h m p N l R Q):TabAt h' m p N l R Q:=by
 obtain⟨b,vM,vT,vF,e,h1,h2,h3,h4,h5,h6⟩:=t.ex
 exact⟨b,vM,vT,vF,e,g.row ok h1,h2.keep ok g,h3.keep ok g,h4.keep ok g,h5,h6⟩
theorem bEach_ok{h0:Hp}(ok:h0.t.Sized h0.n){pt ve:Value}(f1:Fl pt)(f2:Fl ve):Ret zM 96 [pt,ve] h0 fun v h'=>Gr h0 h'/\ ∃b1 b2,v=.func (.func 167) #[] #[ptrTo b1,ptrTo b2]/\h0.n<=b1/\h0.n<=b2/\h'.load b1 0 1=some [pt]/\h'.load b2 0 1=some [ve]:=by
 have S:=Si ok
 refine ab (n:=6) (rs:=[.tmp 4]) rfl Tryz.e96 rfl rfl rfl (lbt rfl) ?_
 simp only [BS,Nat.reduceLT]
 refine ag (cJ (by assumption)) S ?_;clear S;intro h b1 S n_b1
 simp only [BS,Nat.reduceLT,Nat.reduceEqDiff,if_false]
 refine ag (cJ (by assumption)) S ?_;clear S;intro h b2 S n_b2
 simp only [BS,LB,ac,Nat.reduceLT,Nat.reduceEqDiff]
 exact⟨S.gr,b1,b2,rfl,n_b1,n_b2,S.ld m1 rfl,S.ld m0 rfl⟩
def TellF(E:Env)(hq:Hp)(g:FuncId)(post:List Value)(N:Nat)(f:Nat->Int):Prop:= ∀h,h.t.Sized h.n->iB hq h-> ∀v,v<N->bH E g ([.int .i64 (v:Nat)]++post) h (.int .i64 (f v))
theorem bEach_it{hq h0:Hp}(okq:hq.t.Sized hq.n)(ok0:h0.t.Sized h0.n)(kq:iB hq h0)(nq:hq.n<=h0.n){m N:Nat}{pt:Value}{l:List Int}{R Q:Nat->List Int}(t:TabAt hq m pt N l R Q)(hN:N<=1000){b1 b2:Nat}{g:FuncId}{post:Array Value}{f:Nat->Int}(hf:TellF zM hq g post.toList N f)
 (e1:h0.load b1 0 1=some [pt]) (e2:h0.load b2 0 1=some [.func (.func g) #[] post]):
 IterN zM 167 [] [ptrTo b1,ptrTo b2] h0 (fun c=>c=b1\/c=b2\/c<hq.n) ((Xj N).map fun(v:Nat)=>[.int .i64 (f v)]):=by
 intro lb J Z hz Y h F s hj
 have l1:=s.load ok0 e1 (.inl rfl)
 have fp:Fl pt:=by obtain⟨b,_,_,_,rfl,_⟩:=t.ex;exact dR
 refine enter (n:=17) (rs:=[]) rfl Tryz.e167 rfl rfl rfl (lbt rfl) ?_
 simp only [BS,LB,Nat.reduceLT,Tryz.FFb2167,l1]
 refine aq (oH s.ok (t.keep okq (s.keep kq nq (fun c hc=>.inr (.inr hc))))) ?_
 intro h' g1
 have sA:=s.gr g1
 have jA:=Y.gr _ _ _ _ hj g1
 simp only [BS]
 refine bO (fun(i:Nat) ρ h=>i<=N/\ ∃F,ItS h0 (fun c=>c=b1\/c=b2\/c<hq.n) h F/\J i h F/\ρ 0=.func (.yield lb) #[] #[]/\ρ 1=ptrTo b1/\ρ 2=ptrTo b2/\ρ 6=.int .i64 (N:Nat)/\ρ 7=.int .i64 i) (fun i=>N-i) ?_ 0 _ _ ?_
 . clear l1 s hj sA jA F g1 h
   intro i ih ρ h ⟨hi,F,s,hj,r0,r1,r2,r6,r7⟩
   have w:au .i64 ((i:Int)+1)=((i+1:Nat):Int):=by rw [wrap64]<;>omega
   by_cases hlt:i<N
   . have l2:=s.load ok0 e2 (.inr (.inl rfl))
     have hx:((Xj N).map fun(v:Nat)=>[Value.int .i64 (f v)])[i]? =some [.int .i64 (f i)]:=by rw [Xk,XP hlt];rfl
     simp only [BS,LB,Nat.reduceLT,Nat.reduceEqDiff,Tryz.FFb2167,r0,r2,r6,r7,aS,hlt,l2]
     refine aq (hf _ s.ok (s.keep kq nq (fun c hc=>.inr (.inr hc))) i hlt) ?_
     intro h2 g2
     simp only [BS,LB,Nat.reduceLT,Nat.reduceEqDiff]
     refine gp Y (s.gr g2) (Y.gr _ _ _ _ hj g2) (i:=i) hx ?_ ?_ ?_
     . intro h3 F3 a s3 _ _
       simp only [BS,LB,Nat.reduceLT,Nat.reduceEqDiff,r7,w]
       exact ih (i+1) _ _ (by omega) ⟨by omega,F3,s3,a,by simp [aa,r0],by simp [aa,r1,an],by simp [aa,r2,an],by simp [aa,r6],by simp [aa]⟩
     . intro h3 a _
       simp only [BS,LB,Nat.reduceLT,Nat.reduceEqDiff]
       exact je rfl ⟨rfl,.inr (.inl ⟨_,rfl,a⟩)⟩
     . intro v h3 a
       exact absurd a (hz v h3)
   . simp only [BS,LB,Nat.reduceLT,r6,r7,aS,hlt]
     have:i=N:=by omega
     subst this
     exact dM (cV ⟨rfl,_,rfl,rfl,.inl ⟨_,F,rfl,by simpa using hj⟩⟩)
 . exact⟨Xg _,F,sA,jA,by simp [aa,cK],by simp [aa,cK,an],by simp [aa,cK,an],by simp [aa],by simp [aa]⟩
def TabQ(h:Hp)(pt:Value)(nd:Nat)(l:List Int)(R Q:Nat->List Int):Prop:=(∃m,TabAt h m pt nd l R Q/\(∀i,i<l.length->(R i).length=nd)/\ ∀i,i<l.length->(Q i).length=nd)\/(pt=.pointer none/\nd=0/\l=[])
theorem TabQ.gr{h h':Hp}{pt:Value}{nd:Nat}{l:List Int}{R Q:Nat->List Int}(t:TabQ h pt nd l R Q)(g:Gr h h'):TabQ h' pt nd l R Q:=t.imp (fun⟨m,a,b⟩=>⟨m,a.gr g,b⟩) (fun h=>h)
def ansV(c:Int)(d:Int)(vA vB:Value):Value:=.agg ⟨[.int .i64 c,.int .i64 d,vA,vB]⟩
end Go.Ab
end
section
namespace Go.Ab
section
variable{key:Nat->Int}{n m:Nat}
theorem fS{α:Type}{f:α->Int}{d:Int}: ∀(l:List α) (b:Int),l.foldl (fun b i=>max b (f i)) b<=d↔b<=d/\ ∀i∈l,f i<=d
 | [],b=>by simp
 | x::l,b=>by
   rw [List.foldl_cons,fS l]
   simp only [Xy,forall_eq_or_imp]
   constructor
   . rintro⟨h1,h2⟩;exact⟨by omega,by omega,h2⟩
   . rintro⟨h1,h2,h3⟩;exact⟨by omega,h3⟩
end
end Go.Ab

end
section
namespace Go.Ab
open Go.Proofs
set_option maxRecDepth 10000
section
variable{γ:Gra}{l:List Int}
theorem zP(eT: ∀{s:Nat},s<γ.nodes-> ∀v,IsD (seen γ.arcs Arc.t Arc.s) s v (dOf (seen γ.arcs Arc.t Arc.s) s v))(eF: ∀{s:Nat},s<γ.nodes-> ∀v,IsD (seen γ.arcs Arc.s Arc.t) s v (dOf (seen γ.arcs Arc.s Arc.t) s v))(hl:eA γ.nodes l)
 {v u w d:Nat} (hv:v<γ.nodes) (hu:u<γ.nodes) (hw:w<γ.nodes) (hd:IsD (seen γ.arcs Arc.s Arc.t) v u d) (hdf:d<FAR) (i:Int):dz γ.nodes l.length (toR γ l) (frR γ l) i v w<=d+dz γ.nodes l.length (toR γ l) (frR γ l) i u w:=by
 unfold dz
 by_cases hi:0<=i/\i<(l.length:Int)
 . rw [if_pos ⟨by omega,by omega,hi⟩,if_pos ⟨by omega,by omega,hi⟩]
   obtain⟨i,rfl⟩:=XI hi.1
   have hi:i<l.length:=by omega
   have hm:=hl.2 i hi
   obtain⟨s,es⟩: ∃s:Nat,l.getD i 0=s:=⟨(l.getD i 0).toNat,by omega⟩
   have hs:s<γ.nodes:=by omega
   rw [ns hi hv,ns hi hw,ns hi hu,ni hi hv,ni hi hw,ni hi hu,es,Int.toNat_natCast]
   have hF:=fD
   have a1:=(eT hs v).le
   have a2:=(eT hs w).le
   have a3:=(eF hs v).le
   have a4:=(eF hs w).le
   have a5:=(eT hs u).le
   have a6:=(eF hs u).le
   have t1:=fun h2=>tri_to (uo γ.arcs) hd (eT hs v) (eT hs u) hdf h2
   have t2:=fun h2=>tri_fr hd (eF hs v) (eF hs u) hdf h2
   rw [ju (by omega) (by omega),ju (by omega) (by omega),ju (by omega) (by omega),ju (by omega) (by omega)]
   generalize dOf (seen γ.arcs Arc.t Arc.s) s v=p1 at*
   generalize dOf (seen γ.arcs Arc.t Arc.s) s u=p2 at*
   generalize dOf (seen γ.arcs Arc.t Arc.s) s w=p3 at*
   generalize dOf (seen γ.arcs Arc.s Arc.t) s v=q1 at*
   generalize dOf (seen γ.arcs Arc.s Arc.t) s u=q2 at*
   generalize dOf (seen γ.arcs Arc.s Arc.t) s w=q3 at*
   have k1:p2<FAR->p1<=d+p2:=fun h=>(t1 h).2
   have k1':p2<FAR->p1<FAR:=fun h=>(t1 h).1
   have k2:q1<FAR->q2<=q1+d:=fun h=>(t2 h).2
   have k2':q1<FAR->q2<FAR:=fun h=>(t2 h).1
   clear t1 t2 eT eF hl
   have e1:(if p3<72057594037927936 then(if p1<72057594037927936 then max 0 ((p1:Int)-p3)else 72057594037927936)else 0)<=d+(if p3<72057594037927936 then(if p2<72057594037927936 then max 0 ((p2:Int)-p3)else 72057594037927936)else 0):=by
    by_cases h2:p2<FAR
    . have:=k1 h2
      have:=k1' h2
      repeat' split
      all_goals omega
    . repeat' split
      all_goals omega
   have e2:(if q1<72057594037927936 then(if q3<72057594037927936 then max 0 ((q3:Int)-q1)else 72057594037927936)else 0)<=d+(if q2<72057594037927936 then(if q3<72057594037927936 then max 0 ((q3:Int)-q2)else 72057594037927936)else 0):=by
    by_cases h2:q1<FAR
    . have:=k2 h2
      have:=k2' h2
      repeat' split
      all_goals omega
    . repeat' split
      all_goals omega
   omega
 . rw [if_neg (fun h=>hi h.2.2),if_neg (fun h=>hi h.2.2)]
   omega
theorem uz(eT: ∀{s:Nat},s<γ.nodes-> ∀v,IsD (seen γ.arcs Arc.t Arc.s) s v (dOf (seen γ.arcs Arc.t Arc.s) s v))(eF: ∀{s:Nat},s<γ.nodes-> ∀v,IsD (seen γ.arcs Arc.s Arc.t) s v (dOf (seen γ.arcs Arc.s Arc.t) s v))(hl:eA γ.nodes l)
 {v u w d:Nat} (hv:v<γ.nodes) (hu:u<γ.nodes) (hw:w<γ.nodes) (hd:IsD (seen γ.arcs Arc.s Arc.t) v u d) (hdf:d<FAR) (act:List Int):cU γ.nodes l.length (toR γ l) (frR γ l) v w act<=d+cU γ.nodes l.length (toR γ l) (frR γ l) u w act:=by
 have h:=(fS (f:=fun i=>dz γ.nodes l.length (toR γ l) (frR γ l) i u w) act 0).1 (XF _)
 refine(fS (f:=fun i=>dz γ.nodes l.length (toR γ l) (frR γ l) i v w) act 0).2 ⟨?_,fun i hi=>?_⟩
 . have:=h.1
   unfold cU
   omega
 . have h1:=zP eT eF hl hv hu hw hd hdf i
   have h2:=h.2 i hi
   unfold cU
   omega
theorem jT{N n:Nat}{R Q:Nat->List Int}{v w:Int}{act:List Int}:0<=cU N n R Q v w act:=((fS (f:=fun i=>dz N n R Q i v w) act 0).1 (XF _)).1
end
end Go.Ab

end
section
namespace Go.Ab
open Go.Proofs
set_option maxRecDepth 10000
theorem y7{N n:Nat}{R Q:Nat->List Int}{i v:Int}:dz N n R Q i v v=0:=by
 have: ∀x:Int,lI x x=0:=fun x=>by unfold lI wy;repeat' split;all_goals omega
 unfold dz
 split
 . rw [this,this];rfl
 . rfl
theorem uP{N n:Nat}{R Q:Nat->List Int}{v:Int}(act:List Int):cU N n R Q v v act=0:=by
 refine Int.le_antisymm ((fS (f:=fun i=>dz N n R Q i v v) act 0).2 ⟨XF _,fun i _=>?_⟩) jT
 show dz N n R Q i v v<=0
 rw [y7]
 exact XF _
theorem wk_first{A:List Arc}{N v u x:Nat}(hA: ∀a∈A,a.s<N)(h:Wk A v u x):v=u\/v<N:=by
 induction h with
 |nil=>exact .inl rfl
 | snoc ha _ ih=>
   rcases ih with e|h
   . exact .inr (by rw [e];exact hA _ ha)
   . exact .inr h
section
variable{γ:Gra}{l:List Int}
end
end Go.Ab

end
section
namespace Go.Ab
open Go.Proofs
set_option maxRecDepth 10000
def mj(a b:Int):Int:=if wy a<72057594037927936 then(if wy b<72057594037927936 then wy a-wy b else 72057594037927936)else 72057594037927936
theorem twinD_nn{a b:Int}(ha:0<=a)(hb:0<=b):mj a b=if a<(FAR:Int)/\b<(FAR:Int)then a-b else(FAR:Int):=by
 have:=fD
 unfold mj wy
 repeat' split
 all_goals omega
section
variable{γ:Gra}{l:List Int}
theorem xU(eT: ∀{s:Nat},s<γ.nodes-> ∀v,IsD (seen γ.arcs Arc.t Arc.s) s v (dOf (seen γ.arcs Arc.t Arc.s) s v))(eF: ∀{s:Nat},s<γ.nodes-> ∀v,IsD (seen γ.arcs Arc.s Arc.t) s v (dOf (seen γ.arcs Arc.s Arc.t) s v))(hl:eA γ.nodes l)
 {v u w d:Nat} (hv:v<γ.nodes) (hu:u<γ.nodes) (hw:w<γ.nodes) (hd:IsD (seen γ.arcs Arc.s Arc.t) v u d) (hdf:d<FAR) (i:Int):dz γ.nodes l.length (toR γ l) (frR γ l) i w u<=d+dz γ.nodes l.length (toR γ l) (frR γ l) i w v:=by
 unfold dz
 by_cases hi:0<=i/\i<(l.length:Int)
 . rw [if_pos ⟨by omega,by omega,hi⟩,if_pos ⟨by omega,by omega,hi⟩]
   obtain⟨i,rfl⟩:=XI hi.1
   have hi:i<l.length:=by omega
   have hm:=hl.2 i hi
   obtain⟨s,es⟩: ∃s:Nat,l.getD i 0=s:=⟨(l.getD i 0).toNat,by omega⟩
   have hs:s<γ.nodes:=by omega
   rw [ns hi hv,ns hi hw,ns hi hu,ni hi hv,ni hi hw,ni hi hu,es,Int.toNat_natCast]
   have hF:=fD
   have a1:=(eT hs v).le
   have a2:=(eT hs w).le
   have a3:=(eF hs v).le
   have a4:=(eF hs w).le
   have a5:=(eT hs u).le
   have a6:=(eF hs u).le
   have t1:=fun h2=>tri_to (uo γ.arcs) hd (eT hs v) (eT hs u) hdf h2
   have t2:=fun h2=>tri_fr hd (eF hs v) (eF hs u) hdf h2
   rw [ju (by omega) (by omega),ju (by omega) (by omega),ju (by omega) (by omega),ju (by omega) (by omega)]
   generalize dOf (seen γ.arcs Arc.t Arc.s) s v=p1 at*
   generalize dOf (seen γ.arcs Arc.t Arc.s) s u=p2 at*
   generalize dOf (seen γ.arcs Arc.t Arc.s) s w=p3 at*
   generalize dOf (seen γ.arcs Arc.s Arc.t) s v=q1 at*
   generalize dOf (seen γ.arcs Arc.s Arc.t) s u=q2 at*
   generalize dOf (seen γ.arcs Arc.s Arc.t) s w=q3 at*
   have k1:p2<FAR->p1<=d+p2:=fun h=>(t1 h).2
   have k1':p2<FAR->p1<FAR:=fun h=>(t1 h).1
   have k2:q1<FAR->q2<=q1+d:=fun h=>(t2 h).2
   have k2':q1<FAR->q2<FAR:=fun h=>(t2 h).1
   clear t1 t2 eT eF hl
   have e1:(if p2<72057594037927936 then(if p3<72057594037927936 then max 0 ((p3:Int)-p2)else 72057594037927936)else 0)<=d+(if p1<72057594037927936 then(if p3<72057594037927936 then max 0 ((p3:Int)-p1)else 72057594037927936)else 0):=by
    by_cases h2:p2<FAR
    . have:=k1 h2
      have:=k1' h2
      repeat' split
      all_goals omega
    . repeat' split
      all_goals omega
   have e2:(if q3<72057594037927936 then(if q2<72057594037927936 then max 0 ((q2:Int)-q3)else 72057594037927936)else 0)<=d+(if q3<72057594037927936 then(if q1<72057594037927936 then max 0 ((q1:Int)-q3)else 72057594037927936)else 0):=by
    by_cases h2:q1<FAR
    . have:=k2 h2
      have:=k2' h2
      repeat' split
      all_goals omega
    . repeat' split
      all_goals omega
   omega
 . rw [if_neg (fun h=>hi h.2.2),if_neg (fun h=>hi h.2.2)]
   omega
theorem sD(eT: ∀{s:Nat},s<γ.nodes-> ∀v,IsD (seen γ.arcs Arc.t Arc.s) s v (dOf (seen γ.arcs Arc.t Arc.s) s v))(eF: ∀{s:Nat},s<γ.nodes-> ∀v,IsD (seen γ.arcs Arc.s Arc.t) s v (dOf (seen γ.arcs Arc.s Arc.t) s v))(hl:eA γ.nodes l)
 {v u w d:Nat} (hv:v<γ.nodes) (hu:u<γ.nodes) (hw:w<γ.nodes) (hd:IsD (seen γ.arcs Arc.s Arc.t) v u d) (hdf:d<FAR) (act:List Int):cU γ.nodes l.length (toR γ l) (frR γ l) w u act<=d+cU γ.nodes l.length (toR γ l) (frR γ l) w v act:=by
 have h:=(fS (f:=fun i=>dz γ.nodes l.length (toR γ l) (frR γ l) i w v) act 0).1 (XF _)
 refine(fS (f:=fun i=>dz γ.nodes l.length (toR γ l) (frR γ l) i w u) act 0).2 ⟨?_,fun i hi=>?_⟩
 . have:=h.1
   unfold cU
   omega
 . have h1:=xU eT eF hl hv hu hw hd hdf i
   have h2:=h.2 i hi
   unfold cU
   omega
noncomputable def twP(γ:Gra)(l act:List Int)(s w:Nat)(v:Nat):Int:=mj (cU γ.nodes l.length (toR γ l) (frR γ l) v w act) (cU γ.nodes l.length (toR γ l) (frR γ l) s v act)
theorem twP_eq{act:List Int}{s w v:Nat}:twP γ l act s w v=if cU γ.nodes l.length (toR γ l) (frR γ l) v w act<(FAR:Int)/\cU γ.nodes l.length (toR γ l) (frR γ l) s v act<(FAR:Int)then cU γ.nodes l.length (toR γ l) (frR γ l) v w act-cU γ.nodes l.length (toR γ l) (frR γ l) s v act else(FAR:Int):=twinD_nn jT jT
theorem twP_op{act:List Int}{s w v:Nat}:OpB (twP γ l act s w) v↔cU γ.nodes l.length (toR γ l) (frR γ l) v w act<(FAR:Int)/\cU γ.nodes l.length (toR γ l) (frR γ l) s v act<(FAR:Int):=by
 have b1:=jT (N:=γ.nodes) (n:=l.length) (R:=toR γ l) (Q:=frR γ l) (v:=(v:Int)) (w:=(w:Int)) (act:=act)
 have b2:=jT (N:=γ.nodes) (n:=l.length) (R:=toR γ l) (Q:=frR γ l) (v:=(s:Int)) (w:=(v:Int)) (act:=act)
 unfold OpB
 rw [twP_eq]
 split
 . constructor
   . intro _;assumption
   . intro _;omega
 . constructor
   . intro h;omega
   . intro h;exact absurd h (by assumption)
theorem twP_feas(eT: ∀{s:Nat},s<γ.nodes-> ∀v,IsD (seen γ.arcs Arc.t Arc.s) s v (dOf (seen γ.arcs Arc.t Arc.s) s v))(eF: ∀{s:Nat},s<γ.nodes-> ∀v,IsD (seen γ.arcs Arc.s Arc.t) s v (dOf (seen γ.arcs Arc.s Arc.t) s v))(hl:eA γ.nodes l)(hγ:Good γ)
 {s w:Nat} (hs:s<γ.nodes) (hw:w<γ.nodes) (act:List Int) (al:Nat->Bool):kY γ.arcs al (twP γ l act s w):=by
 intro i hi hin
 obtain⟨_,o1,o2⟩:=hin
 have ha:γ.arcs.getD i default∈γ.arcs:=by rw [zN,zV hi];exact Xq hi
 generalize γ.arcs.getD i default=a at ha o1 o2
 obtain⟨h1,h2,h3⟩:=hγ.arcs a ha
 have p1:=twP_op.1 o1
 have p2:=twP_op.1 o2
 rw [twP_eq,twP_eq,if_pos p1,if_pos p2]
 have hd:=eF h1 a.t
 have hwk:Wk (seen γ.arcs Arc.s Arc.t) a.s a.t (0+a.w):=by rw [mE];exact .snoc ha .nil
 have hq:=hd.wk hwk
 have k1:=uz eT eF hl h1 h2 hw hd hq.1 act
 have k2:=sD eT eF hl h1 h2 hs hd hq.1 act
 omega
theorem twP_open(eT: ∀{s:Nat},s<γ.nodes-> ∀v,IsD (seen γ.arcs Arc.t Arc.s) s v (dOf (seen γ.arcs Arc.t Arc.s) s v))(eF: ∀{s:Nat},s<γ.nodes-> ∀v,IsD (seen γ.arcs Arc.s Arc.t) s v (dOf (seen γ.arcs Arc.s Arc.t) s v))(hl:eA γ.nodes l)
 {s w v x y:Nat} (hs:s<γ.nodes) (hw:w<γ.nodes) (hv:v<γ.nodes) (act:List Int) (h1:Wk γ.arcs s v x) (h2:Wk γ.arcs v w y):OpB (twP γ l act s w) v:=by
 refine twP_op.2 ⟨?_,?_⟩
 . have hd:=eF hv w
   have hq:=hd.wk (by rw [mE];exact h2)
   have:=uz eT eF hl hv hw hw hd hq.1 act
   rw [uP]at this
   omega
 . have hd:=eF hs v
   have hq:=hd.wk (by rw [mE];exact h1)
   have:=sD eT eF hl hs hv hs hd hq.1 act
   rw [uP]at this
   omega
theorem wk_hB{A:List Arc}{s w:Nat}{al:Nat->Bool}{pi:Nat->Int}(hal: ∀i,al i=true)(hp: ∀v x y,Wk A s v x->Wk A v w y->OpB pi v){v x:Nat}(h:Wk A s v x):(∃y,Wk A v w y)->Wk (hB A al pi false) s v x:=by
 induction h with
 |nil=>intro _;exact .nil
 | @snoc z a ha hz ih=>
   rintro⟨y,hy⟩
   have h1:Wk A a.s w (0+a.w+y):=(Wk.snoc ha .nil).trans hy
   obtain⟨i,hi,e⟩:=List.getElem_of_mem ha
   have e':A.getD i default=a:=by rw [zN,zV hi,e];rfl
   refine .snoc (jU.2 ⟨i,hi,⟨hal i,by rw [e'];exact hp _ _ _ hz h1,by rw [e'];exact hp _ _ _ (.snoc ha hz) hy⟩,by rw [e'];rfl⟩) (ih ⟨_,h1⟩)
theorem hB_sub{A:List Arc}{al:Nat->Bool}{pi:Nat->Int}{a:Arc}(h:a∈hB A al pi false):a∈A:=by
 obtain⟨i,hi,_,rfl⟩:=jU.1 h
 have:(⟨fsB false (A.getD i default),ftB false (A.getD i default),(A.getD i default).w⟩:Arc)=A.getD i default:=rfl
 rw [this,zN,zV hi];exact Xq hi
end
end Go.Ab

end
section
namespace Go.Ab
open Go.Proofs
set_option maxRecDepth 10000
def Tryz.FFtwb166:=aj Z1<|aj Z2<|aj Z0<|aj Z3<|aj Z9<|aj Z13<|aj Z5<|Z88
def Tryz.FFtwb97:=aj Z1<|aj Z2<|aj Z0<|aj Z4<|aj Z20<|aj Z18<|Z21
def Tryz.FFtwb40:=aj Z1<|aj Z2<|aj Z0<|aj Z3<|aj Z5<|aj Z4<|aj Z20<|aj Z18<|aj Z21<|aj Z88<|Z87
theorem vh{h0:Hp}(ok:h0.t.Sized h0.n){g:FuncId}{post:Array Value}{D W:Nat->Prop}{xs:List Int}(it:IterW zM g post.toList h0 D W (xs.map fun(x:Int)=>[.int .i64 x]))(hW: ∀b,W b->b<h0.n)(hn:xs.length<100000):
 Ret zM 166 [.slice none 0 0,.func (.func g) #[] post] h0 fun r h'=>Mo W h0 h'/\fJ h' (r,1,ints xs)/\ ∀c,aw r c->h0.n<=c:=by
 have S:=Si ok
 refine ab (n:=13) (rs:=[.tmp 4]) rfl Tryz.e166 rfl rfl rfl (lbt rfl) ?_
 simp only [BS,Nat.reduceLT]
 refine ag (cJ (by exact aV)) S ?_;clear S;intro h b2 S n_b2
 simp only [BS,Nat.reduceLT,Nat.reduceEqDiff,if_false]
 replace S:=S.nilG (k:=1)
 have g0:=S.gr
 replace S:=S.monoM (M:=W)
 have fr0:=S.fr
 refine kE S (g:=g) (a:=#[]) (b:=post) (by simp [cm,aa,bC,cq]) rfl rfl ?_
 intro h2 db lb S' hdb hlb g2
 obtain⟨X,hX,S'⟩: ∃X:gX,X=_/\St W h0 h2 [(lb,.loop X),(db,.dfr),(b2,.row [.slice none 0 0] 1)] [(.slice none 0 0,1,[])]:=⟨_,rfl,S'⟩
 have nW: ∀c,h0.n<=c-> ¬W c:=fun c h hw=>by have:=hW c hw;omega
 have hJ:Yld zM lb (fun k h' F=> ∃(vR:Value),St W h0 h' [(lb,.loop X),(db,.dfr),(b2,.row [vR] 1)] [(vR,1,ints (xs.take k))]/\k<=xs.length/\(∀c∈F,h0.n<=c)/\F=keys [(lb,.loop X),(db,.dfr),(b2,.row [vR] 1)] [(vR,1,ints (xs.take k))]) (fun _ _=>False) (xs.map fun(x:Int)=>[.int .i64 x]):=by
  refine⟨?_,?_,fun _ _ h=>h.elim,?_⟩
  . rintro i h F ⟨vR,S,_,_,rfl⟩;exact⟨S.ok,fun b hb=>S.key_lt hb⟩
  . rintro i h F h' ⟨vR,S,a,b,rfl⟩ gg;exact⟨vR,S.call gg,a,b,rfl⟩
  . rintro i x hR F hx ⟨vR,S,a,b,rfl⟩
    have hil:i<xs.length:=by
     have:=(List.getElem?_eq_some_iff.1 hx).1
     simpa using this
    rw [Xk,zV hil]at hx
    cases hx
    have tk:ints (xs.take (i+1))=ints (xs.take i)++[.int .i64 xs[i]]:=by rw [List.take_add_one,zV hil];exact nR _ _
    have tl:(xs.take i).length<=i:=by rw [Xn];omega
    subst hX
    refine kQ (S.get m0) (by rw [Tryz.e166];rfl) rfl ?_
    have S0:=S
    replace S:=S.base
    simp only [BS,LB,Nat.reduceLT,Nat.reduceEqDiff]
    refine jI S (i:=0) rfl rfl rfl rfl rfl ?_
    clear S;intro h S
    simp only [LC]at S
    simp only [BS,LB,Nat.reduceLT,Nat.reduceEqDiff,Tryz.FFtwb166,S.ld (b:=b2) (o:=0) m2 rfl]
    refine ag (cu (by exact Tryz.u24) (by exact Tryz.e2E) (by decide) (by rfl)) S ?_;clear S;intro h bs S n_bs;simp only [LC,bq,bR,ae,Nat.reduceMul,Nat.reduceAdd,XQ,XR,Xx,XS]at S
    simp only [BS,LB,Nat.reduceLT,Nat.reduceEqDiff]
    have src:aO h 1 (.slice (some ⟨bs,0,none⟩) 1 1)=some (1,[.int .i64 xs[i]]):=by simp only [aO];rw [S.lds (b:=bs) (o:=0) (n:=1*1) m0 (lbt rfl)];rfl
    replace S:=S.drop1
    refine fZ (S.grow (j:=0) (m:=1) (new:=[.int .i64 xs[i]]) rfl Tryz.u24 Tryz.e2E (by decide) Tryz.n24 src rfl (by decide) rfl (by rw [cN];simp;omega)) ?_
    clear S src;rintro h vR' S
    simp only [LC]at S
    have fv:Fl vR':=(S.gown _ m0).1.fl
    simp only [BS,LB,Nat.reduceLT,Nat.reduceEqDiff]
    refine aD (aG S (i:=2) rfl Tryz.s24 fv (zZ (lbt rfl)) ono) ?_
    clear S;rintro h ⟨S,_⟩
    simp only [LC]at S
    simp only [BS]
    refine gK S (i:=0) rfl ?_
    clear S;intro h S
    simp only [LC]at S
    rw [<-tk]at S
    have fin:=S0.rebase S
    refine .inl ⟨rfl,_,⟨vR',fin,by omega,fun c hc=>?_,rfl⟩,S.fr,fun c hc=>(S.key_own hc).symm⟩
    rcases S.key_own hc with h1|h1
    . have:=S0.fr.n;omega
    . exact b c h1
 have hF0: ∀c∈keys [(lb,Ob.loop X),(db,.dfr),(b2,.row [.slice none 0 0] 1)] [(.slice none 0 0,1,[])],h0.n<=c:=fun c hc=>by
  have n2:=n_b2
  have:=fr0.n
  simp [keys,dS]at hc
  omega
 refine fj (it lb _ _ (fun _ _ h=>h) hJ ?_ h2 _ ?_ ?_ (fun c hc=>nW c (hF0 c hc)) ⟨_,S',Xg _,hF0,rfl⟩) fun o rc h' y=>mI y ?_
 . rintro i h F h' ⟨vR,S,a,b,rfl⟩ gg
   exact⟨vR,S.step gg (fun c hc=>.inl hc) (fun c hc hw=>nW c (b c hc) hw),a,b,rfl⟩
 . have gg:Mo W h0 h2:=S'.fr
   exact⟨S'.ok,S'.fr.n,fun b hb _=>(g0.trans g2).get b hb,fun b hb h=>by have:=hF0 b hb;omega,fun b hb=>S'.key_lt hb⟩
 . exact fun b hb=>(g0.trans g2).get b (hW b hb)
 . rintro F ⟨vR,T,a,b,rfl⟩
   rw [XC,List.take_length]at T b
   subst hX
   refine⟨_,T.get m0,Nat.zero_ne_one,?_⟩
   replace T:=T.dead
   have S:=T
   show Run _ _ _ _ _ _ _ _
   simp only [BS,LB,Nat.reduceLT,Nat.reduceEqDiff,Tryz.FFtwb166,S.ld (b:=b2) (o:=0) m1 rfl]
   refine fF (kK [db] _ (L:=[(b2,_)]) T.base fun h3 S3=>⟨rfl,_,rfl,?_⟩)
   refine⟨(T.fr.trans S3.fr (fun c hc=>(T.key_own hc).symm):Mo W h0 h3),(S3.gown _ m0).1,fun x hx=>?_⟩
   refine b x ?_
   have:dS (vR,1,ints xs)=some x:=pQ (T.gown _ m0).1 hx
   exact eC m0 this
theorem yi{h0:Hp}(ok:h0.t.Sized h0.n){g:FuncId}{post:Array Value}{D W:Nat->Prop}{xs:List Int}(it:IterW zM g post.toList h0 D W (xs.map fun(x:Int)=>[.int .i64 x]))(hW: ∀b,W b->b<h0.n)(hn:xs.length<100000):
 Ret zM 95 [.func (.func g) #[] post] h0 fun r h'=>Mo W h0 h'/\fJ h' (r,1,ints xs)/\ ∀c,aw r c->h0.n<=c:=by
 have S:=Si ok
 refine ab (n:=5) (rs:=[.tmp 2]) rfl Tryz.e95 rfl rfl rfl (lbt rfl) ?_
 simp only [BS,LB,Nat.reduceLT,Nat.reduceEqDiff]
 refine step_ret (vh S.ok it hW hn) ?_
 rintro r h ⟨f,q⟩
 simp only [BS,LB,ac,Nat.reduceLT,Nat.reduceEqDiff]
 exact⟨f,q⟩
theorem yr{h0:Hp}(ok:h0.t.Sized h0.n){v t:Int}:bH zM 98 [.int .i64 v,.int .i64 t] h0 (.int .i64 (mj v t)):=by
 have S:=Si ok
 have b1:=wy_bd v
 have b2:=wy_bd t
 have w:au .i64 (wy v-wy t)=wy v-wy t:=by rw [wrap64]<;>omega
 refine ab (n:=18) (rs:=[.tmp 4]) rfl Tryz.e98 rfl rfl rfl (lbt rfl) ?_
 simp only [BS,LB,Nat.reduceLT,Nat.reduceEqDiff]
 refine aq (nZ S.ok) ?_;intro h g;replace S:=S.call g;clear g
 unfold mj
 by_cases h1:wy v<72057594037927936
 . simp only [BS,LB,Nat.reduceLT,Nat.reduceEqDiff,h1]
   refine aq (nZ S.ok) ?_;intro h g;replace S:=S.call g;clear g
   by_cases h2:wy t<72057594037927936
   . simp only [BS,LB,Nat.reduceLT,Nat.reduceEqDiff,h2]
     refine aq (oY S.ok) ?_;intro h g;replace S:=S.call g;clear g
     simp only [BS,LB,Nat.reduceLT,Nat.reduceEqDiff]
     refine aq (oY S.ok) ?_;intro h g;replace S:=S.call g;clear g
     simp only [BS,LB,ac,Nat.reduceLT,Nat.reduceEqDiff,w]
     exact S.gr
   . simp only [BS,LB,ac,Nat.reduceLT,Nat.reduceEqDiff,h2]
     exact S.gr
 . simp only [BS,LB,ac,Nat.reduceLT,Nat.reduceEqDiff,h1]
   exact S.gr
theorem twin1_ok{hq:Hp}{m N:Nat}{p:Value}{l:List Int}{R Q:Nat->List Int}(okq:hq.t.Sized hq.n)(t:TabAt hq m p N l R Q)(hR: ∀i,i<l.length->(R i).length=N)(hQ: ∀i,i<l.length->(Q i).length=N)(hl:l.length<1000){va:Value}{act:List Int}(ha:aE hq 1 (encI .i64) va act)(hal:act.length<1000){s w:Int}{b4 b5 b6 b7:Nat}(l4:hq.load b4 0 1=some [p])(l5:hq.load b5 0 1=some [va])(l6:hq.load b6 0 1=some [.int .i64 s])(l7:hq.load b7 0 1=some [.int .i64 w]):
 TellF zM hq 97 [ptrTo b4,ptrTo b5,ptrTo b7,ptrTo b6] N (fun v=>mj (cU N l.length R Q v w act) (cU N l.length R Q s v act)):=by
 intro h ok k v hv
 have fp:Fl p:=by obtain⟨b,_,_,_,rfl,_⟩:=t.ex;exact dR
 have fa:=ha.fl
 have S:=Si ok
 have k4:=k.load okq l4
 have k5:=k.load okq l5
 have k6:=k.load okq l6
 have k7:=k.load okq l7
 have z4:=bQ ok k4
 have z5:=bQ ok k5
 have z6:=bQ ok k6
 have z7:=bQ ok k7
 refine ab (n:=18) (rs:=[.tmp 6]) rfl Tryz.e97 rfl rfl rfl (lbt rfl) ?_
 simp only [BS,LB]
 refine aF (aM rfl) (q:=0) (ps:=[(4,7),(4,6),(4,5)]) (by kernel_rfl) ?_
 simp only [BS,LB,cls,Nat.reduceLT,Nat.reduceEqDiff,Nat.reduceAdd,Nat.reducePow,Nat.reduceDiv,Nat.reduceMod,Nat.reduceLeDiff,Tryz.FFtwb97,k4,k5,k7]
 refine dk (xM S.ok (t.keep okq k) hR hQ hl (ha.keep okq k) hal) ?_
 intro h1 g1
 have e4:=ar g1 z4
 have e5:=ar g1 z5
 have e6:=ar g1 z6
 have e7:=ar g1 z7
 replace S:=S.call g1
 have n1:=g1.n
 simp only [BS,LB,cls,Nat.reduceLT,Nat.reduceEqDiff,Nat.reduceAdd,Nat.reducePow,Nat.reduceDiv,Nat.reduceMod,Nat.reduceLeDiff,Tryz.FFtwb97,g1.load k4,g1.load k5,g1.load k6]
 refine dk (xM S.ok ((t.keep okq k).gr g1) hR hQ hl ((ha.keep okq k).gr g1) hal) ?_
 intro h2 g2
 have f4:=ar g2 (show b4<_ by omega)
 have f5:=ar g2 (show b5<_ by omega)
 have f6:=ar g2 (show b6<_ by omega)
 have f7:=ar g2 (show b7<_ by omega)
 replace S:=S.call g2
 simp only [BS,LB,cls,Nat.reduceLT,Nat.reduceEqDiff,Nat.reduceAdd,Nat.reducePow,Nat.reduceDiv,Nat.reduceMod,Nat.reduceLeDiff]
 refine dk (yr S.ok) ?_
 intro h3 g3
 replace S:=S.call g3
 simp only [BS,LB,cls,ac,Nat.reduceLT,Nat.reduceEqDiff,Nat.reduceAdd,Nat.reducePow,Nat.reduceDiv,Nat.reduceMod,Nat.reduceLeDiff]
 refine⟨by simp only [bz,bI,aX,bM,aZ,ne_eq,not_false_eq_true,bN,bW,bw,aY,cm,c7,aQ,Nat.reduceLT,Nat.reduceEqDiff,reduceIte,zW,an,bC,cq,az e4,aA e4,az e5,aA e5,az e6,aA e6,az e7,aA e7,az f4,aA f4,az f5,aA f5,az f6,aA f6,az f7,aA f7],?_⟩
 exact S.gr
theorem bTwin_ok{h0:Hp}(ok:h0.t.Sized h0.n){m N:Nat}{p:Value}{l:List Int}{R Q:Nat->List Int}(t:TabAt h0 m p N l R Q)(hR: ∀i,i<l.length->(R i).length=N)(hQ: ∀i,i<l.length->(Q i).length=N)(hl:l.length<1000)(hN:N<=1000){va:Value}{act:List Int}(ha:aE h0 1 (encI .i64) va act)(hal:act.length<1000){s w:Nat}(hs:s<N)(hw:w<N):
 Ret zM 40 [p,va,.int .i64 (s:Nat),.int .i64 (w:Nat)] h0 fun r h'=>Gr h0 h'/\aE h' 1 (encI .i64) r ((Xj N).map fun(v:Nat)=>mj (cU N l.length R Q v w act) (cU N l.length R Q s v act))/\ ∀c,aw r c->h0.n<=c:=by
 have fp:Fl p:=by obtain⟨b,_,_,_,rfl,_⟩:=t.ex;exact dR
 have fa:=ha.fl
 have S:=Si ok
 have c0:0<=(w:Int)/\(w:Int)<(N:Int):=by omega
 have c1:0<=(s:Int)/\(s:Int)<(N:Int):=by omega
 have dc:decide (0<=(w:Int)/\(w:Int)<(N:Int))=true:=decide_eq_true c0
 have ds:decide (0<=(s:Int)/\(s:Int)<(N:Int))=true:=decide_eq_true c1
 refine ab (n:=23) (rs:=[.tmp 8]) rfl Tryz.e40 rfl rfl rfl (lbt rfl) ?_
 simp only [BS,Nat.reduceLT]
 refine ag (cJ (by assumption)) S ?_;clear S;intro h b4 S n_b4
 simp only [BS,Nat.reduceLT,Nat.reduceEqDiff,if_false]
 refine ag (cJ (by assumption)) S ?_;clear S;intro h b5 S n_b5
 simp only [BS,Nat.reduceLT,Nat.reduceEqDiff,if_false]
 refine ag (cJ (by exact aU)) S ?_;clear S;intro h b6 S n_b6
 simp only [BS,Nat.reduceLT,Nat.reduceEqDiff,if_false]
 refine ag (cJ (by exact aU)) S ?_;clear S;intro h b7 S n_b7
 have gq:=S.gr
 have l4:=S.ld (b:=b4) (o:=0) m3 rfl
 have l5:=S.ld (b:=b5) (o:=0) m2 rfl
 have l6:=S.ld (b:=b6) (o:=0) m1 rfl
 have l7:=S.ld (b:=b7) (o:=0) m0 rfl
 have okq:=S.ok
 clear S
 rename Hp=>hq
 have S:=Si okq
 have tf:=twin1_ok okq (t.gr gq) hR hQ hl (ha.gr gq) hal l4 l5 l6 l7
 simp only [BS,LB,Nat.reduceLT,Nat.reduceEqDiff,Tryz.FFtwb40,l4,l6]
 refine aq (gP S.ok (t.gr gq)) ?_
 intro h g;replace S:=S.call g;clear g
 simp only [BS,LB,Nat.reduceLT,Nat.reduceEqDiff,Tryz.FFtwb40,ds,S.old l4 (fun h=>h),S.old l7 (fun h=>h)]
 refine aq (gP S.ok ((t.gr gq).gr S.gr)) ?_
 intro h g;replace S:=S.call g;clear g
 simp only [BS,LB,Nat.reduceLT,Nat.reduceEqDiff,Tryz.FFtwb40,dc,S.old l4 (fun h=>h)]
 refine step_ret (bEach_ok S.ok fp iE) ?_
 rintro r h ⟨g,b1,b2,rfl,n1,n2,y1,y2⟩
 replace S:=S.call g;clear g
 have it:=bEach_it okq S.ok S.gr.keep S.fr.n (t.gr gq) hN tf y1 y2
 have kn:=S.fr.n
 have kG:=gq.n
 rename Hp=>hE
 simp only [BS,LB,Nat.reduceLT,Nat.reduceEqDiff]
 generalize hxs:((Xj N).map fun(v:Nat)=>mj (cU N l.length R Q v w act) (cU N l.length R Q s v act))=xs
 have hlx:xs.length=N:=by rw [<-hxs];simp
 replace it:IterN zM 167 [] [ptrTo b1,ptrTo b2] hE (fun c=>c=b1\/c=b2\/c<hq.n) (xs.map fun x=>[.int .i64 x]):=by rw [<-hxs,List.map_map];exact it
 refine step_ret (yi S.ok (post:=#[ptrTo b1,ptrTo b2]) (iter_w it) (fun _ h=>h.elim) (by omega)) ?_
 rintro r h2 ⟨f,G,nr⟩
 have g2:=f.gr
 simp only [BS,LB,ac,Nat.reduceLT,Nat.reduceEqDiff]
 exact⟨gq.trans (S.gr.trans g2),G.sl rfl (fun _=>rfl) (by decide),fun c hc=>by have:=nr c hc;omega⟩
end Go.Ab
end
section
namespace Go.Ab
open Go.Proofs
set_option maxRecDepth 10000
def Tryz.FFtwn41:=aj Z1<|aj Z3<|aj Z35<|aj Z15<|Z89
def Tryz.FFtwn73:=aj Z1<|aj Z0<|aj Z3<|aj Z6<|aj Z10<|aj Z12<|Z11
def Tryz.FFtwn74:=aj Z3<|aj Z6<|aj Z10<|aj Z15<|aj Z12<|Z11
def Tryz.FFtwn75:=aj Z1<|aj Z0<|aj Z3<|aj Z44<|aj Z15<|Z49
def Tryz.FFtwn76:=aj Z2<|aj Z0<|aj Z3<|aj Z44<|aj Z15<|Z49
def Tryz.FFtwn77:=aj Z0<|aj Z3<|aj Z6<|aj Z10<|aj Z4<|aj Z15<|aj Z20<|aj Z18<|aj Z21<|aj Z12<|Z11
open Tryz in
def Tryz.FFtwn36:=aj Z1<|aj Z2<|aj Z0<|aj Z3<|aj Z7<|aj Z9<|aj Z44<|aj Z6<|aj Z10<|aj Z4<|aj Z20<|aj Z18<|aj Z21<|aj Z12<|aj Z11<|aj Z49<|aj u158<|aj a158<|aj s158<|aj z158<|n158
def Tryz.FFtwn35:=aj Z1<|aj Z2<|aj Z0<|aj Z3<|aj Z7<|aj Z35<|aj Z4<|aj Z15<|aj Z70<|Z89
def Tryz.FFtwn38:=aj Z1<|aj Z2<|aj Z0<|aj Z3<|aj Z4<|aj Z15<|aj Z27<|aj Z38<|Z33
theorem lJ{h0:Hp}(ok:h0.t.Sized h0.n){c:Int}:Ret zM 41 [.bool true,.int .i64 c] h0 fun _ h'=>Gr h0 h':=by
 have S:=Si ok
 refine ab (n:=9) (rs:=[]) rfl Tryz.e41 rfl rfl rfl (lbt rfl) ?_
 simp only [BS,LB,Nat.reduceLT,Nat.reduceEqDiff]
 exact S.gr
def trouV(c:Int):Value:=.iface 98 (.agg ⟨[.int .i64 c]⟩)
theorem need_no{h0:Hp}(ok:h0.t.Sized h0.n){c:Int}:dX zM 41 [.bool false,.int .i64 c] none h0 fun o rc h'=>o=.pan (trouV c)/\Gr h0 h':=by
 have S:=Si ok
 refine enter (n:=9) (rs:=[]) rfl Tryz.e41 rfl rfl rfl (lbt rfl) ?_
 simp only [BS,LB,Nat.reduceLT,Nat.reduceEqDiff,Tryz.FFtwn41]
 exact ij (cV ⟨rfl,S.gr⟩)
section
variable{h0:Hp}{bp nb s w:Nat}{γ:Gra}
theorem uD(ok:h0.t.Sized h0.n)(c:bF h0 nb (ptrTo bp) γ){b3:Nat}(l:h0.load b3 0 1=some [ptrTo bp]){v:Nat}(hv:v<γ.nodes):bH zM 73 [.int .i64 (v:Nat),ptrTo b3] h0 (.bool true):=by
 have S:=Si ok
 have c1:(0:Int)<=(v:Int):=by omega
 refine ab (n:=12) (rs:=[.tmp 3]) rfl Tryz.e73 rfl rfl rfl (lbt rfl) ?_
 simp only [BS,LB,Nat.reduceLT,Nat.reduceEqDiff,Tryz.FFtwn73,l,c1]
 refine aq (dH S.ok (c.gr S.gr)) ?_;intro h g;replace S:=S.call g;clear g
 simp only [BS,LB,ac,Nat.reduceLT,Nat.reduceEqDiff,aS,hv]
 exact S.gr
theorem asked2_ok(ok:h0.t.Sized h0.n){b3:Nat}(l:h0.load b3 0 1=some [ptrTo bp]):Ret zM 74 [ptrTo b3] h0 fun _ h'=>Gr h0 h':=by
 have S:=Si ok
 refine ab (n:=4) (rs:=[]) rfl Tryz.e74 rfl rfl rfl (lbt rfl) ?_
 simp only [BS,LB,Nat.reduceLT,Nat.reduceEqDiff,Tryz.FFtwn74,l]
 refine step_ret (lJ S.ok) ?_
 intro r h g;replace S:=S.call g;clear g
 simp only [BS]
 exact S.gr
theorem asked3_ok(ok:h0.t.Sized h0.n)(c:bF h0 nb (ptrTo bp) γ){b3 b5 b6:Nat}(l3:h0.load b3 0 1=some [ptrTo bp])(l6:h0.load b6 0 1=some [.func (.func 73) #[] #[ptrTo b3]])(l5:h0.load b5 1 1=some [.int .i64 (s:Nat)])(hs:s<γ.nodes):Ret zM 75 [ptrTo b6,ptrTo b5] h0 fun _ h'=>Gr h0 h':=by
 have S:=Si ok
 refine ab (n:=7) (rs:=[]) rfl Tryz.e75 rfl rfl rfl (lbt rfl) ?_
 simp only [BS,LB,Nat.reduceLT,Nat.reduceEqDiff,Tryz.FFtwn75,l6,l5]
 refine aq (uD S.ok c l3 hs) ?_
 intro h g;replace S:=S.call g;clear g
 simp only [BS,LB,Nat.reduceLT,Nat.reduceEqDiff]
 refine step_ret (lJ S.ok) ?_
 intro r h g;replace S:=S.call g;clear g
 simp only [BS]
 exact S.gr
theorem asked4_ok(ok:h0.t.Sized h0.n)(c:bF h0 nb (ptrTo bp) γ){b3 b5 b6:Nat}(l3:h0.load b3 0 1=some [ptrTo bp])(l6:h0.load b6 0 1=some [.func (.func 73) #[] #[ptrTo b3]])(l5:h0.load b5 2 1=some [.int .i64 (w:Nat)])(hw:w<γ.nodes):Ret zM 76 [ptrTo b6,ptrTo b5] h0 fun _ h'=>Gr h0 h':=by
 have S:=Si ok
 refine ab (n:=7) (rs:=[]) rfl Tryz.e76 rfl rfl rfl (lbt rfl) ?_
 simp only [BS,LB,Nat.reduceLT,Nat.reduceEqDiff,Tryz.FFtwn76,l6,l5]
 refine aq (uD S.ok c l3 hw) ?_
 intro h g;replace S:=S.call g;clear g
 simp only [BS,LB,Nat.reduceLT,Nat.reduceEqDiff]
 refine step_ret (lJ S.ok) ?_
 intro r h g;replace S:=S.call g;clear g
 simp only [BS]
 exact S.gr
theorem asked5_ok(ok:h0.t.Sized h0.n)(c:bF h0 nb (ptrTo bp) γ){m:Nat}{pt:Value}{l:List Int}{R Q:Nat->List Int}(t:TabAt h0 m pt γ.nodes l R Q)(hl:l.length<=16)(h1:1<=l.length){b3 b4:Nat}(l3:h0.load b3 0 1=some [ptrTo bp])(l4:h0.load b4 0 1=some [pt]):Ret zM 77 [ptrTo b4,ptrTo b3] h0 fun _ h'=>Gr h0 h':=by
 have S:=Si ok
 have ft:Fl pt:=by obtain⟨b,_,_,_,rfl,_⟩:=t.ex;exact dR
 have z3:=bQ ok l3
 have z4:=bQ ok l4
 have c1:(0:Int)<(l.length:Int):=by omega
 refine ab (n:=14) (rs:=[]) rfl Tryz.e77 rfl rfl rfl (lbt rfl) ?_
 simp only [BS]
 refine aF (aM rfl) (q:=0) (ps:=[(6,7)]) (by kernel_rfl) ?_
 simp only [BS,LB,cls,Nat.reduceLT,Nat.reduceEqDiff,Nat.reducePow,Nat.reduceDiv,Nat.reduceMod,Nat.reduceLeDiff,Tryz.FFtwn77,l4]
 refine cB (my S.ok (t.gr S.gr) (by omega)) ?_
 rintro r h1 ⟨g1,sl,_⟩
 replace S:=S.call g1
 have v4:=ar g1 z4
 have v3:=ar g1 z3
 simp only [BS,LB,cls,Nat.reduceLT,Nat.reduceEqDiff,Nat.reduceAdd,Nat.reducePow,Nat.reduceDiv,Nat.reduceMod,Nat.reduceLeDiff,Tryz.FFtwn77,sl.lenq,c1,g1.load l4]
 refine dk (oH S.ok (t.gr S.gr)) ?_
 intro h2 g2
 have n1:=g1.n
 have n2:=g2.n
 have k4:=ar g2 (show b4<_ by omega)
 have k3:=ar g2 (show b3<_ by omega)
 replace S:=S.call g2
 simp only [BS,LB,cls,Nat.reduceLT,Nat.reduceEqDiff,Nat.reduceAdd,Nat.reducePow,Nat.reduceDiv,Nat.reduceMod,Nat.reduceLeDiff,Tryz.FFtwn77,g2.load (g1.load l3)]
 refine dk (dH S.ok (c.gr S.gr)) ?_
 intro h3 g3
 have q4:=ar g3 (show b4<_ by omega)
 have q3:=ar g3 (show b3<_ by omega)
 have n3:=g3.n
 replace S:=S.call g3
 simp only [BS,LB,cls,Nat.reduceLT,Nat.reduceEqDiff,Nat.reduceAdd,Nat.reducePow,Nat.reduceDiv,Nat.reduceMod,Nat.reduceLeDiff]
 refine cB (lJ S.ok) ?_
 intro r h4 g4
 have w4:=ar g4 (show b4<_ by omega)
 have w3:=ar g4 (show b3<_ by omega)
 replace S:=S.call g4
 simp only [BS,Nat.reduceAdd]
 refine⟨by simp only [bz,bI,aX,bM,aZ,ne_eq,not_false_eq_true,bN,bW,bw,aY,cm,c7,aQ,Nat.reduceLT,Nat.reduceEqDiff,reduceIte,zW,an,cK,az v3,aA v3,az v4,aA v4,az k3,aA k3,az k4,aA k4,az q3,aA q3,az q4,aA q4,az w3,aA w3,az w4,aA w4],?_⟩
 exact S.gr
theorem build_ask{g1 g2 g3 g4:FuncId}{a1 a2 a3 a4:Array Value}:jS zM 158 [(0,.func (.func g1) #[] a1),(1,.func (.func g2) #[] a2),(2,.func (.func g3) #[] a3),(3,.func (.func g4) #[] a4)]=some (.agg ⟨[.func (.func g1) #[] a1,.func (.func g2) #[] a2,.func (.func g3) #[] a3,.func (.func g4) #[] a4]⟩):=by
 unfold jS
 rw [Tryz.z158,Tryz.u158]
 simp only [Tryz.s1]
 rfl
theorem oC{g1 g2 g3 g4:FuncId}{a1 a2 a3 a4:Array Value}:iZ zM 158 (.agg ⟨[.func (.func g1) #[] a1,.func (.func g2) #[] a2,.func (.func g3) #[] a3,.func (.func g4) #[] a4]⟩) (.int .i64 0)=some (.func (.func g1) #[] a1)/\
 iZ zM 158 (.agg ⟨[.func (.func g1) #[] a1,.func (.func g2) #[] a2,.func (.func g3) #[] a3,.func (.func g4) #[] a4]⟩) (.int .i64 1)=some (.func (.func g2) #[] a2)/\
 iZ zM 158 (.agg ⟨[.func (.func g1) #[] a1,.func (.func g2) #[] a2,.func (.func g3) #[] a3,.func (.func g4) #[] a4]⟩) (.int .i64 2)=some (.func (.func g3) #[] a3)/\
 iZ zM 158 (.agg ⟨[.func (.func g1) #[] a1,.func (.func g2) #[] a2,.func (.func g3) #[] a3,.func (.func g4) #[] a4]⟩) (.int .i64 3)=some (.func (.func g4) #[] a4):=by
 unfold iZ
 rw [Tryz.u158]
 simp only [Tryz.s1]
 refine⟨?_,?_,?_,?_⟩<;>rfl
theorem asked_ok(ok:h0.t.Sized h0.n)(c:bF h0 nb (ptrTo bp) γ){m:Nat}{pt q0:Value}{l:List Int}{R Q:Nat->List Int}(t:TabAt h0 m pt γ.nodes l R Q)(hl:l.length<=16)(h1:1<=l.length){a:Int}(fq:Fl q0)(hs:s<γ.nodes)(hw:w<γ.nodes):
 Ret zM 36 [ptrTo bp,pt,.agg ⟨[q0,.int .i64 (s:Nat),.int .i64 (w:Nat),.int .i64 a]⟩] h0 fun _ h'=>Gr h0 h':=by
 have ft:Fl pt:=by obtain⟨b,_,_,_,rfl,_⟩:=t.ex;exact dR
 have S:=Si ok
 refine ab (n:=21) (rs:=[]) rfl Tryz.e36 rfl rfl rfl (lbt rfl) ?_
 simp only [BS,Nat.reduceLT]
 refine ag (cJ (by exact dR)) S ?_;clear S;intro h b3 S n_b3
 simp only [BS,Nat.reduceLT,Nat.reduceEqDiff,if_false]
 refine ag (cJ (by assumption)) S ?_;clear S;intro h b4 S n_b4
 simp only [BS,Nat.reduceLT,Nat.reduceEqDiff,if_false]
 refine ag (aW (by intro x e;cases e)) S ?_;clear S;intro h b5 S n_b5;simp only [ae]at S
 simp only [BS,LB,Nat.reduceLT,Nat.reduceEqDiff,Tryz.FFtwn36]
 refine ag aC S ?_;clear S;intro h b6 S n_b6
 simp only [BS,LB,Nat.reduceLT,Nat.reduceEqDiff]
 refine aD (aG S (i:=0) rfl ?_ ?_ ?_ ono) ?_
 . exact(by simp only [Tryz.FFtwn36])
 . exact(by exact iE)
 . exact zZ (lbt rfl)
 clear S;rintro h ⟨S,mo⟩;clear mo;simp only [LC,ae,lay,zY,zX,Nat.reduceAdd]at S
 have l3:=S.ld (b:=b3) (o:=0) m3 rfl
 have l4:=S.ld (b:=b4) (o:=0) m2 rfl
 have l51:=S.ld (b:=b5) (o:=1) m1 rfl
 have l52:=S.ld (b:=b5) (o:=2) m1 rfl
 have l6:=S.ld (b:=b6) (o:=0) m0 rfl
 have w1:au .i64 1=1:=rfl
 have w2:au .i64 2=2:=rfl
 have w3:au .i64 3=3:=rfl
 have w4:au .i64 4=4:=rfl
 simp only [BS,LB,Nat.reduceLT,Nat.reduceEqDiff,build_ask]
 rw [bL]
 simp only [BS,LB,Nat.reduceLT,Nat.reduceEqDiff,Int.reduceLT,oC]
 refine step_ret (asked2_ok S.ok l3) ?_
 intro r h g;replace S:=S.call g
 replace l3:=g.load l3;replace l4:=g.load l4;replace l51:=g.load l51;replace l52:=g.load l52;replace l6:=g.load l6;clear g
 simp only [BS,LB,Nat.reduceLT,Nat.reduceEqDiff,Int.reduceAdd,w1]
 rw [bL]
 simp only [BS,LB,Nat.reduceLT,Nat.reduceEqDiff,Int.reduceLT,oC]
 refine step_ret (asked3_ok S.ok (c.gr S.gr) l3 l6 l51 hs) ?_
 intro r h g;replace S:=S.call g
 replace l3:=g.load l3;replace l4:=g.load l4;replace l51:=g.load l51;replace l52:=g.load l52;replace l6:=g.load l6;clear g
 simp only [BS,LB,Nat.reduceLT,Nat.reduceEqDiff,Int.reduceAdd,w2]
 rw [bL]
 simp only [BS,LB,Nat.reduceLT,Nat.reduceEqDiff,Int.reduceLT,oC]
 refine step_ret (asked4_ok S.ok (c.gr S.gr) l3 l6 l52 hw) ?_
 intro r h g;replace S:=S.call g
 replace l3:=g.load l3;replace l4:=g.load l4;replace l51:=g.load l51;replace l52:=g.load l52;replace l6:=g.load l6;clear g
 simp only [BS,LB,Nat.reduceLT,Nat.reduceEqDiff,Int.reduceAdd,w3]
 rw [bL]
 simp only [BS,LB,Nat.reduceLT,Nat.reduceEqDiff,Int.reduceLT,oC]
 refine step_ret (asked5_ok S.ok (c.gr S.gr) (t.gr S.gr) hl h1 l3 l4) ?_
 intro r h g;replace S:=S.call g;clear g
 simp only [BS,LB,Nat.reduceLT,Nat.reduceEqDiff,Int.reduceAdd,w4]
 rw [bL]
 simp only [BS,LB,Nat.reduceLT,Nat.reduceEqDiff,Int.reduceLT]
 exact S.gr
theorem wz(ok:h0.t.Sized h0.n){b:Nat}:dX zM 35 [ptrTo b] none h0 fun o rc h'=>(∃v,o=.ret v)/\rc=none/\Gr h0 h':=by
 have S:=Si ok
 refine enter (n:=18) (rs:=[]) rfl Tryz.e35 rfl rfl rfl (lbt rfl) ?_
 simp only [BS,LB,Nat.reduceLT,Nat.reduceEqDiff,Tryz.FFtwn35]
 exact dM (cV ⟨rfl,_,rfl,⟨_,rfl⟩,rfl,S.gr⟩)
theorem trun1_yes(ok:h0.t.Sized h0.n){b:Nat}{cells:List Value}(R:Row h0 b cells 1)(hl:cells.length=4){c:Int}:dX zM 35 [ptrTo b] (some (trouV c,false)) h0 fun o rc h'=>(∃v,o=.ret v)/\rc=some (trouV c,true)/\Mo (· =b) h0 h'/\Row h' b [.int .i64 c,.int .i64 0,.slice none 0 0,.slice none 0 0] 1:=by
 have S:=St.init1 ok (o:=.row cells 1) R
 refine enter (n:=18) (rs:=[]) rfl Tryz.e35 rfl rfl rfl (lbt rfl) ?_
 simp only [BS,LB,Nat.reduceLT,Nat.reduceEqDiff,Tryz.FFtwn35,trouV]
 refine ag aC S ?_;clear S;intro h b2 S n_b2
 simp only [BS,LB,Nat.reduceLT,Nat.reduceEqDiff]
 refine aD (S.store (i:=0) rfl ?_ ?_ rfl rfl ?_ ono) ?_
 . exact(by exact Tryz.s98)
 . exact(by intro x e;cases e)
 . exact lbt rfl
 clear S;rintro h ⟨S,mo⟩;clear mo;simp only [LC,ae,lay,zY,zX,Nat.reduceAdd]at S
 simp only [BS,LB,Nat.reduceLT,Nat.reduceEqDiff,Nat.reduceAdd,Tryz.FFtwn35,S.ld (b:=b2) (o:=0) m0 rfl]
 refine aD (S.store (i:=1) rfl Xw (by intro x e;cases e) rfl rfl (by rw [hl];exact Xa _) ono) ?_
 clear S;rintro h3 ⟨S,mo⟩
 simp only [LC]at S
 have R3:=S.row (b:=b) m1
 have eL:lay cells 0 (ae (.agg ⟨[.int .i64 c,.int .i64 0,.slice none 0 0,.slice none 0 0]⟩))=[.int .i64 c,.int .i64 0,.slice none 0 0,.slice none 0 0]:=by
  match cells,hl with
  | [_,_,_,_],_=>rfl
 rw [eL]at R3
 simp only [BS]
 exact dM (cV ⟨rfl,_,rfl,⟨_,rfl⟩,rfl,S.fr,R3⟩)
theorem got_ok(ok:h0.t.Sized h0.n){d:Int}{vA vE:Value}(fA:Fl vA)(fE:Fl vE):Ret zM 38 [.agg ⟨[.int .i64 d,vA,vE]⟩,.int .i64 0] h0 fun r h'=>Gr h0 h'/\r=.agg ⟨[.int .i64 d,vA,vE]⟩:=by
 have S:=Si ok
 refine ab (n:=10) (rs:=[.cell 4 103]) rfl Tryz.e38 rfl rfl rfl (lbt rfl) ?_
 simp only [BS,Nat.reduceLT]
 refine ag (aW (by intro x e;cases e)) S ?_;clear S;intro h b2 S n_b2;simp only [ae]at S
 simp only [BS,Tryz.FFtwn38]
 refine ag aC S ?_;clear S;intro h b4 S n_b4
 simp only [BS,LB,Nat.reduceLT,Nat.reduceEqDiff]
 refine step_ret (lJ S.ok) ?_
 intro r h g;replace S:=S.call g;clear g
 simp only [BS,LB,Nat.reduceLT,Nat.reduceEqDiff,Tryz.FFtwn38,Xh,Xb,Xi,S.lds (b:=b2) (o:=0) (n:=3) m1 (lbt rfl)]
 refine aD (S.store (i:=0) rfl XA (by intro x e;cases e) rfl (by simp only [ae,Xe,Xf,fA.2.1,fE.2.1,zW];rfl) (lbt rfl) ono) ?_
 clear S;rintro h3 ⟨S,mo⟩
 simp only [LC,ae,lay,zY,zX,Nat.reduceAdd]at S
 simp only [BS,ac]
 refine(dP (by decide) (by simp only [aQ,an,Nat.reduceEqDiff,reduceIte];exact cC Tryz.a103 XA (S.lds (b:=b4) (o:=0) (n:=3) m0 (lbt rfl)))).2 (eo.2 ?_)
 exact⟨S.gr,rfl⟩
end
end Go.Ab

end
section
namespace Go.Ab
open Go.Proofs
set_option maxRecDepth 10000
def Tryz.FFtwr13:=aj Z1<|aj Z2<|aj Z0<|aj Z3<|aj Z7<|aj Z9<|aj Z13<|aj Z16<|aj Z19<|aj Z5<|aj Z44<|aj Z6<|aj Z10<|aj Z4<|aj Z15<|aj Z70<|aj Z27<|aj Z20<|aj Z32<|aj Z38<|aj Z33<|aj Z34<|aj Z18<|aj Z21<|aj Z12<|Z11
def twL(N:Nat)(l:List Int)(R Q:Nat->List Int)(act:List Int)(s w:Nat):List Int:=(Xj N).map fun(v:Nat)=>mj (cU N l.length R Q v w act) (cU N l.length R Q s v act)
def natI(l:List Nat):List Int:=l.map fun(x:Nat)=>(x:Int)
theorem pR{h0:Hp}(ok:h0.t.Sized h0.n){bp nb m:Nat}{γ:Gra}(hγ:Good γ)(hn:bF h0 nb (ptrTo bp) γ){pt q0:Value}{l:List Int}{R Q:Nat->List Int}(t:TabAt h0 m pt γ.nodes l R Q)(lR: ∀i,i<l.length->(R i).length=γ.nodes)(lQ: ∀i,i<l.length->(Q i).length=γ.nodes)(hl:l.length<=16)(h1:1<=l.length)(fq:Fl q0){s w:Nat}(hs:s<γ.nodes)(hw:w<γ.nodes){a:Int}:
 Ret zM 13 [ptrTo bp,pt,.agg ⟨[q0,.int .i64 (s:Nat),.int .i64 (w:Nat),.int .i64 a]⟩] h0 fun r h'=>Gr h0 h'/\ ∃c d vA vB vE,r=.tuple #[ansV c d vA vB,vE]/\(∀x,(aw vA x\/aw vB x\/aw vE x)->h0.n<=x)/\
  ((s =w/\c=0/\d=0/\vA=.slice none 0 0/\vB=.slice none 0 0/\vE=.slice none 0 0)\/
   (s ≠w/\ ∃τ,jt γ.arcs (fun _=>true) (fun v=>(twL γ.nodes l R Q (natI (actL γ.nodes l.length R Q s w a)) s w).getD v 0) (iJ (fun v=>(twL γ.nodes l R Q (natI (actL γ.nodes l.length R Q s w a)) s w).getD v 0) s w) τ/\
     aE h' 4 ig vE τ.ev/\
     ((FAR<=τ.dist/\c=20/\d=0/\vA=.slice none 0 0/\vB=.slice none 0 0)\/
      (τ.dist<FAR/\c=0/\d=(τ.dist:Nat)/\aE h' 1 cd vA (mi τ)/\aE h' 1 cd vB (actL γ.nodes l.length R Q s w a))))):=by
 have S:=Si ok
 have ft:Fl pt:=by obtain⟨b,_,_,_,rfl,_⟩:=t.ex;exact dR
 have far:=fD
 refine ab (n:=59) (rs:=[.cell 6 47,.tmp 7]) rfl Tryz.e13 rfl rfl rfl (lbt rfl) ?_
 simp only [BS,Nat.reduceLT]
 refine ag (aW (by intro x e;cases e)) S ?_;clear S;intro h b5 S n_b5;simp only [ae]at S
 simp only [BS,Tryz.FFtwr13]
 refine ag aC S ?_;clear S;intro h b6 S n_b6
 simp only [BS,LB,Nat.reduceLT,Nat.reduceEqDiff,Tryz.FFtwr13,Xh,Xb,Xi,S.lds (b:=b5) (o:=0) (n:=4) m1 (lbt rfl)]
 refine step_ret (asked_ok S.ok (hn.gr S.gr) (t.gr S.gr) hl h1 fq hs hw) ?_
 intro r h g;replace S:=S.call g;clear g
 by_cases hsw:s=w
 . subst hsw
   simp only [BS,LB,Nat.reduceLT,Nat.reduceEqDiff,Tryz.FFtwr13,Xh,Xb,Xi,S.ld (b:=b5) (o:=1) m1 rfl,S.ld (b:=b5) (o:=2) m1 rfl,S.lds (b:=b6) (o:=0) (n:=4) m0 (lbt rfl)]
   refine aD (S.store (i:=0) rfl Xw (by intro x e;cases e) rfl rfl (lbt rfl) ono) ?_
   clear S;rintro h3 ⟨S,mo⟩
   simp only [LC,ae,lay,zY,zX,Nat.reduceAdd]at S
   simp only [BS]
   refine fF (un_fn (fj (wz S.ok) fun o rc h' ⟨a,b,g⟩=>⟨a,b,cV ⟨rfl,?_⟩⟩))
   replace S:=S.call g
   refine(dP (by decide) (by simp only [aQ,an,Nat.reduceEqDiff,reduceIte];exact cC Tryz.a47 Xw (S.lds (b:=b6) (o:=0) (n:=4) m0 (lbt rfl)))).2 ?_
   refine(eQ (by decide)).2 (eo.2 ?_)
   exact⟨S.gr,_,_,_,_,_,rfl,fun x hx=>(by rcases hx with h|h|h<;>exact h.elim),.inl ⟨rfl,rfl,rfl,rfl,rfl⟩⟩
 . have hft: ¬((s:Int)=(w:Int)):=by omega
   simp only [BS,LB,Nat.reduceLT,Nat.reduceEqDiff,Tryz.FFtwr13,hft,S.ld (b:=b5) (o:=1) m1 rfl,S.ld (b:=b5) (o:=2) m1 rfl,S.ld (b:=b5) (o:=3) m1 rfl]
   have k6:=(S.row (b:=b6) m0).lt S.ok
   refine step_ret (y8 S.ok (t.gr S.gr) lR lQ hl) ?_
   rintro vB h ⟨g,sB,nB⟩
   replace S:=S.call g;clear g
   have la:(actL γ.nodes l.length R Q s w a).length<=16:=by unfold actL;rw [Xn];omega
   have R5:=S.row (b:=b5) m1
   have R6:=S.row (b:=b6) m0
   have S0:=S
   have gV:=S.gr
   have kV:=gV.n
   have okV:=S.ok
   have l51:=R5.load1 (o:=1) rfl
   have l52:=R5.load1 (o:=2) rfl
   have p5:=R5.lt okV
   have f1:=hγ.n2
   simp only [BS,LB,Nat.reduceLT,Nat.reduceEqDiff]
   clear S
   have S:=Si okV
   rename Hp=>hV
   refine aF (jB (ord:=[17,0,1,2,3,4,5,6,7,8,9,10,11,12,13,14,15,16,18]) rfl rfl (by simp only [fd,lD,fb,Xl,Xm,Xu,Xo,Xp,Nat.reduceBEq,cond_true,cond_false];exact rfl)) (q:=1) (ps:=[(0,17),(0,14),(5,12),(3,12),(0,12)]) (by kernel_rfl) ?_
   simp only [BS,LB,cls,Nat.reducePow,Nat.reduceDiv,Nat.reduceMod,Nat.reduceLeDiff,Tryz.FFtwr13]
   refine cP aC S ?_;clear S;intro h b9 S n_b9 e_b9
   have p9:=S.fr.n
   have gB:=S.gr
   have r9:=S.row (b:=b9) m0
   have q9:=r9.lt S.ok
   simp only [BS,LB,cls,Nat.reduceLT,Nat.reduceEqDiff,Nat.reduceAdd,Nat.reducePow,Nat.reduceDiv,Nat.reduceMod,Nat.reduceLeDiff,Tryz.FFtwr13,gB.load l51,gB.load l52]
   refine cB (bTwin_ok S.ok ((t.gr gV).gr gB) lR lQ (by omega) (by omega) (sl_nat (sB.gr gB)) (by rw [XC];omega) hs hw) ?_
   rintro vP h ⟨g,sP,nP⟩
   have e1:leaves _ _ b5=true:=ar g (Xs p5 p9)
   have e2:leaves _ _ b9=true:=ar g q9
   have kq:=g.n
   replace S:=S.call g;clear g
   simp only [BS,LB,cls,Nat.reduceLT,Nat.reduceEqDiff,Nat.reduceAdd,Nat.reducePow,Nat.reduceDiv,Nat.reduceMod,Nat.reduceLeDiff,Tryz.FFtwr13,sP.fl]
   refine cB (zK S.ok hγ ((hn.gr gV).gr S.gr) sP (by simp) hs hw hsw) ?_
   rintro r h ⟨g,xA,xE,τ,rfl,he,sE,sA,nAE⟩
   have e3:leaves _ _ b5=true:=ar g (Xs p5 (Xd p9 kq))
   have e4:leaves _ _ b9=true:=ar g (Xs q9 kq)
   have kr:=g.n
   have y1:Fl xA:=sA.fl
   have y2:Fl xE:=sE.fl
   replace S:=S.call g
   simp only [BS,LB,cls,Nat.reduceLT,Nat.reduceEqDiff,Nat.reduceAdd,Nat.reducePow,Nat.reduceDiv,Nat.reduceMod,Nat.reduceLeDiff]
   refine cB (got_ok S.ok y1 y2) ?_
   rintro r h ⟨g,rfl⟩
   have e5:leaves _ _ b5=true:=ar g (by omega)
   have e6:leaves _ _ b9=true:=ar g (by omega)
   have sE:=sE.gr g
   have sA:=sA.gr g
   replace S:=S.call g
   simp only [BS,LB,cls,Nat.reduceLT,Nat.reduceEqDiff,Nat.reduceAdd,Nat.reducePow,Nat.reduceDiv,Nat.reduceMod,Nat.reduceLeDiff]
   refine du (S.store (i:=0) rfl XA (by intro x e;cases e) rfl (by simp only [ae,Xe,Xf,y1.2.1,y2.2.1,zW];rfl) (lbt rfl) ono) ?_
   have okG:=S.ok
   have b9x: ∀c,aw xA c\/aw xE c->c≠b9:=fun c hc e=>by
    have:=nAE c hc
    omega
   clear S;rintro h3 ⟨S,mo⟩
   simp only [LC,ae,lay,zY,zX,Nat.reduceAdd]at S
   simp only [BS,LB,Nat.reduceLT,Nat.reduceEqDiff,Nat.reduceAdd,Tryz.FFtwr13]
   refine⟨by simp only [bz,bI,aX,bM,aZ,ne_eq,not_false_eq_true,bN,bW,bw,aY,cm,c7,aQ,Nat.reduceLT,Nat.reduceEqDiff,reduceIte,zW,an,iT,aA e1,az e1,aA e2,az e2,aA e3,az e3,aA e4,az e4,aA e5,az e5,aA e6,az e6,<-e_b9],?_⟩
   have r9:=S.row (b:=b9) m0
   have j0:=r9.load1 (o:=0) rfl
   have j1:=r9.load1 (o:=1) rfl
   have j2:=r9.load1 (o:=2) rfl
   have n9:b6≠b9:=fun e=>by have:=(S0.row (b:=b6) m0).lt okV;omega
   have G1':aE h3 1 cd xA _:=sA.mo mo (fun c hc e=>b9x c (.inl hc) e)
   have G2':aE h3 4 ig xE τ.ev:=sE.mo mo (fun c hc e=>b9x c (.inr hc) e)
   have sB':=sB.gr S.gr
   have k5:=(S0.row (b:=b6) m0).lt okV
   have S1:=S0.call S.gr
   clear S
   have S:=S1
   clear S1
   simp only [BS,LB,Nat.reduceLT,Nat.reduceEqDiff,Tryz.FFtwr13,j0,j2]
   by_cases hd:τ.dist<FAR
   . have hd':(τ.dist:Int)<72057594037927936:=by omega
     simp only [decide_true,hd']
     refine step_ret (lJ S.ok) ?_
     intro r h4 g4
     replace S:=S.call g4
     simp only [BS,LB,Nat.reduceLT,Nat.reduceEqDiff,Nat.reduceAdd,Tryz.FFtwr13,y1,sB.fl,g4.load j0,g4.load j1]
     refine aD (S.store (i:=0) rfl Xw (by intro x e;cases e) rfl (by simp only [ae,Xe,Xf,y1.2.1,sB.fl.2.1,zW];rfl) (lbt rfl) ono) ?_
     clear S;rintro h5 ⟨S,mo5⟩
     simp only [LC,ae,lay,zY,zX,Nat.reduceAdd]at S
     simp only [BS,LB,Nat.reduceLT,Nat.reduceEqDiff]
     refine fF (un_fn (fj (wz S.ok) fun o rc h' ⟨a,b,g⟩=>⟨a,b,cV ⟨rfl,?_⟩⟩))
     replace S:=S.call g
     refine(dP (by decide) (by simp only [aQ,an,Nat.reduceEqDiff,reduceIte];exact cC Tryz.a47 Xw (S.lds (b:=b6) (o:=0) (n:=4) m0 (lbt rfl)))).2 ?_
     refine(eQ (by decide)).2 (eo.2 ?_)
     rw [if_pos hd]at G1'
     have zE:=((G2'.gr g4).mo mo5 (fun c hc e=>by have:=nAE c (.inr hc);omega)).gr g
     have zA:=((G1'.gr g4).mo mo5 (fun c hc e=>by have:=nAE c (.inl hc);omega)).gr g
     have zB:=((sB'.gr g4).mo mo5 (fun c hc e=>by have:=nB c hc;omega)).gr g
     exact⟨S.gr,_,_,_,_,_,rfl,fun x hx=>(by rcases hx with h|h|h;(have:=nAE x (.inl h);omega);(have:=nB x h;omega);(have:=nAE x (.inr h);omega)),.inr ⟨hsw,τ,he,zE,.inr ⟨hd,rfl,rfl,zA,zB⟩⟩⟩
   . have hd': ¬(τ.dist:Int)<72057594037927936:=by omega
     simp only [decide_false,hd']
     refine vk (need_no S.ok) ?_
     rintro x rc h4 ⟨rfl,g4⟩
     replace S:=S.call g4
     simp only [BS]
     refine ij (un_fn_pan (fj (trun1_yes S.ok (S.row (b:=b6) m0) rfl) fun o rc h' ⟨a,e,f,R⟩=>⟨a,_,_,e,cV ?_⟩))
     have gz:Gr h0 h':=(S.fr.trans f (fun i hi=>.inr (by subst hi;exact n_b6)):Mo NoM h0 h').gr
     simp only [if_true]
     refine(dP (by decide) (by simp only [aQ,an,Nat.reduceEqDiff,reduceIte];exact cC Tryz.a47 Xw (R.load (o:=0) (n:=4) (lbt rfl)))).2 ?_
     refine(eQ (by decide)).2 (eo.2 ?_)
     have zE:=(G2'.gr g4).mo f (fun c hc e=>by have:=nAE c (.inr hc);omega)
     exact⟨gz,_,_,_,_,_,rfl,fun x hx=>(by rcases hx with h|h|h;exact h.elim;exact h.elim;(have:=nAE x (.inr h);omega)),.inr ⟨hsw,τ,he,zE,.inl ⟨by omega,rfl,rfl,rfl,rfl⟩⟩⟩
end Go.Ab
end
section
namespace Go.Ab
open Go.Proofs
set_option maxRecDepth 10000
section
variable{γ:Gra}{l:List Int}{pi:Nat->Int}
theorem twin_of(eT: ∀{s:Nat},s<γ.nodes-> ∀v,IsD (seen γ.arcs Arc.t Arc.s) s v (dOf (seen γ.arcs Arc.t Arc.s) s v))(eF: ∀{s:Nat},s<γ.nodes-> ∀v,IsD (seen γ.arcs Arc.s Arc.t) s v (dOf (seen γ.arcs Arc.s Arc.t) s v))(hl:eA γ.nodes l)(hγ:Good γ)
 {s w:Nat} (hs:s<γ.nodes) (hw:w<γ.nodes) {act:List Int} (al:Nat->Bool) (hpi: ∀v,v<γ.nodes->pi v=twP γ l act s w v):kY γ.arcs al pi/\ ∀v x y,Wk γ.arcs s v x->Wk γ.arcs v w y->OpB pi v:=by
 have nd: ∀v x,Wk γ.arcs v w x->v=w\/v<γ.nodes:=fun v x hx=>wk_first (fun a ha=>(hγ.arcs a ha).1) hx
 refine⟨fun i hi hin=>?_,fun v x y h1 h2=>?_⟩
 . have ha:γ.arcs.getD i default∈γ.arcs:=by rw [zN,zV hi];exact Xq hi
   obtain⟨h1,h2,_⟩:=hγ.arcs _ ha
   have hF:=twP_feas eT eF hl hγ hs hw act al i hi
   obtain⟨i1,i2,i3⟩:=hin
   unfold OpB at i2 i3
   rw [hpi _ h1]at i2
   rw [hpi _ h2]at i3
   have:=hF ⟨i1,i2,i3⟩
   rw [hpi _ h1,hpi _ h2]
   exact this
 . have hv:v<γ.nodes:=(nd v y h2).elim (fun h=>h▸hw) (fun h=>h)
   have:=twP_open eT eF hl hs hw hv act h1 h2
   unfold OpB at this⊢
   rw [hpi _ hv]
   exact this
theorem yk(eT: ∀{s:Nat},s<γ.nodes-> ∀v,IsD (seen γ.arcs Arc.t Arc.s) s v (dOf (seen γ.arcs Arc.t Arc.s) s v))(eF: ∀{s:Nat},s<γ.nodes-> ∀v,IsD (seen γ.arcs Arc.s Arc.t) s v (dOf (seen γ.arcs Arc.s Arc.t) s v))(hl:eA γ.nodes l)(hγ:Good γ)
 {s w:Nat} (hs:s<γ.nodes) (hw:w<γ.nodes) {act:List Int} {al:Nat->Bool} (hal: ∀i,al i=true) (hpi: ∀v,v<γ.nodes->pi v=twP γ l act s w v) {τ:Bi} (he:jt γ.arcs al pi (iJ pi s w) τ):
 IsD γ.arcs s w τ.dist/\(τ.dist<FAR->iP γ.arcs s (mi τ) w τ.dist/\(mi τ).length<=24):=by
 have hA: ∀a∈γ.arcs,a.s<γ.nodes/\a.t<γ.nodes/\a.w<=bE:=fun a ha=>hγ.arcs a ha
 obtain⟨hF,hp⟩:=twin_of eT eF hl hγ hs hw al hpi
 have hD:=eF hs w
 rw [mE]at hD
 have e:=bi_exact hγ.n2 hA hF hs hw he hD (fun x hx=>hx.mono (fun _=>hB_sub)) (fun x hx=>⟨hp s 0 x .nil hx,hp w x 0 hx .nil,wk_hB hal hp hx ⟨0,.nil⟩⟩)
 refine⟨by rw [e];exact hD,fun hd=>?_⟩
 obtain⟨a,b⟩:=yS (ends_I hγ.n2 hA he (qX hγ.n2 hs hw)) hd
 exact⟨a,by have:=hγ.n2;omega⟩
theorem twL_at{act:List Int}{s w v:Nat}(hv:v<γ.nodes):((Xj γ.nodes).map fun(v:Nat)=>mj (cU γ.nodes l.length (toR γ l) (frR γ l) v w act) (cU γ.nodes l.length (toR γ l) (frR γ l) s v act)).getD v 0=twP γ l act s w v:=by
 simp [zN,hv,twP]
end
end Go.Ab

end
section
namespace Go.Ab
open Go.Proofs
set_option maxRecDepth 10000
open Tryz in
def Tryz.FFwc175:=aj Z1<|aj Z2<|aj Z0<|aj Z3<|aj Z7<|aj Z9<|aj Z6<|aj Z10<|aj Z4<|aj Z8<|aj Z12<|aj Z11<|aj a264<|aj s264<|aj z264<|n264
theorem wnode_ok{h0:Hp}(ok:h0.t.Sized h0.n){p:Value}{γ:Gra}{nb:Nat}(c:bF h0 nb p γ){v:Nat}(hv:v<γ.nodes):bH zM 107 [p,.int .i64 (v:Nat)] h0 (.bool true):=by
 have S:=Si ok
 have c0:(0:Int)<=(v:Int):=by omega
 have c1:(v:Int)<(γ.nodes:Int):=by omega
 refine ab (n:=13) (rs:=[.tmp 4]) rfl Tryz.e107 rfl rfl rfl (lbt rfl) ?_
 simp only [BS,LB,Nat.reduceLT,Nat.reduceEqDiff,c0]
 refine aq (dH S.ok c) ?_
 intro h g
 simp only [BS,LB,ac,Nat.reduceLT,Nat.reduceEqDiff,c1]
 exact g
theorem wsteps_ok{h0:Hp}(ok:h0.t.Sized h0.n){bp s:Nat}{vI:Value}(fI:Fl vI):Ret zM 108 [ptrTo bp,.int .i64 (s:Nat),vI] h0 fun r h'=>Gr h0 h'/\ ∃b3 b4 b5,r=.func (.func 175) #[] #[ptrTo b5,ptrTo b3,ptrTo b4]/\h0.n<=b3/\h0.n<=b4/\h0.n<=b5/\b4≠b3/\b4≠b5/\h'.load b3 0 1=some [ptrTo bp]/\Row h' b4 [.int .i64 (s:Nat)] 1/\h'.load b5 0 1=some [vI]:=by
 have S:=Si ok
 refine ab (n:=8) (rs:=[.tmp 6]) rfl Tryz.e108 rfl rfl rfl (lbt rfl) ?_
 simp only [BS,Nat.reduceLT]
 refine ag (cJ (by exact dR)) S ?_;clear S;intro h b3 S n_b3
 simp only [BS,Nat.reduceLT,Nat.reduceEqDiff,if_false]
 refine ag (cJ (by exact aU)) S ?_;clear S;intro h b4 S n_b4
 simp only [BS,Nat.reduceLT,Nat.reduceEqDiff,if_false]
 refine ag (cJ (by assumption)) S ?_;clear S;intro h b5 S n_b5
 simp only [BS,LB,ac,Nat.reduceLT,Nat.reduceEqDiff]
 have ap:=S.apart
 exact⟨S.gr,b3,b4,b5,rfl,n_b3,n_b4,n_b5,fun e=>(by subst e;simp [keys]at ap),fun e=>(by subst e;simp [keys]at ap),S.ld m2 rfl,S.row m1,S.ld m0 rfl⟩
theorem steps_it{hq h0:Hp}(okq:hq.t.Sized hq.n)(gq:Gr hq h0){γ:Gra}{nb bp:Nat}(hn:bF hq nb (ptrTo bp) γ){vI:Value}{ids:List Nat}{s t w:Nat}(hI:aE hq 1 cd vI ids)(hp:iP γ.arcs s ids t w)(hl:ids.length<=1000){b3 b4 b5:Nat}
 (e3:h0.load b3 0 1=some [ptrTo bp]) (e4:Row h0 b4 [.int .i64 (s:Nat)] 1) (e5:h0.load b5 0 1=some [vI]) (d3:b4≠b3) (d5:b4≠b5) (dq:hq.n<=b4):
 IterW zM 175 [ptrTo b5,ptrTo b3,ptrTo b4] h0 (fun c=>c=b5\/c=b3\/c<hq.n) (· =b4) (ids.map fun(a:Nat)=>[.agg ⟨bZ (γ.arcs.getD a default)⟩,.bool true]):=by
 intro lb J Z hz Y hW h F s' hb hF hj
 have ok0:=gq.ok
 obtain⟨p1,p2,p3⟩:=hp.at
 have row4:Row h b4 [.int .i64 (s:Nat)] 1:=Row.of_get (hb b4 rfl) e4
 have q5:=s'.load ok0 e5 (.inl rfl)
 have fI:=hI.fl
 refine enter (n:=35) (rs:=[]) rfl Tryz.e175 rfl rfl rfl (lbt rfl) ?_
 simp only [BS,LB,Nat.reduceLT,Tryz.FFwc175,q5,hI.lenq]
 refine bO (fun(i:Nat) ρ h=>i<=ids.length/\ ∃F,ItS h0 (fun c=>c=b5\/c=b3\/c<hq.n) h F/\b4∉F/\J i h F/\Row h b4 [.int .i64 (jN γ.arcs s ids i:Nat)] 1/\ρ 0=.func (.yield lb) #[] #[]/\ρ 2=ptrTo b3/\ρ 3=ptrTo b4/\ρ 9=vI/\ρ 10=.int .i64 (ids.length:Nat)/\ρ 11=.int .i64 i) (fun i=>ids.length-i) ?_ 0 _ _ ?_
 . clear q5 row4 hj hF hb s' F h
   intro i ih ρ h ⟨hi,F,s',hF,hj,row4,r0,r2,r3,r9,r10,r11⟩
   have wi:au .i64 ((i:Int)+1)=((i+1:Nat):Int):=by rw [wrap64]<;>omega
   by_cases hlt:i<ids.length
   . obtain⟨ha,hs'⟩:=p1 i hlt
     have ea:ids.getD i 0=ids[i]:=by rw [zN,zV hlt];rfl
     have en:jN γ.arcs s ids (i+1)=(γ.arcs.getD ids[i] default).t:=by
      unfold jN
      rw [if_neg (by omega),Nat.add_sub_cancel,ea]
     have hx:(ids.map fun(a:Nat)=>[Value.agg ⟨bZ (γ.arcs.getD a default)⟩,.bool true])[i]? =some [.agg ⟨bZ (γ.arcs.getD ids[i] default)⟩,.bool true]:=by rw [Xk,zV hlt];rfl
     rw [ea]at ha hs'
     obtain⟨a,ea'⟩: ∃a,ids[i]=a:=⟨_,rfl⟩
     have hI':aE h 1 cd vI ids:=s'.sl ok0 (hI.gr gq) (fun b h=>.inr (.inr (hI.lt okq h)))
     obtain⟨c,o,x0,y0⟩:=hI'.ix (kd:=.i64) gT hlt
     rw [ea']at y0 ha hs' en hx
     replace y0:h.load c o 1=some [.int .i64 (a:Nat)]:=y0
     have q3:=s'.load ok0 e3 (.inr (.inl rfl))
     have q4:=row4.load1 (o:=0) rfl
     have nt:bF h nb (ptrTo bp) γ:=hn.keep okq (s'.keep (Gr.keep gq) gq.n (fun c hc=>.inr (.inr hc)))
     have S:=Si s'.ok
     have ga:γ.arcs[a]=γ.arcs.getD a default:=by simp [zN,ha]
     have b4lt:=row4.lt s'.ok
     simp only [BS,LB,Nat.reduceLT,Nat.reduceEqDiff,Tryz.FFwc175,r2,r9,r10,r11,aS,hlt,x0,y0,q3]
     refine step_ret (oe S.ok nt ha) ?_
     rintro rv h ⟨g4,rfl⟩
     replace S:=S.call g4
     rw [ga]
     generalize hA:γ.arcs.getD a default=A at hs' en hx
     have hs'':(A.s:Int)=(jN γ.arcs s ids i:Int):=by rw [hs']
     have hx':(ids.map fun(a:Nat)=>[Value.agg ⟨bZ (γ.arcs.getD a default)⟩,.bool true])[i]? =some [.agg ⟨[.int .i64 (jN γ.arcs s ids i:Nat),.int .i64 A.t,.int .i64 A.w]⟩,.bool true]:=by rw [hx,<-hs'];rfl
     simp only [BS,LB,Nat.reduceLT,Nat.reduceEqDiff,Tryz.FFwc175,bZ]
     refine ag aC S ?_;clear S;intro h b7 S n_b7
     simp only [BS,LB,Nat.reduceLT,Nat.reduceEqDiff]
     refine aD (S.store (i:=0) rfl ?_ ?_ rfl rfl ?_ ono) ?_
     . exact(by exact Tryz.s87)
     . exact(by intro x e;cases e)
     . exact lbt rfl
     clear S;rintro h ⟨S,mo⟩;clear mo;simp only [LC,ae,lay,zY,zX,Nat.reduceAdd]at S
     have sA:=s'.gr S.gr
     have jA:=Y.gr _ _ _ _ hj S.gr
     have rowA:=row4.gr S.gr
     have q4':=rowA.load1 (o:=0) rfl
     have R7:=S.row (b:=b7) m0
     have n7:b7∉F:=fun hm=>by have:=s'.lt _ hm;have:=g4.n;omega
     have k7:=R7.lt S.ok
     have d7:b7≠b4:=fun e=>by have:=g4.n;omega
     simp only [BS,LB,Nat.reduceLT,Nat.reduceEqDiff,Tryz.FFwc175,r0,r3,q4',hs'',Xh,Xb,Xi,S.ld (b:=b7) (o:=0) m0 rfl,S.lds (b:=b7) (o:=0) (n:=3) m0 (lbt rfl)]
     refine gp Y sA jA (i:=i) hx' ?_ ?_ ?_
     . intro h3 F3 a3 s3 f3 hF3
       have row3:Row h3 b4 [.int .i64 (jN γ.arcs s ids i:Nat)] 1:=f3.has (o:=.row _ 1) rowA hF
       have R7':=f3.has (o:=.row _ 1) R7 n7
       have nF3:b4∉F3:=fun hm=>(hF3 b4 hm).elim hF (fun h=>by have:=S.fr.n;omega)
       have l71:=Row.load1 (o:=1) R7' rfl
       have S:=St.init1 s3.ok (o:=.row _ 1) row3
       simp only [BS,LB,Nat.reduceLT,Nat.reduceEqDiff,Tryz.FFwc175,r3,l71]
       refine aD (aG S (i:=0) rfl XE aU (zZ (lbt rfl)) ono) ?_
       clear S;rintro h4 ⟨S,_⟩
       simp only [LC]at S
       have fr:=S.fr
       simp only [BS,LB,Nat.reduceLT,Nat.reduceEqDiff,r11,wi]
       refine ih (i+1) _ _ (by omega) ⟨by omega,F3,?_,nF3,hW _ _ _ _ a3 fr,by rw [en];exact S.row m0,by simp [aa,r0],by simp [aa,r2,an],by simp [aa,r3,an],by simp [aa,r9],by simp [aa,r10],by simp [aa]⟩
       exact⟨fr.ok,Xd s3.n fr.n,fun b hb hd=>(fr.get b (Xs hb s3.n) (by rcases hd with h|h|h;exact fun e=>d5 (by omega);exact fun e=>d3 (by omega);exact fun e=>by omega)).trans (s3.data b hb hd),s3.apart,fun b hb=>Xs (s3.lt b hb) fr.n⟩
     . intro h3 a3 _
       simp only [BS,LB,Nat.reduceLT,Nat.reduceEqDiff]
       exact je rfl ⟨rfl,.inr (.inl ⟨_,rfl,a3⟩)⟩
     . intro v h3 a3
       exact absurd a3 (hz v h3)
   . simp only [BS,LB,Nat.reduceLT,r10,r11,aS,hlt]
     have:i=ids.length:=by omega
     subst this
     exact dM (cV ⟨rfl,_,rfl,rfl,.inl ⟨_,F,rfl,by rw [XC];exact hj⟩⟩)
 . exact⟨Xg _,F,s',fun hm=>hF b4 hm rfl,hj,row4,by simp [aa,cK],by simp [aa,cK,an],by simp [aa,cK,an],by simp [aa],by simp [aa],by simp [aa]⟩
open Tryz in
def Tryz.FFwc252:=aj Z1<|aj Z2<|aj Z0<|aj Z3<|aj Z7<|aj Z9<|aj Z13<|aj Z16<|aj Z19<|aj Z25<|aj Z36<|aj Z29<|aj Z37<|aj Z47<|aj Z55<|aj Z6<|aj Z10<|aj Z4<|aj Z8<|aj Z12<|aj Z11<|aj a192<|aj s192<|aj z192<|n192
theorem vZ{h0:Hp}(ok:h0.t.Sized h0.n){γ:Gra}(hγ:Good γ){nb bp:Nat}(hn:bF h0 nb (ptrTo bp) γ){vI:Value}{ids:List Nat}{s t w:Nat}(hs:s<γ.nodes)(hI:aE h0 1 cd vI ids)(hl:ids.length<=1000){u:Nat}(hp:iP γ.arcs s ids u w)(hw:u=t\/(u≠t/\w=0)):
 Ret zM 52 [ptrTo bp,.int .i64 (s:Nat),.int .i64 (t:Nat),vI] h0 fun r h'=>Gr h0 h'/\r=.tuple #[.int .i64 (w:Nat),.bool (decide (u=t))]:=by
 have S:=Si ok
 have fI:=hI.fl
 obtain⟨p1,p2,p3⟩:=hp.at
 refine ab (n:=40) (rs:=[.cell 8 2,.tmp 9]) rfl Tryz.e52 rfl rfl rfl (lbt rfl) ?_
 simp only [BS,Tryz.FFwc252]
 refine ag aC S ?_;clear S;intro h b8 S n_b8
 simp only [BS,LB,Nat.reduceLT,Nat.reduceEqDiff]
 refine aq (wnode_ok S.ok (hn.gr S.gr) hs) ?_
 intro h g;replace S:=S.call g;clear g
 simp only [BS,LB,Nat.reduceLT,Nat.reduceEqDiff,Tryz.FFwc252]
 refine ag aC S ?_;clear S;intro h b10 S n_b10
 simp only [BS,LB,Nat.reduceLT,Nat.reduceEqDiff]
 refine aD (aG S (i:=0) rfl XE aU (zZ (lbt rfl)) ono) ?_
 clear S;rintro h ⟨S,_⟩
 simp only [LC]at S
 simp only [BS,LB,Nat.reduceLT,Nat.reduceEqDiff,run_label]
 have k0:=S.fr.n
 refine step_ret (wsteps_ok S.ok fI) ?_
 rintro r hA ⟨g,b3,b4,b5,rfl,n3,n4,n5,d3,d5,y3,y4,y5⟩
 have k8:=(S.row (b:=b8) m1).lt S.ok
 have k10:=(S.row (b:=b10) m0).lt S.ok
 replace S:=S.call g
 have it:=steps_it ok S.gr hn hI hp hl y3 y4 y5 d3 d5 (by omega)
 simp only [BS]
 refine kE S (g:=175) (a:=#[]) (b:=#[ptrTo b5,ptrTo b3,ptrTo b4]) (by simp [cm,aa,an]) rfl rfl ?_
 intro h2 db lb S' hdb hlb g2
 have ne10:b10≠b4:=by omega
 have ne8:b8≠b4:=by omega
 obtain⟨X,hX,S'⟩: ∃X:gX,X=_/\St NoM h0 h2 [(lb,.loop X),(db,.dfr),(b10,.row [.int .i64 (s:Nat)] 1),(b8,.row [.int .i64 0] 1)] []:=⟨_,rfl,S'⟩
 have z0:jN γ.arcs s ids 0=s:=rfl
 have z1:sumA γ.arcs ids 0=0:=rfl
 have y4':=y4.lt S.ok
 have hJ:Yld zM lb (fun k h' F=>St NoM h0 h' [(lb,.loop X),(db,.dfr),(b10,.row [.int .i64 (jN γ.arcs s ids k:Nat)] 1),(b8,.row [.int .i64 (sumA γ.arcs ids k:Nat)] 1)] []/\k<=ids.length/\sumA γ.arcs ids k<=k*2147483647/\F=[lb,db,b10,b8]) (fun _ _=>False) (ids.map fun(a:Nat)=>[.agg ⟨bZ (γ.arcs.getD a default)⟩,.bool true]):=by
  refine⟨?_,?_,fun _ _ h=>h.elim,?_⟩
  . rintro i h F ⟨S,_,_,rfl⟩;exact⟨S.ok,fun b hb=>S.key_lt (by simpa [keys]using hb)⟩
  . rintro i h F h' ⟨S,a,b,rfl⟩ gg;exact⟨S.call gg,a,b,rfl⟩
  . rintro i x hR F hx ⟨S,a,hb,rfl⟩
    have hil:i<ids.length:=by
     have:=(List.getElem?_eq_some_iff.1 hx).1
     simpa using this
    rw [Xk,zV hil]at hx
    cases hx
    obtain⟨ha,hs'⟩:=p1 i hil
    have ea:ids.getD i 0=ids[i]:=by rw [zN,zV hil];rfl
    have en:jN γ.arcs s ids (i+1)=(γ.arcs.getD ids[i] default).t:=by
     unfold jN
     rw [if_neg (by omega),Nat.add_sub_cancel,ea]
    have hsum:=sumA_succ (A:=γ.arcs) hil
    rw [ea]at hsum ha
    have hw2:(γ.arcs.getD ids[i] default).w<=2147483647:=by
     have:γ.arcs.getD ids[i] default∈γ.arcs:=by rw [zN,zV ha];exact Xq ha
     exact(hγ.arcs _ this).2.2
    have ws:au .i64 ((sumA γ.arcs ids i:Int)+((γ.arcs.getD ids[i] default).w:Int))=((sumA γ.arcs ids (i+1):Nat):Int):=by rw [hsum,wrap64]<;>omega
    subst hX
    refine kQ (S.get m0) (by rw [Tryz.e52];rfl) rfl ?_
    have S0:=S
    replace S:=S.base
    simp only [BS,Tryz.FFwc252,bZ]
    refine ag aC S ?_;clear S;intro h b11 S n_b11
    simp only [BS,LB,Nat.reduceLT,Nat.reduceEqDiff]
    refine aD (S.store (i:=0) rfl ?_ ?_ rfl rfl ?_ ono) ?_
    . exact(by exact Tryz.s87)
    . exact(by intro x e;cases e)
    . exact lbt rfl
    clear S;rintro h ⟨S,mo⟩;clear mo;simp only [LC,ae,lay,zY,zX,Nat.reduceAdd]at S
    simp only [BS,LB,Nat.reduceLT,Nat.reduceEqDiff]
    refine jI S (i:=1) rfl rfl rfl rfl rfl ?_
    clear S;intro h S
    simp only [LC]at S
    simp only [BS,LB,Nat.reduceLT,Nat.reduceEqDiff,Tryz.FFwc252,ws,S.ld (b:=b8) (o:=0) m4 rfl,S.ld (b:=b11) (o:=2) m0 rfl]
    refine aD (aG S (i:=4) rfl Tryz.s2 aU (zZ (lbt rfl)) ono) ?_
    clear S;rintro h ⟨S,_⟩
    simp only [LC]at S
    simp only [BS,LB,Nat.reduceLT,Nat.reduceEqDiff,Tryz.FFwc252,S.ld (b:=b11) (o:=1) m0 rfl]
    refine aD (aG S (i:=3) rfl XE aU (zZ (lbt rfl)) ono) ?_
    clear S;rintro h ⟨S,_⟩
    simp only [LC]at S
    simp only [BS]
    refine gK S (i:=1) rfl ?_
    clear S;intro h S
    simp only [LC]at S
    rw [<-en]at S
    refine .inl ⟨rfl,_,⟨S0.rebase S.drop1,by omega,by omega,rfl⟩,?_,fun c hc=>.inl hc⟩
    have:=S.fr
    simp only [keys,Xo,Xp,Xr,Xv]at this
    exact this
 refine fj (it lb _ _ (fun _ _ h=>h) hJ ?_ h2 [lb,db,b10,b8] ?_ (fun b hb=>?_) (fun b hb=>?_) ⟨by rw [z0,z1];exact S',Xg _,by rw [z1];exact Xg _,rfl⟩) fun o rc h' y=>mI y ?_
 . rintro i h F h' ⟨T,a,b,rfl⟩ mo
   refine⟨T.step mo (fun c hc=>.inr (by subst hc;omega)) (fun c hc e=>?_),a,b,rfl⟩
   subst e
   simp only [keys,Xo,Xp,Xr,Xv,Xy,Xz,or_false]at hc
   omega
 . refine⟨S'.ok,g2.n,fun b hb _=>g2.get b hb,fun b hb h=>?_,fun b hb=>S'.key_lt (by simpa [keys]using hb)⟩
   simp only [Xy,Xz,or_false]at hb
   rcases hb with rfl|rfl|rfl|rfl
   . omega
   . omega
   . rcases h.2 with e|e|e<;>omega
   . rcases h.2 with e|e|e<;>omega
 . subst hb
   exact g2.get _ y4'
 . intro e
   subst e
   simp only [Xy,Xz,or_false]at hb
   omega
 . rintro F ⟨T,_,_,rfl⟩
   rw [XC]at T
   rw [p2,p3]at T
   subst hX
   refine⟨_,T.get m0,Nat.zero_ne_one,?_⟩
   replace T:=T.dead
   have S:=T
   have c0: ¬(u:Int)<0:=by omega
   have c0': ¬(t:Int)<0:=by omega
   show Run _ _ _ _ _ _ _ _
   by_cases hut:u=t
   . have c1:(u:Int)=(t:Int):=by omega
     simp only [BS,LB,Nat.reduceLT,Nat.reduceEqDiff,Tryz.FFwc252,c0',c1,S.ld (b:=b10) (o:=0) m1 rfl,S.ld (b:=b8) (o:=0) m2 rfl]
     refine aD (aG T (i:=2) rfl Tryz.s2 aU (zZ (lbt rfl)) ono) ?_
     clear S;rintro h3 ⟨S,_⟩
     simp only [LC]at S
     simp only [BS]
     refine fF (kK [db] _ (L:=[(b10,_),(b8,_)]) S.base fun h4 S4=>?_)
     refine⟨rfl,(dP (by decide) (by simp only [aQ,an,Nat.reduceEqDiff,reduceIte];exact pb Tryz.a2 (S4.ld (b:=b8) (o:=0) m1 rfl))).2 ((eQ (by decide)).2 (eo.2 ⟨(S.rebase S4).gr,?_⟩))⟩
     rw [decide_eq_true hut];rfl
   . have c1: ¬(u:Int)=(t:Int):=by omega
     have w0:w=0:=(hw.resolve_left hut).2
     subst w0
     simp only [BS,LB,Nat.reduceLT,Nat.reduceEqDiff,Xc,Tryz.FFwc252,c0,c1,S.ld (b:=b10) (o:=0) m1 rfl,S.ld (b:=b8) (o:=0) m2 rfl]
     refine aD (aG T (i:=2) rfl Tryz.s2 aU (zZ (lbt rfl)) ono) ?_
     clear S;rintro h3 ⟨S,_⟩
     simp only [LC]at S
     simp only [BS]
     refine fF (kK [db] _ (L:=[(b10,_),(b8,_)]) S.base fun h4 S4=>?_)
     refine⟨rfl,(dP (by decide) (by simp only [aQ,an,Nat.reduceEqDiff,reduceIte];exact pb Tryz.a2 (S4.ld (b:=b8) (o:=0) m1 rfl))).2 ((eQ (by decide)).2 (eo.2 ⟨(S.rebase S4).gr,?_⟩))⟩
     rw [decide_eq_false hut];rfl
def Tryz.FFl20q17:=aj Z1<|aj Z2<|aj Z0<|aj Z3<|aj Z7<|aj Z47<|aj Z55<|aj Z5<|aj Z74<|aj Z44<|aj Z14<|aj Z6<|Z8
def Tryz.FFl20q20:=aj Z1<|aj Z2<|aj Z0<|aj Z3<|aj Z44<|aj Z6<|aj Z10<|aj Z4<|aj Z15<|aj Z70<|aj Z12<|Z11
theorem SlW.grE{h h':Hp}{kd:IntKind}{v:Value}{xs:List Int}(s:SlW h kd v xs)(g:Gr h h'):SlW h' kd v xs:=s.imp (fun h=>h) (fun⟨b,o,c,h1,h2,h3⟩=>⟨b,o,c,h1,h2,g.load h3⟩)
theorem py{h0:Hp}(ok:h0.t.Sized h0.n):bH zM 16 [] h0 (.bool true):=ret_orc rfl ⟨rfl,Gr.refl ok⟩
theorem pD{h0:Hp}(ok:h0.t.Sized h0.n){vB vM vN vx vy va:Value}{f t:Nat}{a:Int}{γ:Gra}(fB:Fl vB)(fM:Fl vM)(fN:Fl vN)(fx:Fl vx)(fy:Fl vy)(fa:Fl va)(hf:f<=255)(ht:t<=255)(n1:1<=γ.nodes):
 Ret zM 17 [.agg ⟨[vB,vM,.int .u8 (f:Nat),.int .u8 (t:Nat),.int .i8 a,vN]⟩,ff γ vx vy va] h0 fun r h'=>Gr h0 h'/\r=.agg ⟨[.int .i64 3,.int .i64 ((f%γ.nodes:Nat):Int),.int .i64 ((t%γ.nodes:Nat):Int),.int .i64 (au .i64 a)]⟩:=by
 have S:=Si ok
 have wf:au .i64 (f:Int)=(f:Int):=by rw [wrap64]<;>omega
 have wt:au .i64 (t:Int)=(t:Int):=by rw [wrap64]<;>omega
 have nz:(γ.nodes:Int)≠0:=by omega
 have tmf:(f:Int).tmod (γ.nodes:Int)=((f%γ.nodes:Nat):Int):=by rw [XG (by omega)];exact(Int.natCast_emod _ _).symm
 have tmt:(t:Int).tmod (γ.nodes:Int)=((t%γ.nodes:Nat):Int):=by rw [XG (by omega)];exact(Int.natCast_emod _ _).symm
 refine ab (n:=21) (rs:=[.cell 4 28]) rfl Tryz.e17 rfl rfl rfl (lbt rfl) ?_
 simp only [BS,Nat.reduceLT,ff]
 refine ag (aW (by intro x e;cases e)) S ?_;clear S;intro h b2 S n_b2;simp only [ae]at S
 simp only [BS,Nat.reduceLT,Nat.reduceEqDiff,if_false]
 refine ag (aW (by intro x e;cases e)) S ?_;clear S;intro h b3 S n_b3;simp only [ae]at S
 simp only [BS,Tryz.FFl20q17]
 refine ag aC S ?_;clear S;intro h b4 S n_b4
 simp only [BS]
 refine aF (aM rfl) (q:=0) (ps:=[]) (by kernel_rfl) ?_
 simp only [BS,LB,jq,cb,jo,cls,Nat.reduceLT,Nat.reduceEqDiff,Nat.reduceAdd,Nat.reducePow,Nat.reduceDiv,Nat.reduceMod,Nat.reduceLeDiff,Tryz.FFl20q17,wf,wt,ov nz,tmf,tmt,S.ld (b:=b2) (o:=2) m2 rfl,S.ld (b:=b2) (o:=3) m2 rfl,S.ld (b:=b2) (o:=4) m2 rfl,S.ld (b:=b3) (o:=0) m1 rfl]
 refine du (S.store (i:=0) rfl XN (by intro x e;cases e) rfl rfl (lbt rfl) ono) ?_
 clear S;rintro h3 ⟨S,mo⟩
 simp only [LC,ae,lay,zY,zX,Nat.reduceAdd]at S
 simp only [BS,LB,ac,Nat.reduceAdd]
 refine(dP (by decide) (by simp only [aQ,an,Nat.reduceEqDiff,reduceIte];exact cC Tryz.a28 XN (S.lds (b:=b4) (o:=0) (n:=4) m0 (lbt rfl)))).2 (eo.2 ?_)
 exact⟨S.gr,rfl⟩
theorem qc{γ:Gra}{l act:List Int}(eT: ∀{s:Nat},s<γ.nodes-> ∀v,IsD (seen γ.arcs Arc.t Arc.s) s v (dOf (seen γ.arcs Arc.t Arc.s) s v))(eF: ∀{s:Nat},s<γ.nodes-> ∀v,IsD (seen γ.arcs Arc.s Arc.t) s v (dOf (seen γ.arcs Arc.s Arc.t) s v))(hl:eA γ.nodes l)(hγ:Good γ){s w:Nat}(hs:s<γ.nodes)(hw:w<γ.nodes){h':Hp}{c d:Int}{vA vB vE:Value}{actN:List Nat}
 (hr :(s=w/\c=0/\d=0/\vA=.slice none 0 0/\vB=.slice none 0 0/\vE=.slice none 0 0)\/
   (s ≠w/\ ∃τ,jt γ.arcs (fun _=>true) (fun v=>(twL γ.nodes l (toR γ l) (frR γ l) act s w).getD v 0) (iJ (fun v=>(twL γ.nodes l (toR γ l) (frR γ l) act s w).getD v 0) s w) τ/\
     aE h' 4 ig vE τ.ev/\
     ((FAR<=τ.dist/\c=20/\d=0/\vA=.slice none 0 0/\vB=.slice none 0 0)\/
      (τ.dist<FAR/\c=0/\d=(τ.dist:Nat)/\aE h' 1 cd vA (mi τ)/\aE h' 1 cd vB actN)))):
 (FAR<=dOf (seen γ.arcs Arc.s Arc.t) s w/\c=20/\d=0/\vA=.slice none 0 0/\vB=.slice none 0 0)\/
  (dOf (seen γ.arcs Arc.s Arc.t) s w<FAR/\c=0/\d=(dOf (seen γ.arcs Arc.s Arc.t) s w:Nat)/\Fl vB/\ ∃ids,aE h' 1 cd vA ids/\ids.length<=1000/\iP γ.arcs s ids w (dOf (seen γ.arcs Arc.s Arc.t) s w)):=by
 have far:=fD
 have hD:=eF hs w
 rw [mE]at hD⊢
 rcases hr with⟨rfl,rfl,rfl,rfl,rfl,_⟩|⟨_,τ,he,_,hr⟩
 . have h0:=hD.self
   rw [h0]
   exact .inr ⟨by omega,rfl,rfl,aV,[],.inl ⟨rfl,rfl⟩,Xg _,.nil⟩
 . obtain⟨h1,h2⟩:=yk eT eF hl hγ hs hw (al:=fun _=>true) (fun _=>rfl) (fun v hv=>twL_at hv) he
   have e:=h1.uniq hD
   rw [<-e]
   rcases hr with⟨a,rfl,rfl,rfl,rfl⟩|⟨a,rfl,rfl,sA,sB⟩
   . exact .inl ⟨a,rfl,rfl,rfl,rfl⟩
   . exact .inr ⟨a,rfl,rfl,sB.fl,_,sA,by have:=(h2 a).2;omega,(h2 a).1⟩
theorem tO{γ:Gra}{l:List Int}{i:Nat}:(toR γ l i).length=γ.nodes:=by unfold toR;exact lL _ _ _
theorem tT{γ:Gra}{l:List Int}{i:Nat}:(frR γ l i).length=γ.nodes:=by unfold frR;exact lL _ _ _
theorem walksE_ok{h0:Hp}(ok:h0.t.Sized h0.n){pn q0 q1 q2 q3:Value}(f0:Fl q0)(f1:Fl q1)(f2:Fl q2)(f3:Fl q3){c:Int}(hc:c≠0):bH zM 20 [pn,.agg ⟨[q0,q1,q2,q3]⟩,ansV c 0 (.slice none 0 0) (.slice none 0 0)] h0 (.bool true):=by
 have S:=Si ok
 refine ab (n:=45) (rs:=[.tmp 6]) rfl Tryz.e20 rfl rfl rfl (lbt rfl) ?_
 simp only [BS,Nat.reduceLT,ansV]
 refine ag (aW (by intro x e;cases e)) S ?_;clear S;intro h b4 S n_b4;simp only [ae]at S
 simp only [BS,Nat.reduceLT,Nat.reduceEqDiff,if_false]
 refine ag (aW (by intro x e;cases e)) S ?_;clear S;intro h b5 S n_b5;simp only [ae]at S
 simp only [BS,LB,ac,Nat.reduceLT,Nat.reduceEqDiff,Xc,Tryz.FFl20q20,hc,S.ld (b:=b5) (o:=0) m0 rfl,S.ld (b:=b5) (o:=1) m0 rfl,S.ld (b:=b5) (o:=2) m0 rfl,S.ld (b:=b5) (o:=3) m0 rfl]
 exact S.gr
theorem walksW_ok{h0:Hp}(ok:h0.t.Sized h0.n){γ:Gra}(hγ:Good γ){nb bp:Nat}(hn:bF h0 nb (ptrTo bp) γ){q0 q3 vA vB:Value}{ids:List Nat}{s t d:Nat}(f0:Fl q0)(f3:Fl q3)(hs:s<γ.nodes)(sA:aE h0 1 cd vA ids)(fB:Fl vB)(hl:ids.length<=1000)(hp:iP γ.arcs s ids t d):bH zM 20 [ptrTo bp,.agg ⟨[q0,.int .i64 (s:Nat),.int .i64 (t:Nat),q3]⟩,ansV 0 (d:Nat) vA vB] h0 (.bool true):=by
 have S:=Si ok
 have fA:=sA.fl
 refine ab (n:=45) (rs:=[.tmp 6]) rfl Tryz.e20 rfl rfl rfl (lbt rfl) ?_
 simp only [BS,Nat.reduceLT,ansV]
 refine ag (aW (by intro x e;cases e)) S ?_;clear S;intro h b4 S n_b4;simp only [ae]at S
 simp only [BS,Nat.reduceLT,Nat.reduceEqDiff,if_false]
 refine ag (aW (by intro x e;cases e)) S ?_;clear S;intro h b5 S n_b5;simp only [ae]at S
 simp only [BS,LB,Nat.reduceLT,Nat.reduceEqDiff,Tryz.FFl20q20,S.ld (b:=b4) (o:=1) m1 rfl,S.ld (b:=b4) (o:=2) m1 rfl,S.ld (b:=b5) (o:=0) m0 rfl,S.ld (b:=b5) (o:=1) m0 rfl,S.ld (b:=b5) (o:=2) m0 rfl]
 refine step_ret (vZ S.ok hγ (hn.gr S.gr) hs (sA.gr S.gr) hl hp (t:=t) (.inl rfl)) ?_
 rintro r h6 ⟨g6,rfl⟩
 replace S:=S.call g6
 simp only [BS,LB,ac,Nat.reduceLT,Nat.reduceEqDiff,Tryz.FFl20q20,S.ld (b:=b4) (o:=1) m1 rfl,S.ld (b:=b4) (o:=2) m1 rfl,S.ld (b:=b5) (o:=0) m0 rfl,S.ld (b:=b5) (o:=1) m0 rfl,S.ld (b:=b5) (o:=2) m0 rfl]
 exact S.gr
def Tryz.FFtx6:=aj Z1<|aj Z2<|aj Z0<|aj Z3<|aj Z7<|aj Z9<|aj Z13<|aj Z16<|aj Z19<|aj Z47<|aj Z55<|aj Z5<|aj Z74<|aj Z44<|aj Z14<|aj Z6<|aj Z10<|aj Z4<|aj Z15<|aj Z70<|aj Z27<|aj Z20<|aj Z38<|aj Z8<|aj Z18<|aj Z21<|aj Z12<|Z11
theorem tD{h0:Hp}(ok:h0.t.Sized h0.n){vB vM vN:Value}{f t:Nat}{a:Int}{B ms:List Int}(hB:SlW h0 .u8 vB B)(hM:SlW h0 .u8 vM ms)(hMr: ∀x∈ms,0<=x/\x<=255)(fN:Fl vN)(hf:f<=255)(ht:t<=255):
 bH zM 6 [.agg ⟨[vB,vM,.int .u8 (f:Nat),.int .u8 (t:Nat),.int .i8 a,vN]⟩] h0 (.bool true):=by
 have S:=Si ok
 have fB:=hB.sl.fl
 have fM:=hM.sl.fl
 have far:=fD
 refine ab (n:=70) (rs:=[.tmp 2]) rfl Tryz.e6 rfl rfl rfl (lbt rfl) ?_
 simp only [BS,Nat.reduceLT]
 refine ag (aW (by intro x e;cases e)) S ?_;clear S;intro h b1 S n_b1;simp only [ae]at S
 simp only [BS,LB,Nat.reduceLT,Nat.reduceEqDiff,Tryz.FFtx6,Xh,Xb,Xi,S.lds (b:=b1) (o:=0) (n:=6) m0 (lbt rfl)]
 refine step_ret (qv S.ok (hB.grE S.gr) (hM.grE S.gr) hMr fN) ?_
 rintro r h ⟨g,γ,vx,vy,va,bp,nb,vR,l,rfl,hγ,ga,hn,sR,hl,hl1,hl7,_⟩
 replace S:=S.call g
 have fx:=ga.X.fl
 have fy:=ga.Y.fl
 have fa:=ga.A.fl
 have fR:=sR.fl
 have n1:=hγ.n1
 have n2:=hγ.n2
 have R1:=S.row (b:=b1) m0
 have g0:=S.gr
 have okA:=S.ok
 rename Hp=>hA
 clear S
 have S:=Si okA
 simp only [BS,LB,Nat.reduceLT,Nat.reduceEqDiff,Tryz.FFtx6,ff]
 refine ag aC S ?_;clear S;intro h b3 S n_b3
 simp only [BS,LB,Nat.reduceLT,Nat.reduceEqDiff]
 refine aD (S.store (i:=0) rfl Tryz.s31 (by intro x e;cases e) rfl (by simp only [ae,Xe,Xf,fx.2.1,fy.2.1,fa.2.1,zW];rfl) (lbt rfl) ono) ?_
 clear S;rintro h ⟨S,mo⟩;clear mo
 simp only [LC,ae,lay,zY,zX,Nat.reduceAdd]at S
 have l1:h.load b1 0 6=some [vB,vM,.int .u8 (f:Nat),.int .u8 (t:Nat),.int .i8 a,vN]:=(R1.gr S.gr).load (Xa 6)
 have l3:h.load b3 0 4=some [.int .i64 γ.nodes,vx,vy,va]:=(S.row (b:=b3) m0).load (Xa 4)
 simp only [BS,LB,Nat.reduceLT,Nat.reduceEqDiff,Tryz.FFtx6,l1,l3]
 have qo:=pD (γ:=γ) (a:=a) S.ok fB fM fN fx fy fa hf ht n1
 unfold ff at qo
 refine step_ret qo ?_
 rintro r h ⟨g,rfl⟩
 have hs:f%γ.nodes<γ.nodes:=XH _ (by omega)
 have hw:t%γ.nodes<γ.nodes:=XH _ (by omega)
 generalize f%γ.nodes=s at hs
 generalize t%γ.nodes=w at hw
 generalize au .i64 a=a'
 replace S:=S.call g
 simp only [BS,Tryz.FFtx6]
 refine ag aC S ?_;clear S;intro h b6 S n_b6
 simp only [BS,LB,Nat.reduceLT,Nat.reduceEqDiff]
 refine aD (S.store (i:=0) rfl XN (by intro x e;cases e) rfl rfl (lbt rfl) ono) ?_
 clear S;rintro h ⟨S,mo⟩;clear mo
 simp only [LC,ae,lay,zY,zX,Nat.reduceAdd]at S
 have R3:=S.row (b:=b3) m1
 have R6:=S.row (b:=b6) m0
 have k6:=R6.lt S.ok
 have gB:=S.gr
 have okB:=S.ok
 rename Hp=>hB1
 clear S
 have S:=Si okB
 simp only [BS]
 refine aF (jB (ord:=[9,0,1,2,3,4,5,6,7,8,10,11]) rfl rfl (by simp only [fd,lD,fb,Xl,Xm,Xu,Xo,Xp,Nat.reduceBEq,cond_true,cond_false];exact rfl)) (q:=1) (ps:=[(0,6),(4,5),(0,4)]) (by kernel_rfl) ?_
 simp only [BS,LB,cls,Nat.reducePow,Nat.reduceDiv,Nat.reduceMod,Nat.reduceLeDiff,Tryz.FFtx6]
 refine cP aC S ?_;clear S;intro h b7 S n_b7 e_b7
 have p6:=S.fr.n
 have k7:=(S.row (b:=b7) m0).lt S.ok
 simp only [BS,LB,cls,Nat.reduceLT,Nat.reduceEqDiff,Nat.reduceAdd,Nat.reducePow,Nat.reduceDiv,Nat.reduceMod,Nat.reduceLeDiff]
 refine cB (rI S.ok hγ (hn.gr (gB.trans S.gr)) (sR.gr (gB.trans S.gr)) (by omega)) ?_
 rintro pt h ⟨g5,hT⟩
 replace hT:=(hT.resolve_left (fun h=>h.1 hl)).2
 obtain⟨bt,et⟩: ∃b,pt=ptrTo b:=by obtain⟨b,_,_,_,e,_⟩:=hT.ex;exact⟨b,e⟩
 subst et
 have e1:=ar g5 (show b6<_ by omega)
 have e2:=ar g5 k7
 have q5:=g5.n
 replace S:=S.call g5
 have l6:=(R6.gr S.gr).load (o:=0) (n:=4) (Xa 4)
 simp only [zX,zY]at l6
 simp only [BS,LB,cls,Nat.reduceLT,Nat.reduceEqDiff,Nat.reduceAdd,Nat.reducePow,Nat.reduceDiv,Nat.reduceMod,Nat.reduceLeDiff,Tryz.FFtx6,l6]
 refine cB (pR S.ok hγ (hn.gr (gB.trans S.gr)) hT (fun i _=>tO) (fun i _=>tT) (by omega) hl1 aU hs hw) ?_
 rintro r h ⟨g6,c,d,vA,vB',vE,rfl,nV,hr⟩
 have eT:=fun {s:Nat} (hs:s<γ.nodes) (v:Nat)=>exTo okA hγ hn hs v
 have eF:=fun {s:Nat} (hs:s<γ.nodes) (v:Nat)=>exFrom okA hγ hn hs v
 have e3:=ar g6 (show b6<_ by omega)
 have e4:=ar g6 (show b7<_ by omega)
 have fAE:Fl vA/\Fl vB'/\Fl vE:=by
  rcases hr with⟨_,_,_,rfl,rfl,rfl⟩|⟨_,τ,_,sE,⟨_,_,_,rfl,rfl⟩|⟨_,_,_,sA,sB⟩⟩
  . exact⟨aV,aV,aV⟩
  . exact⟨aV,aV,sE.fl⟩
  . exact⟨sA.fl,sB.fl,sE.fl⟩
 obtain⟨fA,fB',fE⟩:=fAE
 have hr:=qc eT eF hl hγ hs hw hr
 replace S:=S.call g6
 simp only [BS,LB,cls,Nat.reduceLT,Nat.reduceEqDiff,Nat.reduceAdd,Nat.reducePow,Nat.reduceDiv,Nat.reduceMod,Nat.reduceLeDiff,ansV]
 refine du (S.store (i:=0) rfl Xw (by intro x e;cases e) rfl (by simp only [ae,Xe,Xf,fA.2.1,fB'.2.1,zW];rfl) (lbt rfl) ono) ?_
 clear S;rintro h7 ⟨S,mo⟩
 simp only [LC,ae,lay,zY,zX,Nat.reduceAdd]at S
 simp only [BS,LB,cls,Nat.reduceLT,Nat.reduceEqDiff,Nat.reduceAdd,Nat.reducePow,Nat.reduceDiv,Nat.reduceMod,Nat.reduceLeDiff]
 refine⟨by simp only [bz,bI,aX,bM,aZ,ne_eq,not_false_eq_true,bN,bW,bw,aY,cm,c7,aQ,Nat.reduceLT,Nat.reduceEqDiff,reduceIte,zW,an,iT,aA e1,az e1,aA e2,az e2,aA e3,az e3,aA e4,az e4,<-e_b7],?_⟩
 have R7:=S.row (b:=b7) m0
 have hr7:(FAR<=dOf (seen γ.arcs Arc.s Arc.t) s w/\c=20/\d=0/\vA=.slice none 0 0/\vB'=.slice none 0 0)\/(dOf (seen γ.arcs Arc.s Arc.t) s w<FAR/\c=0/\d=(dOf (seen γ.arcs Arc.s Arc.t) s w:Nat)/\ ∃ids,aE h7 1 cd vA ids/\ids.length<=1000/\iP γ.arcs s ids w (dOf (seen γ.arcs Arc.s Arc.t) s w)):=
  hr.imp (fun h=>h) (fun⟨x1,x2,x3,_,ids,x4,x5,x6⟩=>⟨x1,x2,x3,ids,x4.mo mo (fun y hy e=>by have:=nV y (.inl hy);omega),x5,x6⟩)
 have gC:=gB.trans S.gr
 replace R6:=R6.gr S.gr
 replace R3:=R3.gr S.gr
 have okC:=S.ok
 have k6':=R6.lt okC
 have k7':=R7.lt okC
 clear S hr mo e1 e2 e3 e4
 rename Hp=>hC
 have S:=Si okC
 have ls:=zo okC hγ (ga.gr gC) (s:=s) hs (b:=false) (A':=seen γ.arcs Arc.s Arc.t) rfl (fun v _=>eF hs v)
 unfold ff at ls
 have l34:=R3.load (o:=0) (n:=4) (Xa 4)
 simp only [zX,zY]at l34
 have l61:=R6.load1 (o:=1) rfl
 have l62:=R6.load1 (o:=2) rfl
 refine aF (aM rfl) (q:=0) (ps:=[(3,5)]) (by kernel_rfl) ?_
 simp only [BS,LB,cls,Nat.reduceLT,Nat.reduceEqDiff,Nat.reduceAdd,Nat.reducePow,Nat.reduceDiv,Nat.reduceMod,Nat.reduceLeDiff,Tryz.FFtx6,l34,l61]
 refine cB ls ?_
 rintro vL h ⟨g8,sL,nL⟩
 have e1:=ar g8 k6'
 replace S:=S.call g8
 obtain⟨cL,oL,xL,yL⟩:=sL.ix (kd:=.i64) (eE .i64) (i:=w) (by rw [lL];exact hw)
 have eD:(jO (seen γ.arcs Arc.s Arc.t) γ.nodes s)[w]'(by rw [lL];exact hw)=(dOf (seen γ.arcs Arc.s Arc.t) s w:Nat):=by simp [jO]
 rw [eD]at yL
 replace yL:h.load cL oL 1=some [.int .i64 ((dOf (seen γ.arcs Arc.s Arc.t) s w:Nat):Int)]:=yL
 generalize dOf (seen γ.arcs Arc.s Arc.t) s w=D at hr7 yL
 simp only [BS,LB,cls,Nat.reduceLT,Nat.reduceEqDiff,Nat.reduceAdd,Nat.reducePow,Nat.reduceDiv,Nat.reduceMod,Nat.reduceLeDiff,Tryz.FFtx6,S.gr.load l62,xL,yL]
 refine⟨by simp only [bz,bI,aX,bM,aZ,ne_eq,not_false_eq_true,bN,bW,bw,aY,cm,c7,aQ,Nat.reduceLT,Nat.reduceEqDiff,reduceIte,zW,an,aA e1,az e1],?_⟩
 have l64:=(R6.gr S.gr).load (o:=0) (n:=4) (Xa 4)
 have l74:=(R7.gr S.gr).load (o:=0) (n:=4) (Xa 4)
 have l70:=(R7.gr S.gr).load1 (o:=0) rfl
 have l71:=(R7.gr S.gr).load1 (o:=1) rfl
 simp only [zX,zY]at l64 l74
 have gD:=gC.trans S.gr
 rcases hr7 with⟨hd,rfl,rfl,rfl,rfl⟩|⟨hd,rfl,rfl,ids,sA,hi,hp⟩
 . have hd':(72057594037927936:Int)<=(D:Int):=by omega
   simp only [BS,LB,Nat.reduceLT,Nat.reduceEqDiff,Tryz.FFtx6,hd',l64,l74,l70]
   refine aq (walksE_ok S.ok aU aU aU aU (c:=20) (by decide)) ?_
   intro h9 g9;replace S:=S.call g9
   simp only [BS,LB,Nat.reduceLT,Nat.reduceEqDiff]
   refine aq (py S.ok) ?_
   intro h10 g10;replace S:=S.call g10
   simp only [BS,LB,ac,Nat.reduceLT,Nat.reduceEqDiff]
   exact g0.trans (gC.trans S.gr)
 . have hd': ¬(72057594037927936:Int)<=(D:Int):=by omega
   simp only [BS,LB,Nat.reduceLT,Nat.reduceEqDiff,Tryz.FFtx6,hd',l64,l74,l70,l71]
   refine aq (walksW_ok S.ok hγ (hn.gr gD) aU aU hs (sA.gr S.gr) fB' hi hp) ?_
   intro h9 g9;replace S:=S.call g9
   simp only [BS,LB,Nat.reduceLT,Nat.reduceEqDiff]
   refine aq (py S.ok) ?_
   intro h10 g10;replace S:=S.call g10
   simp only [BS,LB,ac,Nat.reduceLT,Nat.reduceEqDiff]
   exact g0.trans (gC.trans S.gr)
def Tryz.FFta4:=aj Z1<|aj Z2<|aj Z0<|aj Z3<|aj Z7<|aj Z9<|aj Z13<|aj Z16<|aj Z19<|aj Z25<|aj Z36<|aj Z29<|aj Z37<|aj Z48<|aj Z47<|aj Z55<|aj Z5<|aj Z74<|aj Z44<|aj Z14<|aj Z6<|aj Z10<|aj Z4<|aj Z15<|aj Z70<|aj Z27<|aj Z20<|aj Z38<|aj Z8<|aj Z18<|aj Z21<|aj Z12<|Z11
theorem sW{h0:Hp}(ok:h0.t.Sized h0.n){vB vM vN vM2:Value}{f t:Nat}{a a2:Int}{B ms ms2:List Int}(hB:SlW h0 .u8 vB B)(hM:SlW h0 .u8 vM ms)(hMr: ∀x∈ms,0<=x/\x<=255)(fN:Fl vN)(hf:f<=255)(ht:t<=255)(hM2:SlW h0 .u8 vM2 ms2)(hMr2: ∀x∈ms2,0<=x/\x<=255)(_:ms2.length<=9223372036854775807):
 bH zM 4 [.agg ⟨[vB,vM,.int .u8 (f:Nat),.int .u8 (t:Nat),.int .i8 a,vN]⟩,vM2,.int .i8 a2] h0 (.bool true):=by
 have S:=Si ok
 have fB:=hB.sl.fl
 have fM:=hM.sl.fl
 have fM2:=hM2.sl.fl
 have far:=fD
 refine ab (n:=80) (rs:=[.tmp 6]) rfl Tryz.e4 rfl rfl rfl (lbt rfl) ?_
 simp only [BS,Nat.reduceLT]
 refine ag (aW (by intro x e;cases e)) S ?_;clear S;intro h b3 S n_b3;simp only [ae]at S
 simp only [BS,LB]
 refine aq (py S.ok) ?_
 intro h g;replace S:=S.call g;clear g
 simp only [BS,LB,Nat.reduceLT,Nat.reduceEqDiff,Tryz.FFta4,Xh,Xb,Xi,S.lds (b:=b3) (o:=0) (n:=6) m0 (lbt rfl)]
 refine step_ret (qv S.ok (hB.grE S.gr) (hM.grE S.gr) hMr fN) ?_
 rintro r h ⟨g,γ,vx,vy,va,bp,nb,vR,l,rfl,hγ,ga,hn,sR,hl,hl1,hl7,eN⟩
 replace S:=S.call g;clear g
 have fx:=ga.X.fl
 have fy:=ga.Y.fl
 have fa:=ga.A.fl
 have fR:=sR.fl
 have n1:=hγ.n1
 have n2:=hγ.n2
 have gA:=S.gr
 have okA:=S.ok
 rename Hp=>hA
 have R3:=S.row (b:=b3) m0
 clear S
 have S:=Si okA
 simp only [BS,LB,Nat.reduceLT,Nat.reduceEqDiff,Tryz.FFta4,ff]
 refine ag aC S ?_;clear S;intro h b7 S n_b7
 simp only [BS,LB,Nat.reduceLT,Nat.reduceEqDiff]
 refine aD (S.store (i:=0) rfl Tryz.s31 (by intro x e;cases e) rfl (by simp only [ae,Xe,Xf,fx.2.1,fy.2.1,fa.2.1,zW];rfl) (lbt rfl) ono) ?_
 clear S;rintro h ⟨S,mo⟩;clear mo
 simp only [LC,ae,lay,zY,zX,Nat.reduceAdd]at S
 have l3:=(R3.gr S.gr).load (o:=0) (n:=6) (Xa 6)
 simp only [zX,zY]at l3
 simp only [BS,LB,Nat.reduceLT,Nat.reduceEqDiff,Tryz.FFta4,l3]
 refine ag aC S ?_;clear S;intro h b10 S n_b10
 simp only [BS,LB,Nat.reduceLT,Nat.reduceEqDiff]
 refine aD (S.store (i:=0) rfl Tryz.s26 (by intro x e;cases e) rfl (by simp only [ae,Xe,Xf,fB.2.1,fM.2.1,fN.2.1,zW];rfl) (lbt rfl) ono) ?_
 clear S;rintro h ⟨S,mo⟩;clear mo
 simp only [LC,ae,lay,zY,zX,Nat.reduceAdd]at S
 simp only [BS,LB,Nat.reduceLT,Nat.reduceEqDiff,Tryz.FFta4]
 refine aD (aG S (i:=0) rfl Tryz.s22 fM2 (zZ (lbt rfl)) ono) ?_
 clear S;rintro h ⟨S,mo⟩;clear mo
 simp only [LC]at S
 simp only [BS,LB,Nat.reduceLT,Nat.reduceEqDiff,Tryz.FFta4]
 refine aD (aG S (i:=0) rfl Tryz.s23 aU (zZ (lbt rfl)) ono) ?_
 clear S;rintro h ⟨S,mo⟩;clear mo
 simp only [LC]at S
 simp only [BS,LB,Nat.reduceLT,Nat.reduceEqDiff,Tryz.FFta4,Xh,Xb,Xi,S.lds (b:=b10) (o:=0) (n:=6) m0 (lbt rfl)]
 have gB:=gA.trans S.gr
 refine step_ret (qv S.ok (hB.grE gB) (hM2.grE gB) hMr2 fN) ?_
 rintro r h ⟨g,γ2,vx2,vy2,va2,bp2,nb2,vR2,l2,rfl,hγ2,ga2,hn2,sR2,hlm,hlm1,hlm7,eN2⟩
 have eNN:γ2.nodes=γ.nodes:=eN2.trans eN.symm
 rw [eNN]at hlm
 replace S:=S.call g;clear g
 have fx2:=ga2.X.fl
 have fy2:=ga2.Y.fl
 have fa2:=ga2.A.fl
 have fR2:=sR2.fl
 have R7:=S.row (b:=b7) m1
 have R10:=S.row (b:=b10) m0
 replace R3:=R3.gr S.gr
 replace hn:=hn.gr S.gr
 replace sR:=sR.gr S.gr
 replace gB:=gA.trans S.gr
 have okB:=S.ok
 rename Hp=>hB1
 clear S l3
 have S:=Si okB
 simp only [BS,LB,Nat.reduceLT,Nat.reduceEqDiff,Tryz.FFta4,ff]
 refine ag aC S ?_;clear S;intro h b11 S n_b11
 simp only [BS,LB,Nat.reduceLT,Nat.reduceEqDiff]
 refine aD (S.store (i:=0) rfl Tryz.s31 (by intro x e;cases e) rfl (by simp only [ae,Xe,Xf,fx2.2.1,fy2.2.1,fa2.2.1,zW];rfl) (lbt rfl) ono) ?_
 clear S;rintro h ⟨S,mo⟩;clear mo
 simp only [LC,ae,lay,zY,zX,Nat.reduceAdd]at S
 replace R3:=R3.gr S.gr
 replace R7:=R7.gr S.gr
 replace R10:=R10.gr S.gr
 replace hn:=hn.gr S.gr
 replace sR:=sR.gr S.gr
 replace sR2:=sR2.gr S.gr
 replace gB:=gB.trans S.gr
 have okC:=S.ok
 rename Hp=>hC
 clear S
 have S:=Si okC
 have l36:=R3.load (o:=0) (n:=6) (Xa 6)
 have l74:=R7.load (o:=0) (n:=4) (Xa 4)
 have l106:=R10.load (o:=0) (n:=6) (Xa 6)
 simp only [zX,zY]at l36 l74 l106
 have z3:=R3.lt okC
 have z7:=R7.lt okC
 have z10:=R10.lt okC
 simp only [BS,LB,Nat.reduceLT,Nat.reduceEqDiff,Tryz.FFta4]
 refine aF (jB (ord:=[6,7,0,1,2,3,4,5,8,9]) rfl rfl (by simp only [fd,lD,fb,Xl,Xm,Xu,Xo,Xp,Nat.reduceBEq,cond_true,cond_false];exact rfl)) (q:=3) (ps:=[(1,7),(0,7),(4,6),(4,5),(1,4),(0,4)]) (by kernel_rfl) ?_
 simp only [BS,LB,cls,Nat.reducePow,Nat.reduceDiv,Nat.reduceMod,Nat.reduceLeDiff,Tryz.FFta4]
 refine cP aC S ?_;clear S;intro h b14 S n_b14 e_b14
 simp only [BS,LB,cls,Nat.reducePow,Nat.reduceDiv,Nat.reduceMod,Nat.reduceLeDiff,Tryz.FFta4]
 refine cP aC S ?_;clear S;intro h b15 S n_b15 e_b15
 have gQ:=S.gr
 have nQ:=gQ.n
 have k14:=(S.row (b:=b14) m1).lt S.ok
 have k15:=(S.row (b:=b15) m0).lt S.ok
 simp only [BS,LB,cls,Nat.reduceLT,Nat.reduceEqDiff,Nat.reduceAdd,Nat.reducePow,Nat.reduceDiv,Nat.reduceMod,Nat.reduceLeDiff,Tryz.FFta4,gQ.load l36,gQ.load l74]
 have qo:=pD (γ:=γ) (a:=a) S.ok fB fM fN fx fy fa hf ht n1
 unfold ff at qo
 refine cB qo ?_
 rintro r h ⟨g,rfl⟩
 clear qo
 have e3:=ar g (show b3<_ by omega)
 have e7:=ar g (show b7<_ by omega)
 have e10:=ar g (show b10<_ by omega)
 have e14:=ar g k14
 have e15:=ar g k15
 have ng:=g.n
 replace S:=S.call g
 simp only [BS,LB,cls,Nat.reduceLT,Nat.reduceEqDiff,Nat.reduceAdd,Nat.reducePow,Nat.reduceDiv,Nat.reduceMod,Nat.reduceLeDiff,Tryz.FFta4,S.gr.load l106,S.gr.load l74]
 have qo:=pD (γ:=γ) (a:=a2) S.ok fB fM2 fN fx fy fa hf ht n1
 unfold ff at qo
 refine cB qo ?_
 rintro r h ⟨g2,rfl⟩
 clear qo
 have i3:=ar g2 (show b3<_ by omega)
 have i7:=ar g2 (show b7<_ by omega)
 have i10:=ar g2 (show b10<_ by omega)
 have i14:=ar g2 (show b14<_ by omega)
 have i15:=ar g2 (show b15<_ by omega)
 replace S:=S.call g2
 have hs:f%γ.nodes<γ.nodes:=XH _ (by omega)
 have hw:t%γ.nodes<γ.nodes:=XH _ (by omega)
 generalize f%γ.nodes=s at hs
 generalize t%γ.nodes=w at hw
 simp only [BS,LB,cls,Nat.reduceLT,Nat.reduceEqDiff,Nat.reduceAdd,Nat.reducePow,Nat.reduceDiv,Nat.reduceMod,Nat.reduceLeDiff]
 refine du (S.store (i:=1) rfl XN (by intro x e;cases e) rfl rfl (lbt rfl) ono) ?_
 clear S;rintro h ⟨S,mo⟩
 simp only [LC,ae,lay,zY,zX,Nat.reduceAdd]at S
 simp only [BS,LB,cls,Nat.reduceLT,Nat.reduceEqDiff,Nat.reduceAdd,Nat.reducePow,Nat.reduceDiv,Nat.reduceMod,Nat.reduceLeDiff]
 refine du (S.store (i:=0) rfl XN (by intro x e;cases e) rfl rfl (lbt rfl) ono) ?_
 clear S;rintro h ⟨S,mo2⟩
 simp only [LC,ae,lay,zY,zX,Nat.reduceAdd]at S
 have ne1:b14≠b15:=by
  have ap:=S.apart
  simp [keys]at ap
  omega
 simp only [BS,LB,jq,cb,jo,Nat.reduceLT,Nat.reduceEqDiff,Nat.reduceAdd,Tryz.FFta4]
 refine⟨by simp only [bz,bI,aX,bM,aZ,ne_eq,not_false_eq_true,bN,bW,bw,aY,cm,c7,aQ,Nat.reduceLT,Nat.reduceEqDiff,reduceIte,zW,an,iT,az e3,aA e3,az e7,aA e7,az e10,aA e10,az e14,aA e14,az e15,aA e15,az i3,aA i3,az i7,aA i7,az i10,aA i10,az i14,aA i14,az i15,aA i15,kJ ne1,kJ ne1.symm,<-e_b14,<-e_b15],?_⟩
 refine aD (aG S (i:=0) rfl XE aU (zZ (lbt rfl)) ono) ?_
 clear S mo mo2;rintro h ⟨S,mo⟩;clear mo
 simp only [LC]at S
 have Rb14:=S.row (b:=b14) m1
 have Rb15:=S.row (b:=b15) m0
 have eT:=fun {s:Nat} (hs:s<γ.nodes) (v:Nat)=>exTo okC hγ hn hs v
 have eF:=fun {s:Nat} (hs:s<γ.nodes) (v:Nat)=>exFrom okC hγ hn hs v
 replace hn:=hn.gr S.gr
 replace sR:=sR.gr S.gr
 replace sR2:=sR2.gr S.gr
 have gD:=gB.trans S.gr
 have okD:=S.ok
 have y14:=Rb14.lt okD
 have y15:=Rb15.lt okD
 clear e3 e7 e10 e14 e15 i3 i7 i10 i14 i15 g g2
 rename Hp=>hD
 clear S
 have S:=Si okD
 simp only [BS]
 refine aF (jB (ord:=[9,0,1,2,3,4,5,6,7,8,10,11]) rfl rfl (by simp only [fd,lD,fb,Xl,Xm,Xu,Xo,Xp,Nat.reduceBEq,cond_true,cond_false];exact rfl)) (q:=1) (ps:=[(0,6),(4,5),(0,4)]) (by kernel_rfl) ?_
 simp only [BS,LB,cls,Nat.reducePow,Nat.reduceDiv,Nat.reduceMod,Nat.reduceLeDiff,Tryz.FFta4]
 refine cP aC S ?_;clear S;intro h b16 S n_b16 e_b16
 have kA:=(S.row (b:=b16) m0).lt S.ok
 have nA:=S.gr.n
 simp only [BS,LB,cls,Nat.reduceLT,Nat.reduceEqDiff,Nat.reduceAdd,Nat.reducePow,Nat.reduceDiv,Nat.reduceMod,Nat.reduceLeDiff]
 refine cB (rI S.ok hγ (hn.gr S.gr) (sR.gr S.gr) (by omega)) ?_
 rintro pt h ⟨g5,hT⟩
 replace hT:=(hT.resolve_left (fun h=>h.1 hl)).2
 obtain⟨bt,et⟩: ∃b,pt=ptrTo b:=by obtain⟨b,_,_,_,e,_⟩:=hT.ex;exact⟨b,e⟩
 subst et
 have e1:=ar g5 (show b14<_ by omega)
 have e2:=ar g5 kA
 have q5:=g5.n
 replace S:=S.call g5
 have l6:=(Rb14.gr S.gr).load (o:=0) (n:=4) (Xa 4)
 simp only [zX,zY]at l6
 simp only [BS,LB,cls,Nat.reduceLT,Nat.reduceEqDiff,Nat.reduceAdd,Nat.reducePow,Nat.reduceDiv,Nat.reduceMod,Nat.reduceLeDiff,Tryz.FFta4,l6]
 refine cB (pR S.ok hγ (hn.gr S.gr) hT (fun i _=>tO) (fun i _=>tT) (by omega) hl1 aU hs hw) ?_
 rintro r h ⟨g6,cD,dD,vA,vB',vE,rfl,nV,hr⟩
 have e3:=ar g6 (show b14<_ by omega)
 have e4:=ar g6 (show b16<_ by omega)
 have fAE:Fl vA/\Fl vB'/\Fl vE:=by
  rcases hr with⟨_,_,_,rfl,rfl,rfl⟩|⟨_,τ,_,sE,⟨_,_,_,rfl,rfl⟩|⟨_,_,_,sA,sB⟩⟩
  . exact⟨aV,aV,aV⟩
  . exact⟨aV,aV,sE.fl⟩
  . exact⟨sA.fl,sB.fl,sE.fl⟩
 obtain⟨fA,fB',fE⟩:=fAE
 have hrD:=qc eT eF hl hγ hs hw hr
 replace S:=S.call g6
 simp only [BS,LB,cls,Nat.reduceLT,Nat.reduceEqDiff,Nat.reduceAdd,Nat.reducePow,Nat.reduceDiv,Nat.reduceMod,Nat.reduceLeDiff,ansV]
 refine du (S.store (i:=0) rfl Xw (by intro x e;cases e) rfl (by simp only [ae,Xe,Xf,fA.2.1,fB'.2.1,zW];rfl) (lbt rfl) ono) ?_
 clear S;rintro h7 ⟨S,mo⟩
 simp only [LC,ae,lay,zY,zX,Nat.reduceAdd]at S
 simp only [BS,LB,cls,Nat.reduceLT,Nat.reduceEqDiff,Nat.reduceAdd,Nat.reducePow,Nat.reduceDiv,Nat.reduceMod,Nat.reduceLeDiff]
 refine⟨by simp only [bz,bI,aX,bM,aZ,ne_eq,not_false_eq_true,bN,bW,bw,aY,cm,c7,aQ,Nat.reduceLT,Nat.reduceEqDiff,reduceIte,zW,an,iT,aA e1,az e1,aA e2,az e2,aA e3,az e3,aA e4,az e4,<-e_b16],?_⟩
 have Rb16:=S.row (b:=b16) m0
 have gE:=gD.trans S.gr
 replace hn:=hn.gr S.gr
 replace sR2:=sR2.gr S.gr
 replace Rb15:=Rb15.gr S.gr
 have okE:=S.ok
 have y15':=Rb15.lt okE
 have y16:=Rb16.lt okE
 clear e1 e2 e3 e4 mo g5 g6 hr fA fB' fE nV hT kA nA q5 l6
 rename Hp=>hE
 clear S
 have S:=Si okE
 refine aF (jB (ord:=[9,0,1,2,3,4,5,6,7,8,10,11]) rfl rfl (by simp only [fd,lD,fb,Xl,Xm,Xu,Xo,Xp,Nat.reduceBEq,cond_true,cond_false];exact rfl)) (q:=1) (ps:=[(0,6),(4,5),(0,4)]) (by kernel_rfl) ?_
 simp only [BS,LB,cls,Nat.reducePow,Nat.reduceDiv,Nat.reduceMod,Nat.reduceLeDiff,Tryz.FFta4]
 refine cP aC S ?_;clear S;intro h b18 S n_b18 e_b18
 have kA:=(S.row (b:=b18) m0).lt S.ok
 have nA:=S.gr.n
 simp only [BS,LB,cls,Nat.reduceLT,Nat.reduceEqDiff,Nat.reduceAdd,Nat.reducePow,Nat.reduceDiv,Nat.reduceMod,Nat.reduceLeDiff]
 refine cB (rI S.ok hγ (hn.gr S.gr) (sR2.gr S.gr) (by omega)) ?_
 rintro pt h ⟨g5,hT⟩
 replace hT:=(hT.resolve_left (fun h=>h.1 hlm)).2
 obtain⟨bt,et⟩: ∃b,pt=ptrTo b:=by obtain⟨b,_,_,_,e,_⟩:=hT.ex;exact⟨b,e⟩
 subst et
 have e1:=ar g5 (show b15<_ by omega)
 have e2:=ar g5 kA
 have q5:=g5.n
 replace S:=S.call g5
 have l6:=(Rb15.gr S.gr).load (o:=0) (n:=4) (Xa 4)
 simp only [zX,zY]at l6
 simp only [BS,LB,cls,Nat.reduceLT,Nat.reduceEqDiff,Nat.reduceAdd,Nat.reducePow,Nat.reduceDiv,Nat.reduceMod,Nat.reduceLeDiff,Tryz.FFta4,l6]
 refine cB (pR S.ok hγ (hn.gr S.gr) hT (fun i _=>tO) (fun i _=>tT) (by omega) hlm1 aU hs hw) ?_
 rintro r h ⟨g6,cE,dE,vA,vB',vE,rfl,nV,hr⟩
 have e3:=ar g6 (show b15<_ by omega)
 have e4:=ar g6 (show b18<_ by omega)
 have fAE:Fl vA/\Fl vB'/\Fl vE:=by
  rcases hr with⟨_,_,_,rfl,rfl,rfl⟩|⟨_,τ,_,sE,⟨_,_,_,rfl,rfl⟩|⟨_,_,_,sA,sB⟩⟩
  . exact⟨aV,aV,aV⟩
  . exact⟨aV,aV,sE.fl⟩
  . exact⟨sA.fl,sB.fl,sE.fl⟩
 obtain⟨fA,fB',fE⟩:=fAE
 have hrE:=qc eT eF hlm hγ hs hw hr
 replace S:=S.call g6
 simp only [BS,LB,cls,Nat.reduceLT,Nat.reduceEqDiff,Nat.reduceAdd,Nat.reducePow,Nat.reduceDiv,Nat.reduceMod,Nat.reduceLeDiff,ansV]
 refine du (S.store (i:=0) rfl Xw (by intro x e;cases e) rfl (by simp only [ae,Xe,Xf,fA.2.1,fB'.2.1,zW];rfl) (lbt rfl) ono) ?_
 clear S;rintro h7 ⟨S,mo⟩
 simp only [LC,ae,lay,zY,zX,Nat.reduceAdd]at S
 simp only [BS,LB,cls,Nat.reduceLT,Nat.reduceEqDiff,Nat.reduceAdd,Nat.reducePow,Nat.reduceDiv,Nat.reduceMod,Nat.reduceLeDiff,Tryz.FFta4]
 refine⟨by simp only [bz,bI,aX,bM,aZ,ne_eq,not_false_eq_true,bN,bW,bw,aY,cm,c7,aQ,Nat.reduceLT,Nat.reduceEqDiff,reduceIte,zW,an,iT,aA e1,az e1,aA e2,az e2,aA e3,az e3,aA e4,az e4,<-e_b18],?_⟩
 have l160:=(Rb16.gr S.gr).load1 (o:=0) rfl
 have l161:=(Rb16.gr S.gr).load1 (o:=1) rfl
 have hcd:cD=cE/\dD=dE:=by
  rcases hrD with⟨x1,rfl,rfl,_⟩|⟨x1,rfl,rfl,_⟩<;>rcases hrE with⟨y1,rfl,rfl,_⟩|⟨y1,rfl,rfl,_⟩
  . exact⟨rfl,rfl⟩
  . omega
  . omega
  . exact⟨rfl,rfl⟩
 obtain⟨rfl,rfl⟩:=hcd
 simp only [BS,LB,ac,Nat.reduceLT,Nat.reduceEqDiff,Tryz.FFta4,l160,l161,S.ld (b:=b18) (o:=0) m0 rfl,S.ld (b:=b18) (o:=1) m0 rfl]
 exact gE.trans S.gr
end Go.Ab
end
section
namespace Go.Ab
open Go.ChangeShapes Go.WideShapes Go.RowKit
theorem rowAt_le{P:Program}{fits:TypeId->Bool}{d:Nat}{e:TypeId}{count off n:Nat}(h:rowAt P fits d e count off n=true):off<=count*P.cellsOf e:=by
 cases d with
 |zero=>cases h
 | succ d=>
   unfold rowAt at h
   simp only []at h
   split at h
   . cases h
   . rename_i hs
     have hpos:0<P.cellsOf e:=by omega
     have hdm:=Nat.div_add_mod off (P.cellsOf e)
     simp only [Bool.or_eq_true,Bool.and_eq_true,beq_iff_eq,decide_eq_true_eq]at h
     rcases h with⟨⟨h1,h2⟩,_⟩|⟨h1,_⟩
     . have:P.cellsOf e*(off/P.cellsOf e)<=P.cellsOf e*count:=Nat.mul_le_mul_left _ (by omega)
       rw [Nat.mul_comm count];omega
     . have:P.cellsOf e*(off/P.cellsOf e+1)<=P.cellsOf e*count:=Nat.mul_le_mul_left _ (by omega)
       have hlt:=XH off hpos
       rw [Nat.mul_add,Xx]at this
       rw [Nat.mul_comm count];omega
theorem liesAt_le{P:Program}{d:Nat}: ∀{e:TypeId} {count off:Nat} {u:TypeId} {n:Nat},liesAt P d e count off u n=true->off<=count*P.cellsOf e:=by
 induction d with
 |zero=>intro e count off u n h;cases h
 | succ d ih=>
   intro e count off u n h
   unfold liesAt at h
   rw [Bool.or_eq_true]at h
   rcases h with h|h
   . exact rowAt_le h
   . split at h
     . exact ih h
     . cases h
theorem has_W{P:Program}{W:World}{r:_root_.Go.Reach}{base:Nat}{a:Addr}{e:TypeId}{n:Nat}(h:W.has P r base a e n):a.spot=none/\a.block<W.heap.size/\ ∃l,(hpW W).load (a.block+16) a.off 0=some l:=by
 obtain⟨_,hsp,row,cells,hsh,hl⟩:=h
 have hle:=liesAt_le hl
 have hle2:a.off<=cells:=Xd hle (Nat.div_mul_le_self _ _)
 unfold World.shape? at hsh
 split at hsh
 next cs el fz ho=>
  cases hsh
  have hlt:=(Array.getElem?_eq_some_iff.1 ho).1
  have hr:Row (hpW W) (a.block+16) (cs.toList.map (jm W.heap.size)) 0:=⟨_,_,by rw [qj,ho];rfl,Tr.sized_ofList _,fun j=>Tr.get_ofList _ j⟩
  exact⟨hsp,hlt,_,hr.load (o:=a.off) (n:=0) (by simpa using hle2)⟩
 . cases hsh
section
variable{H:Type}{enc:TypeId×Value->H}{P:Program}
theorem nC{W:World}{base fuel:Nat}{s e:TypeId}{k:IntKind}{c:Value}{sp:Nat->Bool}{hd:Bool}{x:DataW H×List MemPlace}(hs:P.underlying s=some (.slice e))(he:P.underlying e=some (.int k))(hc:P.cellsOf e=1)
 (hok:Cell.okWide P W .any base s c) (h:DataW.trod enc P W 0 sp hd fuel s [c]=some x): ∃zs:List Int,SlW (hpW W) k (jm W.heap.size c) zs/\(∀z∈zs,(Lit.int k z).wf=true)/\zs.length<=9223372036854775807:=by
 rcases Go.ChangeShapes.open_ints hs he hc h with⟨e1,_⟩|⟨a,len,cap,zs,e1,hb,hl,hm,hz,_,hcell,hwf⟩
 . cases e1
   exact⟨[],.inl ⟨rfl,rfl⟩,fun z hz=>(by cases hz),by simp⟩
 . cases e1
   unfold Cell.okWide at hok
   rw [hs]at hok
   simp only [Cell.ok,hs]at hok
   obtain⟨hle1,hmax,hhas⟩:=hok
   obtain⟨hsp,hlt,h0⟩:=has_W hhas
   have hlz:len<=zs.length:=by rw [hz];split<;>omega
   refine⟨zs.take len,.inr ⟨a.block+16,a.off,cap,?_,?_,?_⟩,fun z hz=>hwf z (List.mem_of_mem_take hz),by
    have:(cap:Int)<=9223372036854775807:=hmax
    rw [Xn];omega⟩
   . rw [Xn,XJ hlz]
     simp only [jm,if_pos hl,if_pos (And.intro hsp hlt)]
   . rw [Xn,XJ hlz];exact hl
   . rw [Xn,XJ hlz,Xx]
     rw [load_join (f:=fun i=>.int k (zs.getD i 0)) h0 (fun i hi=>load_W hsp (hcell i (by omega)))]
     congr 1
     have e4: ∀l:List Int,l.flatMap (encI k)=l.map fun x=>.int k x:=fun l=>by
      rw [Xt,XO,Xt];rfl
     rw [e4]
     refine List.ext_getElem? fun i=>?_
     rw [Xk,Xk,List.getElem?_take]
     by_cases hi:i<len
     . rw [if_pos hi,XP hi,zV (show i<zs.length by omega)]
       simp [zN,show i<zs.length by omega]
     . rw [if_neg hi,List.getElem?_eq_none (by simpa using hi)];rfl
theorem open_slV{W:World}{base:Nat}{s e:TypeId}{k:IntKind}{v:Value}{sp:Nat->Bool}{hd:Bool}{d:DataW H}{p:List MemPlace}(hs:P.underlying s=some (.slice e))(he:P.underlying e=some (.int k))(hc:P.cellsOf e=1)
 (hval:Value.okWide P W .any base s v) (h:DataW.Trod enc P W 0 sp hd s v d p): ∃zs:List Int,SlW (hpW W) k (absA W.heap.size v) zs/\(∀z∈zs,(Lit.int k z).wf=true)/\zs.length<=9223372036854775807:=by
 unfold Value.okWide at hval
 rw [hs]at hval
 obtain⟨fuel,h⟩:=h
 have hc0: ∀l:Array Value,v≠ .agg l:=by
  rintro l rfl
  simp only [Cell.okWide,hs,Cell.ok]at hval
 have hcs:v.cells.toList=[v]:=by cases v<;>first|rfl|exact absurd rfl (hc0 _)
 rw [hcs]at h
 have ha:absA W.heap.size v=jm W.heap.size v:=by cases v<;>first|rfl|exact absurd rfl (hc0 _)
 rw [ha]
 exact nC hs he hc hval h
theorem open_sl2{W:World}{base:Nat}{t s e:TypeId}{k:IntKind}{f0 f1:Field}{v:Value}{sp:Nat->Bool}{hd:Bool}{d:DataW H}{p:List MemPlace}(ht:P.underlying t=some (.struct #[f0,f1]))(o0:f0.offset=0)(o1:f1.offset=1)(t0:f0.type=s)(t1:f1.type=s)
 (hs:P.underlying s=some (.slice e)) (he:P.underlying e=some (.int k)) (hc:P.cellsOf e=1) (hcs:P.cellsOf s=1) (hct:P.cellsOf t=2) (hts:P.cellTypes P.depth t=some [s,s])
 (hval:Value.okWide P W .any base t v) (h:DataW.Trod enc P W 0 sp hd t v d p):
 ∃(c0 c1:Value) (xs ys:List Int),v=.agg #[c0,c1]/\SlW (hpW W) k (jm W.heap.size c0) xs/\SlW (hpW W) k (jm W.heap.size c1) ys/\(∀z∈xs,(Lit.int k z).wf=true)/\ ∀z∈ys,(Lit.int k z).wf=true:=by
 unfold Value.okWide at hval
 rw [ht]at hval
 obtain⟨cs,rfl,hsz,ts,e1,_,hrow⟩:=hval
 rw [hts]at e1
 cases e1
 rw [hct]at hsz
 obtain⟨l⟩:=cs
 simp only [List.size_toArray]at hsz
 obtain⟨c0,c1,rfl⟩:=len2 hsz
 obtain⟨fuel,h⟩:=h
 obtain⟨y0,y1,n,_,_,h1,h2⟩:=Go.ChangeShapes.trod_struct2 ht h
 rw [o0,t0,hcs]at h1
 rw [o1,t1,hcs]at h2
 obtain⟨u0,e0,k0⟩:=hrow 0 c0 rfl
 obtain⟨u1,e1,k1⟩:=hrow 1 c1 rfl
 cases e0
 cases e1
 obtain⟨xs,hx,wx,_⟩:=nC hs he hc k0 h1
 obtain⟨ys,hy,wy,_⟩:=nC hs he hc k1 h2
 exact⟨c0,c1,xs,ys,rfl,hx,hy,wx,wy⟩
end
end Go.Ab

end
section
namespace Go.Ab
open Go.ChangeShapes Go.WideShapes Go.RowKit
section
variable{H:Type}{enc:TypeId×Value->H}{P:Program}
theorem len6g{α:Type}{l:List α}(h:l.length=6): ∃a b c d e f,l=[a,b,c,d,e,f]:=by
 match l,h with
 | [a,b,c,d,e,f],_=>exact⟨a,b,c,d,e,f,rfl⟩
theorem xC{W:World}{base:Nat}{t s0 s5 e0 e5 i2 i4:TypeId}{f0 f1 f2 f3 f4 f5:Field}{v:Value}{sp:Nat->Bool}{hd:Bool}{d:DataW H}{p:List MemPlace}(ht:P.underlying t=some (.struct #[f0,f1,f2,f3,f4,f5]))(o0:f0.offset=0)(o1:f1.offset=1)(o2:f2.offset=2)(o3:f3.offset=3)(o4:f4.offset=4)(o5:f5.offset=5)
 (t0:f0.type=s0) (t1:f1.type=s0) (t2:f2.type=i2) (t3:f3.type=i2) (t4:f4.type=i4) (t5:f5.type=s5) (h0:P.underlying s0=some (.slice e0)) (h2:P.underlying i2=some (.int .u8)) (h4:P.underlying i4=some (.int .i8)) (h5:P.underlying s5=some (.slice e5))
 (g0:P.underlying e0=some (.int .u8)) (g5:P.underlying e5=some (.int .i64)) (c0:P.cellsOf e0=1) (c5:P.cellsOf e5=1) (d0:P.cellsOf s0=1) (d2:P.cellsOf i2=1) (d4:P.cellsOf i4=1) (d5:P.cellsOf s5=1) (hct:P.cellsOf t=6) (hts:P.cellTypes P.depth t=some [s0,s0,i2,i2,i4,s5])
 (hval:Value.okWide P W .any base t v) (h:DataW.Trod enc P W 0 sp hd t v d p):
 ∃ (a b e:Value) (x y z:Int) (B M N:List Int),v=.agg #[a,b,.int .u8 x,.int .u8 y,.int .i8 z,e]/\SlW (hpW W) .u8 (jm W.heap.size a) B/\SlW (hpW W) .u8 (jm W.heap.size b) M/\SlW (hpW W) .i64 (jm W.heap.size e) N/\
   (∀z∈B,(Lit.int .u8 z).wf=true)/\(∀z∈M,(Lit.int .u8 z).wf=true)/\(Lit.int .u8 x).wf=true/\(Lit.int .u8 y).wf=true/\(Lit.int .i8 z).wf=true/\M.length<=9223372036854775807:=by
 unfold Value.okWide at hval
 rw [ht]at hval
 obtain⟨cs,rfl,hsz,ts,e1,_,hrow⟩:=hval
 rw [hts]at e1
 cases e1
 rw [hct]at hsz
 obtain⟨l⟩:=cs
 simp only [List.size_toArray]at hsz
 obtain⟨a,b,x,y,z,e,rfl⟩:=len6g hsz
 obtain⟨fuel,h⟩:=h
 obtain⟨xs,n,_,_,hl,hlen,hf⟩:=DataW.trod_struct ht h
 obtain⟨y0,y1,y2,y3,y4,y5,rfl⟩:=len6g (by rw [hlen];rfl:xs.length=6)
 have q0:=hf 0 f0 rfl
 have q1:=hf 1 f1 rfl
 have q2:=hf 2 f2 rfl
 have q3:=hf 3 f3 rfl
 have q4:=hf 4 f4 rfl
 have q5:=hf 5 f5 rfl
 rw [o0,t0,d0]at q0
 rw [o1,t1,d0]at q1
 rw [o2,t2,d2]at q2
 rw [o3,t3,d2]at q3
 rw [o4,t4,d4]at q4
 rw [o5,t5,d5]at q5
 have r: ∀(j:Nat) t v,[s0,s0,i2,i2,i4,s5][j%6]? =some t->[a,b,x,y,z,e][j]? =some v->Cell.okWide P W .any base t v:=fun j t v h1 h2=>by
  obtain⟨u,h3,h4⟩:=hrow j v (by simpa using h2)
  obtain rfl:t=u:=Option.some.inj (h1.symm.trans h3)
  exact h4
 obtain⟨B,hB,wB,_⟩:=nC h0 g0 c0 (r 0 s0 a rfl rfl) q0
 obtain⟨M,hM,wM,lM⟩:=nC h0 g0 c0 (r 1 s0 b rfl rfl) q1
 obtain⟨N,hN,wN,lN⟩:=nC h5 g5 c5 (r 5 s5 e rfl rfl) q5
 obtain⟨u,e2,_,wu⟩:=DataW.trod_int h2 q2
 obtain⟨v,e3,_,wv⟩:=DataW.trod_int h2 q3
 obtain⟨w,e4,_,ww⟩:=DataW.trod_int h4 q4
 cases e2
 cases e3
 cases e4
 exact⟨a,b,e,u,v,w,B,M,N,rfl,hB,hM,hN,wB,wM,wu,wv,ww,lM⟩
end
end Go.Ab

end

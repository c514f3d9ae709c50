/- Nets, cells, flags: what the functions do (part 3). -/
import Derived.Test.YtnandelhggbchaaGreatDoorMetB
open Go.Ab.Tryz
open Go.Ab.Tryz renaming abEnv->zM,e3E->XF,e85->Yb
open List renaming getD_eq_getElem?_getD->zN,range->Xb,mem_append_left->Xc,not_mem_nil->Xd,mem_cons->Xf,mem_append_right->Xh,filterMap_nil->Xi,length_drop->Xj,map_cons->Xk,take->Xm,drop->Xn,getElem?_eq_getElem->Xo,length_map->Xq,append_nil->Xr,mem_cons_of_mem->Xs,replicate->Xt,map_nil->Xv,all_cons->Xw,take_of_length_le->Xy,length_range->Xz,flatMap_eq_foldl->XA,all_nil->XD,nodup_cons->XJ,length_append->XM,drop_zero->XO,getElem_mem->XQ,take_succ_eq_append_getElem->XR,mem_singleton->XT,flatMap_cons->XW,getElem?_append_left->XY,cons_append->XZ,mem_append->X9,perm_append_comm->Ya,map_eq_flatMap->Yc,take_succ_cons->Yd,map_map->Ye
open Nat renaming le_trans->Xa,lt_of_succ_le->Xg,mul_one->Xx,zero_mul->XB,zero_add->XC,ble_eq_true_of_le->XE,mul_le_mul_right->XG,one_mul->XI,le_refl->XP,zero_le->XS,add_comm->X6,le_mul_of_pos_right->X8
open Int renaming cast_ofNat_Int->Xe,ofNat_eq_natCast->XH,tmod_eq_emod_of_nonneg->XV,toNat_natCast->XX,eq_ofNat_of_zero_le->X7,ofNat->Yg
open Bool renaming and_true->Xl,not_not->Yf
open Option renaming getD_none->Xp,getD_some->Xu,map_some->XK,map_none->XL,isSome_none->XN,isSome_some->XU
set_option maxHeartbeats 4000000
set_option linter.defProp false
set_option linter.unusedVariables false
set_option linter.unusedSimpArgs false
section
namespace Go.Ab
open Go.Proofs
set_option maxRecDepth 10000
def Tryz.F8:=aj t1<|aj t2<|aj t3<|aj t4<|aj t5<|aj t6<|aj Z3<|aj Z4<|aj t9<|aj t10<|aj t11<|aj t12<|aj Z12<|aj Z15<|aj t15<|aj t16<|aj t17<|aj t24<|aj Z0<|aj t32<|aj t33<|aj t45<|aj t58<|aj Z2<|aj t101<|aj r101<|aj Z22<|aj t181<|aj t189<|aj Z1<|aj t192<|aj t218<|aj Z21<|aj t271<|aj t275<|aj t292<|aj t296<|aj r296<|aj t298<|aj Z6<|aj Z7<|aj t358<|aj Z16<|aj t372<|aj t374<|aj t376<|aj t377<|aj t378<|aj t379<|Z13
def seen(A:List Arc)(fs ft:Arc->Nat):List Arc:=A.map fun a=>⟨fs a,ft a,a.w⟩
def NextF(E:Env)(g:FuncId)(γ:Gra)(pn:Value)(fs:Arc->Nat):Prop:= ∀(h:Hp) (b:Nat),h.t.Sized h.n->bI h b pn γ-> ∀v,v<γ.nodes->Ret E g [pn,.int .i64 (v:Nat)] h fun r a=>Gr h a/\au a 1 cB r (outs γ.arcs fs γ.arcs.length v)/\ ∀c,aq r c->h.n<=c
def dJ(l:List Nat):List Value:=l.flatMap cB
theorem kC(l:List Nat):dJ l=l.map fun(x:Nat)=>Value.int .i64 x:=by
 unfold dJ;rw [XA,Yc,XA];rfl
theorem s9(l:List Int):ints l=l.map fun x=>Value.int .i64 x:=by
 unfold ints;rw [XA,Yc,XA];rfl
theorem ks(l:List Nat):(dJ l).length=l.length:=by rw [kC,Xq]
theorem xk(l:List Nat)(x:Nat):dJ (l++[x])=dJ l++dJ [x]:=by rw [kC,kC,kC,List.map_append]
theorem seen_at{A:List Arc}{fs ft:Arc->Nat}{i:Nat}(a:i<A.length):(seen A fs ft).getD i default=⟨fs (A.getD i default),ft (A.getD i default),(A.getD i default).w⟩/\(seen A fs ft).getD i default∈seen A fs ft:=by
 have e:(seen A fs ft).getD i default=⟨fs (A.getD i default),ft (A.getD i default),(A.getD i default).w⟩:=by
  unfold seen;simp [zN,a]
 refine⟨e,?_⟩
 rw [zN,Xo (by unfold seen;simpa using a)]
 exact XQ _
theorem seen_mem{A:List Arc}{fs ft:Arc->Nat}{a:Arc}(c:a∈seen A fs ft): ∃i,i<A.length/\(seen A fs ft).getD i default=a:=by
 obtain⟨i,b,e⟩:=List.mem_iff_getElem.1 c
 exact⟨i,by unfold seen at b;simpa using b,by simp [zN,b,e]⟩
def tW(h':Hp)(m:Nat)(r:Value)(B:List Arc)(s N:Nat):Prop:= ∃a b d D e O,r=.agg ⟨[a,b,d]⟩/\au h' 1 cB a ((Xb N).map D)/\au h' 1 (encI .i64) b e/\au h' 1 cB d O/\e.length=N/\(∀v,IsD B s v (D v))/\(∀c,aq a c\/aq b c\/aq d c->m<=c)/\O.Nodup/\ ∀v∈O,v<N
theorem sO{h0:Hp}(c:h0.t.Sized h0.n){F:List Nat}{p:Value}{N:Nat}{K:Nat->Option Int}(H:bM h0 F p N K)(d:N<=1000):Ret zM 202 [p] h0 fun r h'=> ∃(v:Nat) (k:Int) (b:Bool),r=.tuple #[.int .i64 (v:Nat),.int .i64 k,.bool b]/\Mo (· ∈F) h0 h'/\bM h' F p N (if b=true then cE K v none else K)/\(b=true->K v=some k/\ ∀u k',K u=some k'->k<=k')/\(b=false-> ∀v,K v=none):=by
 refine qH (uJ c H d) ?_
 rintro r h' (⟨rfl,a,g⟩|⟨v,k,rfl,a,e,f,i⟩)
 . exact⟨0,0,false,rfl,g.fr,H.gr g,fun h=>(by cases h),fun _=>a⟩
 . exact⟨v,k,true,rfl,f,i,fun _=>⟨a,fun u k' h=>by have:=e u k' h;omega⟩,fun h=>(by cases h)⟩
def FloodI(h0:Hp)(B:List Arc)(s N l br g i j m n r:Nat)(x y:FuncId)(O:List Nat)(ρ:Nat->Value)(d:List Deferred)(h:Hp):Prop:=
 ∃ (e:List Nat) (D:Nat->Nat) (K:Nat->Option Int) (F:List Nat) (o:List (Value×Value×Nat)) (c:Nat) (f:Int->Option Value) (p:List Int) (k:Value) (q:Nat) (v:Nat) (a:Int) (b:Bool),d=e.map qx/\
   St NoM h0 h ([(q,Ob.row [.int .i64 a] 1),(l,.row [ptrTo br] 1),(br,.row [ptrTo n,.slice (some ⟨j,0,none⟩) N N,.slice (some ⟨i,0,none⟩) N N,k,.map (some g)] 1),(g,.map o c),(i,.row (ints p) 1),(j,.row (dJ ((Xb N).map D)) 1),(m,.row [.slice none 0 0,.slice none 0 0,.slice none 0 0] 1)]++ey e) [(k,1,dJ O)]/\
   (∀t∈F,h0.n<=t/\t∉keys ([(q,Ob.row [.int .i64 a] 1),(l,.row [ptrTo br] 1),(br,.row [ptrTo n,.slice (some ⟨j,0,none⟩) N N,.slice (some ⟨i,0,none⟩) N N,k,.map (some g)] 1),(g,.map o c),(i,.row (ints p) 1),(j,.row (dJ ((Xb N).map D)) 1),(m,.row [.slice none 0 0,.slice none 0 0,.slice none 0 0] 1)]++ey e) [(k,1,dJ O)])/\
   p.length=N/\c7 o c f/\ClF O f/\Dj B s N O D K (fun _=>False)/\bM h F (ptrTo n) N (if b=true then cE K v none else K)/\(b=true->K v=some a/\ ∀u w,K u=some w->a<=w)/\(b=false-> ∀v,K v=none)/\
   ρ 0=ptrTo r/\ρ 2=.func (.func x) #[ptrTo r] #[]/\ρ 3=.func (.func y) #[] #[]/\ρ 8=ptrTo m/\ρ 9=ptrTo l/\ρ 10=.int .i64 v/\ρ 11=ptrTo q/\ρ 12=.bool b
theorem xW {h0:Hp} (ok:h0.t.Sized h0.n) {γ:Gra} (al:Good γ) {pn:Value} {nb:Nat} (hn:bI h0 nb pn γ) {s:Nat} (hs:s<γ.nodes) {gN gE:FuncId} {fs ft:Arc->Nat} (hN:NextF zM gN γ pn fs) (hE:KeyF zM gE ft) (bi: ∀a∈γ.arcs,ft a<γ.nodes):
 Ret zM 134 [pn,.int .i64 s,.func (.func gN) #[pn] #[],.func (.func gE) #[] #[]] h0 fun r h'=>Gr h0 h'/\tW h' h0.n r (seen γ.arcs fs ft) s γ.nodes:=by
 have n1:=al.n1
 have n2:=al.n2
 have S:=Si ok
 have c1: ¬((s:Int)<0):=by omega
 have c2: ¬((γ.nodes:Int)<=(s:Int)):=by omega
 obtain⟨bp,b7⟩: ∃b,pn=ptrTo b:=by obtain⟨b,_,_,_,_,_,e,_⟩:=hn.ex;exact⟨b,e⟩
 subst b7
 refine ab (n:=117) (rs:=[.cell 8 222]) rfl Tryz.e134 rfl rfl rfl (lbt rfl) ?_
 simp only [BS,F8]
 refine ae aA S ?_;clear S;intro h V S cr
 simp only [BS,LB,Nat.reduceLT,Nat.reduceEqDiff,F8,c1]
 refine am (dt S.ok (hn.gr S.gr)) ?_;intro h g;replace S:=S.call g;clear g
 simp only [BS,LB,Nat.reduceLT,Nat.reduceEqDiff,c2]
 refine am (dt S.ok (hn.gr S.gr)) ?_;intro h g;replace S:=S.call g;clear g
 simp only [BS,LB,Nat.reduceLT,Nat.reduceEqDiff]
 have nF:=S.fr.n
 have kF:=fun {c} (l:c∈_)=>S.key_lt (b:=c) l
 refine step_ret (uq S.ok) ?_;intro v h ⟨g,Fh,H,hFn⟩;replace S:=S.call g;clear g
 rename Value=>p
 have dF: ∀c∈Fh,c∉keys [(V,Ob.row [.slice none 0 0,.slice none 0 0,.slice none 0 0] 1)] []:=fun c l t=>by have:=kF t;have:=hFn c l;omega
 have lF:=H.lt S.ok
 have W:=S
 have gF: ∀c∈Fh,h0.n<=c\/NoM c:=fun c l=>.inl (Xa nF (hFn c l))
 replace S:=S.base
 simp only [BS,LB]
 refine ae (co (by exact Tryz.t24.1) (by exact Tryz.e2E) (by decide) (by rfl)) S ?_;clear S;intro h bl S a4;simp only [LC,bA,bS,ah,Nat.reduceMul,Nat.reduceAdd,XB,XC,Xx,XI]at S
 simp only [BS,LB,Nat.reduceLT,Nat.reduceEqDiff]
 refine am (dt S.ok (hn.gr (W.rebase S).gr)) ?_;intro h g;replace S:=S.call g;clear g
 simp only [BS,LB,Nat.reduceLT,Nat.reduceEqDiff]
 have kl:=fun {c} (l:c∈_)=>S.key_lt (b:=c) l
 have kn:=S.fr.n
 refine step_ret (rep64_ok S.ok (x:=72057594037927936) (.inr ⟨bl,0,none,1,rfl,XP _,S.lds (b:=bl) (o:=0) (n:=1*1) m0 (lbt rfl)⟩) n1 (by omega)) ?_;intro v h ⟨g,bd,ed,nd,Rd⟩;replace S:=S.call g;clear g
 subst ed
 replace S:=S.drop1
 replace S:=S.push (b:=bd) (o:=.row _ 1) (.inl (Xa kn nd)) Rd (fun t=>by have:=kl (Xs _ t);omega)
 simp only [BS,LB]
 refine ae (co (by exact Tryz.t33.1) (by exact XF) (by decide) (by rfl)) S ?_;clear S;intro h bm S a5;simp only [LC,bA,bS,ah,Nat.reduceMul,Nat.reduceAdd,XB,XC,Xx,XI]at S
 simp only [BS,LB,Nat.reduceLT,Nat.reduceEqDiff]
 refine am (dt S.ok (hn.gr (W.rebase S).gr)) ?_;intro h g;replace S:=S.call g;clear g
 simp only [BS,LB,Nat.reduceLT,Nat.reduceEqDiff]
 have bo:=fun {c} (l:c∈_)=>S.key_lt (b:=c) l
 have ax:=S.fr.n
 refine step_ret (repI_ok S.ok (x:= -1) (.inr ⟨bm,0,none,1,rfl,XP _,S.lds (b:=bm) (o:=0) (n:=1*1) m0 (lbt rfl)⟩) n1 (by omega)) ?_;intro v h ⟨g,ba,ea,na,Ra⟩;replace S:=S.call g;clear g
 subst ea
 replace S:=S.drop1
 replace S:=S.push (b:=ba) (o:=.row _ 1) (.inl (Xa ax na)) Ra (fun t=>by have:=bo (Xs _ t);omega)
 have pp: ∃b,p=ptrTo b:=by obtain⟨b,_,_,e,_⟩:=H.ex;exact⟨b,e⟩
 obtain⟨Z,rfl⟩:=pp
 simp only [BS,LB,Nat.reduceLT,Nat.reduceEqDiff,Nat.reduceAdd,F8]
 refine ae kR S ?_;clear S;intro h E S cs
 simp only [BS,LB,Nat.reduceLT,Nat.reduceEqDiff,Nat.reduceAdd,Nat.reduceLeDiff,F8]
 refine ae (aS (by intro x e;cases e)) S ?_;clear S;intro h A S cx;simp only [ah]at S
 simp only [BS,F8]
 refine ae aA S ?_;clear S;intro h G S cy
 simp only [BS,LB,Nat.reduceLT,Nat.reduceEqDiff]
 refine az (aC S (i:=0) rfl ?_ ?_ ?_ ono) ?_
 . exact(by simp only [F8])
 . exact(by exact dz)
 . exact Xg (lbt rfl)
 clear S;rintro h ⟨S,mo⟩;clear mo;simp only [LC,ah,lay,Xm,Xn,Nat.reduceAdd]at S
 simp only [BS,LB,Nat.reduceLT,Nat.reduceEqDiff,F8,S.ld (b:=G) (o:=0) m0 rfl,S.ld (b:=A) (o:=0) m1 rfl]
 have d8: ∀c∈Fh,c≠V:=fun c l e=>dF c l (by rw [e];simp [keys])
 have cY:=Xa kn nd
 have c0:=Xa ax na
 clear kl bo kF kn nd ax na Ra Rd
 have HA:=H.mo S.fr dF
 have bt: ∀c∈Fh,c≠G/\c≠A/\c≠E/\c≠ba/\c≠bd/\c≠V:=fun c l=>by have:=lF c l;have:=d8 c l;omega
 replace S:=W.rebase S
 clear W dF lF d8 H a4 a5
 have T:=S.baseF Fh
 have nh:=S.fr.n
 have a6: ∀L,(∀c∈keys L [],c=G\/c=A\/c=E\/c=ba\/c=bd\/c=V)-> ∀c∈Fh,c∉keys L []:=fun L hL c l t=>by
  have:=bt c l
  have:=hL c t
  omega
 have ps:Ret zM 200 [ptrTo Z,.int .i64 (s:Nat),.int .i64 0] h _:=pH S.ok HA hs (by omega) rfl
 refine step_ret ps ?_
 rintro r P ⟨f1,F1,H1,I⟩
 replace S:=S.rebaseF gF (T.stepF f1 (fun c l=>⟨.inl (.inr l),a6 _ (fun c l=>by simpa [keys]using l) c l⟩))
 have J: ∀c∈F1,h0.n<=c/\c∉keys [(G,Ob.row [ptrTo A] 1),(A,.row [ptrTo Z,.slice (some ⟨bd,0,none⟩) γ.nodes γ.nodes,.slice (some ⟨ba,0,none⟩) γ.nodes γ.nodes,.slice none 0 0,.map (some E)] 1),(E,.map [] 0),(ba,.row (Xt γ.nodes (.int .i64 (-1))) 1),(bd,.row (Xt γ.nodes (.int .i64 72057594037927936)) 1),(V,.row [.slice none 0 0,.slice none 0 0,.slice none 0 0] 1)] []:=fun c l=>by
  rcases I c l with h2|h2
  . exact⟨(gF c h2).elim (fun h=>h) (fun h=>h.elim),a6 _ (fun c l=>by simpa [keys]using l) c h2⟩
  . refine⟨Xa nh h2,fun t=>?_⟩
    have:=T.key_lt (b:=c) (by simpa [keys]using t)
    omega
 clear T a6 bt hFn gF nF I HA f1
 replace S:=S.nilG (k:=1)
 have dj:=dj_init (B:=seen γ.arcs fs ft) hs
 have bu:=H1.lt S.ok
 have S1:=S
 replace S:=S.baseF F1
 simp only [BS,LB,Nat.reduceLT,Nat.reduceEqDiff,F8,S.ld (b:=G) (o:=0) m0 rfl,S.ld (b:=A) (o:=0) m1 rfl]
 refine step_ret (sO S.ok H1 (by omega)) ?_
 rintro r h2 ⟨v,k,b,rfl,f2,H2,ay,a0⟩
 replace S:=S.stepF f2 (fun c l=>⟨.inl (.inr l),fun t=>(J c l).2 (by simpa [keys,dM]using t)⟩)
 simp only [BS,LB,Nat.reduceLT,Nat.reduceEqDiff,F8]
 have S2:=S
 replace S:=S.base
 refine ae aA S ?_;clear S;intro h bk S cz
 simp only [BS,LB,Nat.reduceLT,Nat.reduceEqDiff]
 refine az (aC S (i:=0) rfl ?_ ?_ ?_ ono) ?_
 . exact(by simp only [F8])
 . exact(by exact aY)
 . exact Xg (lbt rfl)
 clear S;rintro h ⟨S,mo⟩;clear mo;simp only [LC,ah,lay,Xm,Xn,Nat.reduceAdd]at S
 simp only [BS,LB,Nat.reduceLT,Nat.reduceEqDiff]
 have H3:=H2.mo S.fr (fun c l t=>(J c l).2 (by simpa [keys,dM]using t))
 refine rh (FloodI h0 (seen γ.arcs fs ft) s γ.nodes G A E ba bd V Z bp gN gE) (fun O=>γ.nodes-O.length) ?_ [] _ _ _ ?_
 . clear S S1 S2 H3 ay a0 H2 f2 H1 dj J bu ps
   intro O ih ρ d hS ⟨dbs,D,K,F,es,c,f,aL,vO,bk,v,key,b,hd,W,Y,lA,MI,CF,dj,H,ay,a0,r0,r2,r3,r8,r9,r10,r11,r12⟩
   simp only [XZ,List.nil_append]at W Y
   have S:=W.base
   cases b with
   | false=>
     simp only [BS,LB,Nat.reduceLT,Nat.reduceEqDiff,F8,r8,r9,r12,S.ld (b:=G) (o:=0) m1 rfl,S.lds (b:=A) (o:=1) (n:=3) m2 (lbt rfl)]
     have a7:Fl vO:=by
      rcases(W.gown _ m0).1 with⟨e,_⟩|⟨_,_,e,_⟩
      . rw [show vO=_ from e];exact bq
      . rw [show vO=_ from e];exact bq
     refine az (S.store (i:=6) rfl Tryz.t222.2.1 (by intro x e;cases e) rfl (by simp only [ah,List.drop_succ_cons,XO,Yd,List.take_zero,Xw,XD,a7.2.1,Xl];rfl) (lbt rfl) ono) ?_
     clear S;rintro h ⟨S,_⟩
     simp only [LC,ah,lay,Xm,Xn,Nat.reduceAdd]at S
     simp only [BS]
     replace S:=(W.rebase S).permL (L':=ey dbs++[(bk,_),(G,_),(A,_),(E,_),(ba,_),(bd,_),(V,_)]) Ya
     subst hd
     refine fD (kK dbs _ S fun h' S'=>?_)
     have lT:=S'.lds (b:=V) (o:=0) (n:=3) m6 (lbt rfl)
     refine⟨rfl,_,rV (by decide) (by simp only [aO,r8,ag,Nat.reduceEqDiff,reduceIte];exact cP Tryz.t222.1 Tryz.t222.2.1 lT),S'.gr,?_⟩
     refine⟨_,_,_,D,aL,O,rfl,?_,?_,?_,lA,dj.done (a0 rfl) n2,?_,dj.nd,dj.lt⟩
     . refine .inr ⟨bd,0,none,γ.nodes,by rw [Xq,Xz],by rw [Xq,Xz];exact XP _,?_⟩
       have:=(S'.row (b:=bd) m5).load (o:=0) (n:=((Xb γ.nodes).map D).length*1) (by rw [ks];omega)
       rw [this,XO,Xy (by rw [ks];omega)];rfl
     . refine .inr ⟨ba,0,none,γ.nodes,by rw [lA],by rw [lA];exact XP _,?_⟩
       have:=(S'.row (b:=ba) m4).load (o:=0) (n:=aL.length*1) (by rw [cC];omega)
       rw [this,XO,Xy (by rw [cC];omega)];rfl
     . exact(S'.gown _ m0).1.sl rfl fj (by decide)
     . rintro c (h|h|h)
       . have h:bd=c:=h
         subst h;exact((S'.own _ m5).1).elim (fun h=>h) (fun h=>h.elim)
       . have h:ba=c:=h
         subst h;exact((S'.own _ m4).1).elim (fun h=>h) (fun h=>h.elim)
       . exact((S'.gblk m0 h).1).elim (fun h=>h) (fun h=>h.elim)
   | true =>
     simp only [if_true]at H
     obtain⟨hk,bv⟩:=ay rfl
     obtain⟨_,n,rfl,_,_⟩:=dj.i3 v key hk
     obtain⟨ca,cc,bb,c3⟩:=dj.pop hk bv
     have lk:=jR (x:=(v:Int)) Tryz.t218.1 Tryz.t3.1 (z:=.int .i64 0) (by kernel_rfl) (show hS.get E=some (.map es c)from(S.own _ m3).2) MI
     rw [CF v,if_neg cc,Xp]at lk
     have w1:an .i64 1=1:=rfl
     simp only [BS,LB,Nat.reduceLT,Nat.reduceEqDiff,Int.reduceAdd,F8,r9,r10,r12,lk,w1,S.ld (b:=G) (o:=0) m1 rfl,S.ld (b:=A) (o:=4) m2 rfl]
     refine az (S.mputI (i:=3) rfl Tryz.t218.1 Tryz.t3.1 MI _) ?_
     clear S;rintro h ⟨_,Q,c',bx,S⟩
     simp only [LC]at S
     simp only [BS]
     refine aB (aG rfl) (q:=0) (ps:=[]) (by kernel_rfl) ?_
     simp only [BS,LB,cls,Nat.reduceLT,Nat.reduceEqDiff,Nat.reduceAdd,Nat.reducePow,Nat.reduceDiv,Nat.reduceMod,Nat.reduceLeDiff,F8,r9,r10,r11,bb,S.ld (b:=G) (o:=0) m1 rfl,S.ld (b:=A) (o:=1) m2 rfl,S.ld (b:=bk) (o:=0) m0 rfl]
     refine dS (aC S (i:=5) rfl Tryz.t2.2.2.1 aY (by rw [ks,Xq,Xz];exact bb) ono) ?_
     clear S;rintro h ⟨S,_⟩
     simp only [LC]at S
     have eD:(dJ ((Xb γ.nodes).map D)).set v (.int .i64 (n:Nat))=dJ ((Xb γ.nodes).map fun u=>if u=v then n else D u):=by
      rw [kC,kC,Ye,Ye]
      have:=lU (N:=γ.nodes) (k:=v) (F:=(fun(x:Nat)=>Value.int .i64 x)∘D) (F':=(fun(x:Nat)=>Value.int .i64 x)∘fun u=>if u=v then n else D u) (fun u _ hu=>by simp [hu])
      rw [<-this];simp
     rw [eD]at S
     simp only [BS,LB,Nat.reduceAdd]
     refine aB (aG rfl) (q:=128) (ps:=[(0,8)]) (by kernel_rfl) ?_
     simp only [BS,LB,cls,Nat.reduceLT,Nat.reduceEqDiff,Nat.reduceAdd,Nat.reducePow,Nat.reduceDiv,Nat.reduceMod,Nat.reduceLeDiff,F8,r9,r10,S.ld (b:=G) (o:=0) m1 rfl,S.ld (b:=A) (o:=3) m2 rfl]
     refine dC (co (by exact Tryz.t33.1) (by exact XF) (by decide) (by rfl)) S ?_;clear S;intro h bs S cA cN;simp only [LC,bA,bS,ah,Nat.reduceMul,Nat.reduceAdd,XB,XC,Xx,XI]at S
     simp only [BS,LB,cls,Nat.reduceLT,Nat.reduceEqDiff,Nat.reduceAdd,Nat.reducePow,Nat.reduceDiv,Nat.reduceMod,Nat.reduceLeDiff]
     have bB:aM h 1 (.slice (some ⟨bs,0,none⟩) 1 1)=some (1,dJ [v]):=by simp only [aM];rw [S.lds (b:=bs) (o:=0) (n:=1*1) m0 (lbt rfl)];rfl
     replace S:=S.drop1
     refine jF (S.grow (j:=0) (m:=1) (new:=dJ [v]) rfl Tryz.t33.1 XF (by decide) Tryz.t33.2.2.2.2.2 bB rfl (by decide) rfl (by rw [ks,ks];have:=dj.len;simp;omega)) ?_
     clear S bB;rintro h w S
     simp only [LC,<-xk]at S
     have a7:Fl w:=by
      rcases(S.gown _ m0).1 with⟨e,_⟩|⟨_,_,e,_⟩
      . rw [show w=_ from e];exact bq
      . rw [show w=_ from e];exact bq
     simp only [BS,LB,cls,Nat.reduceLT,Nat.reduceEqDiff,Nat.reduceAdd,Nat.reducePow,Nat.reduceDiv,Nat.reduceMod,Nat.reduceLeDiff,F8]
     refine dS (aC S (i:=2) rfl Tryz.t33.2.2.1 a7 (Xg (lbt rfl)) ono) ?_
     clear S;rintro h ⟨S,_⟩
     simp only [LC]at S
     simp only [BS,LB,Nat.reduceLT,Nat.reduceEqDiff,Nat.reduceAdd,r0,r2,r10]
     have pv:vO=.slice none 0 0\/ ∃c n,vO=.slice (some ⟨c,0,some 1⟩) n n/\c≠G:=by
      rcases(W.gown _ m0).1 with⟨e,_⟩|⟨c,n,e,_⟩
      . exact .inl e
      . refine .inr ⟨c,n,e,fun h=>?_⟩
        exact(W.gblk (c:=c) m0 (by rw [show vO=_ from e];rfl)).2 (by subst h;exact List.mem_map_of_mem (f:=Prod.fst) m1)
     refine⟨?_,?_⟩
     . clear ih
       rcases pv with rfl|⟨cO,nO,rfl,bF⟩
       . simp only [bn,bE,aT,bJ,aV,ne_eq,not_false_eq_true,bK,bZ,bg,aX,cb,cM,aO,Nat.reduceLT,Nat.reduceEqDiff,reduceIte,Xl,r9,ag,zh,noteSl,pair_x,entry_nl,kZ]
       . simp only [bn,bE,aT,bJ,aV,ne_eq,not_false_eq_true,bK,bZ,bg,aX,cb,cM,aO,Nat.reduceLT,Nat.reduceEqDiff,reduceIte,Xl,r9,ag,zh,noteSl,ib bF,ib bF.symm]
     have kO: ∀c∈keys ((bk,Ob.row [.int .i64 (n:Nat)] 1)::(G,.row [ptrTo A] 1)::(A,.row [ptrTo Z,.slice (some ⟨bd,0,none⟩) γ.nodes γ.nodes,.slice (some ⟨ba,0,none⟩) γ.nodes γ.nodes,vO,.map (some E)] 1)::(E,.map es c)::(ba,.row (ints aL) 1)::(bd,.row (dJ ((Xb γ.nodes).map D)) 1)::(V,.row [.slice none 0 0,.slice none 0 0,.slice none 0 0] 1)::ey dbs) [(vO,1,dJ O)],c<hS.n:=fun c l=>W.key_lt l
     have kS:=fun {c} l=>S.key_lt (b:=c) l
     have c4:=(W.rebase S).gr.n
     refine step_ret (hN _ nb S.ok (hn.gr (W.rebase S).gr) v bb) ?_
     rintro vl h ⟨g,sl,bT⟩
     have kn:=S.fr.n
     have gn:=g.n
     replace S:=S.call g;clear g
     simp only [BS,LB,Nat.reduceLT,Nat.reduceEqDiff,r3]
     have ax:=S.fr.n
     have c5:=fun {c} l=>sl.lt S.ok (b:=c) l
     refine step_ret (arcs_ok' S.ok dz sl.fl fO) ?_;intro v h ⟨g,b1,b2,b3,e,q1,q2,q3,y1,y2,y3⟩;replace S:=S.call g;replace sl:=sl.gr g;clear g
     subst e
     simp only [BS]
     have hH:=H.mo S.fr (fun c l t=>(Y c l).2 t)
     have bX:=H.lt W.ok
     refine kQ S (g:=251) (a:=#[]) (b:=#[ptrTo b1,ptrTo b2,ptrTo b3]) (by simp [cb,aa,ag]) rfl rfl ?_
     intro h2 db lb S' c6 da g2
     have R1:=W.rebase S'
     obtain⟨X,hX,R1⟩: ∃X:gW,X=_/\St NoM h0 h2 ((lb,.loop X)::(db,.dfr)::(bk,Ob.row [.int .i64 (n:Nat)] 1)::(G,.row [ptrTo A] 1)::(A,.row [ptrTo Z,.slice (some ⟨bd,0,none⟩) γ.nodes γ.nodes,.slice (some ⟨ba,0,none⟩) γ.nodes γ.nodes,w,.map (some E)] 1)::(E,.map Q c')::(ba,.row (ints aL) 1)::(bd,.row (dJ ((Xb γ.nodes).map fun u=>if u=v then n else D u)) 1)::(V,.row [.slice none 0 0,.slice none 0 0,.slice none 0 0] 1)::ey dbs) [(w,1,dJ (O++[v]))]:=⟨_,rfl,R1⟩
     have bY:ClF (O++[v]) (dk f (v:Int) (some (.int .i64 1))):=fun u=>by
      unfold dk
      by_cases e:u=v
      . subst e;simp
      . have e': ¬((u:Int)=(v:Int)):=by omega
        rw [if_neg e',CF u]
        simp [e]
     have hJ :Yld zM lb (fun k h' F'=> ∃K' Fh C,St NoM h0 h' ((lb,.loop X)::(db,.dfr)::(bk,Ob.row [.int .i64 (n:Nat)] 1)::(G,.row [ptrTo A] 1)::(A,.row [ptrTo Z,.slice (some ⟨bd,0,none⟩) γ.nodes γ.nodes,.slice (some ⟨ba,0,none⟩) γ.nodes γ.nodes,w,.map (some E)] 1)::(E,.map Q c')::(ba,.row (ints C) 1)::(bd,.row (dJ ((Xb γ.nodes).map fun u=>if u=v then n else D u)) 1)::(V,.row [.slice none 0 0,.slice none 0 0,.slice none 0 0] 1)::ey dbs) [(w,1,dJ (O++[v]))]/\
      bM h' Fh (ptrTo Z) γ.nodes K'/\(∀c∈Fh,h0.n<=c/\c∉keys ((lb,.loop X)::(db,.dfr)::(bk,Ob.row [.int .i64 (n:Nat)] 1)::(G,.row [ptrTo A] 1)::(A,.row [ptrTo Z,.slice (some ⟨bd,0,none⟩) γ.nodes γ.nodes,.slice (some ⟨ba,0,none⟩) γ.nodes γ.nodes,w,.map (some E)] 1)::(E,.map Q c')::(ba,.row (ints C) 1)::(bd,.row (dJ ((Xb γ.nodes).map fun u=>if u=v then n else D u)) 1)::(V,.row [.slice none 0 0,.slice none 0 0,.slice none 0 0] 1)::ey dbs) [(w,1,dJ (O++[v]))])/\
      C.length=γ.nodes/\Dj (seen γ.arcs fs ft) s γ.nodes (O++[v]) (fun u=>if u=v then n else D u) K' (fun a=> ∃id∈(outs γ.arcs fs γ.arcs.length v).drop k,(seen γ.arcs fs ft).getD id default=a)/\
      F'=keys ((lb,.loop X)::(db,.dfr)::(bk,Ob.row [.int .i64 (n:Nat)] 1)::(G,.row [ptrTo A] 1)::(A,.row [ptrTo Z,.slice (some ⟨bd,0,none⟩) γ.nodes γ.nodes,.slice (some ⟨ba,0,none⟩) γ.nodes γ.nodes,w,.map (some E)] 1)::(E,.map Q c')::(ba,.row (ints C) 1)::(bd,.row (dJ ((Xb γ.nodes).map fun u=>if u=v then n else D u)) 1)::(V,.row [.slice none 0 0,.slice none 0 0,.slice none 0 0] 1)::ey dbs) [(w,1,dJ (O++[v]))]++Fh) (fun _ _=>False) (nI γ.arcs ft (outs γ.arcs fs γ.arcs.length v)):=by
      clear ih S' R1 y1 y2 y3 hH S g2 H Y sl
      refine⟨?_,?_,fun _ _ h=>h.elim,?_⟩
      . rintro k h F' ⟨K',Fh,C,S,H,Y,_,_,rfl⟩
        exact⟨S.ok,fun b hb=>(List.mem_append.1 hb).elim (fun hb=>S.key_lt hb) (fun hb=>H.lt S.ok b hb)⟩
      . rintro k h F' h' ⟨K',Fh,C,S,H,q⟩ g
        exact⟨K',Fh,C,S.call g,H.gr g,q⟩
      . rintro k x h F' hx ⟨K',Fh,C,S,H,Y,be,R,rfl⟩
        have bf:k<(outs γ.arcs fs γ.arcs.length v).length:=by
         have:=(List.getElem?_eq_some_iff.1 hx).1
         simpa [nI]using this
        unfold nI at hx
        rw [List.getElem?_map,Xo bf]at hx
        cases hx
        have t:=jI.1 (XQ bf)
        rw [List.drop_eq_getElem_cons bf]at R
        generalize(outs γ.arcs fs γ.arcs.length v)[k]=id at t R
        obtain⟨ad,bh⟩:=t
        subst hX
        refine kU (S.get m0) (by rw [Tryz.e134];rfl) rfl ?_
        have S1:=S
        replace S:=S.base
        simp only [BS,LB,Nat.reduceLT,Nat.reduceEqDiff,F8]
        refine ae aA S ?_;clear S;intro h b0 S cf
        simp only [BS,LB,Nat.reduceLT,Nat.reduceEqDiff,Xe,ct]
        refine az (S.store (i:=0) rfl ?_ ?_ rfl rfl ?_ ono) ?_
        . exact(by exact Tryz.t99.2.1)
        . exact(by intro x e;cases e)
        . exact lbt rfl
        clear S;rintro h ⟨S,mo⟩;clear mo;simp only [LC,ah,lay,Xm,Xn,Nat.reduceAdd]at S
        simp only [BS]
        refine jQ S (i:=1) rfl rfl rfl rfl rfl ?_
        clear S;intro h S
        simp only [LC]at S
        have af:γ.arcs.getD id default∈γ.arcs:=by rw [zN,Xo ad];exact XQ ad
        have dc:=al.arcs _ af
        have dd:O.length*bO<=12*bO:=XG _ (Xa dj.len n2)
        have cT:=kP
        have wn:an .i64 ((n:Int)+((γ.arcs.getD id default).w:Int))=((n+(γ.arcs.getD id default).w:Nat):Int):=by rw [wrap64]<;>omega
        simp only [BS,LB,Nat.reduceLT,Nat.reduceEqDiff,F8,r9,r11,wn,S.ld (b:=G) (o:=0) m4 rfl,S.ld (b:=b0) (o:=1) m0 rfl,S.ld (b:=b0) (o:=2) m0 rfl,S.ld (b:=bk) (o:=0) m3 rfl]
        have hH:=H.mo S.fr (fun c l t=>(Y c l).2 t)
        have b4:=H.lt S1.ok
        have d3:A≠ba:=fun e=>by
         have ap:=S1.apart
         subst e
         simp only [keys,Xk,XZ,XJ,Xf]at ap
         exact ap.2.2.2.2.1 (.inr (.inl trivial))
        replace S:=S.mono (M':=fun c=>c∈keys _ _\/c∈Fh) (fun _ h=>.inl h)
        refine step_ret (reach_ok S.ok (arc:=id) (far:=n+(γ.arcs.getD id default).w) (S.row m5) hH (by omega) (S.own _ m6).2 bx bY (S.row m7) be (bi _ af) (fun h=>(Y ba h).2 (by simp [keys])) (fun h=>(Y A h).2 (by simp [keys])) d3) ?_
        rintro r h ⟨f1,F2,ch,H2,ai,cj,ck,de⟩
        have kq:=fun {c} l=>S.key_lt (b:=c) l
        have qn:=S.fr.n
        have S2:=S.callF (i:=7) (Fh:=Fh) rfl f1 (fun c l=>⟨.inl (.inr l),fun t=>by
         rcases List.mem_cons.1 t with e|t
         . have:=b4 c l;omega
         . exact(Y c l).2 t⟩) (o':=.row _ 1) cj
        simp only [List.set_cons_zero,List.set_cons_succ]at S2
        clear S
        simp only [BS]
        have S:=S2.base
        refine gT S (i:=1) rfl ?_
        clear S;intro h S
        simp only [LC]at S
        have H3:=H2.mo S.fr (fun c l t=>by
         rcases ai c l with P|P
         . rcases List.mem_cons.1 t with e|t
           . have:=b4 c P;omega
           . exact(Y c P).2 t
         . have:=kq t;omega)
        have S3:=S2.rebase S
        refine .inl ⟨rfl,_,⟨_,F2,ch,S1.rebaseF (fun c l=>.inl (Y c l).1) S3.drop1,H3,fun c l=>?_,ck,?_,rfl⟩,S3.fr.mono (fun c l=>List.mem_append.2 l),fun c l=>?_⟩
        . rcases ai c l with P|P
          . exact Y c P
          . refine⟨Xa S1.fr.n (Xa qn P),fun t=>?_⟩
            have:=kq (Xs _ t)
            omega
        . obtain⟨e1,e2⟩:=seen_at (fs:=fs) (ft:=ft) ad
          have:=R.relaxed (ex':=fun a=> ∃cl∈(outs γ.arcs fs γ.arcs.length v).drop (k+1),(seen γ.arcs fs ft).getD cl default=a) e2 (by rw [e1];show fs _∈_;rw [bh];simp) (by rw [e1];exact bi _ af) (by rw [e1];simp only [bh,if_true];rw [XM,List.length_singleton,Nat.succ_mul];omega) (fun b hb hx=>by
           by_cases eb:b=(seen γ.arcs fs ft).getD id default
           . exact .inr eb
           . left
             rintro⟨i,hi,rfl⟩
             rcases List.mem_cons.1 hi with e|hi
             . subst e;exact eb rfl
             . exact hx ⟨i,hi,rfl⟩)
          simp only [e1,bh,if_true]at this
          exact this
        . rcases List.mem_append.1 l with l|l
          . exact .inl (Xc _ l)
          . rcases ai c l with P|P
            . exact .inl (Xh _ P)
            . exact .inr (Xa qn P)
     have ak:=(W.rebase S).gr
     have cW:=kD γ.arcs fs γ.arcs.length v
     have dm:=al.many
     refine fk (iter_useN (arcs_it (hq:=h0) ok S.ok ak.keep ak.n hn sl (fun id ad=>(jI.1 ad).1) (by omega) hE y1 y2 y3) (fun _ _ h=>h) hJ (h:=h2) (F:=keys ((lb,.loop X)::(db,.dfr)::(bk,Ob.row [.int .i64 (n:Nat)] 1)::(G,.row [ptrTo A] 1)::(A,.row [ptrTo Z,.slice (some ⟨bd,0,none⟩) γ.nodes γ.nodes,.slice (some ⟨ba,0,none⟩) γ.nodes γ.nodes,w,.map (some E)] 1)::(E,.map Q c')::(ba,.row (ints aL) 1)::(bd,.row (dJ ((Xb γ.nodes).map fun u=>if u=v then n else D u)) 1)::(V,.row [.slice none 0 0,.slice none 0 0,.slice none 0 0] 1)::ey dbs) [(w,1,dJ (O++[v]))]++F) g2.fr (fun b hb hlt=>?_)
      ⟨cE K v none,F,aL,R1,hH.gr g2,fun c l=>⟨(Y c l).1,fun t=>?_⟩,lA,ca.exm (fun a ha hs=>?_),rfl⟩) fun o rc h' y=>mS y ?_
     . rcases List.mem_append.1 hb with U|U
       . have k2:=(R1.key_own U).elim (fun h=>h) (fun h=>h.elim)
         rcases List.mem_cons.1 U with e|U
         . simp only []at e;omega
         . rcases List.mem_cons.1 U with e|U
           . simp only []at e;omega
           . have k1:=kS U
             rintro(h|h|h|h|h)
             . omega
             . omega
             . omega
             . have:=bT b h;omega
             . omega
       . have k1:=bX b U
         have k2:=(Y b U).1
         rintro(h|h|h|h|h)
         . omega
         . omega
         . omega
         . have:=bT b h;omega
         . omega
     . have k1:=bX c l
       have dn:=S.fr.n
       rcases List.mem_cons.1 t with e|t
       . simp only []at e;omega
       . rcases List.mem_cons.1 t with e|t
         . simp only []at e;omega
         . rcases S.key_own t with P|P
           . omega
           . exact(Y c l).2 P
     . obtain⟨i,hi,e⟩:=seen_mem ha
       refine⟨i,?_,e⟩
       rw [XO]
       refine jI.2 ⟨hi,?_⟩
       have:=(seen_at (fs:=fs) (ft:=ft) hi).1
       rw [e]at this
       rw [this]at hs
       exact hs
     . rintro Fx ⟨K',a1,C,T,H',I,be,R,rfl⟩
       clear hJ R1 y1 y2 y3 hH S' S
       rw [show(nI γ.arcs ft (outs γ.arcs fs γ.arcs.length v)).length=(outs γ.arcs fs γ.arcs.length v).length by simp [nI],List.drop_length]at R
       replace R:=R.exm (ex':=fun _=>False) (fun a _ h=>by obtain⟨i,hi,_⟩:=h;cases hi)
       subst hX
       refine⟨_,T.get m0,Nat.zero_ne_one,?_⟩
       have ai: ∀c∈a1,c≠lb:=fun c l e=>(I c l).2 (by rw [e];exact m0)
       have H2:=H'.mo ((Mo.refl (M:=(· =lb)) T.ok).put (.inr rfl) .dead) ai
       replace T:=T.dead
       replace I:=fun c l=>And.intro (I c l).1 (fun t=>(I c l).2 (Xs _ t))
       have S:=T.base
       show Run _ _ _ _ _ _ _ _
       simp only [BS,Nat.reduceLT,Nat.reduceEqDiff,if_false,F8,r11,S.ld (b:=bk) (o:=0) m1 rfl]
       refine ae aA S ?_;clear S;intro h a2 S cm
       simp only [BS,LB,Nat.reduceLT,Nat.reduceEqDiff,r11]
       refine az (aC S (i:=0) rfl ?_ ?_ ?_ ono) ?_
       . exact(by simp only [F8])
       . exact(by exact aY)
       . exact Xg (lbt rfl)
       clear S;rintro h ⟨S,mo⟩;clear mo;simp only [LC,ah,lay,Xm,Xn,Nat.reduceAdd]at S
       simp only [BS,LB,Nat.reduceLT,Nat.reduceEqDiff,F8,r9,S.ld (b:=G) (o:=0) m3 rfl,S.ld (b:=A) (o:=0) m4 rfl]
       have H3:=H2.mo S.fr (fun c l t=>(I c l).2 t)
       have cn:=H2.lt T.ok
       have a3: ∀c∈a1,h0.n<=c/\c∉keys ([(a2,Ob.row [.int .i64 (n:Nat)] 1),(G,.row [ptrTo A] 1),(A,.row [ptrTo Z,.slice (some ⟨bd,0,none⟩) γ.nodes γ.nodes,.slice (some ⟨ba,0,none⟩) γ.nodes γ.nodes,w,.map (some E)] 1),(E,.map Q c'),(ba,.row (ints C) 1),(bd,.row (dJ ((Xb γ.nodes).map fun u=>if u=v then n else D u)) 1),(V,.row [.slice none 0 0,.slice none 0 0,.slice none 0 0] 1)]++ey (db::dbs)) [(w,1,dJ (O++[v]))]:=fun c l=>by
        refine⟨(I c l).1,fun t=>?_⟩
        have P:=(I c l).2
        have h2:=cn c l
        simp [keys,ey]at t
        rcases t with h|h|h|h|h|h|h|h|h|h
        . omega
        all_goals exact P (by simp [keys,ey,h])
       replace S:=(T.rebase S).sub (L':=(a2,Ob.row [.int .i64 (n:Nat)] 1)::(db,.dfr)::(G,.row [ptrTo A] 1)::(A,.row [ptrTo Z,.slice (some ⟨bd,0,none⟩) γ.nodes γ.nodes,.slice (some ⟨ba,0,none⟩) γ.nodes γ.nodes,w,.map (some E)] 1)::(E,.map Q c')::(ba,.row (ints C) 1)::(bd,.row (dJ ((Xb γ.nodes).map fun u=>if u=v then n else D u)) 1)::(V,.row [.slice none 0 0,.slice none 0 0,.slice none 0 0] 1)::ey dbs) (G':=[(w,1,dJ (O++[v]))]) (.cons_cons _ (.cons_cons _ (List.sublist_cons_self _ _))) (List.Sublist.refl _)
       replace S:=S.permL (L':=[(a2,Ob.row [.int .i64 (n:Nat)] 1),(G,.row [ptrTo A] 1),(A,.row [ptrTo Z,.slice (some ⟨bd,0,none⟩) γ.nodes γ.nodes,.slice (some ⟨ba,0,none⟩) γ.nodes γ.nodes,w,.map (some E)] 1),(E,.map Q c'),(ba,.row (ints C) 1),(bd,.row (dJ ((Xb γ.nodes).map fun u=>if u=v then n else D u)) 1),(V,.row [.slice none 0 0,.slice none 0 0,.slice none 0 0] 1)]++ey (db::dbs)) (.cons _ (by
        show(List.append [_,_,_,_,_,_] ((db,Ob.dfr)::ey dbs)).Perm _
        exact List.perm_middle))
       clear T H' H2 I
       have T:=S.baseF a1
       refine step_ret (sO S.ok H3 (by omega)) ?_
       rintro rr h3 ⟨v3,k3,cp,rfl,f3,H4,b5,b6⟩
       replace S:=S.rebaseF (fun c l=>.inl (a3 c l).1) (T.stepF f3 (fun c l=>⟨.inl (.inr l),(a3 c l).2⟩))
       simp only [BS,LB,Nat.reduceLT,Nat.reduceEqDiff,r11]
       clear T
       have T:=S
       replace S:=S.base
       simp only [LC]at S
       refine az (aC S (i:=0) rfl ?_ ?_ ?_ ono) ?_
       . exact(by simp only [F8])
       . exact(by exact aY)
       . exact Xg (lbt rfl)
       clear S;rintro h ⟨S,mo⟩;clear mo;simp only [LC,ah,lay,Xm,Xn,Nat.reduceAdd]at S
       simp only [BS,LB,Nat.reduceLT,Nat.reduceEqDiff]
       have H5:=H4.mo S.fr (fun c l t=>(a3 c l).2 t)
       replace S:=T.rebase S
       subst hd
       have dq:(O++[v]).length=O.length+1:=by simp
       have cX:=R.len
       refine ih (O++[v]) _ _ _ (by omega) ⟨db::dbs,_,K',a1,Q,c',_,C,w,a2,v3,k3,cp,rfl,S,a3,be,bx,bY,R,H5,b5,b6,?_⟩
       refine⟨by simp [aa,r0,ag],by simp [aa,r2,ag],by simp [aa,r3,ag],by simp [aa,r8,ag],by simp [aa,r9,ag],by simp [aa],by simp [aa,ag],by simp [aa]⟩
 . have e1:dJ ((Xb γ.nodes).map fun _=>FAR)=Xt γ.nodes (.int .i64 72057594037927936):=by
    rw [kC,List.map_const',Xz,List.map_replicate];rfl
   have e2:ints (Xt γ.nodes (-1))=Xt γ.nodes (.int .i64 (-1)):=by
    rw [s9,List.map_replicate]
   have S3:=S1.rebaseF (fun c l=>.inl (J c l).1) (S2.rebase S)
   have nn:=S2.fr.n
   refine⟨[],fun _=>FAR,cE (fun _=>none) s (some 0),F1,[],0,fun _=>none,Xt γ.nodes (-1),.slice none 0 0,bk,v,k,b,rfl,?_,?_,by simp,mz,fun u=>by simp,dj,H3,ay,a0,?_⟩
   . rw [e1,e2];exact S3
   . rw [e1,e2]
     intro c l
     refine⟨(J c l).1,fun t=>?_⟩
     have P:=(J c l).2
     have h2:=bu c l
     simp [keys,dM,ey]at t P
     omega
   . refine⟨by simp [aa,ag,aZ,cG],by simp [aa,ag,aZ,cG],by simp [aa,ag,aZ,cG],by simp [aa,ag,aZ,cG],by simp [aa,ag,aZ,cG],by simp [aa,ag,aZ,cG],by simp [aa,ag,aZ,cG],by simp [aa,ag,aZ,cG]⟩
def Tryz.F0Q:=aj t1<|aj t2<|aj t3<|Z2
def Tryz.F0R:=aj t1<|aj t2<|aj t3<|Z2
def Tryz.F0S:=aj t1<|aj t2<|aj t3<|aj t24<|aj Z0<|aj t32<|aj t33<|aj t58<|aj t189<|aj Z1<|aj t192<|Z21
def Tryz.F0T:=aj t1<|aj t2<|aj t3<|aj t24<|aj Z0<|aj t32<|aj t33<|aj t58<|aj t189<|aj Z1<|aj t192<|Z21
theorem fromKey:KeyF zM 136 Arc.t:=by
 intro f a c
 have S:=Si c
 refine ab (n:=5) (rs:=[.tmp 2]) rfl Tryz.e136 rfl rfl rfl (lbt rfl) ?_
 simp only [BS,Nat.reduceLT,ct]
 refine ae (aS (by intro x e;cases e)) S ?_;clear S;intro h b S d;simp only [ah]at S
 simp only [BS,LB,ac,Nat.reduceLT,Nat.reduceEqDiff,F0Q,S.ld (b:=b) (o:=1) m0 rfl]
 exact S.gr
theorem toKey:KeyF zM 135 Arc.s:=by
 intro f a c
 have S:=Si c
 refine ab (n:=5) (rs:=[.tmp 2]) rfl Tryz.e135 rfl rfl rfl (lbt rfl) ?_
 simp only [BS,Nat.reduceLT,ct]
 refine ae (aS (by intro x e;cases e)) S ?_;clear S;intro h b S d;simp only [ah]at S
 simp only [BS,LB,ac,Nat.reduceLT,Nat.reduceEqDiff,F0R,S.ld (b:=b) (o:=0) m0 rfl]
 exact S.gr
theorem fromNext{γ:Gra}(a:Good γ){pn:Value}:NextF zM 115 γ pn Arc.s:=fun h e b c v d=>v7 b c (by have:=a.many;omega) d
theorem toNext{γ:Gra}(a:Good γ){pn:Value}:NextF zM 117 γ pn Arc.t:=fun h e b c v d=>xM b c (by have:=a.many;omega) d
theorem yM{h0:Hp}(z:h0.t.Sized h0.n){γ:Gra}(f:Good γ){pn:Value}{A:Nat}(B:bI h0 A pn γ){s:Nat}(C:s<γ.nodes):
 Ret zM 59 [pn,.int .i64 s] h0 fun r h'=>Gr h0 h'/\tW h' h0.n r (seen γ.arcs Arc.s Arc.t) s γ.nodes:=by
 have S:=Si z
 refine ab (n:=10) (rs:=[.cell 4 222]) rfl Tryz.e59 rfl rfl rfl (lbt rfl) ?_
 simp only [BS,F0S]
 refine ae aA S ?_;clear S;intro h j S m
 simp only [BS,LB,Nat.reduceLT,Nat.reduceEqDiff]
 have E:=S.fr.n
 have F:=(S.row (b:=j) m0).lt S.ok
 refine step_ret (xW S.ok f (B.gr S.gr) C (fromNext f) fromKey (fun a G=>(f.arcs a G).2.1)) ?_;intro v h ⟨g,T⟩;replace S:=S.call g;clear g
 obtain⟨p,q,t,D,H,O,rfl,u,w,y,t4,t5,t6,t7,t8⟩:=T
 have I:=u.fl
 have J:=w.fl
 have K:=y.fl
 have k: ∀c,aq p c\/aq q c\/aq t c->c≠j:=fun c d e=>by have:=t6 c d;omega
 simp only [BS,LB,Nat.reduceLT,Nat.reduceEqDiff]
 refine az (S.store (i:=0) rfl Tryz.t222.2.1 (by intro x e;cases e) rfl (by simp only [ah,Xw,XD,I.2.1,J.2.1,K.2.1,Xl]) (lbt rfl) ono) ?_
 clear S;rintro h ⟨S,l⟩
 simp only [LC,ah,lay,Xm,Xn,Nat.reduceAdd]at S
 simp only [BS,ac]
 refine(dW (by decide) (by simp only [aO,ag,Nat.reduceEqDiff,reduceIte];exact cP Tryz.t222.1 Tryz.t222.2.1 (S.lds (b:=j) (o:=0) (n:=3) m0 (lbt rfl)))).2 (eE.2 ?_)
 exact⟨S.gr,p,q,t,D,H,O,rfl,u.mo l (fun c d=>k c (.inl d)),w.mo l (fun c d=>k c (.inr (.inl d))),y.mo l (fun c d=>k c (.inr (.inr d))),t4,t5,fun c d=>Xa E (t6 c d),t7,t8⟩
theorem Az{h0:Hp}(z:h0.t.Sized h0.n){γ:Gra}(f:Good γ){pn:Value}{A:Nat}(B:bI h0 A pn γ){s:Nat}(C:s<γ.nodes):
 Ret zM 58 [pn,.int .i64 s] h0 fun r h'=>Gr h0 h'/\tW h' h0.n r (seen γ.arcs Arc.t Arc.s) s γ.nodes:=by
 have S:=Si z
 refine ab (n:=10) (rs:=[.cell 4 222]) rfl Tryz.e58 rfl rfl rfl (lbt rfl) ?_
 simp only [BS,F0T]
 refine ae aA S ?_;clear S;intro h j S m
 simp only [BS,LB,Nat.reduceLT,Nat.reduceEqDiff]
 have E:=S.fr.n
 have F:=(S.row (b:=j) m0).lt S.ok
 refine step_ret (xW S.ok f (B.gr S.gr) C (toNext f) toKey (fun a G=>(f.arcs a G).1)) ?_;intro v h ⟨g,T⟩;replace S:=S.call g;clear g
 obtain⟨p,q,t,D,H,O,rfl,u,w,y,t4,t5,t6,t7,t8⟩:=T
 have I:=u.fl
 have J:=w.fl
 have K:=y.fl
 have k: ∀c,aq p c\/aq q c\/aq t c->c≠j:=fun c d e=>by have:=t6 c d;omega
 simp only [BS,LB,Nat.reduceLT,Nat.reduceEqDiff]
 refine az (S.store (i:=0) rfl Tryz.t222.2.1 (by intro x e;cases e) rfl (by simp only [ah,Xw,XD,I.2.1,J.2.1,K.2.1,Xl]) (lbt rfl) ono) ?_
 clear S;rintro h ⟨S,l⟩
 simp only [LC,ah,lay,Xm,Xn,Nat.reduceAdd]at S
 simp only [BS,ac]
 refine(dW (by decide) (by simp only [aO,ag,Nat.reduceEqDiff,reduceIte];exact cP Tryz.t222.1 Tryz.t222.2.1 (S.lds (b:=j) (o:=0) (n:=3) m0 (lbt rfl)))).2 (eE.2 ?_)
 exact⟨S.gr,p,q,t,D,H,O,rfl,u.mo l (fun c d=>k c (.inl d)),w.mo l (fun c d=>k c (.inr (.inl d))),y.mo l (fun c d=>k c (.inr (.inr d))),t4,t5,fun c d=>Xa E (t6 c d),t7,t8⟩
def Tryz.F0U:=aj t1<|t2
def wy(x:Int):Int:=min (max x 0) 72057594037927936
theorem zL{h0:Hp}(c:h0.t.Sized h0.n){a b:Nat}{x:Int}(d:h0.load a 0 1=some [.int .i64 0])(e:h0.load b 0 1=some [.int .i64 72057594037927936]):bz zM 267 [.int .i64 x,ptrTo a,ptrTo b] h0 (.int .i64 (wy x)):=by
 have S:=Si c
 refine ab (n:=10) (rs:=[.tmp 4]) rfl Tryz.e267 rfl rfl rfl (lbt rfl) ?_
 simp only [BS,LB,ac,Nat.reduceLT,Nat.reduceEqDiff,F0U,d,e]
 exact⟨rfl,S.gr⟩
theorem Aq{h0:Hp}(f:h0.t.Sized h0.n):Ret zM 249 [.int .i64 0,.int .i64 72057594037927936] h0 fun v h=>Gr h0 h/\ ∃a b,v=.func (.func 267) #[] #[ptrTo a,ptrTo b]/\h.load a 0 1=some [.int .i64 0]/\h.load b 0 1=some [.int .i64 72057594037927936]:=by
 have S:=Si f
 refine ab (n:=6) (rs:=[.tmp 4]) rfl Tryz.e249 rfl rfl rfl (lbt rfl) ?_
 simp only [BS,Nat.reduceLT]
 refine ae (aS (by intro x e;cases e)) S ?_;clear S;intro h a S c;simp only [ah]at S
 simp only [BS,Nat.reduceLT,Nat.reduceEqDiff,if_false]
 refine ae (aS (by intro x e;cases e)) S ?_;clear S;intro h b S d;simp only [ah]at S
 simp only [BS,LB,ac,Nat.reduceLT,Nat.reduceEqDiff]
 exact⟨S.gr,a,b,rfl,S.ld m1 rfl,S.ld m0 rfl⟩
theorem pO{h0:Hp}(a:h0.t.Sized h0.n){x:Int}:bz zM 208 [.int .i64 x] h0 (.int .i64 (wy x)):=by
 have S:=Si a
 refine ab (n:=6) (rs:=[.tmp 2]) rfl Tryz.e208 rfl rfl rfl (lbt rfl) ?_
 simp only [BS,LB]
 refine step_ret (Aq S.ok) ?_;intro v h ⟨g,b1,b2,e,e1,e2⟩;replace S:=S.call g;clear g
 subst e
 simp only [BS,LB,Nat.reduceLT,Nat.reduceEqDiff]
 refine am (zL S.ok e1 e2) ?_;intro h g;replace S:=S.call g;clear g
 simp only [BS,LB,ac,Nat.reduceLT,Nat.reduceEqDiff]
 exact S.gr
theorem pd{h0:Hp}(a:h0.t.Sized h0.n){x:Int}:bz zM 207 [.int .i64 x] h0 (.bool (decide (wy x<72057594037927936))):=by
 have S:=Si a
 refine ab (n:=6) (rs:=[.tmp 2]) rfl Tryz.e207 rfl rfl rfl (lbt rfl) ?_
 simp only [BS,LB,Nat.reduceLT,Nat.reduceEqDiff]
 refine am (pO S.ok) ?_;intro h g;replace S:=S.call g;clear g
 simp only [BS,LB,ac,Nat.reduceLT,Nat.reduceEqDiff]
 exact S.gr
theorem wy_bd(x:Int):0<=wy x/\wy x<=72057594037927936:=by unfold wy;omega
theorem wy_id{x:Int}(h0:0<=x)(a:x<=72057594037927936):wy x=x:=by unfold wy;omega
def lowD(v t:Int):Int:=if wy t<72057594037927936 then(if wy v<72057594037927936 then wy (wy v-wy t)else 72057594037927936)else 0
theorem low_ok{h0:Hp}(i:h0.t.Sized h0.n){v t:Int}:bz zM 162 [.int .i64 v,.int .i64 t] h0 (.int .i64 (lowD v t)):=by
 have S:=Si i
 have a:=wy_bd v
 have b:=wy_bd t
 have c:wy (wy v)=wy v:=wy_id a.1 a.2
 have d:wy (wy t)=wy t:=wy_id b.1 b.2
 have w:an .i64 (wy v-wy t)=wy v-wy t:=by rw [wrap64]<;>omega
 refine ab (n:=21) (rs:=[.tmp 4]) rfl Tryz.e162 rfl rfl rfl (lbt rfl) ?_
 simp only [BS,LB,Nat.reduceLT,Nat.reduceEqDiff]
 refine am (pO S.ok) ?_;intro h g;replace S:=S.call g;clear g
 simp only [BS,LB,Nat.reduceLT,Nat.reduceEqDiff]
 refine am (pO S.ok) ?_;intro h g;replace S:=S.call g;clear g
 simp only [BS,LB,Nat.reduceLT,Nat.reduceEqDiff]
 refine am (pd S.ok) ?_;intro h g;replace S:=S.call g;clear g
 unfold lowD
 by_cases e:wy t<72057594037927936
 . simp only [BS,LB,Nat.reduceLT,Nat.reduceEqDiff,d,e]
   refine am (pd S.ok) ?_;intro h g;replace S:=S.call g;clear g
   by_cases f:wy v<72057594037927936
   . simp only [BS,LB,Nat.reduceLT,Nat.reduceEqDiff,c,f,w]
     refine am (pO S.ok) ?_;intro h g;replace S:=S.call g;clear g
     simp only [BS,LB,ac,Nat.reduceLT,Nat.reduceEqDiff]
     exact S.gr
   . simp only [BS,LB,ac,Nat.reduceLT,Nat.reduceEqDiff,c,f]
     exact S.gr
 . simp only [BS,LB,ac,Nat.reduceLT,Nat.reduceEqDiff,d,e]
   exact S.gr
theorem lift_ok{h0:Hp}(a:h0.t.Sized h0.n){v t:Int}:bz zM 164 [.int .i64 v,.int .i64 t] h0 (.int .i64 (lowD t v)):=by
 have S:=Si a
 refine ab (n:=8) (rs:=[.tmp 4]) rfl Tryz.e164 rfl rfl rfl (lbt rfl) ?_
 simp only [BS,LB,Nat.reduceLT,Nat.reduceEqDiff]
 refine am (low_ok S.ok) ?_;intro h g;replace S:=S.call g;clear g
 simp only [BS,LB,ac,Nat.reduceLT,Nat.reduceEqDiff]
 exact S.gr
end Go.Ab
end
section
namespace Go.Ab
structure YldP(E:Env)(lb:Nat)(J:Nat->Hp->List Nat->Prop)(n:Nat)(P:Nat->Hp->List Nat->List Value->Prop):Prop where
 lt: ∀i h F,J i h F->h.t.Sized h.n/\ ∀b∈F,b<h.n
 gr: ∀i h F h',J i h F->Gr h h'->J i h' F
 round: ∀i x h F,i<n->P i h F x->J i h F->j5 E lb x h fun o h'=>o=.ret (.bool true)/\ ∃F',J (i+1) h' F'/\Mo (· ∈F) h h'/\ ∀b∈F',b∈F\/h.n<=b
def IterP(E:Env)(g:FuncId)(post:List Value)(h0:Hp)(D:Nat->Prop)(n:Nat)(P:Nat->Hp->List Nat->List Value->Prop):Prop:=
 ∀a J,YldP E a J n P-> ∀h F,ItS h0 D h F->J 0 h F->eu E g (.func (.yield a) #[] #[]::post) none h fun o b c=>b=none/\ ∃u d,o=.ret u/\J n c d
theorem Ae{E:Env}{cx:Cx}{o:Oper}{l:Loc}{K:Ex->Loc->Hp->Prop}{h0 h:Hp}{D:Nat->Prop}{d i n:Nat}{J:Nat->Hp->List Nat->Prop}{P:Nat->Hp->List Nat->List Value->Prop}{x:List Value}{F:List Nat}
 (Y:YldP E d J n P) (s:ItS h0 D h F) (e:J i h F) (f:i<n) (g:P i h F x)
 (j: ∀h' F',J (i+1) h' F'->ItS h0 D h' F'->Mo (· ∈F) h h'->(∀b∈F',b∈F\/h.n<=b)->K .normal (l.put o.dst (.bool true)) h'):eR E cx o l K (some (.yield d x,h)):=by
 refine uH (Y.round i x h F f g e) ?_
 rintro q h' ⟨rfl,F',a,b,c⟩
 exact j h' F' a (s.mo b c (Y.lt _ _ _ a).2) b c
def encV(w:Value):List Value:=[w]
theorem oF(w:Value):(encV w).length=1:=rfl
theorem py(l:List Value):l.flatMap encV=l:=by
 induction l with
 |nil=>rfl
 |cons x l a=>rw [XW,a];rfl
def ee(h:Hp)(m:Nat)(v:Value)(n:Nat)(R:Nat->List Int):Prop:=
 ∃a:List Value,au h 1 encV v a/\a.length=n/\(∀c,aq v c->m<=c)/\ ∀i w,a[i]? =some w->au h 1 (encI .i64) w (R i)/\ ∀c,aq w c->m<=c
theorem ee.mo{M:Nat->Prop}{h h':Hp}{m n:Nat}{v:Value}{R:Nat->List Int}(r:ee h m v n R)(g:Mo M h h')(k: ∀b,M b->b<m):ee h' m v n R:=by
 obtain⟨l,a,b,c,d⟩:=r
 exact⟨l,a.mo g (fun x e f=>by have:=c x e;have:=k x f;omega),b,c,fun i w j=>⟨(d i w j).1.mo g (fun x e f=>by have:=(d i w j).2 x e;have:=k x f;omega),(d i w j).2⟩⟩
theorem ee.gr{h h':Hp}{m n:Nat}{v:Value}{R:Nat->List Int}(r:ee h m v n R)(g:Gr h h'):ee h' m v n R:=r.mo (M:=NoM) g.fr (fun _ h=>h.elim)
theorem ee.low{h:Hp}{m f n:Nat}{v:Value}{R:Nat->List Int}(r:ee h m v n R)(g:f<=m):ee h f v n R:=by
 obtain⟨k,a,b,c,d⟩:=r
 exact⟨k,a,b,fun x e=>Xa g (c x e),fun i w j=>⟨(d i w j).1,fun x e=>Xa g ((d i w j).2 x e)⟩⟩
theorem ee.row{h:Hp}{m n:Nat}{v:Value}{R:Nat->List Int}(r:ee h m v n R){i:Nat}(k:i<n): ∃w,(∃c o,idxS (some 1) v (.int .i64 (i:Nat))=some (.pointer (some ⟨c,o,none⟩))/\h.load c o 1=some [w])/\au h 1 (encI .i64) w (R i)/\ ∀c,aq w c->m<=c:=by
 obtain⟨e,a,b,c,d⟩:=r
 obtain⟨q,o,g,j⟩:=a.ix (kd:=.i64) oF (i:=i) (by omega)
 have f:e[i]? =some e[i]:=Xo (by omega)
 exact⟨e[i],⟨q,o,g,j⟩,(d i _ f).1,(d i _ f).2⟩
theorem flat_nat(l:List Nat):l.flatMap cB=(l.map fun(x:Nat)=>(x:Int)).flatMap (encI .i64):=by
 induction l with
 |nil=>rfl
 |cons x l a=>rw [XW,Xk,XW,a];rfl
theorem sl_nat{h:Hp}{v:Value}{l:List Nat}(s:au h 1 cB v l):au h 1 (encI .i64) v (l.map fun(x:Nat)=>(x:Int)):=by
 rcases s with⟨rfl,rfl⟩|⟨b,o,s,c,rfl,a,d⟩
 . exact .inl ⟨rfl,rfl⟩
 . refine .inr ⟨b,o,s,c,by rw [Xq],by rw [Xq];exact a,?_⟩
   rw [Xq,d,flat_nat]
def gk(N:Nat)(l:List Int):Prop:=l.length<=16/\ ∀i,i<l.length->0<=l.getD i 0/\l.getD i 0<N/\l.getD i 0∉l.take i
theorem gk.push{N:Nat}{l:List Int}(h:gk N l)(g:l.length<16){x:Int}(h0:0<=x)(c:x<N)(d:x∉l):gk N (l++[x]):=by
 refine⟨by simp;omega,fun i f=>?_⟩
 simp at f
 by_cases e:i=l.length
 . subst e
   have b:(l++[x]).getD l.length 0=x:=by simp [zN]
   rw [b,List.take_left']
   exact⟨h0,c,d⟩
   rfl
 . have a:i<l.length:=by omega
   have b:(l++[x]).getD i 0=l.getD i 0:=by simp [zN,XY a]
   rw [b,List.take_append_of_le_length (by omega)]
   exact h.2 i a
theorem mayL_nil(N:Nat):gk N []:=⟨by simp,fun i a=>by simp at a⟩
structure TabAt(h:Hp)(m:Nat)(p:Value)(N:Nat)(marks:List Int)(R Q:Nat->List Int):Prop where
 ex: ∃b vM vT vF,p=ptrTo b/\Row h b [.int .i64 N,vM,vT,vF] 1/\au h 1 (encI .i64) vM marks/\ee h m vT marks.length R/\ee h m vF marks.length Q/\m<=b/\ ∀c,aq vM c->m<=c
theorem TabAt.mo{M:Nat->Prop}{h h':Hp}{m N:Nat}{p:Value}{a:List Int}{R Q:Nat->List Int}(t:TabAt h m p N a R Q)(g:Mo M h h')(c: ∀b,M b->b<m):TabAt h' m p N a R Q:=by
 obtain⟨b,f,i,j,e,k,l,n,q,r,d⟩:=t.ex
 exact⟨b,f,i,j,e,g.has (o:=.row _ 1) k (fun h=>by have:=c _ h;omega),l.mo g (fun x s u=>by have:=d x s;have:=c x u;omega),n.mo g c,q.mo g c,r,d⟩
theorem TabAt.gr{h h':Hp}{m N:Nat}{p:Value}{a:List Int}{R Q:Nat->List Int}(t:TabAt h m p N a R Q)(g:Gr h h'):TabAt h' m p N a R Q:=t.mo (M:=NoM) g.fr (fun _ h=>h.elim)
theorem ee.lenq{h h':Hp}{m n:Nat}{v:Value}{R:Nat->List Int}{e:TypeId}(r:ee h' m v n R):lenQ (some (.slice e)) h v=some (.val (.int .i64 n),h):=by
 have⟨c,a,b,_⟩:=r
 rw [<-b];exact a.lenq
end Go.Ab

end
section
namespace Go.Ab
open Go.Proofs
set_option maxRecDepth 10000
def Tryz.FM:=aj t1<|aj t2<|aj t3<|aj t4<|t218
def Tryz.F0g:=aj t1<|aj t2<|aj t3<|aj t4<|aj t5<|aj t6<|aj Z3<|aj t33<|t196
def Tryz.FN:=aj t1<|aj t2<|aj t3<|aj t4<|aj t33<|aj t196<|t218
theorem may1_ok{h0:Hp}(v:h0.t.Sized h0.n){b5 p b c N k:Nat}{x:Int}{q:List (Value×Value×Nat)}{f:Int->Option Value}(e5:h0.load b5 0 1=some [.map (some b)])(y:h0.load p 0 1=some [.int .i64 N])(s:h0.get b=some (.map q c))(t:c7 q c f)(hf:(f x).getD (.int .i64 0)=.int .i64 k)(E:k<=1)(A:b5≠b)(B:p≠b):
 Ret zM 130 [.int .i64 x,ptrTo b5,ptrTo p] h0 fun r h'=>Mo (· =b) h0 h'/\r=.bool (decide (x<0\/(N:Int)<=x\/k=1))/\ ∃es' c',h'.get b=some (.map es' c')/\c7 es' c' (dk f x (some (.int .i64 (k+1:Nat)))):=by
 have S:=St.init1 v (o:=.map q c) s
 have u:=jR (x:=x) Tryz.t218.1 Tryz.t3.1 (z:=.int .i64 0) (by kernel_rfl) s t
 rw [hf]at u
 have w:an .i64 ((k:Int)+1)=((k+1:Nat):Int):=by rw [wrap64]<;>omega
 refine ab (n:=22) (rs:=[.tmp 4]) rfl Tryz.e130 rfl rfl rfl (lbt rfl) ?_
 simp only [BS,LB,Nat.reduceLT,Nat.reduceEqDiff,FM,e5,u,w]
 refine az (S.mputI (i:=0) rfl Tryz.t218.1 Tryz.t3.1 t _) ?_
 clear S;rintro h ⟨_,es',c',a,S⟩
 simp only [LC]at S
 have j:=S.old e5 A
 have d:=S.old y B
 have l:h.get b=some (.map es' c'):=(S.own _ m0).2
 have e:=jR (x:=x) Tryz.t218.1 Tryz.t3.1 (z:=.int .i64 0) (by kernel_rfl) l a
 rw [show dk f x (some (.int .i64 ((k+1:Nat):Int))) x=some (.int .i64 ((k+1:Nat):Int)) by unfold dk;rw [if_pos rfl],Xu]at e
 by_cases g:x<0
 . simp only [BS,LB,ac,Nat.reduceLT,Nat.reduceEqDiff,g]
   exact⟨S.fr,by simp [g],es',c',l,a⟩
 . by_cases m:(N:Int)<=x
   . simp only [BS,LB,ac,Nat.reduceLT,Nat.reduceEqDiff,FM,d,g,m]
     exact⟨S.fr,by simp [m],es',c',l,a⟩
   . by_cases C:k=1
     . subst C
       simp only [BS,LB,ac,Nat.reduceLT,Nat.reduceEqDiff,Nat.reduceAdd,Int.reduceLT,Xe,FM,j,d,g,m,e]
       exact⟨S.fr,by simp,es',c',l,a⟩
     . have D:k=0:=by omega
       subst D
       simp only [BS,LB,ac,Nat.reduceLT,Nat.reduceEqDiff,Int.reduceLT,Xe,FM,j,d,g,m,e]
       exact⟨S.fr,by simp [g,m],es',c',l,a⟩
def OkAt(N:Nat)(l:List Int)(i:Nat):Prop:=0<=l.getD i 0/\l.getD i 0<N/\l.getD i 0∉l.take i
theorem mayIdx_ok {h0:Hp} (U:h0.t.Sized h0.n) {b5 t a N:Nat} {v:Value} {l:List Int} (A:au h0 1 (encI .i64) v l) (hl:l.length<=1000) (e5:h0.load b5 0 1=some [.map (some a)]) (B:h0.load t 0 1=some [.int .i64 N]) (K:h0.get a=some (.map [] 0)) (L:b5≠a) (M:t≠a):
 Ret zM 209 [v,.func (.func 130) #[] #[ptrTo b5,ptrTo t]] h0 fun r h'=>Mo (· =a) h0 h'/\ ∃z,r=.int .i64 z/\(0<=z↔ ¬ ∀i,i<l.length->OkAt N l i):=by
 have C: ∀c,aq v c-> ¬c=a:=by
  rintro c O rfl
  rcases A with⟨rfl,_⟩|⟨b,o,s,P,rfl,_,V⟩
  . exact O.elim
  . have:b=c:=O
    subst this
    simp [Hp.load,K]at V
 refine ab (n:=19) (rs:=[.tmp 4]) rfl Tryz.e209 rfl rfl rfl (lbt rfl) ?_
 simp only [BS,LB,Nat.reduceLT,Nat.reduceEqDiff,F0g,A.lenq]
 refine bL (fun(i:Nat) g h=>i<=l.length/\Mo (· =a) h0 h/\(∃D c f,h.get a=some (.map D c)/\c7 D c f/\ ∀x,f x=if x∈l.take i then some (.int .i64 1)else none)/\(∀j,j<i->OkAt N l j)/\g 0=v/\g 1=.func (.func 130) #[] #[ptrTo b5,ptrTo t]/\g 7=.int .i64 l.length/\g 8=.int .i64 i) (fun i=>l.length-i) ?_ 0 _ _ ?_
 . intro i W g h ⟨hi,mo,⟨D,c,f,hg,MI,hf⟩,hok,r0,r1,r7,r8⟩
   by_cases hlt:i<l.length
   . obtain ⟨q,o,m,E⟩:=(A.mo mo C).ix (kd:=.i64) (dh .i64) hlt
     have w:an .i64 ((i:Int)+1)=((i+1:Nat):Int):=by rw [wrap64]<;>omega
     have Q: ∀{b:Nat} {x},b≠a->h0.load b 0 1=some x->h.load b 0 1=some x:=fun F e=>by
      have:=mo.get _ (bD mo.ok0 e) F
      unfold Hp.load at e⊢
      rw [this];exact e
     have G:l.getD i 0=l[i]:=by simp [zN,hlt]
     simp only [BS,LB,Nat.reduceLT,Nat.reduceEqDiff,F0g,r0,r1,r7,r8,aK,hlt,m,E,encI]
     refine step_ret (may1_ok mo.ok (x:=l[i]) (N:=N) (k:=if l[i]∈l.take i then 1 else 0) (Q L e5) (Q M B) hg MI (by rw [hf];split<;>rfl) (by split<;>omega) L M) ?_
     rintro r h' ⟨X,rfl,H,P,I,J⟩
     have p:=mo.trans X (fun _ h=>.inl h)
     by_cases d:OkAt N l i
     . have e:decide (l[i]<0\/(N:Int)<=l[i]\/(if l[i]∈l.take i then 1 else 0)=1)=false:=by
        obtain⟨Y,Z,R⟩:=d
        rw [G]at Y Z R
        rw [if_neg R]
        simp;omega
       rw [e]
       have u:l[i]∉l.take i:=by have:=d.2.2;rwa [G]at this
       simp only [BS,LB,Nat.reduceLT,Nat.reduceEqDiff,r8,w]
       refine W (i+1) _ _ (by omega) ⟨by omega,p,⟨H,P,_,I,J,fun x=>?_⟩,fun j S=>?_,by simp [aa,r0],by simp [aa,r1,ag],by simp [aa,r7],by simp [aa]⟩
       . have T:=XR hlt
         rw [if_neg u]
         unfold dk
         by_cases y:x=l[i]
         . rw [if_pos y,if_pos (by rw [T];exact Xh _ (List.mem_singleton.2 y))];rfl
         . rw [if_neg y,hf]
           have:x∈l.take (i+1)↔x∈l.take i:=by rw [T,X9,XT];exact⟨fun h=>h.resolve_right y,.inl⟩
           simp only [this]
       . by_cases B:j=i
         . subst B;exact d
         . exact hok j (by omega)
     . have e:decide (l[i]<0\/(N:Int)<=l[i]\/(if l[i]∈l.take i then 1 else 0)=1)=true:=by
        unfold OkAt at d
        rw [G]at d
        simp only [decide_eq_true_eq]
        by_cases u:l[i]∈l.take i
        . rw [if_pos u];exact .inr (.inr rfl)
        . by_cases a1:l[i]<0
          . exact .inl a1
          . by_cases a2:(N:Int)<=l[i]
            . exact .inr (.inl a2)
            . exact absurd ⟨by omega,by omega,u⟩ d
       rw [e]
       simp only [BS,LB,ac,Nat.reduceLT,Nat.reduceEqDiff]
       exact⟨p,_,rfl,by simp only [Int.natCast_nonneg,true_iff];exact fun h=>d (h i hlt)⟩
   . simp only [BS,LB,ac,Nat.reduceLT,Nat.reduceEqDiff,r7,r8,aK,hlt]
     exact⟨mo,_,rfl,⟨fun h=>by omega,fun h=>absurd (fun j S=>hok j (by omega)) h⟩⟩
 . exact⟨XS _,Mo.refl U,⟨[],0,fun _=>none,K,mz,fun x=>by simp⟩,fun j S=>by omega,by simp [aa,aZ],by simp [aa,aZ,cG,ag],by simp [aa],by simp [aa]⟩
noncomputable instance mayDec(N:Nat)(l:List Int):Decidable (gk N l):=Classical.propDecidable _
theorem mayCf_ok{h0:Hp}(j:h0.t.Sized h0.n){b5 b a N:Nat}{v:Value}{l:List Int}(k:au h0 1 (encI .i64) v l)(m:l.length<=1000)(e5:h0.load b5 0 1=some [.map (some a)])(o:h0.load b 0 1=some [.int .i64 N])(p:h0.get a=some (.map [] 0))(q:b5≠a)(s:b≠a)(d:Decidable (∀i,i<l.length->OkAt N l i)):
 Ret zM 131 [v,.func (.func 130) #[] #[ptrTo b5,ptrTo b]] h0 fun r h'=>Mo (· =a) h0 h'/\r=.bool (!decide (∀i,i<l.length->OkAt N l i)):=by
 refine ab (n:=9) (rs:=[.tmp 4]) rfl Tryz.e131 rfl rfl rfl (lbt rfl) ?_
 simp only [BS,LB,Nat.reduceLT,Nat.reduceEqDiff]
 refine step_ret (mayIdx_ok j k m e5 o p q s) ?_
 rintro r h ⟨f,z,rfl,g⟩
 by_cases c: ∀i,i<l.length->OkAt N l i
 . have e: ¬(0<=z):=fun h=>g.1 h c
   simp only [BS,LB,ac,Nat.reduceLT,Nat.reduceEqDiff,e]
   exact⟨f,by rw [decide_eq_true c];rfl⟩
 . have e:0<=z:=g.2 c
   simp only [BS,LB,ac,Nat.reduceLT,Nat.reduceEqDiff,e]
   exact⟨f,by rw [decide_eq_false c];rfl⟩
theorem may_ok{h0:Hp}(s:h0.t.Sized h0.n){v:Value}{l:List Int}{N:Nat}(g:au h0 1 (encI .i64) v l)(t:l.length<=1000):bz zM 53 [.int .i64 N,v] h0 (.bool (decide (gk N l))):=by
 have S:=Si s
 refine ab (n:=18) (rs:=[.tmp 4]) rfl Tryz.e53 rfl rfl rfl (lbt rfl) ?_
 simp only [BS,Nat.reduceLT]
 refine ae (aS (by intro x e;cases e)) S ?_;clear S;intro h u S p;simp only [ah]at S
 simp only [BS]
 refine ae kR S ?_;clear S;intro h A S a
 simp only [BS,FN]
 refine ae aA S ?_;clear S;intro h w S q
 simp only [BS,LB,Nat.reduceLT,Nat.reduceEqDiff]
 refine az (aC S (i:=0) rfl ?_ ?_ ?_ ono) ?_
 . exact(by simp only [FN])
 . exact(by exact fl_map)
 . exact Xg (lbt rfl)
 clear S;rintro h ⟨S,j⟩;clear j;simp only [LC,ah,lay,Xm,Xn,Nat.reduceAdd]at S
 by_cases f:l.length<=16
 . have k:(l.length:Int)<=16:=by omega
   simp only [BS,LB,Nat.reduceLT,Nat.reduceEqDiff,FN,g.lenq,k]
   have m:=S.apart
   simp only [keys,Xk,Xv,Xi,Xr,XJ,Xf,Xd,or_false,not_or]at m
   have d:Decidable (∀i,i<l.length->OkAt N l i):=Classical.propDecidable _
   refine step_ret (mayCf_ok S.ok (g.gr S.gr) t (S.ld (b:=w) (o:=0) m0 rfl) (S.ld (b:=u) (o:=0) m2 rfl) (S.own _ m1).2 m.1.1 (fun e=>m.2.1 e.symm) d) ?_
   rintro r h ⟨j,rfl⟩
   have y:Gr h0 h:=(S.fr.trans j (fun c z=>.inr (by subst z;exact a)):Mo NoM h0 h).gr
   simp only [BS,LB,ac,Nat.reduceLT,Nat.reduceEqDiff]
   refine⟨?_,y⟩
   congr 1
   by_cases c: ∀i,i<l.length->OkAt N l i
   . have:gk N l:=⟨f,c⟩
     rw [decide_eq_true c,decide_eq_true this];rfl
   . have: ¬gk N l:=fun h=>c h.2
     rw [decide_eq_false c,decide_eq_false this];rfl
 . have k: ¬(l.length:Int)<=16:=by omega
   simp only [BS,LB,ac,Nat.reduceLT,Nat.reduceEqDiff,FN,g.lenq,k]
   exact⟨by have: ¬gk N l:=fun h=>f h.1;simp [this],S.gr⟩
def Tryz.F01:=aj t1<|aj t2<|aj t3<|aj t4<|aj t24<|aj Z0<|aj t32<|aj t33<|aj t129<|aj t138<|aj t189<|aj Z1<|Z21
def Tryz.F0h:=aj t1<|aj t2<|aj t3<|aj t4<|aj t6<|aj Z3<|aj t24<|aj t59<|t127
open Classical in
noncomputable def dOf(B:List Arc)(s v:Nat):Nat:=if h: ∃x,IsD B s v x then h.choose else 0
theorem dOf_is{B:List Arc}{s v x:Nat}(h:IsD B s v x):dOf B s v=x/\IsD B s v (dOf B s v):=by
 have a: ∃x,IsD B s v x:=⟨x,h⟩
 have e:dOf B s v=a.choose:=by unfold dOf;rw [dif_pos a]
 rw [e]
 exact⟨a.choose_spec.uniq h,a.choose_spec⟩
noncomputable def rowD(B:List Arc)(N s:Nat):List Int:=(Xb N).map fun v=>((dOf B s v:Nat):Int)
theorem rowD_of{B:List Arc}{N s:Nat}{D:Nat->Nat}(h: ∀v,IsD B s v (D v)):((Xb N).map D).map (fun(x:Nat)=>(x:Int))=rowD B N s:=by
 unfold rowD
 rw [Ye]
 refine List.map_congr_left fun v _=>?_
 show((D v:Nat):Int)=_
 rw [(dOf_is (h v)).1]
def RunF(E:Env)(g:FuncId)(γ:Gra)(pn:Value)(B:List Arc):Prop:= ∀(h:Hp) (b:Nat),h.t.Sized h.n->bI h b pn γ-> ∀s,s<γ.nodes->Ret E g [pn,.int .i64 (s:Nat)] h fun r a=>Gr h a/\tW a h.n r B s γ.nodes
theorem runTo{γ:Gra}(a:Good γ){pn:Value}:RunF zM 58 γ pn (seen γ.arcs Arc.t Arc.s):=fun h e b c s d=>Az b a c d
theorem runFrom{γ:Gra}(a:Good γ){pn:Value}:RunF zM 59 γ pn (seen γ.arcs Arc.s Arc.t):=fun h e b c s d=>yM b a c d
def PRow(m:Nat)(R:Nat->List Int)(i:Nat)(h:Hp)(F:List Nat)(x:List Value):Prop:= ∃w,x=[w]/\au h 1 (encI .i64) w (R i)/\ ∀c,aq w c->m<=c/\c∉F
theorem rows_ok{h0:Hp}(j:h0.t.Sized h0.n){p g i:Value}(k:Fl p)(l:Fl g)(m:Fl i):Ret zM 57 [p,g,i] h0 fun v h'=>Gr h0 h'/\ ∃a b c,v=.func (.func 133) #[] #[ptrTo a,ptrTo b,ptrTo c]/\h0.n<=a/\h0.n<=b/\h0.n<=c/\h'.load a 0 1=some [g]/\h'.load b 0 1=some [i]/\h'.load c 0 1=some [p]:=by
 have S:=Si j
 refine ab (n:=8) (rs:=[.tmp 6]) rfl Tryz.e57 rfl rfl rfl (lbt rfl) ?_
 simp only [BS,Nat.reduceLT]
 refine ae (cK (by assumption)) S ?_;clear S;intro h c S d
 simp only [BS,Nat.reduceLT,Nat.reduceEqDiff,if_false]
 refine ae (cK (by assumption)) S ?_;clear S;intro h a S e
 simp only [BS,Nat.reduceLT,Nat.reduceEqDiff,if_false]
 refine ae (cK (by assumption)) S ?_;clear S;intro h b S f
 simp only [BS,LB,ac,Nat.reduceLT,Nat.reduceEqDiff]
 exact⟨S.gr,a,b,c,rfl,e,f,d,S.ld m1 rfl,S.ld m0 rfl,S.ld m2 rfl⟩
theorem rows_it{hq h0:Hp}(z:hq.t.Sized hq.n)(d:h0.t.Sized h0.n)(P:iG hq h0)(Q:hq.n<=h0.n){pn f:Value}{γ:Gra}{A u j p m:Nat}(R:bI hq A pn γ){l:List Int}(E:au h0 1 (encI .i64) f l)(C: ∀i,i<l.length->0<=l.getD i 0/\l.getD i 0<γ.nodes)(G:l.length<1000){g:FuncId}{B:List Arc}(S:RunF zM g γ pn B)(T:m<=h0.n)
 (U:h0.load u 0 1=some [f]) (V:h0.load j 0 1=some [.func (.func g) #[] #[]]) (W:h0.load p 0 1=some [pn]):
 IterP zM 133 [ptrTo u,ptrTo j,ptrTo p] h0 (fun c=>c=u\/c=j\/c=p\/aq f c\/c<hq.n) l.length (PRow m fun i=>rowD B γ.nodes (l.getD i 0).toNat):=by
 intro X J Y h F s x
 refine enter (n:=22) (rs:=[]) rfl Tryz.e133 rfl rfl rfl (lbt rfl) ?_
 have H:=s.load d U (.inl rfl)
 simp only [BS,LB,Nat.reduceLT,F01,H,E.lenq]
 refine bL (fun(i:Nat) e h=>i<=l.length/\ ∃F,ItS h0 (fun c=>c=u\/c=j\/c=p\/aq f c\/c<hq.n) h F/\J i h F/\e 0=.func (.yield X) #[] #[]/\e 2=ptrTo j/\e 3=ptrTo p/\e 7=f/\e 8=.int .i64 l.length/\e 9=.int .i64 i) (fun i=>l.length-i) ?_ 0 _ _ ?_
 . clear H
   intro i Z e h ⟨hi,F,s,x,r0,r2,r3,r7,r8,r9⟩
   by_cases hlt:i<l.length
   . obtain⟨c,o,q,r⟩:=(s.sl d E (fun b h=>.inr (.inr (.inr (.inl h))))).ix (kd:=.i64) (dh .i64) hlt
     have l2:=s.load d V (.inr (.inl rfl))
     have l3:=s.load d W (.inr (.inr (.inl rfl)))
     have nt:bI h A pn γ:=R.keep z (s.keep P Q (fun c y=>.inr (.inr (.inr (.inr y)))))
     have w:an .i64 ((i:Int)+1)=((i+1:Nat):Int):=by rw [wrap64]<;>omega
     have I:l.getD i 0=l[i]:=by simp [zN,hlt]
     have K:=C i hlt
     rw [I]at K
     obtain⟨mk,t⟩: ∃k:Nat,l[i]=k:=⟨l[i].toNat,by omega⟩
     rw [t]at r K
     simp only [BS,LB,Nat.reduceLT,Nat.reduceEqDiff,F01,r0,r2,r3,r7,r8,r9,aK,hlt,q,r,encI,l2,l3]
     refine step_ret (S h A s.ok nt mk (by omega)) ?_
     rintro v L ⟨M,N,vA,vO,D,aL,O,rfl,s1,s2,s3,t4,t5,t6,t7,t8⟩
     simp only [BS,LB,Nat.reduceLT,Nat.reduceEqDiff,F01]
     refine Ae Y (s.gr M) (Y.gr _ _ _ _ x M) (i:=i) hlt ⟨N,rfl,?_,fun c y=>⟨?_,fun hF=>?_⟩⟩ ?_
     . have:=sl_nat s1
       rw [rowD_of t5]at this
       show au L 1 _ N (rowD B γ.nodes (l.getD i 0).toNat)
       rw [I,t]
       exact this
     . exact Xa T (Xa s.n (t6 c (.inl y)))
     . have h1:=s.lt c hF
       have L:=t6 c (.inl y)
       omega
     . intro h' F' a s' _ _
       simp only [BS,LB,Nat.reduceLT,Nat.reduceEqDiff,r9,w]
       exact Z (i+1) _ _ (by omega) ⟨by omega,F',s',a,by simp [aa,r0],by simp [aa,r2,ag],by simp [aa,r3,ag],by simp [aa,r7],by simp [aa,r8],by simp [aa]⟩
   . simp only [BS,LB,Nat.reduceLT,r8,r9,aK,hlt]
     have:i=l.length:=by omega
     subst this
     exact dP (c9 ⟨rfl,_,rfl,rfl,_,F,rfl,x⟩)
 . exact⟨by omega,F,s,x,by simp [aa,cD],by simp [aa,cD,ag],by simp [aa,cD,ag],by simp [aa],by simp [aa],by simp [aa]⟩
theorem yU {h0:Hp} (ok:h0.t.Sized h0.n) {g:FuncId} {post:Array Value} {D:Nat->Prop} {n m:Nat} {R:Nat->List Int} (it:IterP zM g post.toList h0 D n (PRow m R)) (E:m<=h0.n) (hn:n<1000):
 Ret zM 132 [.slice none 0 0,.func (.func g) #[] post] h0 fun r h'=>Gr h0 h'/\ee h' m r n R:=by
 have S:=Si ok
 refine ab (n:=13) (rs:=[.tmp 4]) rfl Tryz.e132 rfl rfl rfl (lbt rfl) ?_
 simp only [BS,Nat.reduceLT]
 refine ae (cK (by exact bq)) S ?_;clear S;intro h t S V
 simp only [BS,Nat.reduceLT,Nat.reduceEqDiff,if_false]
 replace S:=S.nilG (k:=1)
 have g0:=S.gr
 refine kQ S (g:=g) (a:=#[]) (b:=post) (by simp [cb,aa,aZ,cG]) rfl rfl ?_
 intro W B v y af ai g2
 obtain⟨X,Y,y⟩: ∃X:gW,X=_/\St NoM h0 W [(v,.loop X),(B,.dfr),(t,.row [.slice none 0 0] 1)] [(.slice none 0 0,1,[])]:=⟨_,rfl,y⟩
 have hJ:YldP zM v (fun k h' F=> ∃(f:List Value) (p:Value),St NoM h0 h' [(v,.loop X),(B,.dfr),(t,.row [p] 1)] [(p,1,f)]/\f.length=k/\k<=n/\(∀i w,f[i]? =some w->au h' 1 (encI .i64) w (R i)/\ ∀c,aq w c->m<=c/\c∉F)/\F=keys [(v,.loop X),(B,.dfr),(t,.row [p] 1)] [(p,1,f)]) n (PRow m R):=by
  refine⟨?_,?_,?_⟩
  . rintro i h F ⟨f,p,S,_,_,_,rfl⟩;exact⟨S.ok,fun b z=>S.key_lt z⟩
  . rintro i h F h' ⟨f,p,S,a,b,c,rfl⟩ Z;exact⟨f,p,S.call Z,a,b,fun i w l=>⟨(c i w l).1.gr Z,(c i w l).2⟩,rfl⟩
  . rintro i x hR F hi ⟨w,rfl,sw,l⟩ ⟨f,p,S,a,b,c,rfl⟩
    subst Y
    obtain⟨I,J,K,rfl⟩:=sw.form
    have fw:Fl (.slice I J K):=bq
    refine kU (S.get m0) (by rw [Tryz.e132];rfl) rfl ?_
    have O:=S
    replace S:=S.base
    simp only [BS,LB,Nat.reduceLT,Nat.reduceEqDiff]
    refine jQ S (i:=0) rfl rfl rfl rfl rfl ?_
    clear S;intro h S
    simp only [LC]at S
    simp only [BS,LB,Nat.reduceLT,Nat.reduceEqDiff,F0h,S.ld (b:=t) (o:=0) m2 rfl]
    refine ae (co (by exact Tryz.t59.1) (by exact Tryz.e24E) (by decide) (by rfl)) S ?_;clear S;intro h bs S ad;simp only [LC,bA,bS,ah,Nat.reduceMul,Nat.reduceAdd,XB,XC,Xx,XI]at S
    simp only [BS,LB,Nat.reduceLT,Nat.reduceEqDiff]
    have G:aM h 1 (.slice (some ⟨bs,0,none⟩) 1 1)=some (1,[.slice I J K]):=by simp only [aM];rw [S.lds (b:=bs) (o:=0) (n:=1*1) m0 (lbt rfl)];rfl
    replace S:=S.drop1
    refine eh (S.grow (j:=0) (m:=1) (new:=[.slice I J K]) rfl Tryz.t59.1 Tryz.e24E (by decide) Tryz.t59.2.2.2.2.2 G rfl (by decide) (by simp [fw.2.1]) (by simp;omega)) ?_
    clear S G;rintro h q S
    simp only [LC]at S
    have fv:Fl q:=by
     rcases(S.gown _ m0).1 with⟨e,_⟩|⟨_,_,e,_⟩
     . rw [show q=_ from e];exact bq
     . rw [show q=_ from e];exact bq
    simp only [BS,LB,Nat.reduceLT,Nat.reduceEqDiff]
    refine az (aC S (i:=2) rfl Tryz.t59.2.2.1 fv (Xg (lbt rfl)) ono) ?_
    clear S;rintro h ⟨S,_⟩
    simp only [LC]at S
    simp only [BS]
    refine gT S (i:=0) rfl ?_
    clear S;intro h S
    simp only [LC]at S
    refine⟨rfl,_,⟨f++[.slice I J K],q,O.rebase S,by simp [a],by omega,fun j u C=>?_,rfl⟩,S.fr,S.key_new⟩
    have s:au h 1 (encI .i64) u (R j)/\ ∀c,aq u c->m<=c/\c∉keys [(v,Ob.dfr),(B,.dfr),(t,.dfr)] [(p,1,f)]/\c<hR.n:=by
     by_cases hj:j<f.length
     . rw [XY hj]at C
       obtain⟨N,A⟩:=c j u C
       exact⟨N.mo S.fr (fun x d H=>(A x d).2 H),fun x d=>⟨(A x d).1,(A x d).2,N.lt O.ok d⟩⟩
     . rw [List.getElem?_append_right (by omega)]at C
       have P:j-f.length=0:=by
        have:=(List.getElem?_eq_some_iff.1 C).1
        simp at this;omega
       rw [P]at C
       cases C
       have:j=f.length:=by omega
       subst this
       rw [a]
       exact⟨sw.mo S.fr (fun x d H=>(l x d).2 H),fun x d=>⟨(l x d).1,(l x d).2,sw.lt O.ok d⟩⟩
    refine⟨s.1,fun x d=>⟨(s.2 x d).1,fun E=>?_⟩⟩
    rcases S.key_new x E with h1|h1
    . exact(s.2 x d).2.1 h1
    . have:=(s.2 x d).2.2;omega
 refine fk (it v _ hJ W _ ?_ ⟨[],_,y,rfl,XS _,fun i w l=>by simp at l,rfl⟩) ?_
 . exact⟨y.ok,y.fr.n,fun b z _=>y.gr.get b z,fun b z h=>by have:=(y.key_own z).elim (fun h=>h) (fun h=>h.elim);omega,fun b z=>y.key_lt z⟩
 . rintro o rc h' ⟨rfl,u,F,rfl,f,p,T,a,_,c,rfl⟩
   subst Y
   refine⟨_,T.get m0,Nat.zero_ne_one,?_⟩
   have Q: ∀i w,f[i]? =some w->au (h'.put v .dead) 1 (encI .i64) w (R i)/\ ∀c,aq w c->m<=c/\c∉keys [(B,.dfr),(t,.row [p] 1)] [(p,1,f)]:=fun i w l=>by
    obtain⟨N,A⟩:=c i w l
    exact⟨N.mo ((Mo.refl (M:=(· =v)) T.ok).put (.inr rfl) .dead) (fun x d e=>(A x d).2 (by rw [e];exact m0)),fun x d=>⟨(A x d).1,fun E=>(A x d).2 (Xs _ E)⟩⟩
   replace T:=T.dead
   have S:=T
   show Run _ _ _ _ _ _ _ _
   simp only [BS,LB,Nat.reduceLT,Nat.reduceEqDiff,F0h,S.ld (b:=t) (o:=0) m1 rfl]
   refine fD (kK [B] _ (L:=[(t,_)]) T.base fun h3 U=>⟨rfl,_,rfl,?_⟩)
   refine⟨(T.fr.trans U.fr (fun c hc=>(T.key_own hc).symm):Mo NoM h0 h3).gr,f,?_,a,fun x d=>?_,fun i w l=>⟨(Q i w l).1.mo U.fr (fun x d H=>((Q i w l).2 x d).2 H),fun x d=>((Q i w l).2 x d).1⟩⟩
   . exact(U.gown _ m0).1.sl (py f).symm oF (by decide)
   . exact Xa E (((T.gblk m0 d).1).elim (fun h=>h) (fun h=>h.elim))
theorem ua{h0:Hp}(a:h0.t.Sized h0.n){g:FuncId}{post:Array Value}{D:Nat->Prop}{n m:Nat}{R:Nat->List Int}(b:IterP zM g post.toList h0 D n (PRow m R))(c:m<=h0.n)(d:n<1000):
 Ret zM 56 [.func (.func g) #[] post] h0 fun r h'=>Gr h0 h'/\ee h' m r n R:=by
 have S:=Si a
 refine ab (n:=5) (rs:=[.tmp 2]) rfl Tryz.e56 rfl rfl rfl (lbt rfl) ?_
 simp only [BS,LB,Nat.reduceLT,Nat.reduceEqDiff]
 refine step_ret (yU S.ok b c d) ?_;intro v h ⟨g,L⟩;replace S:=S.call g;clear g
 simp only [BS,LB,ac,Nat.reduceLT,Nat.reduceEqDiff]
 exact⟨S.gr,L⟩
def Tryz.F0i:=aj t1<|aj t2<|aj t3<|aj t4<|aj t24<|aj Z0<|aj t32<|aj t33<|aj t51<|aj t59<|aj t127<|aj t129<|aj Z5<|aj t189<|Z1
def Tryz.F0V:=aj t1<|aj t2<|aj t3<|aj t4<|aj t24<|aj t33<|aj t51<|aj t59<|Z5
def Tryz.F0W:=aj t1<|aj t2<|aj t3<|aj t4<|aj t24<|aj t33<|aj t51<|aj t59<|Z5
def Tryz.F0X:=aj t1<|aj t2<|aj t3<|aj t24<|aj t33<|aj t51<|aj t59<|Z5
def Tryz.F0Y:=aj t1<|aj t2<|aj t3<|aj t24<|aj t33<|aj t51<|aj t59<|Z5
def Tryz.Fw:=aj t1<|aj t2<|aj t3<|aj t4<|aj t24<|aj t33<|aj t51<|aj t59<|aj Z5<|t312
noncomputable def toR(γ:Gra)(l:List Int)(i:Nat):List Int:=rowD (seen γ.arcs Arc.t Arc.s) γ.nodes (l.getD i 0).toNat
noncomputable def frR(γ:Gra)(l:List Int)(i:Nat):List Int:=rowD (seen γ.arcs Arc.s Arc.t) γ.nodes (l.getD i 0).toNat
theorem tabOf_ok{h0:Hp}(y:h0.t.Sized h0.n){γ:Gra}(p:Good γ){pn E:Value}{F:Nat}(q:bI h0 F pn γ){l:List Int}(k:au h0 1 (encI .i64) E l)(f:l.length<1000):
 Ret zM 12 [pn,E] h0 fun r h'=>Gr h0 h'/\((¬gk γ.nodes l/\r=.pointer none)\/(gk γ.nodes l/\TabAt h' h0.n r γ.nodes l (toR γ l) (frR γ l))):=by
 have S:=Si y
 obtain⟨K,rfl⟩: ∃b,pn=ptrTo b:=by obtain⟨b,_,_,_,_,_,e,_⟩:=q.ex;exact⟨b,e⟩
 refine ab (n:=28) (rs:=[.tmp 4]) rfl Tryz.e12 rfl rfl rfl (lbt rfl) ?_
 simp only [BS,LB,Nat.reduceLT,Nat.reduceEqDiff,F0i]
 refine am (dt S.ok (q.gr S.gr)) ?_;intro h g;replace S:=S.call g;clear g
 simp only [BS,LB,Nat.reduceLT,Nat.reduceEqDiff]
 refine am (may_ok S.ok (k.gr S.gr) (by omega)) ?_;intro h g;replace S:=S.call g;clear g
 by_cases j:gk γ.nodes l
 . have z:decide (gk γ.nodes l)=true:=decide_eq_true j
   simp only [BS,LB,Nat.reduceLT,Nat.reduceEqDiff,z]
   refine am (dt S.ok (q.gr S.gr)) ?_;intro h g;replace S:=S.call g;clear g
   simp only [BS,LB,Nat.reduceLT,Nat.reduceEqDiff]
   have G:=S.fr.n
   refine step_ret (jY S.ok (dh .i64) (k.gr S.gr) (by omega)) ?_;intro v h ⟨g,d,hM⟩;replace S:=S.call g;clear g
   rename Value=>vM
   obtain⟨L,M,N,rfl⟩:=d.form
   simp only [BS,LB,Nat.reduceLT,Nat.reduceEqDiff]
   refine step_ret (rows_ok S.ok dz k.fl fO) ?_;intro v h ⟨g,b1,b2,b3,e,q1,q2,q3,y1,y2,y3⟩;replace S:=S.call g;replace d:=d.gr g;clear g
   subst e
   simp only [BS,LB,Nat.reduceLT,Nat.reduceEqDiff]
   have w:=rows_it y S.ok S.gr.keep S.fr.n q (k.gr S.gr) (fun i t=>⟨(j.2 i t).1,(j.2 i t).2.1⟩) f (runTo p) (m:=h0.n) S.fr.n y1 y2 y3
   refine step_ret (ua S.ok w S.fr.n f) ?_;intro v h ⟨g,o⟩;replace S:=S.call g;replace d:=d.gr g;clear g
   rename Value=>vT
   obtain⟨O,P,Q,rfl⟩: ∃a n c,vT=.slice a n c:=by obtain⟨_,s,_⟩:=o;exact s.form
   clear w y1 y2 y3 q1 q2 q3
   simp only [BS,LB,Nat.reduceLT,Nat.reduceEqDiff]
   refine step_ret (rows_ok S.ok dz k.fl fO) ?_;intro v h ⟨g,b1,b2,b3,e,q1,q2,q3,y1,y2,y3⟩;replace S:=S.call g;replace d:=d.gr g;replace o:=o.gr g;clear g
   subst e
   simp only [BS,LB,Nat.reduceLT,Nat.reduceEqDiff]
   have w:=rows_it y S.ok S.gr.keep S.fr.n q (k.gr S.gr) (fun i t=>⟨(j.2 i t).1,(j.2 i t).2.1⟩) f (runFrom p) (m:=h0.n) S.fr.n y1 y2 y3
   refine step_ret (ua S.ok w S.fr.n f) ?_;intro v h ⟨g,L2⟩;replace S:=S.call g;replace d:=d.gr g;replace o:=o.gr g;clear g
   rename Value=>vF
   obtain⟨R,T,U,rfl⟩: ∃a n c,vF=.slice a n c:=by obtain⟨_,s,_⟩:=L2;exact s.form
   simp only [BS,LB,Nat.reduceLT,Nat.reduceEqDiff,Nat.reduceAdd,F0i]
   have H:=S
   replace S:=S.base
   refine ae (aS (by intro x e;cases e)) S ?_;clear S;intro h b S I;simp only [ah]at S
   simp only [BS,LB,ac,Nat.reduceLT,Nat.reduceEqDiff]
   have A:=S.fr
   have u:=d.mo A (fun c _ j=>by cases j)
   have B:=o.mo A (fun c j=>by cases j)
   have C:=L2.mo A (fun c j=>by cases j)
   have D:=S.row (b:=b) m0
   replace S:=H.rebase S
   exact⟨S.gr,.inr ⟨j,⟨b,_,_,_,rfl,D,u,B,C,(S.own _ m0).1.elim (fun h=>h) (fun h=>h.elim),fun c J=>Xa G (hM c J)⟩⟩⟩
 . have z:decide (gk γ.nodes l)=false:=decide_eq_false j
   simp only [BS,LB,ac,Nat.reduceLT,Nat.reduceEqDiff,z]
   exact⟨S.gr,.inl j⟩
theorem pF{h0:Hp}(a:h0.t.Sized h0.n){m N:Nat}{p:Value}{l:List Int}{R Q:Nat->List Int}(t:TabAt h0 m p N l R Q):bz zM 112 [p] h0 (.int .i64 N):=by
 have S:=Si a
 obtain⟨b,e,f,g,rfl,c,_⟩:=t.ex
 have d:=c.load1 (o:=0) rfl
 refine ab (n:=9) (rs:=[.tmp 2]) rfl Tryz.e112 rfl rfl rfl (lbt rfl) ?_
 simp only [BS,LB,ac,Nat.reduceLT,Nat.reduceEqDiff,F0V,d]
 exact S.gr
theorem mH{h0:Hp}(d:h0.t.Sized h0.n){m N:Nat}{p:Value}{l:List Int}{R Q:Nat->List Int}(t:TabAt h0 m p N l R Q)(a:l.length<1000):Ret zM 81 [p] h0 fun r h'=>Gr h0 h'/\au h' 1 (encI .i64) r l/\ ∀c,aq r c->h0.n<=c:=by
 have S:=Si d
 obtain⟨b,j,k,q,rfl,e,f,_⟩:=t.ex
 have i:=e.load1 (o:=1) rfl
 refine ab (n:=10) (rs:=[.tmp 2]) rfl Tryz.e81 rfl rfl rfl (lbt rfl) ?_
 simp only [BS,LB,Nat.reduceLT,Nat.reduceEqDiff,F0W,i]
 refine step_ret (jY S.ok (dh .i64) f (by omega)) ?_;intro v h ⟨g,sl,hc⟩;replace S:=S.call g;clear g
 simp only [BS,LB,ac,Nat.reduceLT,Nat.reduceEqDiff]
 exact⟨S.gr,sl,hc⟩
def iA(N n:Nat)(R:Nat->List Int)(i v:Int):Int:=if 0<=i/\i<n/\0<=v/\v<N then(R i.toNat).getD v.toNat 0 else 72057594037927936
theorem tos_ok{h0:Hp}(a:h0.t.Sized h0.n){m N:Nat}{p:Value}{l:List Int}{R Q:Nat->List Int}(t:TabAt h0 m p N l R Q):Ret zM 224 [p] h0 fun r h'=>Gr h0 h'/\ee h' m r l.length R:=by
 have S:=Si a
 obtain⟨b,e,f,g,rfl,c,_,L,_⟩:=t.ex
 have d:=c.load1 (o:=2) rfl
 refine ab (n:=7) (rs:=[.tmp 2]) rfl Tryz.e224 rfl rfl rfl (lbt rfl) ?_
 simp only [BS,LB,ac,Nat.reduceLT,Nat.reduceEqDiff,F0X,d]
 exact⟨S.gr,L⟩
theorem froms_ok{h0:Hp}(a:h0.t.Sized h0.n){m N:Nat}{p:Value}{l:List Int}{R Q:Nat->List Int}(t:TabAt h0 m p N l R Q):Ret zM 225 [p] h0 fun r h'=>Gr h0 h'/\ee h' m r l.length Q:=by
 have S:=Si a
 obtain⟨b,e,f,g,rfl,c,_,_,L,_⟩:=t.ex
 have d:=c.load1 (o:=3) rfl
 refine ab (n:=7) (rs:=[.tmp 2]) rfl Tryz.e225 rfl rfl rfl (lbt rfl) ?_
 simp only [BS,LB,ac,Nat.reduceLT,Nat.reduceEqDiff,F0Y,d]
 exact⟨S.gr,L⟩
theorem yj{h0:Hp}(y:h0.t.Sized h0.n){m N:Nat}{p:Value}{l:List Int}{R Q W:Nat->List Int}(t:TabAt h0 m p N l R Q){g:FuncId}(z: ∀h,Gr h0 h->Ret zM g [p] h fun r h'=>Gr h h'/\ee h' m r l.length W)(A: ∀i,i<l.length->(W i).length=N){i v:Int}:
 bz zM 223 [p,.func (.func g) #[p] #[],.int .i64 i,.int .i64 v] h0 (.int .i64 (iA N l.length W i v)):=by
 have S:=Si y
 obtain⟨b,H,I,J,rfl,s,e,_⟩:=t.ex
 have u:=s.load1 (o:=0) rfl
 have f:=s.load1 (o:=1) rfl
 unfold iA
 refine ab (n:=44) (rs:=[.tmp 8]) rfl Tryz.e223 rfl rfl rfl (lbt rfl) ?_
 by_cases a:i<0
 . rw [if_neg (by omega)]
   simp only [BS,LB,ac,Nat.reduceLT,Nat.reduceEqDiff,Fw,a]
   exact S.gr
 . by_cases j:(l.length:Int)<=i
   . rw [if_neg (by omega)]
     simp only [BS,LB,ac,Nat.reduceLT,Nat.reduceEqDiff,Fw,f,a,j,e.lenq]
     exact S.gr
   . by_cases q:v<0
     . rw [if_neg (by omega)]
       simp only [BS,LB,ac,Nat.reduceLT,Nat.reduceEqDiff,Fw,f,a,j,q,e.lenq]
       exact S.gr
     . by_cases x:(N:Int)<=v
       . rw [if_neg (by omega)]
         simp only [BS,LB,ac,Nat.reduceLT,Nat.reduceEqDiff,Fw,u,f,a,j,q,x,e.lenq]
         exact S.gr
       . rw [if_pos (by omega)]
         obtain⟨d,rfl⟩:=X7 (show 0<=i by omega)
         obtain⟨k,rfl⟩:=X7 (show 0<=v by omega)
         simp only [BS,LB,Nat.reduceLT,Nat.reduceEqDiff,Fw,u,f,a,j,q,x,e.lenq]
         refine step_ret (z _ S.gr) ?_;intro v h ⟨g,L⟩;replace S:=S.call g;clear g
         obtain⟨w,⟨c,o,B,C⟩,sw,_⟩:=L.row (i:=d) (by omega)
         have D:=A d (by omega)
         obtain⟨K,M,E,F⟩:=sw.ix (kd:=.i64) (dh .i64) (i:=k) (by omega)
         have G:(W d).getD k 0=(W d)[k]:=by simp [zN,show k<(W d).length by omega]
         simp only [BS,LB,ac,Nat.reduceLT,Nat.reduceEqDiff,Fw,B,C,E,F,encI,XX,G]
         exact S.gr
theorem yB{h0:Hp}(a:h0.t.Sized h0.n){m N:Nat}{p:Value}{l:List Int}{R Q:Nat->List Int}(t:TabAt h0 m p N l R Q)(b: ∀i,i<l.length->(R i).length=N){i v:Int}:bz zM 161 [p,.int .i64 i,.int .i64 v] h0 (.int .i64 (iA N l.length R i v)):=by
 have S:=Si a
 refine ab (n:=13) (rs:=[.tmp 6]) rfl Tryz.e161 rfl rfl rfl (lbt rfl) ?_
 simp only [BS,LB,Nat.reduceLT,Nat.reduceEqDiff]
 refine am (yj S.ok t (fun h g=>tos_ok g.ok (t.gr g)) b) ?_;intro h g;replace S:=S.call g;clear g
 simp only [BS,LB,ac,Nat.reduceLT,Nat.reduceEqDiff]
 exact S.gr
theorem ub{h0:Hp}(a:h0.t.Sized h0.n){m N:Nat}{p:Value}{l:List Int}{R Q:Nat->List Int}(t:TabAt h0 m p N l R Q)(b: ∀i,i<l.length->(Q i).length=N){i v:Int}:bz zM 163 [p,.int .i64 i,.int .i64 v] h0 (.int .i64 (iA N l.length Q i v)):=by
 have S:=Si a
 refine ab (n:=13) (rs:=[.tmp 6]) rfl Tryz.e163 rfl rfl rfl (lbt rfl) ?_
 simp only [BS,LB,Nat.reduceLT,Nat.reduceEqDiff]
 refine am (yj S.ok t (fun h g=>froms_ok g.ok (t.gr g)) b) ?_;intro h g;replace S:=S.call g;clear g
 simp only [BS,LB,ac,Nat.reduceLT,Nat.reduceEqDiff]
 exact S.gr
end Go.Ab
end
section
namespace Go.Ab
theorem St.growB{M:Nat->Prop}{h0 h:Hp}{L:List (Nat×Ob)}{G:List GL}(S:St M h0 h L G){E:Env}{t w e:TypeId}{f k m len b md:Nat}{y vs new:List Value}{x:Value}(B:Row h b vs md)(a:len*k=vs.length)(C:E.und t=some (.slice e))(D:eS E e f k y)(F:0<f)
 (q:dD E w=some false) (g:aM h k x=some (m,new)) (z:m*k=new.length) (H:0<m) (A:0<k) (r:(vs.length+new.length)*(f+1)<=70368744177664) {ts:List TypeId}:
 ∃h' v',cZ E h (t::w::ts) (.slice (some ⟨b,0,none⟩) len len) x=some (h',v')/\St M h0 h' L ((v',k,vs++new)::G):=by
 obtain⟨⟨i,I,rfl,rfl⟩,J,K⟩:=D
 obtain⟨p,el,j,d,s⟩:=B
 have l:Nat.ble (len+m) len=false:=by
  cases q:Nat.ble (len+m) len with
  |false=>rfl
  |true=>exact absurd (lbt q) (by omega)
 have o:len+m<=vs.length+new.length:=by
  rw [<-a,<-z]
  have H:=X8 len A
  have N:=X8 m A
  omega
 have c:(Nat.ble ((len+m)*(i.bytes+1)) 70368744177664&&Nat.blt 0 i.bytes)=true:=by
  rw [XE (Xa (XG _ o) r)]
  simp only [Bool.true_and]
  rw [Nat.blt_eq];exact F
 have u:Nat.beq y.length i.size=true:=by rw [K];exact Nat.beq_refl _
 have v:i6 p vs.length 0 (len*i.size) new=some (p.pushAll vs.length new,vs.length+new.length):=by
  unfold i6
  rw [a,Nat.beq_refl vs.length]
  rfl
 refine⟨h.new (.cells (p.pushAll vs.length new) (vs.length+new.length) e 1),.slice (some ⟨h.n,0,some i.size⟩) (len+m) (len+m),?_,S.newG (n:=len+m) ?_ ?_⟩
 . unfold cZ
   simp only [q]
   unfold jg
   simp only [C,I,g]
   unfold eZ
   rw [l]
   simp only [cond_false]
   rw [c,J]
   simp only [cond_true,u]
   unfold mD
   simp only [j,v]
 . rw [Nat.add_mul,a,z,XM]
 . refine⟨p.pushAll vs.length new,e,?_,?_,fun n=>?_⟩
   . rw [Hp.get_new _ _ S.ok,if_pos rfl,XM]
   . rw [XM];exact Tr.sized_pushAll _ d
   . rw [Tr.get_pushAll _ _ _ d,List.getElem?_append]
     split
     . exact s n
     . rfl
end Go.Ab

end
section
namespace Go.Ab
open Go.Proofs
set_option maxRecDepth 10000
def Tryz.F0j:=aj t1<|aj t2<|aj t3<|aj t4<|aj t33<|aj t51<|aj t59<|aj Z5<|aj t215<|t246
def Tryz.F0k:=aj t1<|aj t2<|aj t3<|aj t4<|aj t5<|aj t6<|aj t33<|aj t51<|aj t59<|Z5
theorem gL{h0:Hp}(a:h0.t.Sized h0.n){m N:Nat}{p:Value}{l:List Int}{R Q:Nat->List Int}(t:TabAt h0 m p N l R Q){v:Int}:bz zM 124 [p,.int .i64 v] h0 (.bool (decide (0<=v/\v<N))):=by
 have S:=Si a
 refine ab (n:=13) (rs:=[.tmp 4]) rfl Tryz.e124 rfl rfl rfl (lbt rfl) ?_
 by_cases c:0<=v
 . simp only [BS,LB,Nat.reduceLT,Nat.reduceEqDiff,c]
   refine am (pF S.ok (t.gr S.gr)) ?_;intro h g;replace S:=S.call g;clear g
   simp only [BS,LB,ac,Nat.reduceLT,Nat.reduceEqDiff]
   exact S.gr
 . simp only [BS,LB,ac,Nat.reduceLT,Nat.reduceEqDiff,c]
   exact⟨by simp,S.gr⟩
theorem wayTo_ok{h0:Hp}(b:h0.t.Sized h0.n){m N:Nat}{p:Value}{l:List Int}{R Q:Nat->List Int}(t:TabAt h0 m p N l R Q)(a: ∀i,i<l.length->(R i).length=N){i v w:Int}:
 bz zM 160 [.func (.func 161) #[p] #[],.func (.func 162) #[] #[],.int .i64 i,.int .i64 v,.int .i64 w] h0 (.int .i64 (lowD (iA N l.length R i v) (iA N l.length R i w))):=by
 have S:=Si b
 refine ab (n:=21) (rs:=[.tmp 10]) rfl Tryz.e160 rfl rfl rfl (lbt rfl) ?_
 simp only [BS,LB,Nat.reduceLT,Nat.reduceEqDiff]
 refine am (yB S.ok (t.gr S.gr) a) ?_;intro h g;replace S:=S.call g;clear g
 simp only [BS,LB,Nat.reduceLT,Nat.reduceEqDiff]
 refine am (yB S.ok (t.gr S.gr) a) ?_;intro h g;replace S:=S.call g;clear g
 simp only [BS,LB,Nat.reduceLT,Nat.reduceEqDiff]
 refine am (low_ok S.ok) ?_;intro h g;replace S:=S.call g;clear g
 simp only [BS,LB,ac,Nat.reduceLT,Nat.reduceEqDiff]
 exact S.gr
theorem wayFr_ok{h0:Hp}(b:h0.t.Sized h0.n){m N:Nat}{p:Value}{l:List Int}{R Q:Nat->List Int}(t:TabAt h0 m p N l R Q)(a: ∀i,i<l.length->(Q i).length=N){i v w:Int}:
 bz zM 160 [.func (.func 163) #[p] #[],.func (.func 164) #[] #[],.int .i64 i,.int .i64 v,.int .i64 w] h0 (.int .i64 (lowD (iA N l.length Q i w) (iA N l.length Q i v))):=by
 have S:=Si b
 refine ab (n:=21) (rs:=[.tmp 10]) rfl Tryz.e160 rfl rfl rfl (lbt rfl) ?_
 simp only [BS,LB,Nat.reduceLT,Nat.reduceEqDiff]
 refine am (ub S.ok (t.gr S.gr) a) ?_;intro h g;replace S:=S.call g;clear g
 simp only [BS,LB,Nat.reduceLT,Nat.reduceEqDiff]
 refine am (ub S.ok (t.gr S.gr) a) ?_;intro h g;replace S:=S.call g;clear g
 simp only [BS,LB,Nat.reduceLT,Nat.reduceEqDiff]
 refine am (lift_ok S.ok) ?_;intro h g;replace S:=S.call g;clear g
 simp only [BS,LB,ac,Nat.reduceLT,Nat.reduceEqDiff]
 exact S.gr
def mW(N n:Nat)(R Q:Nat->List Int)(i v w:Int):Int:=if(0<=v/\v<N)/\(0<=w/\w<N)/\0<=i/\i<n then max (lowD (iA N n R i v) (iA N n R i w)) (lowD (iA N n Q i w) (iA N n Q i v))else 0
theorem uS{h0:Hp}(f:h0.t.Sized h0.n){m N:Nat}{p:Value}{l:List Int}{R Q:Nat->List Int}(t:TabAt h0 m p N l R Q)(j: ∀i,i<l.length->(R i).length=N)(k: ∀i,i<l.length->(Q i).length=N)(d:l.length<1000){i v w:Int}:
 bz zM 85 [p,.int .i64 i,.int .i64 v,.int .i64 w] h0 (.int .i64 (mW N l.length R Q i v w)):=by
 have S:=Si f
 by_cases a:0<=v/\v<N
 . by_cases b:0<=w/\w<N
   . by_cases c:i<0
     . rw [show mW N l.length R Q i v w=0 from if_neg (by omega)]
       refine ab (n:=43) (rs:=[.tmp 8]) rfl Yb rfl rfl rfl (lbt rfl) ?_
       simp only [BS,LB,Nat.reduceLT,Nat.reduceEqDiff]
       refine am (gL S.ok (t.gr S.gr)) ?_;intro h g;replace S:=S.call g;clear g
       simp only [BS,LB,Nat.reduceLT,Nat.reduceEqDiff,a]
       refine am (gL S.ok (t.gr S.gr)) ?_;intro h g;replace S:=S.call g;clear g
       simp only [BS,LB,ac,Nat.reduceLT,Nat.reduceEqDiff,b,c]
       exact S.gr
     . by_cases e:(l.length:Int)<=i
       . rw [show mW N l.length R Q i v w=0 from if_neg (by omega)]
         refine ab (n:=43) (rs:=[.tmp 8]) rfl Yb rfl rfl rfl (lbt rfl) ?_
         simp only [BS,LB,Nat.reduceLT,Nat.reduceEqDiff]
         refine am (gL S.ok (t.gr S.gr)) ?_;intro h g;replace S:=S.call g;clear g
         simp only [BS,LB,Nat.reduceLT,Nat.reduceEqDiff,a]
         refine am (gL S.ok (t.gr S.gr)) ?_;intro h g;replace S:=S.call g;clear g
         simp only [BS,LB,Nat.reduceLT,Nat.reduceEqDiff,b,c]
         refine step_ret (mH S.ok (t.gr S.gr) d) ?_;intro v h ⟨g,slM,_⟩;replace S:=S.call g;clear g
         simp only [BS,LB,ac,Nat.reduceLT,Nat.reduceEqDiff,F0j,e,slM.lenq]
         exact S.gr
       . rw [show mW N l.length R Q i v w=max (lowD (iA N l.length R i v) (iA N l.length R i w)) (lowD (iA N l.length Q i w) (iA N l.length Q i v))from if_pos ⟨a,b,by omega,by omega⟩]
         refine ab (n:=43) (rs:=[.tmp 8]) rfl Yb rfl rfl rfl (lbt rfl) ?_
         simp only [BS,LB,Nat.reduceLT,Nat.reduceEqDiff]
         refine am (gL S.ok (t.gr S.gr)) ?_;intro h g;replace S:=S.call g;clear g
         simp only [BS,LB,Nat.reduceLT,Nat.reduceEqDiff,a]
         refine am (gL S.ok (t.gr S.gr)) ?_;intro h g;replace S:=S.call g;clear g
         simp only [BS,LB,Nat.reduceLT,Nat.reduceEqDiff,b,c]
         refine step_ret (mH S.ok (t.gr S.gr) d) ?_;intro v h ⟨g,slM,_⟩;replace S:=S.call g;clear g
         simp only [BS,LB,Nat.reduceLT,Nat.reduceEqDiff,F0j,e,slM.lenq]
         refine am (wayTo_ok S.ok (t.gr S.gr) j) ?_;intro h g;replace S:=S.call g;clear g
         simp only [BS,LB,Nat.reduceLT,Nat.reduceEqDiff]
         refine am (wayFr_ok S.ok (t.gr S.gr) k) ?_;intro h g;replace S:=S.call g;clear g
         simp only [BS,LB,ac,Nat.reduceLT,Nat.reduceEqDiff]
         exact S.gr
   . rw [show mW N l.length R Q i v w=0 from if_neg (fun h=>b h.2.1)]
     refine ab (n:=43) (rs:=[.tmp 8]) rfl Yb rfl rfl rfl (lbt rfl) ?_
     simp only [BS,LB,Nat.reduceLT,Nat.reduceEqDiff]
     refine am (gL S.ok (t.gr S.gr)) ?_;intro h g;replace S:=S.call g;clear g
     simp only [BS,LB,Nat.reduceLT,Nat.reduceEqDiff,a]
     refine am (gL S.ok (t.gr S.gr)) ?_;intro h g;replace S:=S.call g;clear g
     simp only [BS,LB,ac,Nat.reduceLT,Nat.reduceEqDiff,b]
     exact S.gr
 . rw [show mW N l.length R Q i v w=0 from if_neg (fun h=>a h.1)]
   refine ab (n:=43) (rs:=[.tmp 8]) rfl Yb rfl rfl rfl (lbt rfl) ?_
   simp only [BS,LB,Nat.reduceLT,Nat.reduceEqDiff]
   refine am (gL S.ok (t.gr S.gr)) ?_;intro h g;replace S:=S.call g;clear g
   simp only [BS,LB,ac,Nat.reduceLT,Nat.reduceEqDiff,a]
   exact S.gr
def j8(N n:Nat)(R Q:Nat->List Int)(v w:Int)(l:List Int):Int:=l.foldl (fun b i=>max b (mW N n R Q i v w)) 0
theorem xx{h0:Hp}(q:h0.t.Sized h0.n){m N:Nat}{p:Value}{l:List Int}{R Q:Nat->List Int}(t:TabAt h0 m p N l R Q)(r: ∀i,i<l.length->(R i).length=N)(s: ∀i,i<l.length->(Q i).length=N)(u:l.length<1000){e:Value}{a:List Int}(j:au h0 1 (encI .i64) e a)(x:a.length<1000){v w:Int}:
 bz zM 129 [p,e,.int .i64 v,.int .i64 w] h0 (.int .i64 (j8 N l.length R Q v w a)):=by
 have S:=Si q
 refine ab (n:=26) (rs:=[.tmp 8]) rfl Tryz.e129 rfl rfl rfl (lbt rfl) ?_
 simp only [BS,LB,Nat.reduceLT,Nat.reduceEqDiff,F0k,j.lenq]
 refine bL (fun(k:Nat) b h=>k<=a.length/\Gr h0 h/\b 0=p/\b 2=.int .i64 v/\b 3=.int .i64 w/\b 8=.int .i64 (j8 N l.length R Q v w (a.take k))/\b 11=e/\b 12=.int .i64 a.length/\b 13=.int .i64 k) (fun k=>a.length-k) ?_ 0 _ _ ?_
 . clear S
   intro k y b h ⟨hk,g0,r0,r2,r3,r8,r11,r12,r13⟩
   have z:an .i64 ((k:Int)+1)=((k+1:Nat):Int):=by rw [wrap64]<;>omega
   by_cases hlt:k<a.length
   . obtain⟨c,o,d,f⟩:=(j.gr g0).ix (kd:=.i64) (dh .i64) hlt
     simp only [BS,LB,Nat.reduceLT,Nat.reduceEqDiff,F0k,r0,r2,r3,r8,r11,r12,r13,aK,hlt,d,f,encI]
     refine am (uS g0.ok (t.gr g0) r s u) ?_
     intro h g
     simp only [BS,LB,Nat.reduceLT,Nat.reduceEqDiff,r13,z]
     refine y (k+1) _ _ (by omega) ⟨by omega,g0.trans g,by simp [aa,r0],by simp [aa,r2],by simp [aa,r3],?_,by simp [aa,r11],by simp [aa,r12],by simp [aa]⟩
     rw [XR hlt]
     unfold j8
     rw [List.foldl_append]
     simp [aa]
   . simp only [BS,LB,ac,Nat.reduceLT,Nat.reduceEqDiff,r8,r12,r13,aK,hlt]
     rw [Xy (by omega)]
     exact⟨rfl,g0⟩
 . exact⟨XS _,S.gr,by simp [aa,aZ],by simp [aa,aZ,cG],by simp [aa,aZ,cG],by simp [aa,j8],by simp [aa],by simp [aa],by simp [aa]⟩
theorem yW(B:List Arc)(N s:Nat):(rowD B N s).length=N:=by simp [rowD]
end Go.Ab
end
section
namespace Go.Ab
end Go.Ab

end
section
namespace Go.Ab
structure Ev2 where
 kind:Nat
 side:Bool
 id:Nat
 lab:Nat
structure Sd where
 K:Nat->Option Int
 L:Nat->Option Nat
 P:Nat->List Nat
 O:List Nat
structure Bi where
 sd:Bool->Sd
 ev:List Ev2
 dist:Nat
 meet:Nat
def fsB(i:Bool):Arc->Nat:=if i then Arc.t else Arc.s
def ftB(i:Bool):Arc->Nat:=if i then Arc.s else Arc.t
def qB(pi:Nat->Int)(i:Bool)(v:Nat):Int:=if i then-pi v else pi v
def OpB(pi:Nat->Int)(v:Nat):Prop:= -(FAR:Int)<pi v/\pi v<(FAR:Int)
instance (pi:Nat->Int)(v:Nat):Decidable (OpB pi v):=by unfold OpB;infer_instance
def cQ(f:Bool->Sd)(i:Bool)(x:Sd):Bool->Sd:=fun j=>if j=i then x else f j
def leO(o:Option Nat)(lab:Nat):Bool:=match o with
 |some w=>decide (w<=lab)
 |none=>false
def nJ(o:Option Nat)(σ:Bi)(v lab:Nat):Bi:=match o with
 |some m=>if lab+m<σ.dist then⟨σ.sd,σ.ev,lab+m,v⟩else σ
 |none=>σ
def dv(pi:Nat->Int)(x:Sd)(i:Bool)(v lab:Nat)(p:List Nat):Sd:=⟨cE x.K v (some (2*lab+qB pi i v)),fun u=>if u=v then some lab else x.L u,updP x.P v p,x.O⟩
def bW(pi:Nat->Int)(i:Bool)(σ:Bi)(v lab:Nat)(p:List Nat):Bi:=
 if v∈(σ.sd i).O\/ ¬OpB pi v\/leO ((σ.sd i).L v) lab=true then σ else nJ ((σ.sd (!i)).L v) ⟨cQ σ.sd i (dv pi (σ.sd i) i v lab p),σ.ev,σ.dist,σ.meet⟩ v lab
def jT(σ:Bi)(i:Bool)(v:Nat):Nat:=((σ.sd i).L v).getD 0
def evB(σ:Bi)(e:Ev2):Bi:=⟨σ.sd,σ.ev++[e],σ.dist,σ.meet⟩
def aW(σ:Bi)(i:Bool)(v:Nat):Bi:=⟨cQ σ.sd i ⟨cE (σ.sd i).K v none,(σ.sd i).L,(σ.sd i).P,(σ.sd i).O++[v]⟩,σ.ev++[⟨0,i,v,jT σ i v⟩],σ.dist,σ.meet⟩
def cF(A:List Arc)(al:Nat->Bool)(pi:Nat->Int)(i:Bool)(v:Nat)(σ:Bi)(a:Nat):Bi:=
 if al a=true then bW pi i (evB σ ⟨1,i,a,0⟩) (ftB i (A.getD a default)) (jT σ i v+(A.getD a default).w) (a::(σ.sd i).P v)else σ
def eo(A:List Arc)(al:Nat->Bool)(pi:Nat->Int)(i:Bool)(v:Nat)(σ:Bi):Bi:=(outs A (fsB i) A.length v).foldl (cF A al pi i v) σ
def fV:Sd:=⟨fun _=>none,fun _=>none,fun _=>[],[]⟩
def jq(pi:Nat->Int)(s t:Nat):Bi:=bW pi true (bW pi false ⟨fun _=>fV,[],FAR,0⟩ s 0 []) t 0 []
def StopB(σ:Bi):Prop:=(∃i,∀v,(σ.sd i).K v=none)\/ ∃v k u l,iV (σ.sd false).K v k/\iV (σ.sd true).K u l/\2*(σ.dist:Int)<=k+l
def TurnB(σ:Bi)(i:Bool):Prop:= ∃v k u l,iV (σ.sd false).K v k/\iV (σ.sd true).K u l/\k+l<2*(σ.dist:Int)/\i=decide (l<k)
inductive iW(A:List Arc)(al:Nat->Bool)(pi:Nat->Int):Bi->Bi->Prop where
 |stop {σ:Bi}:StopB σ->iW A al pi σ σ
 |step {σ τ:Bi} {i:Bool} {v:Nat} {k:Int}:TurnB σ i->iV (σ.sd i).K v k->iW A al pi (eo A al pi i v (aW σ i v)) τ->iW A al pi σ τ
theorem du{f:Bool->Sd}{i:Bool}{x:Sd}:cQ f i x i=x:=if_pos rfl
theorem kj{f:Bool->Sd}{i:Bool}{x:Sd}:cQ f i x (!i)=f (!i):=if_neg (by cases i<;>decide)
theorem uU{f:Bool->Sd}{i j:Bool}{x:Sd}(h:j≠i):cQ f i x j=f j:=if_neg h
theorem mg{o:Option Nat}{σ:Bi}{v lab:Nat}:(nJ o σ v lab).sd=σ.sd/\(nJ o σ v lab).ev=σ.ev:=by
 unfold nJ
 split
 . split<;>exact⟨rfl,rfl⟩
 . exact⟨rfl,rfl⟩
section
variable{A:List Arc}{N:Nat}{al:Nat->Bool}{pi:Nat->Int}{σ:Bi}{rt:Bool->Nat}
structure SvB(A:List Arc)(N r:Nat)(al:Nat->Bool)(pi:Nat->Int)(i:Bool)(x:Sd):Prop where
 nd:x.O.Nodup
 lt: ∀v∈x.O,v<N/\x.L v≠none
 op: ∀v k,x.K v=some k->v∉x.O/\ ∃l,x.L v=some l/\k=2*(l:Int)+qB pi i v
 lab: ∀v l,x.L v=some l->v<N/\OpB pi v/\l<=x.O.length*bO/\(x.P v).length<=x.O.length/\(v∈x.O\/x.K v≠none)
 path: ∀v l,x.L v=some l->(v=r/\x.P v=[]/\l=0)\/ ∃a m,a<A.length/\al a=true/\ftB i (A.getD a default)=v/\fsB i (A.getD a default)∈x.O/\x.P v=a::x.P (fsB i (A.getD a default))/\x.L (fsB i (A.getD a default))=some m/\l=m+(A.getD a default).w
structure BiI(A:List Arc)(N:Nat)(rt:Bool->Nat)(al:Nat->Bool)(pi:Nat->Int)(σ:Bi):Prop where
 sv: ∀i,SvB A N (rt i) al pi i (σ.sd i)
 dm:(σ.dist=FAR/\ ∀i v x,(σ.sd i).L v=some x->(σ.sd (!i)).L v=none)\/(∀i,∃x y,(σ.sd i).L σ.meet=some x/\(σ.sd (!i)).L σ.meet=some y/\σ.dist=x+y)
 le: ∀i v x y,(σ.sd i).L v=some x->(σ.sd (!i)).L v=some y->σ.dist<=x+y
theorem SvB.len{r:Nat}{i:Bool}{x:Sd}(h:SvB A N r al pi i x):x.O.length<=N:=oG N x.O h.nd (fun v a=>(h.lt v a).1)
theorem me{i j:Bool}(h:j≠i):j= !i:=by cases i<;>cases j<;>first|rfl|exact absurd rfl h
theorem not_ne{i:Bool}:(!i)≠i:=by cases i<;>decide
theorem SvB.put{r v lab:Nat}{b:Bool}{x:Sd}{p:List Nat}(h:SvB A N r al pi b x)(D:v∉x.O)(q:OpB pi v)(H:v<N)(I:lab<=x.O.length*bO)(J:p.length<=x.O.length)
 (g:(v=r/\p=[]/\lab=0)\/ ∃a m,a<A.length/\al a=true/\ftB b (A.getD a default)=v/\fsB b (A.getD a default)∈x.O/\p=a::x.P (fsB b (A.getD a default))/\x.L (fsB b (A.getD a default))=some m/\lab=m+(A.getD a default).w):
 SvB A N r al pi b (dv pi x b v lab p):=by
 have i: ∀{u},u∈x.O->u≠v:=fun j e=>D (e▸j)
 have f: ∀{u},u≠v->(dv pi x b v lab p).L u=x.L u:=fun h=>if_neg h
 have E: ∀{u},u≠v->(dv pi x b v lab p).K u=x.K u:=fun h=>if_neg h
 have n: ∀{u},u≠v->(dv pi x b v lab p).P u=x.P u:=fun h=>if_neg h
 have s:(dv pi x b v lab p).L v=some lab:=if_pos rfl
 have F:(dv pi x b v lab p).K v=some (2*(lab:Int)+qB pi b v):=if_pos rfl
 have G:(dv pi x b v lab p).P v=p:=if_pos rfl
 refine⟨h.nd,fun u j=>⟨(h.lt u j).1,by rw [f (i j)];exact(h.lt u j).2⟩,fun u k o=>?_,fun u l c=>?_,fun u l c=>?_⟩
 . by_cases e:u=v
   . subst e;rw [F]at o;cases o;exact⟨D,lab,s,rfl⟩
   . rw [E e]at o;rw [f e];exact h.op u k o
 . by_cases e:u=v
   . subst e;rw [s]at c;cases c
     exact⟨H,q,I,by rw [G];exact J,.inr (by rw [F];nofun)⟩
   . rw [f e]at c;rw [E e,n e];exact h.lab u l c
 . by_cases e:u=v
   . subst e;rw [s]at c;cases c
     rw [G]
     rcases g with g|⟨a,m,t,w,y,d,z,B,C⟩
     . exact .inl g
     . exact .inr ⟨a,m,t,w,y,d,by rw [n (i d)];exact z,by rw [f (i d)];exact B,C⟩
   . rw [f e]at c;rw [n e]
     rcases h.path u l c with g|⟨a,m,t,w,y,d,z,B,C⟩
     . exact .inl g
     . exact .inr ⟨a,m,t,w,y,d,by rw [n (i d)];exact z,by rw [f (i d)];exact B,C⟩
theorem BiI.reach {b:Bool} {v lab:Nat} {p:List Nat} (s:N<=12) (h:BiI A N rt al pi σ) (M:v<N) (O:lab<=(σ.sd b).O.length*bO) (Q:p.length<=(σ.sd b).O.length)
 (R:(v=rt b/\p=[]/\lab=0)\/ ∃a m,a<A.length/\al a=true/\ftB b (A.getD a default)=v/\fsB b (A.getD a default)∈(σ.sd b).O/\p=a::(σ.sd b).P (fsB b (A.getD a default))/\(σ.sd b).L (fsB b (A.getD a default))=some m/\lab=m+(A.getD a default).w):
 BiI A N rt al pi (bW pi b σ v lab p):=by
 unfold bW
 split
 . exact h
 . rename_i I
   simp only [not_or,Decidable.not_not]at I
   obtain⟨S,G,hle⟩:=I
   have w: ∀i,SvB A N (rt i) al pi i (cQ σ.sd b (dv pi (σ.sd b) b v lab p) i):=fun i=>by
    by_cases e:i=b
    . subst e;rw [du];exact(h.sv i).put S G M O Q R
    . rw [uU e];exact h.sv i
   have k: ∀u,(cQ σ.sd b (dv pi (σ.sd b) b v lab p) (!b)).L u=(σ.sd (!b)).L u:=fun u=>by rw [kj]
   have F:(cQ σ.sd b (dv pi (σ.sd b) b v lab p) b).L v=some lab:=by rw [du];exact if_pos rfl
   have r: ∀{u},u≠v->(cQ σ.sd b (dv pi (σ.sd b) b v lab p) b).L u=(σ.sd b).L u:=fun {u} e=>by rw [du];exact if_neg e
   -- the smaller facts, for side b and its opposite
   have T:=h.sv b
   have U:=jK
   have Y:=kP
   have z: ∀{i u l},(σ.sd i).L u=some l->l<=12*bO:=fun {i u l} V=>by
    have o:=((h.sv i).lab u l V).2.2.1
    have g:=XG bO (Xa (h.sv i).len s)
    omega
   have J:lab<=12*bO:=by
    have g:=XG bO (Xa T.len s)
    omega
   have j: ∀{P:Bool->Prop},P b->P (!b)-> ∀i,P i:=fun {P} W X i=>by
    by_cases e:i=b
    . subst e;exact W
    . rw [me e];exact X
   have n:(!(!b))=b:=by cases b<;>rfl
   cases q:(σ.sd (!b)).L v with
   | none =>
     unfold nJ
     simp only []
     refine⟨w,?_,?_⟩
     . rcases h.dm with⟨K,H⟩|d
       . refine .inl ⟨K,j (P:=fun i=> ∀u x,(cQ σ.sd b (dv pi (σ.sd b) b v lab p) i).L u=some x->(cQ σ.sd b (dv pi (σ.sd b) b v lab p) (!i)).L u=none) (fun u x c=>?_) (fun u x c=>?_)⟩
         . rw [k]
           by_cases e:u=v
           . subst e;exact q
           . rw [r e]at c;exact H b u x c
         . rw [k]at c
           rw [n]
           by_cases e:u=v
           . subst e;rw [q]at c;cases c
           . rw [r e];have:=H (!b) u x c;rwa [n]at this
       . have B:σ.meet≠v:=fun e=>by
          obtain⟨x,y,_,g,_⟩:=d b
          rw [e,q]at g;cases g
         refine .inr (j (P:=fun i=> ∃x y,(cQ σ.sd b (dv pi (σ.sd b) b v lab p) i).L σ.meet=some x/\(cQ σ.sd b (dv pi (σ.sd b) b v lab p) (!i)).L σ.meet=some y/\σ.dist=x+y) ?_ ?_)
         . obtain⟨x,y,o,g,t⟩:=d b
           exact⟨x,y,by rw [r B];exact o,by rw [k];exact g,t⟩
         . obtain⟨x,y,o,g,t⟩:=d (!b)
           rw [n]at g
           exact⟨x,y,by rw [k];exact o,by rw [n,r B];exact g,t⟩
     . refine j (P:=fun i=> ∀u x y,(cQ σ.sd b (dv pi (σ.sd b) b v lab p) i).L u=some x->(cQ σ.sd b (dv pi (σ.sd b) b v lab p) (!i)).L u=some y->σ.dist<=x+y) (fun u x y c f=>?_) (fun u x y c f=>?_)
       . rw [k]at f
         by_cases e:u=v
         . subst e;rw [q]at f;cases f
         . rw [r e]at c;exact h.le b u x y c f
       . rw [k]at c
         rw [n]at f
         by_cases e:u=v
         . subst e;rw [q]at c;cases c
         . rw [r e]at f;exact h.le (!b) u x y c (by rw [n];exact f)
   | some m =>
     have Z:=z q
     have L: ∀{i:Bool} {u x y:Nat},(cQ σ.sd b (dv pi (σ.sd b) b v lab p) i).L u=some x->(cQ σ.sd b (dv pi (σ.sd b) b v lab p) (!i)).L u=some y->(u=v/\x+y=lab+m)\/(u≠v/\σ.dist<=x+y):=fun {i u x y} c f=>by
      by_cases e:u=v
      . subst e
        refine .inl ⟨rfl,?_⟩
        by_cases C:i=b
        . subst C;rw [F]at c;rw [k,q]at f;cases c;cases f;rfl
        . rw [me C]at c f
          rw [k,q]at c;rw [n,F]at f;cases c;cases f;exact X6 _ _
      . refine .inr ⟨e,?_⟩
        by_cases C:i=b
        . subst C;rw [r e]at c;rw [k]at f;exact h.le i u x y c f
        . rw [me C]at c f
          rw [k]at c;rw [n,r e]at f
          exact h.le (!b) u x y c (by rw [n];exact f)
     unfold nJ
     simp only []
     split
     . rename_i hlt
       refine⟨w,.inr (j (P:=fun i=> ∃x y,(cQ σ.sd b (dv pi (σ.sd b) b v lab p) i).L v=some x/\(cQ σ.sd b (dv pi (σ.sd b) b v lab p) (!i)).L v=some y/\lab+m=x+y) ⟨lab,m,F,by rw [k];exact q,rfl⟩ ⟨m,lab,by rw [k];exact q,by rw [n];exact F,X6 _ _⟩),fun i u x y c f=>?_⟩
       have hlt:lab+m<σ.dist:=hlt
       show lab+m<=x+y
       rcases L c f with⟨_,h⟩|⟨_,h⟩<;>omega
     . rename_i D
       have D: ¬lab+m<σ.dist:=D
       have E: ∀x,(σ.sd b).L v=some x->lab<x:=fun x c=>by
        rw [c]at hle
        simp only [leO,decide_eq_true_eq]at hle
        omega
       refine⟨w,?_,fun i u x y c f=>?_⟩
       . rcases h.dm with⟨K,H⟩|d
         . omega
         . have B:σ.meet≠v:=fun e=>by
            obtain⟨x,y,o,g,t⟩:=d b
            rw [e]at o g
            rw [q]at g;cases g
            have:=E x o
            omega
           refine .inr (j (P:=fun i=> ∃x y,(cQ σ.sd b (dv pi (σ.sd b) b v lab p) i).L σ.meet=some x/\(cQ σ.sd b (dv pi (σ.sd b) b v lab p) (!i)).L σ.meet=some y/\σ.dist=x+y) ?_ ?_)
           . obtain⟨x,y,o,g,t⟩:=d b
             exact⟨x,y,by rw [r B];exact o,by rw [k];exact g,t⟩
           . obtain⟨x,y,o,g,t⟩:=d (!b)
             rw [n]at g
             exact⟨x,y,by rw [k];exact o,by rw [n,r B];exact g,t⟩
       . show σ.dist<=x+y
         rcases L c f with⟨_,h⟩|⟨_,h⟩<;>omega
end
end Go.Ab

end
section
namespace Go.Ab
open Go.Proofs
set_option maxRecDepth 10000
def Tryz.F9:=aj t1<|aj t2<|aj t3<|aj t4<|aj t5<|aj t6<|aj Z3<|aj Z4<|aj t9<|aj t10<|aj t11<|aj t12<|aj Z12<|aj Z15<|aj t15<|aj t16<|aj t17<|aj Z20<|aj t22<|aj t23<|aj t24<|aj t26<|aj r26<|aj t29<|aj Z0<|aj t32<|aj t33<|aj t36<|aj t38<|aj r38<|aj t41<|aj Z2<|aj t181<|aj t189<|aj Z1<|aj t271<|aj t358<|aj Z16<|aj t372<|aj t374<|aj t376<|aj t377<|aj t378<|aj t379<|Z13
theorem slice1{E:Env}{t e:TypeId}(c:E.und t=some (.slice e))(d:E.sz e=some 1){b n:Nat}(g:1<n):dZ E t (.slice (some ⟨b,0,some 1⟩) n n) (some (.int .i64 1)) none none=some (.slice (some ⟨b,1,some 1⟩) (n-1) (n-1)):=by
 have a:gf 1=some 1:=rfl
 have f:Nat.beq n 1=false:=by
  cases n with
  |zero=>omega
  | succ n=>cases n with
    |zero=>omega
    |succ n=>rfl
 simp only [dZ,c,ez,eC,a,d,XN,cond_false,XE (show 1<=n by omega),XE (XP n),XE (show(1:Nat)<=n by omega),cond_true,f]
 rfl
theorem sl_drop1{E:Env}{t e:TypeId}(j:E.und t=some (.slice e))(k:E.sz e=some 1){h:Hp}{v:Value}{l:List Int}(g:fL h (v,1,ints l))(m:1<l.length): ∃d,dZ E t v (some (.int .i64 1)) none none=some d/\au h 1 (encI .i64) d (l.drop 1)/\ ∀c,aq d c->aq v c:=by
 rcases g with⟨_,a⟩|⟨b,n,f,a,i⟩
 . simp only []at a
   have q:l.length=0:=by have:=congrArg List.length a;rwa [cC]at this
   omega
 . simp only []at f a i
   subst f
   rw [cC,Xx]at a
   subst a
   refine⟨_,slice1 j k m,.inr ⟨b,1,some 1,l.length-1,by rw [Xj],by rw [Xj];omega,?_⟩,fun c o=>o⟩
   rw [i.load (by rw [cC,Xj];omega),Xj]
   have p:(ints l).drop 1=ints (l.drop 1):=by rw [s9,s9,List.map_drop]
   rw [p,Xy (by rw [cC,Xj];omega)]
   rfl
theorem gk.drop1{N:Nat}{l:List Int}(h:gk N l):gk N (l.drop 1):=by
 refine⟨by rw [Xj];have:=h.1;omega,fun i b=>?_⟩
 rw [Xj]at b
 have e:(l.drop 1).getD i 0=l.getD (i+1) 0:=by
  rw [zN,zN,List.getElem?_drop,X6]
 have:=h.2 (i+1) (by omega)
 rw [e]
 refine⟨this.1,this.2.1,fun a=>this.2.2 ?_⟩
 rw [List.take_drop]at a
 have:=List.mem_of_mem_drop a
 rwa [X6 1 i]at this
theorem made20_ok {h0:Hp} (ok:h0.t.Sized h0.n) {vB vM vN:Value} {xf xt xa:Int} {B L:List Int} (hB:SlW h0 .u8 vB B) (X:SlW h0 .u8 vM L) (be: ∀x∈L,0<=x/\x<=255) (fN:Fl vN):
 Ret zM 8 [.agg ⟨[vB,vM,.int .u8 xf,.int .u8 xt,.int .i8 xa,vN]⟩] h0 fun r h'=>Gr h0 h'/\ ∃γ M O P W nb z l,r=.tuple #[iF γ M O P,ptrTo W,z]/\Good γ/\dr h' M O P γ/\bI h' nb (ptrTo W) γ/\au h' 1 (encI .i64) z l/\gk γ.nodes l/\1<=l.length/\l.length<=7/\γ.nodes=1+drV (B.take (min B.length 80)) 12 0/\h0.n<=nb/\ ∀c,aq z c->h0.n<=c:=by
 have S:=Si ok
 have fB:=hB.sl.fl
 have fM:=X.sl.fl
 have mn:min (B.length:Int) 80=((min B.length 80:Nat):Int):=by omega
 obtain⟨a1,bf,sB,bB⟩:=hB.low (kd':=.i64) (n:=min B.length 80) Tryz.t22.1 Tryz.t5.2.2.1 (Nat.min_le_left _ _)
 have bh:=sB.fl
 refine ab (n:=90) (rs:=[.cell 2 31,.tmp 3,.tmp 4]) rfl Tryz.e8 rfl rfl rfl (lbt rfl) ?_
 simp only [BS,Nat.reduceLT]
 refine ae (aS (by intro x e;cases e)) S ?_;clear S;intro h y S br;simp only [ah]at S
 simp only [BS,F9]
 refine ae aA S ?_;clear S;intro h A S bv
 simp only [BS,LB,Nat.reduceLT,Nat.reduceEqDiff,Nat.reduceAdd,XK,XL,F9,hB.sl.lenq,mn,bf,bh,S.ld (b:=y) (o:=0) m1 rfl]
 refine ae (aS (by intro x e;cases e)) S ?_;clear S;intro h bd S a2;simp only [ah]at S
 have bi:au h 1 (encI .u8) a1 (B.take (min B.length 80)):=sB.gr S.gr
 have nB: ¬aq a1 bd:=fun a=>by have:=sB.lt ok a;omega
 have bk:(B.take (min B.length 80)).length<1000000:=by rw [List.length_take];omega
 simp only [BS,LB,Nat.reduceLT,Nat.reduceEqDiff]
 have k0:=S.fr.n
 have ap:=S.apart
 simp only [keys,Xk,Xv,Xi,Xr,XJ,Xf,Xd,or_false,not_or]at ap
 have bX:=(S.row (b:=A) m1).lt S.ok
 have bY:=(S.row (b:=y) m2).lt S.ok
 refine step_ret (raw0_ok S.ok (S.row m0) ⟨bi,nB,bk,by omega⟩) ?_
 rintro v h ⟨f,γ,M,O,P,rfl,J,eN,ga,hz⟩
 have gz: ∀c,(aq M c\/aq O c\/aq P c)->c≠y/\c≠A/\c<h.n:=fun c a=>⟨by have:=hz c a;omega,by have:=hz c a;omega,a.elim (ga.X.blt f.ok) (fun h=>h.elim (ga.Y.blt f.ok) (ga.A.blt f.ok))⟩
 replace S:=S.drop1.step f (fun c a=>by subst a;exact .inr a2) (fun c a e=>by simp [keys]at a;omega)
 have fx:=ga.X.fl
 have fy:=ga.Y.fl
 have fa:=ga.A.fl
 have n1:=J.n1
 have n2:=J.n2
 have gS:=S.gr
 have S0:=S
 replace S:=S.base
 simp only [BS,F9,iF]
 refine ae aA S ?_;clear S;intro h D S bx
 simp only [BS,LB,Nat.reduceLT,Nat.reduceEqDiff]
 refine az (S.store (i:=0) rfl Tryz.t31.2.1 (by intro x e;cases e) rfl (by simp only [ah,Xw,XD,fx.2.1,fy.2.1,fa.2.1,Xl];rfl) (lbt rfl) ono) ?_
 clear S;rintro h ⟨S,mo⟩
 simp only [LC,ah,lay,Xm,Xn,Nat.reduceAdd]at S
 have K:=ga.mo S.fr (fun c a H=>by have:=hz c a;simp [keys]at H;omega)
 simp only [BS,LB,Nat.reduceLT,Nat.reduceEqDiff,F9,XO,Yd,List.take_zero,S.lds (b:=D) (o:=0) (n:=4) m0 (lbt rfl)]
 have q6:=(S.row (b:=D) m0).lt S.ok
 have q2:=(S.row (b:=A) m1).lt S.ok
 have q1:=(S.row (b:=y) m2).lt S.ok
 have kN:h0.n<=h.n:=by have:=gS.n;have:=S.fr.n;omega
 refine step_ret (netNew_ok S.ok J K) ?_
 rintro v h ⟨p,rfl,g,hp⟩
 replace S:=S.call g
 replace K:=K.gr g
 clear g
 obtain⟨W,rfl⟩: ∃b,p=ptrTo b:=by obtain⟨b,_,_,_,_,_,e,_⟩:=hp.ex;exact⟨b,e⟩
 replace S:=S0.rebase S
 have R:=S.gr
 have b0:=S.ok
 clear S0
 replace S:=S.base
 simp only [LC,keys,Xk,Xv,Xi]at S
 rename Hp=>hC0
 simp only [BS,LB,Nat.reduceLT,Nat.reduceEqDiff,F9]
 refine ae (co (by exact Tryz.t33.1) (by exact XF) (by decide) (by rfl)) S ?_;clear S;intro h Q S bF;simp only [LC,bA,bS,ah,Nat.reduceMul,Nat.reduceAdd,XB,XC,Xx,XI]at S
 simp only [BS,LB,Nat.reduceLT,Nat.reduceEqDiff,F9,S.ld (b:=D) (o:=0) m1 rfl]
 refine ae (pQ (by exact Tryz.t33.1) (by exact XF) (by omega) (by omega)) S ?_;clear S;intro h bs S bP
 rw [XX,qi,show Xt γ.nodes (Value.int .i64 0)=(Xb γ.nodes).map fun v=>Value.int .i64 (((fun _=>0:Nat->Nat) v:Nat):Int)from by rw [List.map_const',Xz];rfl]at S
 have i0:fU (.int .i64 0) γ.nodes=some 0:=ir (i:=0) (by omega)
 have a3:=S.ld (b:=bs) (o:=0) m0 (kM (F:=fun v=>Value.int .i64 (((fun _=>0:Nat->Nat) v:Nat):Int)) (show 0<γ.nodes by omega))
 have w0:an .i64 ((((fun _=>0:Nat->Nat) 0:Nat):Int)+1)=((1:Nat):Int):=rfl
 simp only [BS,LB,Nat.reduceLT,Nat.reduceEqDiff,Int.reduceAdd,Xe,F9,XX,i0,a3]
 refine az (aC S (i:=0) rfl Tryz.t3.2.2.1 aY (by simp;omega) ono) ?_
 clear S a3;rintro h ⟨S,_⟩
 simp only [LC]at S
 have bl: ∀c,aq vM c->c<h0.n:=fun c a=>X.sl.lt ok a
 have nb: ∀c,c<h0.n-> ¬c∈[D,A,y]:=fun c a H=>by
  simp only [Xf,Xd,or_false]at H
  have:=gS.n
  omega
 have T: ∀c,c∈[D,A,y]->h0.n<=c:=fun c H=>by
  simp only [Xf,Xd,or_false]at H
  have:=gS.n
  omega
 have af: ∀c,(aq M c\/aq O c\/aq P c)-> ¬c∈[D,A,y]:=fun c a H=>by
  have:=gz c a
  simp only [Xf,Xd,or_false]at H
  omega
 have a4:((Xb γ.nodes).map fun v=>Value.int .i64 ((0:Nat):Int)).set 0 (.int .i64 (an .i64 1))=(Xb γ.nodes).map fun u=>Value.int .i64 (((if u=0 then 1 else 0:Nat):Nat):Int):=by
  have:=lU (N:=γ.nodes) (k:=0) (F:=fun v=>Value.int .i64 ((0:Nat):Int)) (F':=fun u=>Value.int .i64 (((if u=0 then 1 else 0:Nat):Nat):Int)) (fun u _ hu=>by simp [hu])
  rw [<-this];rfl
 rw [a4]at S
 simp only [BS]
 refine kz (fun C h'=> ∃(z:Value) (l:List Int) (cs:List Value) (G:List GL),St (· ∈[D,A,y]) hC0 h' [(bs,.row cs 1),(Q,.row [.int .i64 0] 1),(D,.row [.int .i64 γ.nodes,M,O,P] 1),(A,.row [.int .i64 0,.slice none 0 0,.slice none 0 0,.slice none 0 0] 1),(y,.row [vB,vM,.int .u8 xf,.int .u8 xt,.int .i8 xa,vN] 1)] G/\((G=[]/\z=.slice (some ⟨Q,0,none⟩) 1 1/\l=[0])\/G=[(z,1,ints l)])/\gk γ.nodes l/\1<=l.length/\l.length<=7/\C 1=ptrTo y/\C 2=ptrTo A/\C 6=ptrTo D/\C 7=ptrTo W/\C 9=z)
  (fun(i:Nat) C h'=>i<=L.length/\i<=6/\ ∃(z:Value) (l:List Int) (s:Nat->Nat) (G:List GL),St (· ∈[D,A,y]) hC0 h' [(bs,.row ((Xb γ.nodes).map fun v=>.int .i64 ((s v:Nat):Int)) 1),(Q,.row [.int .i64 0] 1),(D,.row [.int .i64 γ.nodes,M,O,P] 1),(A,.row [.int .i64 0,.slice none 0 0,.slice none 0 0,.slice none 0 0] 1),(y,.row [vB,vM,.int .u8 xf,.int .u8 xt,.int .i8 xa,vN] 1)] G/\((G=[]/\z=.slice (some ⟨Q,0,none⟩) 1 1/\l=[0])\/G=[(z,1,ints l)])/\gk γ.nodes l/\1<=l.length/\l.length<=i+1/\(∀v,v<γ.nodes->s v<=i+1/\(s v=0↔(v:Int)∉l))/\
    C 1=ptrTo y/\C 2=ptrTo A/\C 6=ptrTo D/\C 7=ptrTo W/\C 9=z/\C 10=.slice (some ⟨bs,0,none⟩) γ.nodes γ.nodes/\C 11=.int .i64 i) (fun i=>L.length-i) ?_ ?_ 0 ?_
 . clear S
   intro i ih C h' ⟨hi,hi6,z,l,s,G,S,hG,hl,hl1,hli,a,r1,r2,r6,r7,r9,r10,r11⟩
   have a5:=(X.sl.gr R).mo S.fr (fun c a=>nb c (bl c a))
   have ai: ∀(n:Nat) (d:List Deferred) (rc:Option (Value×Bool)) (I:Nat->Value),I 1=ptrTo y->I 2=ptrTo A->I 6=ptrTo D->I 7=ptrTo W->I 9=z->JP n d rc (fun C h'=> ∃(z:Value) (l:List Int) (cs:List Value) (G:List GL),St (· ∈[D,A,y]) hC0 h' [(bs,.row cs 1),(Q,.row [.int .i64 0] 1),(D,.row [.int .i64 γ.nodes,M,O,P] 1),(A,.row [.int .i64 0,.slice none 0 0,.slice none 0 0,.slice none 0 0] 1),(y,.row [vB,vM,.int .u8 xf,.int .u8 xt,.int .i8 xa,vN] 1)] G/\((G=[]/\z=.slice (some ⟨Q,0,none⟩) 1 1/\l=[0])\/G=[(z,1,ints l)])/\gk γ.nodes l/\1<=l.length/\l.length<=7/\C 1=ptrTo y/\C 2=ptrTo A/\C 6=ptrTo D/\C 7=ptrTo W/\C 9=z) .normal (LL n I d rc) h':=fun n d rc I e1 e2 e6 e7 e9=>dX ⟨z,l,_,G,S,hG,hl,hl1,by omega,e1,e2,e6,e7,e9⟩
   by_cases hlt:i<L.length
   . by_cases h6:i<6
     . have c6:(i:Int)<6:=by omega
       obtain⟨c,o,a6,a7⟩:=a5.ix (kd:=.i64) (dh .u8) hlt
       have hx:=be _ (XQ hlt)
       obtain⟨x,ex⟩: ∃x:Nat,L[i]=x:=⟨L[i].toNat,by omega⟩
       rw [ex]at a7 hx
       have wc:an .i64 (x:Int)=(x:Int):=by rw [wrap64]<;>omega
       have nz:(γ.nodes:Int)≠0:=by omega
       have tm:(x:Int).tmod (γ.nodes:Int)=((x%γ.nodes:Nat):Int):=by rw [XV (by omega)];exact(Int.natCast_emod _ _).symm
       have t:x%γ.nodes<γ.nodes:=Nat.mod_lt _ (by omega)
       have w:an .i64 ((i:Int)+1)=((i+1:Nat):Int):=by rw [wrap64]<;>omega
       simp only [BS,LB,Nat.reduceLT,Nat.reduceEqDiff,F9,r1,r11,X.sl.lenq,aK,hlt,c6,S.ld (b:=y) (o:=1) m4 rfl]
       refine aB (aG rfl) (q:=0) (ps:=[]) (by kernel_rfl) ?_
       simp only [BS,LB,jy,cv,jx,cls,Nat.reduceLT,Nat.reduceEqDiff,Nat.reduceAdd,Nat.reducePow,Nat.reduceDiv,Nat.reduceMod,Nat.reduceLeDiff,F9,r1,r6,r10,r11,a6,a7,encI,wc,mO nz,tm,S.ld (b:=D) (o:=0) m2 rfl,S.ld (b:=y) (o:=1) m4 rfl]
       generalize x%γ.nodes=v at t
       obtain⟨b3,ba⟩:=a v t
       have lc:=S.ld (b:=bs) (o:=v) m0 (kM (F:=fun v=>Value.int .i64 ((s v:Nat):Int)) t)
       have w2:an .i64 ((s v:Int)+1)=((s v+1:Nat):Int):=by rw [wrap64]<;>omega
       have ad:((Xb γ.nodes).map fun v=>Value.int .i64 ((s v:Nat):Int)).set v (.int .i64 ((s v+1:Nat):Int))=(Xb γ.nodes).map fun u=>Value.int .i64 (((if u=v then s v+1 else s u:Nat):Nat):Int):=by
        have:=lU (N:=γ.nodes) (k:=v) (F:=fun v=>Value.int .i64 ((s v:Nat):Int)) (F':=fun u=>Value.int .i64 (((if u=v then s v+1 else s u:Nat):Nat):Int)) (fun u _ hu=>by simp [hu])
        rw [<-this];simp
       clear a5 ai
       by_cases hz:s v=0
       . have ak:((s v:Nat):Int)=0:=by omega
         simp only [BS,LB,Nat.reduceLT,Nat.reduceEqDiff,F9,r9,t,lc,ak]
         refine ae (co (by exact Tryz.t33.1) (by exact XF) (by decide) (by rfl)) S ?_;clear S;intro h bu S bT;simp only [LC,bA,bS,ah,Nat.reduceMul,Nat.reduceAdd,XB,XC,Xx,XI]at S
         simp only [BS,LB,Nat.reduceLT,Nat.reduceEqDiff]
         have al:aM h 1 (.slice (some ⟨bu,0,none⟩) 1 1)=some (1,ints [(v:Int)]):=by simp only [aM];rw [S.lds (b:=bu) (o:=0) (n:=1*1) m0 (lbt rfl)];rfl
         replace S:=S.drop1
         have bb: ∃h' v',cZ zM h [33,33] z (.slice (some ⟨bu,0,none⟩) 1 1)=some (h',v')/\St (· ∈[D,A,y]) hC0 h' [(bs,.row ((Xb γ.nodes).map fun v=>.int .i64 ((s v:Nat):Int)) 1),(Q,.row [.int .i64 0] 1),(D,.row [.int .i64 γ.nodes,M,O,P] 1),(A,.row [.int .i64 0,.slice none 0 0,.slice none 0 0,.slice none 0 0] 1),(y,.row [vB,vM,.int .u8 xf,.int .u8 xt,.int .i8 xa,vN] 1)] [(v',1,ints (l++[(v:Int)]))]:=by
          rcases hG with⟨rfl,rfl,rfl⟩|rfl
          . rw [kA]
            exact St.growB S (b:=Q) (len:=1) (m:=1) (new:=ints [(v:Int)]) (S.row m1) rfl Tryz.t33.1 XF (by decide) Tryz.t33.2.2.2.2.2 al rfl (by decide) (by decide) (by rw [cC];exact lbt rfl)
          . rw [kA]
            exact S.grow (j:=0) (m:=1) (new:=ints [(v:Int)]) rfl Tryz.t33.1 XF (by decide) Tryz.t33.2.2.2.2.2 al rfl (by decide) rfl (by rw [cC,cC];simp;omega)
         refine eh bb ?_
         clear S al hG bb;rintro h b4 S
         have lc:=S.ld (b:=bs) (o:=v) m0 (kM (F:=fun v=>Value.int .i64 ((s v:Nat):Int)) t)
         simp only [BS,LB,Nat.reduceLT,Nat.reduceEqDiff,F9,r10,t,lc,w2]
         refine az (aC S (i:=0) rfl Tryz.t3.2.2.1 aY (by simpa using t) ono) ?_
         clear S lc;rintro h ⟨S,_⟩
         simp only [LC]at S
         rw [ad]at S
         simp only [BS,LB,Nat.reduceLT,Nat.reduceEqDiff,r11,w]
         refine ih (i+1) _ _ (by omega) ⟨by omega,by omega,_,l++[(v:Int)],fun u=>if u=v then s v+1 else s u,_,S,.inr rfl,hl.push (by omega) (by omega) (by omega) (ba.1 hz),by simp,by simp;omega,fun u hu=>?_,by simp [aa,r1,ag],by simp [aa,r2,ag],by simp [aa,r6,ag],by simp [aa,r7,ag],by simp [aa],by simp [aa,r10],by simp [aa]⟩
         have:=a u hu
         by_cases e:u=v
         . subst e;simp;omega
         . have e': ¬((u:Int)=(v:Int)):=by omega
           simp only [e,if_false,X9,XT,e',or_false]
           exact⟨by omega,this.2⟩
       . have ak: ¬((s v:Nat):Int)=0:=by omega
         simp only [BS,LB,Nat.reduceLT,Nat.reduceEqDiff,F9,r10,t,lc,ak,w2]
         refine az (aC S (i:=0) rfl Tryz.t3.2.2.1 aY (by simpa using t) ono) ?_
         clear S lc;rintro h ⟨S,_⟩
         simp only [LC]at S
         rw [ad]at S
         simp only [BS,LB,Nat.reduceLT,Nat.reduceEqDiff,r11,w]
         refine ih (i+1) _ _ (by omega) ⟨by omega,by omega,_,l,fun u=>if u=v then s v+1 else s u,G,S,hG,hl,hl1,by omega,fun u hu=>?_,by simp [aa,r1,ag],by simp [aa,r2,ag],by simp [aa,r6,ag],by simp [aa,r7,ag],by simp [aa,r9],by simp [aa,r10],by simp [aa]⟩
         have:=a u hu
         by_cases e:u=v
         . subst e
           simp only [if_true]
           exact⟨by omega,by constructor<;>intro h<;>first|omega|exact absurd (this.2.2 h) hz⟩
         . simp only [e,if_false];exact⟨by omega,this.2⟩
     . have c6: ¬(i:Int)<6:=by omega
       simp only [BS,LB,Nat.reduceLT,Nat.reduceEqDiff,F9,r1,r11,X.sl.lenq,aK,hlt,c6,S.ld (b:=y) (o:=1) m4 rfl]
       exact ai _ _ _ _ (by simp [aa,r1,ag]) (by simp [aa,r2,ag]) (by simp [aa,r6,ag]) (by simp [aa,r7,ag]) (by simp [aa,r9])
   . simp only [BS,LB,Nat.reduceLT,Nat.reduceEqDiff,F9,r1,r11,X.sl.lenq,aK,hlt,S.ld (b:=y) (o:=1) m4 rfl]
     exact ai _ _ _ _ (by simp [aa,r1,ag]) (by simp [aa,r2,ag]) (by simp [aa,r6,ag]) (by simp [aa,r7,ag]) (by simp [aa,r9])
 . clear S
   intro C h' ⟨z,l,cs,G,S,hG,hl,hl1,hl7,r1,r2,r6,r7,r9⟩
   have sR:au h' 1 (encI .i64) z l:=by
    rcases hG with⟨_,rfl,rfl⟩|rfl
    . exact .inr ⟨Q,0,none,1,rfl,XP _,S.lds (b:=Q) (o:=0) (n:=1*1) m1 (lbt rfl)⟩
    . exact(S.gown _ m0).1.sl rfl (fun _=>rfl) (by decide)
   have ax: ∀c,aq z c->c≠A:=fun c a=>by
    rcases hG with⟨_,rfl,rfl⟩|rfl
    . have e:c=Q:=a.symm
      have ap:=S.apart
      simp [keys]at ap
      intro h
      omega
    . intro e
      exact(S.gblk m0 a).2 (by rw [e];simp)
   have ay: ∀c,aq z c->h0.n<=c:=fun c a=>by
    have k:=R.n
    rcases hG with⟨_,rfl,rfl⟩|rfl
    . have e:c=Q:=a.symm
      subst e
      rcases S.key_own (b:=c) (by simp [keys])with x|x
      . omega
      . exact T _ x
    . rcases(S.gblk m0 a).1 with x|x
      . omega
      . exact T _ x
   have aL:((L.length:Nat):Int).tmod 2=((L.length%2:Nat):Int):=by rw [XV (by omega)];exact(Int.natCast_emod _ _).symm
   have Y:=S.lds (b:=D) (o:=0) (n:=4) m2 (lbt rfl)
   simp only [Xn,Xm]at Y
   by_cases h2:L.length%2=1
   . have Z:((L.length%2:Nat):Int)=1:=by omega
     by_cases a0:1<l.length
     . have U:(1:Int)<(l.length:Int):=by omega
       have bm:G=[(z,1,ints l)]:=hG.resolve_left (fun⟨_,_,e⟩=>by rw [e]at a0;simp at a0)
       subst bm
       obtain⟨v2,bo,s2,bc⟩:=sl_drop1 (E:=zM) Tryz.t33.1 Tryz.t3.2.2.1 (S.gown _ m0).1 a0
       simp only [BS,LB,Nat.reduceLT,Nat.reduceEqDiff,XK,XL,F9,r1,r2,r6,r7,r9,X.sl.lenq,mO (show(2:Int)≠0 by decide),aL,Z,sR.lenq,U,bo,Y,S.ld (b:=y) (o:=1) m4 rfl]
       refine az (S.store (i:=3) rfl Tryz.t31.2.1 (by intro x e;cases e) rfl (by simp only [ah,Xw,XD,fx.2.1,fy.2.1,fa.2.1,Xl];rfl) (lbt rfl) ono) ?_
       clear S;rintro h3 ⟨S,V⟩
       simp only [LC,ah,lay,Xm,Xn,Nat.reduceAdd]at S
       simp only [BS,LB,ac,Nat.reduceLT,Nat.reduceEqDiff]
       refine(dW (by decide) (by simp only [aO,r2,ag,Nat.reduceEqDiff,reduceIte];exact cP Tryz.t31.1 Tryz.t31.2.1 (S.lds (b:=A) (o:=0) (n:=4) m3 (lbt rfl)))).2 ?_
       refine(eY (by decide)).2 ((eY (by decide)).2 (eE.2 ?_))
       have gZ:Gr h0 h3:=(R.fr.trans S.fr (fun c a=>.inr (T c a)):Mo NoM h0 h3).gr
       exact⟨gZ,γ,M,O,P,W,_,_,_,rfl,J,K.mo S.fr (fun c a H=>af c a H),hp.mo S.fr (fun c H=>by simp only [Xf,Xd,or_false]at H;omega),s2.mo V (fun c a e=>ax c (bc c a) e),hl.drop1,by rw [Xj];omega,by rw [Xj];omega,eN,kN,fun c a=>ay c (bc c a)⟩
     . have U: ¬(1:Int)<(l.length:Int):=by omega
       simp only [BS,LB,Nat.reduceLT,Nat.reduceEqDiff,F9,r1,r2,r6,r7,r9,X.sl.lenq,mO (show(2:Int)≠0 by decide),aL,Z,sR.lenq,U,Y,S.ld (b:=y) (o:=1) m4 rfl]
       refine az (S.store (i:=3) rfl Tryz.t31.2.1 (by intro x e;cases e) rfl (by simp only [ah,Xw,XD,fx.2.1,fy.2.1,fa.2.1,Xl];rfl) (lbt rfl) ono) ?_
       clear S;rintro h3 ⟨S,V⟩
       simp only [LC,ah,lay,Xm,Xn,Nat.reduceAdd]at S
       simp only [BS,LB,ac,Nat.reduceLT,Nat.reduceEqDiff]
       refine(dW (by decide) (by simp only [aO,r2,ag,Nat.reduceEqDiff,reduceIte];exact cP Tryz.t31.1 Tryz.t31.2.1 (S.lds (b:=A) (o:=0) (n:=4) m3 (lbt rfl)))).2 ?_
       refine(eY (by decide)).2 ((eY (by decide)).2 (eE.2 ?_))
       have gZ:Gr h0 h3:=(R.fr.trans S.fr (fun c a=>.inr (T c a)):Mo NoM h0 h3).gr
       exact⟨gZ,γ,M,O,P,W,_,_,_,rfl,J,K.mo S.fr (fun c a H=>af c a H),hp.mo S.fr (fun c H=>by simp only [Xf,Xd,or_false]at H;omega),sR.mo V (fun c a e=>ax c a e),hl,hl1,hl7,eN,kN,ay⟩
   . have Z: ¬((L.length%2:Nat):Int)=1:=by omega
     . simp only [BS,LB,Nat.reduceLT,Nat.reduceEqDiff,F9,r1,r2,r6,r7,r9,X.sl.lenq,mO (show(2:Int)≠0 by decide),aL,Z,Y,S.ld (b:=y) (o:=1) m4 rfl]
       refine az (S.store (i:=3) rfl Tryz.t31.2.1 (by intro x e;cases e) rfl (by simp only [ah,Xw,XD,fx.2.1,fy.2.1,fa.2.1,Xl];rfl) (lbt rfl) ono) ?_
       clear S;rintro h3 ⟨S,V⟩
       simp only [LC,ah,lay,Xm,Xn,Nat.reduceAdd]at S
       simp only [BS,LB,ac,Nat.reduceLT,Nat.reduceEqDiff]
       refine(dW (by decide) (by simp only [aO,r2,ag,Nat.reduceEqDiff,reduceIte];exact cP Tryz.t31.1 Tryz.t31.2.1 (S.lds (b:=A) (o:=0) (n:=4) m3 (lbt rfl)))).2 ?_
       refine(eY (by decide)).2 ((eY (by decide)).2 (eE.2 ?_))
       have gZ:Gr h0 h3:=(R.fr.trans S.fr (fun c a=>.inr (T c a)):Mo NoM h0 h3).gr
       exact⟨gZ,γ,M,O,P,W,_,_,_,rfl,J,K.mo S.fr (fun c a H=>af c a H),hp.mo S.fr (fun c H=>by simp only [Xf,Xd,or_false]at H;omega),sR.mo V (fun c a e=>ax c a e),hl,hl1,hl7,eN,kN,ay⟩
 . refine⟨XS _,XS _,_,[0],fun u=>if u=0 then 1 else 0,[],S,.inl ⟨rfl,rfl,rfl⟩,(mayL_nil _).push (by simp) (by omega) (by omega) (by simp),by simp,by simp,fun v hv=>?_,by simp [aa,ag],by simp [aa,ag],by simp [aa,ag],by simp [aa,ag],by simp [aa],by simp [aa],by simp [aa]⟩
   by_cases e:v=0
   . subst e;simp
   . simp [e]
def Tryz.F0Z:=aj t1<|aj t2<|aj t3<|aj t4<|aj t218<|aj t275<|aj t337<|aj Z6<|aj Z7<|Z9
def Tryz.F02:=aj t1<|aj t2<|aj t3<|aj t4<|aj t24<|aj t32<|aj t33<|aj t48<|aj t74<|aj Z10<|aj Z11<|aj Z1<|aj t199<|aj t200<|aj t201<|Z14
def Tryz.F10:=aj t1<|aj t3<|aj t4<|aj Z0<|aj t32<|aj t189<|Z1
def Tryz.FO:=aj t1<|aj t2<|aj t3<|aj t4<|aj t24<|aj Z0<|aj t32<|aj t74<|aj t95<|aj Z11<|aj t189<|aj Z1<|t196
theorem qT{h0:Hp}(s:h0.t.Sized h0.n){F:List Nat}{p:Value}{N:Nat}{K:Nat->Option Int}(H:bM h0 F p N K):
 ∃(k:Int) (b:Bool),bz zM 201 [p] h0 (.tuple #[.int .i64 k,.bool b])/\((b=false/\ ∀v,K v=none)\/(b=true/\ ∃v,iV K v k)):=by
 obtain⟨m,q,t⟩:=qz s H
 obtain⟨P,Q,l,rfl,A,r,hlt,B⟩:=H.ex
 by_cases d:m=0
 . refine⟨0,false,?_,.inl ⟨rfl,t.1 d⟩⟩
   subst d
   have S:=Si s
   refine ab (n:=15) (rs:=[.tmp 2,.tmp 3]) rfl Tryz.e201 rfl rfl rfl (lbt rfl) ?_
   simp only [BS,LB,Nat.reduceLT,Nat.reduceEqDiff]
   refine am (q) ?_;intro h g;replace S:=S.call g;clear g
   simp only [BS,LB,ac,Nat.reduceLT,Nat.reduceEqDiff,Xe]
   exact S.gr
 . have w: ¬((m:Int)=0):=by omega
   rcases B with⟨rfl,_⟩|⟨D,E,rfl,R⟩
   . exact absurd (t.2 r.nil) d
   . have a:0<l.length:=by
      cases l with
      |nil=>exact absurd (t.2 r.nil) d
      |cons x l=>simp
     refine⟨(l.getD 0 default).key,true,?_,.inr ⟨rfl,(l.getD 0 default).id,r.at a,fun u T G=>?_⟩⟩
     . have S:=Si s
       refine ab (n:=15) (rs:=[.tmp 2,.tmp 3]) rfl Tryz.e201 rfl rfl rfl (lbt rfl) ?_
       simp only [BS,LB,Nat.reduceLT,Nat.reduceEqDiff]
       refine am (q) ?_;intro h g;replace S:=S.call g;replace R:=R.gr g;clear g
       obtain⟨U,V,c,f,y,I,C,W,X⟩:=R.ex
       have J:=R.row.load1 (o:=0) rfl
       have L:=C.ld2 y a
       have z:h.load D (0*2+1) 1=some [.int .i64 (l.getD 0 default).key]:=ou L (i:=1) (m:=1) (by omega)
       have M:fU (.int .i64 0) l.length=some 0:=ir (i:=0) a
       simp only [BS,LB,ac,Nat.reduceLT,Nat.reduceEqDiff,F0Z,w,J,M,z]
       exact S.gr
     . obtain⟨j,O,e⟩:=r.idx G
       have:=zl A j O
       rw [e]at this
       unfold Ab.hle at this
       simp only []at this
       omega
theorem bpi_ok{h0:Hp}(l:h0.t.Sized h0.n){br v:Nat}{vPi:Value}{a:List Int}(f:h0.load br 4 1=some [vPi])(d:au h0 1 (encI .i64) vPi a)(j:v<a.length):
 bz zM 198 [ptrTo br,.int .i64 (v:Nat)] h0 (.tuple #[.int .i64 (a.getD v 0),.bool (decide (-(FAR:Int)<a.getD v 0/\a.getD v 0<FAR))]):=by
 have S:=Si l
 have m:=jK
 have g: ¬((a.length:Int)=0):=by omega
 obtain⟨c,o,h,b⟩:=d.ix (kd:=.i64) (dh .i64) j
 have e:a.getD v 0=a[v]:=by rw [zN,Xo j,Xu]
 rw [e]
 generalize a[v]=p at b
 replace b:h0.load c o 1=some [.int .i64 p]:=b
 refine ab (n:=29) (rs:=[.tmp 4,.tmp 5]) rfl Tryz.e198 rfl rfl rfl (lbt rfl) ?_
 by_cases i:(-72057594037927936:Int)<p
 . by_cases k:p<72057594037927936
   . simp only [BS,LB,ac,Nat.reduceLT,Nat.reduceEqDiff,Nat.reduceAdd,F02,f,d.lenq,g,h,b,i,k]
     refine⟨?_,S.gr⟩
     rw [decide_eq_true (by omega)]
   . simp only [BS,LB,ac,Nat.reduceLT,Nat.reduceEqDiff,Nat.reduceAdd,F02,f,d.lenq,g,h,b,i,k]
     refine⟨?_,S.gr⟩
     rw [decide_eq_false (by omega)]
 . simp only [BS,LB,ac,Nat.reduceLT,Nat.reduceEqDiff,Nat.reduceAdd,F02,f,d.lenq,g,h,b,i]
   refine⟨?_,S.gr⟩
   rw [decide_eq_false (by omega)]
theorem pair_nl{x:Option Tch}:i7 none x=true:=by cases x<;>rfl
theorem pair_nr{x:Option Tch}:i7 x none=true:=by
 cases x with
 |none=>rfl
 |some x=>cases x<;>rfl
theorem wE{h0:Hp}(b:h0.t.Sized h0.n){γ:Gra}{c a v:Nat}{p:Value}(d:bI h0 c p γ)(e:h0.load a 0 1=some [p])(f:v<γ.nodes):bz zM 194 [.int .i64 (v:Nat),ptrTo a] h0 (.bool true):=by
 have S:=Si b
 have g:(0:Int)<=(v:Int):=by omega
 refine ab (n:=12) (rs:=[.tmp 3]) rfl Tryz.e194 rfl rfl rfl (lbt rfl) ?_
 simp only [BS,LB,Nat.reduceLT,Nat.reduceEqDiff,F10,e,g]
 refine am (dt S.ok d) ?_
 intro i h;replace S:=S.call h
 simp only [BS,LB,ac,Nat.reduceLT,Nat.reduceEqDiff,aK,f]
 exact S.gr
theorem vt{h0:Hp}(d:h0.t.Sized h0.n){a b:Nat}(h:a=0\/a=b):bz zM 195 [.int .i64 (a:Nat),.int .i64 (b:Nat)] h0 (.bool true):=by
 have S:=Si d
 refine ab (n:=12) (rs:=[.tmp 4]) rfl Tryz.e195 rfl rfl rfl (lbt rfl) ?_
 by_cases c:a=0
 . subst c
   simp only [BS,LB,ac,Nat.reduceLT,Nat.reduceEqDiff,Xe]
   exact S.gr
 . have e:a=b:=h.resolve_left c
   subst e
   have f: ¬(a:Int)=0:=by omega
   simp only [BS,LB,ac,Nat.reduceLT,Nat.reduceEqDiff,f]
   exact S.gr
theorem right_ok{h0:Hp}(w:h0.t.Sized h0.n){γ:Gra}{W y s to:Nat}{vPi:Value}{d:List Int}(r:bI h0 W (ptrTo y) γ)(X:s<γ.nodes)(Y:to<γ.nodes)(t:au h0 1 (encI .i64) vPi d)(z:d.length=γ.nodes):
 bz zM 113 [ptrTo y,.agg ⟨[.int .i64 (s:Nat),.int .i64 (to:Nat),.slice none 0 0,vPi]⟩] h0 (.bool true):=by
 have S:=Si w
 have Z:=t.fl
 obtain⟨i,oi,si,ci,rfl⟩: ∃b o s c,vPi=.slice (some ⟨b,o,s⟩) d.length c:=by
  rcases t with⟨_,rfl⟩|⟨b,o,s,c,e,_⟩
  . simp at z;omega
  . exact⟨b,o,s,c,e⟩
 have ti:i<h0.n:=t.blt w rfl
 refine ab (n:=36) (rs:=[.tmp 4]) rfl Tryz.e113 rfl rfl rfl (lbt rfl) ?_
 simp only [BS,Nat.reduceLT]
 refine ae (cK (by exact dz)) S ?_;clear S;intro h f S A
 simp only [BS,Nat.reduceLT,Nat.reduceEqDiff,if_false]
 refine ae (aS (by intro x e;cases e)) S ?_;clear S;intro h g S B;simp only [ah]at S
 simp only [BS,LB,Nat.reduceLT,Nat.reduceEqDiff]
 have t2:=(S.row (b:=f) m1).lt S.ok
 have t3:=(S.row (b:=g) m0).lt S.ok
 have k0:=S.gr.n
 refine aB (aG rfl) (q:=0) (ps:=[(23,25),(22,25),(14,16),(13,16)]) (by kernel_rfl) ?_
 simp only [BS,LB,cls,Nat.reduceLT,Nat.reduceEqDiff,Nat.reduceAdd,Nat.reducePow,Nat.reduceDiv,Nat.reduceMod,Nat.reduceLeDiff,FO,S.ld (b:=g) (o:=0) m0 rfl]
 refine df (wE S.ok (r.gr S.gr) (S.ld (b:=f) (o:=0) m1 rfl) X) ?_
 intro h1 j
 have C:=ar j t2
 have D:=ar j t3
 have E:=ar j (show i<_ by omega)
 have F:=j.n
 replace S:=S.call j;clear j
 simp only [BS,LB,cls,Nat.reduceLT,Nat.reduceEqDiff,Nat.reduceAdd,Nat.reducePow,Nat.reduceDiv,Nat.reduceMod,Nat.reduceLeDiff,FO,S.ld (b:=g) (o:=1) m0 rfl]
 refine df (wE S.ok (r.gr S.gr) (S.ld (b:=f) (o:=0) m1 rfl) Y) ?_
 intro G k
 have H:=ar k (Nat.lt_of_lt_of_le t2 F)
 have e5:=ar k (Nat.lt_of_lt_of_le t3 F)
 have I:=ar k (show i<_ by omega)
 have k2:=k.n
 replace S:=S.call k;clear k
 simp only [BS,LB,cls,Nat.reduceLT,Nat.reduceEqDiff,Nat.reduceAdd,Nat.reducePow,Nat.reduceDiv,Nat.reduceMod,Nat.reduceLeDiff,Xe,FO,S.ld (b:=g) (o:=2) m0 rfl,S.ld (b:=f) (o:=0) m1 rfl]
 refine df (ui S.ok (r.gr S.gr)) ?_
 intro J l
 have K:=ar l (show f<G.n by omega)
 have L:=ar l (show g<G.n by omega)
 have M:=ar l (show i<_ by omega)
 have k3:=l.n
 replace S:=S.call l;clear l
 simp only [BS,LB,cls,Nat.reduceLT,Nat.reduceEqDiff,Nat.reduceAdd,Nat.reducePow,Nat.reduceDiv,Nat.reduceMod,Nat.reduceLeDiff]
 refine df (vt (a:=0) (b:=γ.arcs.length) S.ok (.inl rfl)) ?_
 intro N m
 have e8:=ar m (show f<J.n by omega)
 have e9:=ar m (show g<J.n by omega)
 have O:=ar m (show i<_ by omega)
 have k4:=m.n
 replace S:=S.call m;clear m
 simp only [BS,LB,cls,Nat.reduceLT,Nat.reduceEqDiff,Nat.reduceAdd,Nat.reducePow,Nat.reduceDiv,Nat.reduceMod,Nat.reduceLeDiff,FO,(t.gr S.gr).lenq,S.ld (b:=g) (o:=3) m0 rfl,S.ld (b:=f) (o:=0) m1 rfl]
 refine df (dt S.ok (r.gr S.gr)) ?_
 intro v p
 have P:=ar p (show f<N.n by omega)
 have Q:=ar p (show g<N.n by omega)
 have R:=ar p (show i<_ by omega)
 have k5:=p.n
 replace S:=S.call p;clear p
 simp only [BS,LB,cls,Nat.reduceLT,Nat.reduceEqDiff,Nat.reduceAdd,Nat.reducePow,Nat.reduceDiv,Nat.reduceMod,Nat.reduceLeDiff]
 refine df (vt (a:=d.length) (b:=γ.nodes) S.ok (.inr z)) ?_
 intro h6 u
 have T:=ar u (show f<v.n by omega)
 have U:=ar u (show g<v.n by omega)
 have V:=ar u (show i<v.n by omega)
 replace S:=S.call u
 simp only [BS,LB,cls,ac,Nat.reduceLT,Nat.reduceEqDiff,Nat.reduceAdd,Nat.reducePow,Nat.reduceDiv,Nat.reduceMod,Nat.reduceLeDiff]
 refine⟨by simp only [bn,bE,aT,bJ,aV,ne_eq,not_false_eq_true,bK,bZ,bg,aX,cb,cM,aO,Nat.reduceLT,Nat.reduceEqDiff,reduceIte,Xl,ag,xq,wG,kZ,pair_nl,pair_nr,av C,aD C,av D,aD D,av H,aD H,av e5,aD e5,av K,aD K,av L,aD L,av e8,aD e8,av e9,aD e9,av P,aD P,av Q,aD Q,av T,aD T,av U,aD U,av E,aD E,av I,aD I,av M,aD M,av O,aD O,av R,aD R,av V,aD V],?_⟩
 exact S.gr
end Go.Ab
end
section
namespace Go.Ab
open Go.Proofs
set_option maxRecDepth 10000
def Tryz.FB:=aj t1<|aj t2<|aj t3<|aj t4<|aj t5<|aj t6<|aj Z3<|aj t24<|aj t32<|aj t33<|aj t48<|aj t58<|aj t74<|aj Z8<|aj Z10<|aj Z11<|aj Z1<|aj t192<|aj t199<|aj t200<|aj t201<|aj Z14<|aj t218<|aj t275<|aj t277<|aj Z17<|aj Z6<|Z7
structure Sx where
 b:Nat
 p:Nat
 ml:Nat
 ma:Nat
 mc:Nat
 vA:Value
 vH:Value
 el:List (Value×Value×Nat)
 cl:Nat
 ea:List (Value×Value×Nat)
 ca:Nat
 ec:List (Value×Value×Nat)
 cc:Nat
def dw(i:Bool):Nat:=if i then 1 else 0
def iY(i:Bool):Int:=if i then-1 else 1
def Sx.row(x:Sx)(i:Bool):List Value:=[ptrTo x.p,.int .i64 (dw i:Nat),.int .i64 (iY i),x.vA,x.vH,.map (some x.ml),.map (some x.ma),.map (some x.mc)]
def Sx.L(x:Sx)(i:Bool):List (Nat×Ob):=[(x.b,.row (x.row i) 1),(x.ml,.map x.el x.cl),(x.ma,.map x.ea x.ca),(x.mc,.map x.ec x.cc)]
structure Sx.Ok(x:Sx)(s:Sd):Prop where
 ml: ∃f,c7 x.el x.cl f/\ ∀v:Nat,f v=(s.L v).map fun(l:Nat)=>Value.int .i64 l
 ma: ∃f,c7 x.ea x.ca f/\ ∀v:Nat,(s.L v).isSome=true->f v=some (.int .i64 (byI (s.P v)))
 mc: ∃f,c7 x.ec x.cc f/\ ∀v:Nat,f v=if v∈s.O then some (.int .i64 1)else none
def dB(e:Ev2):List Value:=[.int .i64 (e.kind:Nat),.int .i64 (dw e.side:Nat),.int .i64 (e.id:Nat),.int .i64 (e.lab:Nat)]
def fg(pn:Value)(s t:Nat)(vPi:Value)(X:Bool->Sx)(vE:Value)(σ:Bi):List Value:=[pn,.int .i64 (s:Nat),.int .i64 (t:Nat),.slice none 0 0,vPi,ptrTo (X false).b,ptrTo (X true).b,.int .i64 (σ.dist:Nat),.slice none 0 0,vE,.int .i64 (σ.meet:Nat)]
def boL(i:Bool)(br:Nat)(pn:Value)(s t:Nat)(vPi:Value)(X:Bool->Sx)(vE:Value)(σ:Bi):List (Nat×Ob):=(br,.row (fg pn s t vPi X vE σ) 1)::((X i).L i++(X (!i)).L (!i))
def boG(vE:Value)(σ:Bi):List GL:=[(vE,4,σ.ev.flatMap dB)]
structure dL(h:Hp)(br:Nat)(pn:Value)(s t:Nat)(vPi:Value)(X:Bool->Sx)(F:Bool->List Nat)(vE:Value)(N:Nat)(σ:Bi):Prop where
 own: ∀q∈boL false br pn s t vPi X vE σ,Has h q.1 q.2
 ev:fL h (vE,4,σ.ev.flatMap dB)
 nd:(keys (boL false br pn s t vPi X vE σ) (boG vE σ)).Nodup
 heap: ∀i,bM h (F i) (ptrTo (X i).p) N (σ.sd i).K
 ok: ∀i,(X i).Ok (σ.sd i)
 apart: ∀i,∀c∈F i,c∉keys (boL false br pn s t vPi X vE σ) (boG vE σ)/\c∉F (!i)
def boB(br:Nat)(pn:Value)(s t:Nat)(vPi:Value)(X:Bool->Sx)(F:Bool->List Nat)(vE:Value)(σ:Bi):List Nat:=keys (boL false br pn s t vPi X vE σ) (boG vE σ)++(F false++F true)
section
variable{h h':Hp}{br:Nat}{pn:Value}{s t:Nat}{vPi:Value}{X:Bool->Sx}{F:Bool->List Nat}{vE:Value}{N:Nat}{σ:Bi}
theorem lL(i:Bool):List.Perm (boL i br pn s t vPi X vE σ) (boL false br pn s t vPi X vE σ):=by
 cases i with
 |false=>exact List.Perm.refl _
 |true=>exact List.Perm.cons _ Ya
theorem dL.apart'(a:dL h br pn s t vPi X F vE N σ)(i:Bool){j:Bool}{c:Nat}(d:c∈F j):c∉keys (boL i br pn s t vPi X vE σ) (boG vE σ):=fun b=>by
 refine(a.apart j c d).1 ?_
 unfold keys at b⊢
 rcases List.mem_append.1 b with h|h
 . exact Xc _ (((lL i).map _).mem_iff.1 h)
 . exact Xh _ h
theorem oq{i:Bool}{c:Nat}(a:c∈F i):c∈boB br pn s t vPi X F vE σ:=Xh _ (by cases i;exact Xc _ a;exact Xh _ a)
theorem dL.mo{M:Nat->Prop}(a:dL h br pn s t vPi X F vE N σ)(g:Mo M h h')(d: ∀b∈boB br pn s t vPi X F vE σ,¬M b):dL h' br pn s t vPi X F vE N σ:=
 ⟨fun q e=>g.has (a.own q e) (d _ (Xc _ (gm e))),
  a.ev.of_get fun b c=>g.get b (a.ev.lt g.ok0 c) (d b (Xc _ (eW (p:=(vE,4,σ.ev.flatMap dB)) m0 c))),a.nd,
  fun i=>(a.heap i).mo g (fun b c=>d b (oq c)),a.ok,a.apart⟩
theorem dL.gr(a:dL h br pn s t vPi X F vE N σ)(g:Gr h h'):dL h' br pn s t vPi X F vE N σ:=a.mo (M:=NoM) g.fr (fun _ _ h=>h)
theorem dL.st(a:dL h br pn s t vPi X F vE N σ)(d:h.t.Sized h.n)(i:Bool):St (· ∈boB br pn s t vPi X F vE σ) h h (boL i br pn s t vPi X vE σ) (boG vE σ):=by
 have S:St (· ∈boB br pn s t vPi X F vE σ) h h (boL false br pn s t vPi X vE σ) (boG vE σ):=
  ⟨Mo.refl d,fun p c=>⟨.inr (Xc _ (gm c)),a.own p c⟩,fun p c=>by
   simp only [boG,XT]at c
   subst c
   exact⟨a.ev,fun b e=>.inr (Xc _ (eW (p:=(vE,4,σ.ev.flatMap dB)) m0 e))⟩,a.nd⟩
 exact S.permL (lL i)
theorem dL.of{M:Nat->Prop}{h0:Hp}(i:Bool)(S:St M h0 h (boL i br pn s t vPi X vE σ) (boG vE σ))(e: ∀i,bM h (F i) (ptrTo (X i).p) N (σ.sd i).K)(f: ∀i,(X i).Ok (σ.sd i))(a: ∀j,∀c∈F j,c∉keys (boL i br pn s t vPi X vE σ) (boG vE σ)/\c∉F (!j)):dL h br pn s t vPi X F vE N σ:=by
 have T:=S.permL (lL (br:=br) (pn:=pn) (s:=s) (t:=t) (vPi:=vPi) (X:=X) (vE:=vE) (σ:=σ) i).symm
 refine⟨fun q g=>(T.own q g).2,(T.gown _ m0).1,T.apart,e,f,fun j c b=>⟨fun d=>(a j c b).1 ?_,(a j c b).2⟩⟩
 unfold keys at d⊢
 rcases List.mem_append.1 d with h|h
 . exact Xc _ (((lL i).map _).mem_iff.2 h)
 . exact Xh _ h
theorem dL.rows(a:dL h br pn s t vPi X F vE N σ):Row h br (fg pn s t vPi X vE σ) 1/\ ∀i,Row h (X i).b ((X i).row i) 1:=by
 refine⟨a.own (br,.row _ 1) (by simp [boL]),fun i=>?_⟩
 cases i
 . exact a.own ((X false).b,.row _ 1) (by simp [boL,Sx.L])
 . exact a.own ((X true).b,.row _ 1) (by simp [boL,Sx.L])
end
theorem yz{h0:Hp}(x:h0.t.Sized h0.n){br:Nat}{pn:Value}{s t:Nat}{vPi:Value}{X:Bool->Sx}{F:Bool->List Nat}{vE:Value}{N:Nat}{σ:Bi}(a:dL h0 br pn s t vPi X F vE N σ)
 (y: ∀i v k,(σ.sd i).K v=some k-> -1000000000000000000<=k/\k<=1000000000000000000) (J:σ.dist<=FAR):
 Ret zM 120 [ptrTo br] h0 fun r h'=>Gr h0 h'/\((StopB σ/\r=.pointer none)\/ ∃i,TurnB σ i/\r=ptrTo (X i).b):=by
 have S:=Si x
 have K:=jK
 obtain⟨R,z⟩:=a.rows
 obtain⟨b,L,B,C⟩:=qT x (a.heap false)
 have e:=R.load1 (o:=5) rfl
 have f:=R.load1 (o:=6) rfl
 have d:=R.load1 (o:=7) rfl
 have D:=(z false).load1 (o:=0) rfl
 have q:=(z true).load1 (o:=0) rfl
 refine ab (n:=64) (rs:=[.tmp 2]) rfl Tryz.e120 rfl rfl rfl (lbt rfl) ?_
 simp only [BS,LB,Nat.reduceLT,Nat.reduceEqDiff,Int.reduceToNat,Int.reduceLE,Int.reduceLT,Xe,FB,e,D]
 refine am B ?_
 intro M g
 replace S:=S.call g
 obtain⟨c,O,E,G⟩:=qT S.ok ((a.heap true).gr g)
 replace e:=g.load e
 replace f:=g.load f
 replace d:=g.load d
 replace q:=g.load q
 simp only [BS,LB,Nat.reduceLT,Nat.reduceEqDiff,Nat.reduceAdd,Int.reduceToNat,Int.reduceLE,Int.reduceLT,Xe,FB,f,q]
 refine am E ?_
 intro P h
 replace S:=S.call h
 replace e:=h.load e
 replace f:=h.load f
 replace d:=h.load d
 rcases C with⟨rfl,H⟩|⟨rfl,j,l⟩
 . simp only [BS,LB,ac,Nat.reduceLT,Nat.reduceEqDiff]
   exact⟨S.gr,.inl (.inl ⟨false,H⟩)⟩
 . rcases G with⟨rfl,I⟩|⟨rfl,m,t1⟩
   . simp only [BS,LB,ac,Nat.reduceLT,Nat.reduceEqDiff]
     exact⟨S.gr,.inl (.inl ⟨true,I⟩)⟩
   . have Q:=y false j b l.1
     have T:=y true m c t1.1
     have u:an .i64 (b+c)=b+c:=by rw [wrap64]<;>omega
     have w:an .i64 (2*(σ.dist:Int))=2*(σ.dist:Int):=by rw [wrap64]<;>omega
     by_cases p:2*(σ.dist:Int)<=b+c
     . simp only [BS,LB,ac,Nat.reduceLT,Nat.reduceEqDiff,FB,d,u,w,p]
       exact⟨S.gr,.inl (.inr ⟨j,b,m,c,l,t1,p⟩)⟩
     . by_cases A:b<=c
       . simp only [BS,LB,ac,Nat.reduceLT,Nat.reduceEqDiff,Int.reduceToNat,Int.reduceLE,Int.reduceLT,Xe,FB,d,u,w,p,A,e]
         exact⟨S.gr,.inr ⟨false,⟨j,b,m,c,l,t1,by omega,(decide_eq_false (by omega)).symm⟩,rfl⟩⟩
       . simp only [BS,LB,ac,Nat.reduceLT,Nat.reduceEqDiff,Nat.reduceAdd,Int.reduceToNat,Int.reduceLE,Int.reduceLT,Xe,FB,d,u,w,p,A,f]
         exact⟨S.gr,.inr ⟨true,⟨j,b,m,c,l,t1,by omega,(decide_eq_true (by omega)).symm⟩,rfl⟩⟩
end Go.Ab

end
section
namespace Go.Ab
open Go.Proofs
set_option maxRecDepth 10000
def Tryz.Fa:=aj t1<|aj t2<|aj t3<|aj t4<|aj t5<|aj t6<|aj Z3<|aj Z4<|aj t9<|aj t10<|aj t24<|aj t32<|aj t33<|aj t45<|aj t48<|aj t58<|aj t74<|aj Z8<|aj Z10<|aj Z11<|aj Z1<|aj t192<|aj t199<|aj t200<|aj t201<|aj Z14<|aj t218<|aj t275<|aj t277<|aj Z17<|aj Z6<|Z7
theorem breach_ok {h0:Hp} (ok:h0.t.Sized h0.n) {br:Nat} {pn:Value} {s t:Nat} {vPi:Value} {f:List Int} {X:Bool->Sx} {F:Bool->List Nat} {vE:Value} {N:Nat} {σ:Bi} (a:dL h0 br pn s t vPi X F vE N σ)
 (sP:au h0 1 (encI .i64) vPi f) (lP:f.length=N) (nP: ∀c,aq vPi c->c∉boB br pn s t vPi X F vE σ) (hN:N<=12) {i:Bool} {v lab:Nat} {p:List Nat} (hv:v<N) (hl:lab<=13*bO) (hd:σ.dist<=FAR)
 (hb: ∀j v l,(σ.sd j).L v=some l->l<=13*bO) (bs: ∀l,(σ.sd i).L v=some l->v∉(σ.sd i).O->(σ.sd i).K v=some (2*l+qB (fun v=>f.getD v 0) i v)) (bt:(σ.sd i).L v=none->(σ.sd i).K v=none):
 Ret zM 119 [ptrTo br,ptrTo (X i).b,.int .i64 (v:Nat),.int .i64 (byI p),.int .i64 (lab:Nat)] h0 fun _ h'=>Mo (· ∈boB br pn s t vPi X F vE σ) h0 h'/\ ∃B F',dL h' br pn s t vPi B F' vE N (bW (fun v=>f.getD v 0) i σ v lab p)/\(∀j,(B j).b=(X j).b/\(B j).vA=(X j).vA/\(B j).vH=(X j).vH)/\ ∀c∈boB br pn s t vPi B F' vE (bW (fun v=>f.getD v 0) i σ v lab p),c∈boB br pn s t vPi X F vE σ\/h0.n<=c:=by
 have fr:=jK
 have wm:=kP
 have S:=a.st ok i
 have U:bW (fun v=>f.getD v 0) i σ v lab p=σ-> ∀h,Gr h0 h->Mo (· ∈boB br pn s t vPi X F vE σ) h0 h/\ ∃B F',dL h br pn s t vPi B F' vE N (bW (fun v=>f.getD v 0) i σ v lab p)/\(∀j,(B j).b=(X j).b/\(B j).vA=(X j).vA/\(B j).vH=(X j).vH)/\ ∀c∈boB br pn s t vPi B F' vE (bW (fun v=>f.getD v 0) i σ v lab p),c∈boB br pn s t vPi X F vE σ\/h0.n<=c:=
  fun e h g=>⟨g.fr,X,F,by rw [e];exact a.gr g,fun _=>⟨rfl,rfl,rfl⟩,fun c d=>.inl (by rw [e]at d;exact d)⟩
 have Ho:=a.ok i
 have Hq:=a.ok (!i)
 have H:=a.heap i
 have Hx:=a.heap (!i)
 have hk:=fun j c (d:c∈F j)=>a.apart' i d
 have af: ∀j,∀c∈F j,c∈boB br pn s t vPi X F vE σ\/h0.n<=c:=fun j c d=>.inl (oq d)
 generalize bT:boB br pn s t vPi X F vE σ=BB at S U af
 rcases hX:X i with⟨A,xp,xl,xa,xc,vA,vH,el,cl,ea,ca,ec,cc⟩
 rcases hY:X (!i)with⟨yb,yp,yl,ya,yc,wA,wH,fl,dl,fa,da,fc,dc⟩
 rw [hX]at Ho H
 rw [hY]at Hq Hx
 obtain⟨gl,ML,bi⟩:=Ho.ml
 obtain⟨ga,MA,bu⟩:=Ho.ma
 obtain⟨gc,MC,bk⟩:=Ho.mc
 simp only []at ML MA MC
 simp only [LC,boL,boG,fg,Sx.L,Sx.row,hX,hY]at S hk
 have w: ∀j,∀c∈F j,c≠br/\c≠A/\c≠xl/\c≠xa:=fun j c d=>by
  have h:=hk j c d
  simp only [keys,Xk,X9,Xf,not_or]at h
  exact⟨h.1.1,h.1.2.1,h.1.2.2.1,h.1.2.2.2.1⟩
 have l4:h0.load br 4 1=some [vPi]:=S.ld (b:=br) (o:=4) m0 rfl
 have ba:=fun c d=>S.key_lt (b:=c) d
 have ai: ∀j:Bool,j≠i->j= !i:=fun j h=>by cases i<;>cases j<;>first|rfl|exact absurd rfl h
 have bl:(!i)≠i:=by cases i<;>decide
 have Y : ∀(h':Hp) (F6:List Nat) (K L:List (Value×Value×Nat)) (Z ad:Nat) (V:Bi),V=bW (fun v=>f.getD v 0) i σ v lab p->V.sd=cQ σ.sd i (dv (fun v=>f.getD v 0) (σ.sd i) i v lab p)->V.ev=σ.ev->
  St (· ∈BB) h0 h' [(br,.row [pn,.int .i64 (s:Nat),.int .i64 (t:Nat),.slice none 0 0,vPi,ptrTo (X false).b,ptrTo (X true).b,.int .i64 (V.dist:Nat),.slice none 0 0,vE,.int .i64 (V.meet:Nat)] 1),(A,.row [ptrTo xp,.int .i64 (dw i:Nat),.int .i64 (iY i),vA,vH,.map (some xl),.map (some xa),.map (some xc)] 1),(xl,.map K Z),(xa,.map L ad),(xc,.map ec cc),(yb,.row [ptrTo yp,.int .i64 (dw (!i):Nat),.int .i64 (iY (!i)),wA,wH,.map (some yl),.map (some ya),.map (some yc)] 1),(yl,.map fl dl),(ya,.map fa da),(yc,.map fc dc)] [(vE,4,σ.ev.flatMap dB)]->
  bM h' F6 (ptrTo xp) N (cE (σ.sd i).K v (some (2*lab+qB (fun v=>f.getD v 0) i v)))->bM h' (F (!i)) (ptrTo yp) N (σ.sd (!i)).K->(∀c∈F6,c∈F i\/h0.n<=c)->c7 K Z (dk gl v (some (.int .i64 (lab:Nat))))->c7 L ad (dk ga v (some (.int .i64 (byI p))))->
  Mo (· ∈BB) h0 h'/\ ∃B F',dL h' br pn s t vPi B F' vE N (bW (fun v=>f.getD v 0) i σ v lab p)/\(∀j,(B j).b=(X j).b/\(B j).vA=(X j).vA/\(B j).vH=(X j).vH)/\ ∀c∈boB br pn s t vPi B F' vE (bW (fun v=>f.getD v 0) i σ v lab p),c∈BB\/h0.n<=c:=by
  intro h' F6 K L Z ad V bv e1 e2 S H6 G C I J
  rw [<-bv]
  let B:Bool->Sx:=fun j=>if j=i then⟨A,xp,xl,xa,xc,vA,vH,K,Z,L,ad,ec,cc⟩else X j
  let F':Bool->List Nat:=fun j=>if j=i then F6 else F j
  have xi:B i=⟨A,xp,xl,xa,xc,vA,vH,K,Z,L,ad,ec,cc⟩:=if_pos rfl
  have xo:B (!i)=X (!i):=if_neg bl
  have fi:F' i=F6:=if_pos rfl
  have fo:F' (!i)=F (!i):=if_neg bl
  have bb: ∀j,(B j).b=(X j).b/\(B j).vA=(X j).vA/\(B j).vH=(X j).vH:=fun j=>by
   by_cases W:j=i
   . subst W;rw [xi,hX];exact⟨rfl,rfl,rfl⟩
   . rw [ai j W,xo];exact⟨rfl,rfl,rfl⟩
  have eL:boL i br pn s t vPi B vE V=[(br,.row [pn,.int .i64 (s:Nat),.int .i64 (t:Nat),.slice none 0 0,vPi,ptrTo (X false).b,ptrTo (X true).b,.int .i64 (V.dist:Nat),.slice none 0 0,vE,.int .i64 (V.meet:Nat)] 1),(A,.row [ptrTo xp,.int .i64 (dw i:Nat),.int .i64 (iY i),vA,vH,.map (some xl),.map (some xa),.map (some xc)] 1),(xl,.map K Z),(xa,.map L ad),(xc,.map ec cc),(yb,.row [ptrTo yp,.int .i64 (dw (!i):Nat),.int .i64 (iY (!i)),wA,wH,.map (some yl),.map (some ya),.map (some yc)] 1),(yl,.map fl dl),(ya,.map fa da),(yc,.map fc dc)]:=by
   simp only [boL,fg,Sx.L,Sx.row,xi,xo,hY,(bb false).1,(bb true).1,XZ,List.nil_append]
  have eG:boG vE V=[(vE,4,σ.ev.flatMap dB)]:=by unfold boG;rw [e2]
  have ki: ∀c,c∈keys (boL i br pn s t vPi B vE V) (boG vE V)->c<h0.n:=fun c d=>by
   rw [eL,eG]at d
   exact ba c d
  have a6: ∀c,c∈F i\/c∈F (!i)->c∉keys (boL i br pn s t vPi B vE V) (boG vE V):=fun c d O=>by
   rw [eL,eG]at O
   exact d.elim (fun h=>hk i c h O) (fun h=>hk (!i) c h O)
  rw [<-eL,<-eG]at S
  have ap:=fun j c (d:c∈F j)=>(a.apart j c d).2
  have lF:=fun j=>(a.heap j).lt ok
  refine⟨S.fr,B,F',dL.of i S (fun j=>?_) (fun j=>?_) (fun j c d=>?_),bb,fun c d=>?_⟩
  . by_cases W:j=i
    . subst W
      rw [fi,xi,e1,du]
      exact H6
    . rw [ai j W,fo,xo,e1,kj,hY]
      exact G
  . by_cases W:j=i
    . subst W
      rw [xi,e1,du]
      refine⟨⟨_,I,fun u=>?_⟩,⟨_,J,fun u hu=>?_⟩,⟨gc,MC,bk⟩⟩
      . simp only [dk,dv]
        by_cases hu:u=v
        . subst hu;simp
        . rw [if_neg (by omega),if_neg hu];exact bi u
      . simp only [dk,dv,updP]at hu⊢
        by_cases bc:u=v
        . subst bc;simp
        . rw [if_neg (by omega),if_neg bc]
          rw [if_neg bc]at hu
          exact bu u hu
    . rw [ai j W,xo,e1,kj]
      exact a.ok _
  . by_cases W:j=i
    . subst W
      rw [fi]at d
      rw [fo]
      rcases C c d with h|h
      . exact⟨a6 c (.inl h),ap _ c h⟩
      . exact⟨fun O=>by have:=ki c O;omega,fun O=>by have:=lF _ c O;omega⟩
    . rw [ai j W]at d⊢
      rw [fo]at d
      rw [Yf,fi]
      refine⟨a6 c (.inr d),fun O=>?_⟩
      rcases C c O with h|h
      . exact ap _ c h d
      . have:=lF _ c d;omega
  . have hB: ∀j,∀c∈F' j,c∈BB\/h0.n<=c:=fun j c d=>by
     by_cases W:j=i
     . subst W
       rw [fi]at d
       exact(C c d).elim (fun h=>af _ c h) .inr
     . rw [ai j W,fo]at d
       exact af _ c d
    rcases List.mem_append.1 d with d|d
    . refine(S.key_own ?_).symm
      unfold keys at d⊢
      rcases List.mem_append.1 d with h|h
      . exact Xc _ (((lL i).map _).mem_iff.2 h)
      . exact Xh _ h
    . rcases List.mem_append.1 d with d|d
      . exact hB _ c d
      . exact hB _ c d
 refine ab (n:=132) (rs:=[]) rfl Tryz.e119 rfl rfl rfl (lbt rfl) ?_
 simp only [BS,LB,Nat.reduceLT,Nat.reduceEqDiff]
 refine am (bpi_ok S.ok l4 sP (by omega)) ?_
 intro h1 g1
 replace S:=S.call g1
 replace H:=H.gr g1
 replace Hx:=Hx.gr g1
 have E:=kB (x:=(v:Int)) Tryz.t277.1 Tryz.t3.1 (z:=.int .i64 0) (by kernel_rfl) (show h1.get xl=some (.map el cl)from(S.own _ m2).2) ML
 have Q:=jR (x:=(v:Int)) Tryz.t218.1 Tryz.t3.1 (z:=.int .i64 0) (by kernel_rfl) (show h1.get xc=some (.map ec cc)from(S.own _ m4).2) MC
 rw [bi]at E
 rw [bk]at Q
 generalize hp:f.getD v 0=pv
 by_cases M:OpB (fun v=>f.getD v 0) v
 . have ho : decide (-(FAR:Int)<pv/\pv<FAR)=true:=decide_eq_true (by rw [<-hp];exact M)
   by_cases hO:v∈(σ.sd i).O
   . rw [if_pos hO]at Q
     simp only [BS,LB,Nat.reduceLT,Nat.reduceEqDiff,Int.reduceLT,Fa,ho,E,Q,Xu,S.ld (b:=A) (o:=5) m1 rfl,S.ld (b:=A) (o:=7) m1 rfl]
     exact U (by unfold bW;rw [if_pos (.inl hO)]) _ g1
   . rw [if_neg hO]at Q
     have bm:an .i64 (2*(lab:Int))=2*(lab:Int):=by rw [wrap64]<;>omega
     have bX: -(FAR:Int)<pv/\pv<FAR:=of_decide_eq_true ho
     have bo:an .i64 (iY i*pv)=iY i*pv:=by rw [wrap64]<;>cases i<;>simp only [iY,if_true,if_false,Bool.false_eq_true]<;>omega
     have R:iY i*pv=qB (fun v=>f.getD v 0) i v:=by
      unfold qB
      simp only [hp]
      cases i<;>simp [iY]
     have a7:an .i64 (2*(lab:Int)+iY i*pv)=2*(lab:Int)+iY i*pv:=by rw [wrap64]<;>cases i<;>simp only [iY,if_true,if_false,Bool.false_eq_true]<;>omega
     cases hL:(σ.sd i).L v with
     | none =>
       rw [hL]at E
       simp only [XL,Xp,XN]at E
       have T:bW (fun v=>f.getD v 0) i σ v lab p=nJ ((σ.sd (!i)).L v) ⟨cQ σ.sd i (dv (fun v=>f.getD v 0) (σ.sd i) i v lab p),σ.ev,σ.dist,σ.meet⟩ v lab:=by
        unfold bW
        rw [if_neg (by rw [hL];rintro(h|h|h);exact hO h;exact h M;cases h)]
       simp only [BS,LB,Nat.reduceLT,Nat.reduceEqDiff,Int.reduceLT,Fa,ho,E,Q,Xp,S.ld (b:=A) (o:=5) m1 rfl,S.ld (b:=A) (o:=7) m1 rfl]
       refine aB (aG rfl) (q:=0) (ps:=[]) (by kernel_rfl) ?_
       simp only [BS,LB,cls,Nat.reduceLT,Nat.reduceEqDiff,Nat.reduceAdd,Nat.reducePow,Nat.reduceDiv,Nat.reduceMod,Nat.reduceLeDiff,Fa,S.ld (b:=A) (o:=5) m1 rfl,S.ld (b:=A) (o:=6) m1 rfl]
       obtain⟨h2,n1,e1,ak,bx,bB,_,S1,bd⟩:=S.mentI (i:=2) (x:=(v:Int)) rfl Tryz.t277.1 Tryz.t3.1 (z:=.int .i64 0) (by kernel_rfl) ML
       refine jF (P:=fun h' v'=>h'=h2/\v'=.tuple #[(gl v).getD (.int .i64 0),.int .i64 (Yg n1)]) ⟨h2,_,e1,rfl,rfl⟩ ?_
       rintro h' v' ⟨rfl,rfl⟩
       clear S;have S:=S1;clear S1
       simp only [LC]at S
       obtain⟨K,al,I⟩:=bd (.int .i64 (lab:Nat))
       simp only [BS,LB,cls,Nat.reduceLT,Nat.reduceEqDiff,Nat.reduceAdd,Nat.reducePow,Nat.reduceDiv,Nat.reduceMod,Nat.reduceLeDiff,XH]
       refine dS (S.mstoreI (i:=2) rfl al) ?_
       clear S;rintro h3 ⟨ax,S⟩
       simp only [LC]at S
       simp only [BS,LB,cls,Nat.reduceLT,Nat.reduceEqDiff,Nat.reduceAdd,Nat.reducePow,Nat.reduceDiv,Nat.reduceMod,Nat.reduceLeDiff]
       obtain⟨h4,n2,e2,ay,bF,bP,_,S1,be⟩:=S.mentI (i:=3) (x:=(v:Int)) rfl Tryz.t218.1 Tryz.t3.1 (z:=.int .i64 0) (by kernel_rfl) MA
       refine jF (P:=fun h' v'=>h'=h4/\v'=.tuple #[(ga v).getD (.int .i64 0),.int .i64 (Yg n2)]) ⟨h4,_,e2,rfl,rfl⟩ ?_
       rintro h' v' ⟨rfl,rfl⟩
       clear S;have S:=S1;clear S1
       simp only [LC]at S
       obtain⟨L,aL,J⟩:=be (.int .i64 (byI p))
       simp only [BS,LB,cls,Nat.reduceLT,Nat.reduceEqDiff,Nat.reduceAdd,Nat.reducePow,Nat.reduceDiv,Nat.reduceMod,Nat.reduceLeDiff,XH]
       refine dS (S.mstoreI (i:=3) rfl aL) ?_
       clear S;rintro h5 ⟨a0,S⟩
       simp only [LC]at S
       simp only [BS,LB,Nat.reduceLT,Nat.reduceEqDiff,Nat.reduceAdd,Fa,bm,bo,a7,S.ld (b:=A) (o:=2) m1 rfl,S.ld (b:=A) (o:=0) m1 rfl]
       have H5:=(((H.mo ak (fun c d=>(w i c d).2.2.1)).mo ax (fun c d=>(w i c d).2.2.1)).mo ay (fun c d=>(w i c d).2.2.2)).mo a0 (fun c d=>(w i c d).2.2.2)
       have bf:=(((Hx.mo ak (fun c d=>(w _ c d).2.2.1)).mo ax (fun c d=>(w _ c d).2.2.1)).mo ay (fun c d=>(w _ c d).2.2.2)).mo a0 (fun c d=>(w _ c d).2.2.2)
       refine step_ret (pH S.ok H5 hv (by omega) (bt hL)) ?_
       rintro r h6 ⟨f6,F6,H6,bp⟩
       have k5:=S.fr.n
       have C: ∀c∈F6,c∈F i\/h0.n<=c:=fun c d=>(bp c d).imp (fun h=>h) (fun h=>by omega)
       have G:=bf.mo f6 (fun c d O=>(a.apart (!i) c d).2 (by rw [Yf];exact O))
       replace S:=S.stepF f6 (fun c d=>⟨af i c d,hk i c d⟩)
       simp only [BS]
       refine aB (aG rfl) (q:=0) (ps:=[]) (by kernel_rfl) ?_
       have wo:an .i64 (1-((dw i:Nat):Int))=((dw (!i):Nat):Int):=by cases i<;>rfl
       have io:fU (.int .i64 ((dw (!i):Nat):Int)) 2=some (dw (!i)):=ir (by cases i<;>decide)
       have ly:h6.load br (5+dw (!i)) 1=some [ptrTo yb]:=S.ld (b:=br) m0 (by
        cases i
        . show some (ptrTo (X true).b)=_;rw [show X true=_ from hY]
        . show some (ptrTo (X false).b)=_;rw [show X false=_ from hY])
       obtain⟨gq,MQ,bh⟩:=Hq.ml
       have y:=kB (x:=(v:Int)) Tryz.t277.1 Tryz.t3.1 (z:=.int .i64 0) (by kernel_rfl) (show h6.get yl=some (.map fl dl)from(S.own _ m6).2) MQ
       rw [bh]at y
       cases hM:(σ.sd (!i)).L v with
       | none=>
         rw [hM]at y
         simp only [XL,Xp,XN]at y
         simp only [BS,LB,cls,Nat.reduceLT,Nat.reduceEqDiff,Nat.reduceAdd,Nat.reducePow,Nat.reduceDiv,Nat.reduceMod,Nat.reduceLeDiff,Fa,wo,io,ly,y,S.ld (b:=A) (o:=1) m1 rfl,S.ld (b:=yb) (o:=5) m5 rfl]
         refine Y _ F6 _ _ _ _ ⟨cQ σ.sd i (dv (fun v=>f.getD v 0) (σ.sd i) i v lab p),σ.ev,σ.dist,σ.meet⟩ ?_ rfl rfl S (by rw [<-R];exact H6) G C I J
         rw [T,hM];rfl
       | some m=>
         have O:=hb _ v m hM
         have a1:an .i64 ((lab:Int)+(m:Int))=((lab+m:Nat):Int):=by rw [wrap64]<;>omega
         rw [hM]at y
         simp only [XK,Xu,XU]at y
         by_cases hlt:lab+m<σ.dist
         . have D:((lab+m:Nat):Int)<(σ.dist:Int):=by omega
           simp only [BS,LB,cls,Nat.reduceLT,Nat.reduceEqDiff,Nat.reduceAdd,Nat.reducePow,Nat.reduceDiv,Nat.reduceMod,Nat.reduceLeDiff,Fa,wo,io,ly,y,a1,D,S.ld (b:=A) (o:=1) m1 rfl,S.ld (b:=yb) (o:=5) m5 rfl,S.ld (b:=br) (o:=7) m0 rfl]
           refine az (aC S (i:=0) rfl Tryz.t2.2.2.1 aY (Xg (lbt rfl)) ono) ?_
           clear S;rintro h7 ⟨S,a2⟩
           simp only [LC]at S
           simp only [BS,LB,Nat.reduceLT,Nat.reduceEqDiff,Fa]
           refine az (aC S (i:=0) rfl Tryz.t3.2.2.1 aY (Xg (lbt rfl)) ono) ?_
           clear S;rintro h8 ⟨S,a3⟩
           simp only [LC]at S
           simp only [BS]
           have a4: ∀c∈F6,¬c=br:=fun c d=>by
            rcases C c d with h|h
            . exact(w i c h).1
            . have:=ba br (Xc _ (List.mem_cons_self));intro e;omega
           refine Y _ F6 _ _ _ _ ⟨cQ σ.sd i (dv (fun v=>f.getD v 0) (σ.sd i) i v lab p),σ.ev,lab+m,v⟩ ?_ rfl rfl S (by rw [<-R];exact(H6.mo a2 a4).mo a3 a4) ((G.mo a2 (fun c d=>(w _ c d).1)).mo a3 (fun c d=>(w _ c d).1)) C I J
           rw [T,hM];exact(if_pos hlt).symm
         . have D: ¬((lab+m:Nat):Int)<(σ.dist:Int):=by omega
           simp only [BS,LB,cls,Nat.reduceLT,Nat.reduceEqDiff,Nat.reduceAdd,Nat.reducePow,Nat.reduceDiv,Nat.reduceMod,Nat.reduceLeDiff,Fa,wo,io,ly,y,a1,D,S.ld (b:=A) (o:=1) m1 rfl,S.ld (b:=yb) (o:=5) m5 rfl,S.ld (b:=br) (o:=7) m0 rfl]
           refine Y _ F6 _ _ _ _ ⟨cQ σ.sd i (dv (fun v=>f.getD v 0) (σ.sd i) i v lab p),σ.ev,σ.dist,σ.meet⟩ ?_ rfl rfl S (by rw [<-R];exact H6) G C I J
           rw [T,hM];exact(if_neg hlt).symm
     | some l =>
       rw [hL]at E
       simp only [XK,Xu,XU]at E
       by_cases hle:l<=lab
       . have a5:(l:Int)<=(lab:Int):=by omega
         simp only [BS,LB,Nat.reduceLT,Nat.reduceEqDiff,Int.reduceLT,Fa,ho,E,Q,Xp,a5,S.ld (b:=A) (o:=5) m1 rfl,S.ld (b:=A) (o:=7) m1 rfl]
         exact U (by unfold bW;rw [if_pos (.inr (.inr (by rw [hL];exact decide_eq_true hle)))]) _ g1
       . have a5: ¬(l:Int)<=(lab:Int):=by omega
         have T:bW (fun v=>f.getD v 0) i σ v lab p=nJ ((σ.sd (!i)).L v) ⟨cQ σ.sd i (dv (fun v=>f.getD v 0) (σ.sd i) i v lab p),σ.ev,σ.dist,σ.meet⟩ v lab:=by
          unfold bW
          rw [if_neg (by rw [hL];rintro(h|h|h);exact hO h;exact h M;exact hle (of_decide_eq_true h))]
         simp only [BS,LB,Nat.reduceLT,Nat.reduceEqDiff,Int.reduceLT,Fa,ho,E,Q,Xp,a5,S.ld (b:=A) (o:=5) m1 rfl,S.ld (b:=A) (o:=7) m1 rfl]
         refine aB (aG rfl) (q:=0) (ps:=[]) (by kernel_rfl) ?_
         simp only [BS,LB,cls,Nat.reduceLT,Nat.reduceEqDiff,Nat.reduceAdd,Nat.reducePow,Nat.reduceDiv,Nat.reduceMod,Nat.reduceLeDiff,Fa,S.ld (b:=A) (o:=5) m1 rfl,S.ld (b:=A) (o:=6) m1 rfl]
         obtain⟨h2,n1,e1,ak,bx,bB,_,S1,bd⟩:=S.mentI (i:=2) (x:=(v:Int)) rfl Tryz.t277.1 Tryz.t3.1 (z:=.int .i64 0) (by kernel_rfl) ML
         refine jF (P:=fun h' v'=>h'=h2/\v'=.tuple #[(gl v).getD (.int .i64 0),.int .i64 (Yg n1)]) ⟨h2,_,e1,rfl,rfl⟩ ?_
         rintro h' v' ⟨rfl,rfl⟩
         clear S;have S:=S1;clear S1
         simp only [LC]at S
         obtain⟨K,al,I⟩:=bd (.int .i64 (lab:Nat))
         simp only [BS,LB,cls,Nat.reduceLT,Nat.reduceEqDiff,Nat.reduceAdd,Nat.reducePow,Nat.reduceDiv,Nat.reduceMod,Nat.reduceLeDiff,XH]
         refine dS (S.mstoreI (i:=2) rfl al) ?_
         clear S;rintro h3 ⟨ax,S⟩
         simp only [LC]at S
         simp only [BS,LB,cls,Nat.reduceLT,Nat.reduceEqDiff,Nat.reduceAdd,Nat.reducePow,Nat.reduceDiv,Nat.reduceMod,Nat.reduceLeDiff]
         obtain⟨h4,n2,e2,ay,bF,bP,_,S1,be⟩:=S.mentI (i:=3) (x:=(v:Int)) rfl Tryz.t218.1 Tryz.t3.1 (z:=.int .i64 0) (by kernel_rfl) MA
         refine jF (P:=fun h' v'=>h'=h4/\v'=.tuple #[(ga v).getD (.int .i64 0),.int .i64 (Yg n2)]) ⟨h4,_,e2,rfl,rfl⟩ ?_
         rintro h' v' ⟨rfl,rfl⟩
         clear S;have S:=S1;clear S1
         simp only [LC]at S
         obtain⟨L,aL,J⟩:=be (.int .i64 (byI p))
         simp only [BS,LB,cls,Nat.reduceLT,Nat.reduceEqDiff,Nat.reduceAdd,Nat.reducePow,Nat.reduceDiv,Nat.reduceMod,Nat.reduceLeDiff,XH]
         refine dS (S.mstoreI (i:=3) rfl aL) ?_
         clear S;rintro h5 ⟨a0,S⟩
         simp only [LC]at S
         simp only [BS,LB,Nat.reduceLT,Nat.reduceEqDiff,Nat.reduceAdd,Fa,bm,bo,a7,S.ld (b:=A) (o:=2) m1 rfl,S.ld (b:=A) (o:=0) m1 rfl]
         have H5:=(((H.mo ak (fun c d=>(w i c d).2.2.1)).mo ax (fun c d=>(w i c d).2.2.1)).mo ay (fun c d=>(w i c d).2.2.2)).mo a0 (fun c d=>(w i c d).2.2.2)
         have bf:=(((Hx.mo ak (fun c d=>(w _ c d).2.2.1)).mo ax (fun c d=>(w _ c d).2.2.1)).mo ay (fun c d=>(w _ c d).2.2.2)).mo a0 (fun c d=>(w _ c d).2.2.2)
         refine step_ret (qP S.ok H5 (by omega) (bs l hL hO) (k:=2*(lab:Int)+iY i*pv) (by rw [R];omega)) ?_
         rintro r h6 ⟨f6,H6⟩
         have C: ∀c∈F i,c∈F i\/h0.n<=c:=fun c d=>.inl d
         have G:=bf.mo f6 (fun c d O=>(a.apart (!i) c d).2 (by rw [Yf];exact O))
         replace S:=S.stepF f6 (fun c d=>⟨af i c d,hk i c d⟩)
         simp only [BS]
         refine aB (aG rfl) (q:=0) (ps:=[]) (by kernel_rfl) ?_
         have wo:an .i64 (1-((dw i:Nat):Int))=((dw (!i):Nat):Int):=by cases i<;>rfl
         have io:fU (.int .i64 ((dw (!i):Nat):Int)) 2=some (dw (!i)):=ir (by cases i<;>decide)
         have ly:h6.load br (5+dw (!i)) 1=some [ptrTo yb]:=S.ld (b:=br) m0 (by
          cases i
          . show some (ptrTo (X true).b)=_;rw [show X true=_ from hY]
          . show some (ptrTo (X false).b)=_;rw [show X false=_ from hY])
         obtain⟨gq,MQ,bh⟩:=Hq.ml
         have y:=kB (x:=(v:Int)) Tryz.t277.1 Tryz.t3.1 (z:=.int .i64 0) (by kernel_rfl) (show h6.get yl=some (.map fl dl)from(S.own _ m6).2) MQ
         rw [bh]at y
         cases hM:(σ.sd (!i)).L v with
         | none=>
           rw [hM]at y
           simp only [XL,Xp,XN]at y
           simp only [BS,LB,cls,Nat.reduceLT,Nat.reduceEqDiff,Nat.reduceAdd,Nat.reducePow,Nat.reduceDiv,Nat.reduceMod,Nat.reduceLeDiff,Fa,wo,io,ly,y,S.ld (b:=A) (o:=1) m1 rfl,S.ld (b:=yb) (o:=5) m5 rfl]
           refine Y _ (F i) _ _ _ _ ⟨cQ σ.sd i (dv (fun v=>f.getD v 0) (σ.sd i) i v lab p),σ.ev,σ.dist,σ.meet⟩ ?_ rfl rfl S (by rw [<-R];exact H6) G C I J
           rw [T,hM];rfl
         | some m=>
           have O:=hb _ v m hM
           have a1:an .i64 ((lab:Int)+(m:Int))=((lab+m:Nat):Int):=by rw [wrap64]<;>omega
           rw [hM]at y
           simp only [XK,Xu,XU]at y
           by_cases hlt:lab+m<σ.dist
           . have D:((lab+m:Nat):Int)<(σ.dist:Int):=by omega
             simp only [BS,LB,cls,Nat.reduceLT,Nat.reduceEqDiff,Nat.reduceAdd,Nat.reducePow,Nat.reduceDiv,Nat.reduceMod,Nat.reduceLeDiff,Fa,wo,io,ly,y,a1,D,S.ld (b:=A) (o:=1) m1 rfl,S.ld (b:=yb) (o:=5) m5 rfl,S.ld (b:=br) (o:=7) m0 rfl]
             refine az (aC S (i:=0) rfl Tryz.t2.2.2.1 aY (Xg (lbt rfl)) ono) ?_
             clear S;rintro h7 ⟨S,a2⟩
             simp only [LC]at S
             simp only [BS,LB,Nat.reduceLT,Nat.reduceEqDiff,Fa]
             refine az (aC S (i:=0) rfl Tryz.t3.2.2.1 aY (Xg (lbt rfl)) ono) ?_
             clear S;rintro h8 ⟨S,a3⟩
             simp only [LC]at S
             simp only [BS]
             have a4: ∀c∈F i,¬c=br:=fun c d=>by
              rcases C c d with h|h
              . exact(w i c h).1
              . have:=ba br (Xc _ (List.mem_cons_self));intro e;omega
             refine Y _ (F i) _ _ _ _ ⟨cQ σ.sd i (dv (fun v=>f.getD v 0) (σ.sd i) i v lab p),σ.ev,lab+m,v⟩ ?_ rfl rfl S (by rw [<-R];exact(H6.mo a2 a4).mo a3 a4) ((G.mo a2 (fun c d=>(w _ c d).1)).mo a3 (fun c d=>(w _ c d).1)) C I J
             rw [T,hM];exact(if_pos hlt).symm
           . have D: ¬((lab+m:Nat):Int)<(σ.dist:Int):=by omega
             simp only [BS,LB,cls,Nat.reduceLT,Nat.reduceEqDiff,Nat.reduceAdd,Nat.reducePow,Nat.reduceDiv,Nat.reduceMod,Nat.reduceLeDiff,Fa,wo,io,ly,y,a1,D,S.ld (b:=A) (o:=1) m1 rfl,S.ld (b:=yb) (o:=5) m5 rfl,S.ld (b:=br) (o:=7) m0 rfl]
             refine Y _ (F i) _ _ _ _ ⟨cQ σ.sd i (dv (fun v=>f.getD v 0) (σ.sd i) i v lab p),σ.ev,σ.dist,σ.meet⟩ ?_ rfl rfl S (by rw [<-R];exact H6) G C I J
             rw [T,hM];exact(if_neg hlt).symm
 . have ho:decide (-(FAR:Int)<pv/\pv<FAR)=false:=decide_eq_false (by rw [<-hp];exact M)
   simp only [BS,LB,Nat.reduceLT,Nat.reduceEqDiff,Fa,ho,E,S.ld (b:=A) (o:=5) m1 rfl]
   exact U (by unfold bW;rw [if_pos (.inr (.inl M))]) _ g1
def Tryz.F03:=aj t1<|aj t2<|aj t3<|aj t4<|aj t5<|aj t6<|aj Z3<|aj t24<|aj Z0<|aj t32<|aj t33<|aj t48<|aj t58<|aj t74<|aj Z10<|aj Z11<|aj t189<|aj Z1<|aj t192<|aj t199<|aj t200<|aj t201<|aj Z14<|aj t218<|aj t275<|aj t277<|aj Z17<|aj Z6<|Z7
theorem bM.lo{h:Hp}{F:List Nat}{p:Value}{N x:Nat}{K:Nat->Option Int}(a:bM h F p N K):bM {h with lo:=x} F p N K:=by
 obtain⟨c,d,l,e,f,g,i,j⟩:=a.ex
 exact⟨⟨c,d,l,e,f,g,i,j.imp (fun h=>h) (fun⟨m,b,e,k⟩=>⟨m,b,e,⟨k.row,k.ex,k.ne⟩⟩)⟩⟩
theorem wO{h0:Hp}(l:h0.t.Sized h0.n){br r L v:Nat}{γ:Gra}(M:bI h0 L (ptrTo r) γ){a:List Value}(R:Row h0 br a 1)(d:a[0]? =some (ptrTo r))(f:a.length=11){i:Bool}{g j:Value}(O:Fl g)(Q:Fl j):
 Ret zM 114 [ptrTo br,.int .i64 (dw i:Nat),.int .i64 (v:Nat),.int .i64 (iY i),g,j] h0 fun _ h'=>Mo (· =br) h0 h'/\ ∃(x:Sx) (F:List Nat),Row h' br (a.set (5+dw i) (ptrTo x.b)) 1/\(∀q∈x.L i,Has h' q.1 q.2)/\x.vA=g/\x.vH=j/\x.Ok fV/\bM h' F (ptrTo x.p) γ.nodes (fun _=>none)/\(∀c∈keys (x.L i) []++F,h0.n<=c)/\(keys (x.L i) []).Nodup/\ ∀c∈F,c∉keys (x.L i) []:=by
 have S:=St.init1 l (o:=.row a 1) R
 have U:=R.load1 (o:=0) d
 refine ab (n:=32) (rs:=[]) rfl Tryz.e114 rfl rfl rfl (lbt rfl) ?_
 simp only [BS]
 refine aB (aG rfl) (q:=94400) (ps:=[]) (by kernel_rfl) ?_
 simp only [BS,LB,cls,Nat.reduceLT,Nat.reduceEqDiff,Nat.reduceAdd,Nat.reducePow,Nat.reduceDiv,Nat.reduceMod,Nat.reduceLeDiff,F03,U]
 refine pU (dt (h0:={h0 with lo:=h0.n}) S.ok (M.keep l (fun _ _=>rfl))) ?_
 intro m s
 replace S:=S.call s
 simp only [BS,LB,cls,Nat.reduceLT,Nat.reduceEqDiff,Nat.reduceAdd,Nat.reducePow,Nat.reduceDiv,Nat.reduceMod,Nat.reduceLeDiff]
 refine dq_ret (P:=fun v h'=> ∃F,bM h' F v γ.nodes (fun _=>none)/\ ∀b∈F,m.n<=b) ((uq (h0:={m with lo:=m.n}) S.ok (N:=γ.nodes)).mono fun v h' h=>⟨h.1,h.2.imp fun F h=>⟨h.1.lo,h.2⟩⟩) ?_
 rintro t h2 p ⟨F,H,u⟩
 replace S:=S.call p
 have V:=S
 replace S:=S.base
 simp only [LC,keys,Xk,Xv,Xi]at S
 have W:Fl t:=by obtain⟨_,_,_,rfl,_⟩:=H.ex;exact dz
 simp only [BS,LB,cls,Nat.reduceLT,Nat.reduceEqDiff,Nat.reduceAdd,Nat.reducePow,Nat.reduceDiv,Nat.reduceMod,Nat.reduceLeDiff]
 refine dC kR S ?_;clear S;intro h X S w y
 simp only [BS,LB,cls,Nat.reduceAdd,Nat.reducePow,Nat.reduceDiv,Nat.reduceMod,Nat.reduceLeDiff]
 refine dC kR S ?_;clear S;intro h Y S z A
 simp only [BS,LB,cls,Nat.reduceAdd,Nat.reducePow,Nat.reduceDiv,Nat.reduceMod,Nat.reduceLeDiff]
 refine dC kR S ?_;clear S;intro h Z S B C
 simp only [BS,LB,cls,Nat.reduceLT,Nat.reduceEqDiff,Nat.reduceAdd,Nat.reducePow,Nat.reduceDiv,Nat.reduceMod,Nat.reduceLeDiff,F03,W,O,Q]
 refine dC (aS (by intro x e;cases e)) S ?_;clear S;intro h xb S D E;simp only [ah]at S
 have io:fU (.int .i64 ((dw i:Nat):Int)) 2=some (dw i):=ir (by cases i<;>decide)
 simp only [BS,LB,cls,Nat.reduceLT,Nat.reduceEqDiff,Nat.reduceAdd,Nat.reducePow,Nat.reduceDiv,Nat.reduceMod,Nat.reduceLeDiff,F03,io]
 refine dS (aC S (i:=4) rfl Tryz.t200.2.2.1 dz (by rw [f];cases i<;>decide) ono) ?_
 clear S;rintro G ⟨S,mo⟩
 simp only [LC]at S
 simp only [BS,LB,Nat.reduceAdd]
 have k2:=p.n
 have k1:=s.n
 obtain⟨I,ep⟩: ∃b,t=ptrTo b:=by obtain⟨b,_,_,e,_⟩:=H.ex;exact⟨b,e⟩
 subst ep
 have lF:=H.lt p.ok
 have zb:=R.lt l
 have H9:bM G F (ptrTo I) γ.nodes (fun _=>none):=H.mo S.fr (fun c d k=>by
  have:=u c d
  have:c=br:=by simpa using k
  omega)
 have J:=S.apart
 simp only [keys,Xk,Xv,Xi,Xr,XJ,Xf,Xd,or_false,not_or]at J
 have T:St (· =br) h0 G _ _:=V.rebase S
 refine⟨T.fr,⟨xb,I,X,Y,Z,g,j,[],0,[],0,[],0⟩,F,T.row m4,?_,rfl,rfl,?_,H9,?_,?_,?_⟩
 . intro q K
   simp only [Sx.L,Sx.row,Xf,Xd,or_false]at K
   rcases K with rfl|rfl|rfl|rfl
   . exact(T.own _ m0).2
   . exact(T.own _ m3).2
   . exact(T.own _ m2).2
   . exact(T.own _ m1).2
 . exact⟨⟨_,mz,fun v=>rfl⟩,⟨_,mz,fun v h=>by cases h⟩,⟨_,mz,fun v=>(if_neg (by simp [fV])).symm⟩⟩
 . intro c d
   rcases List.mem_append.1 d with d|d
   . simp only [Sx.L,keys,Xk,Xv,Xi,Xr,Xf,Xd,or_false]at d
     rcases d with rfl|rfl|rfl|rfl<;>omega
   . have:=u c d;omega
 . simp only [Sx.L,keys,Xk,Xv,Xi,Xr,XJ,Xf,Xd,or_false,not_or,List.nodup_nil,and_true,not_false_eq_true]
   obtain⟨⟨a1,a2,a3,a4⟩,⟨b1,b2,b3⟩,⟨c1,c2⟩,_⟩:=J
   exact⟨⟨a3,a2,a1⟩,⟨fun e=>c1 e.symm,fun e=>b2 e.symm⟩,fun e=>b1 e.symm⟩
 . intro c d k
   have:=lF c d
   simp only [Sx.L,keys,Xk,Xv,Xi,Xr,Xf,Xd,or_false]at k
   rcases k with rfl|rfl|rfl|rfl<;>omega
def Tryz.F11:=aj t1<|aj t2<|aj t3<|Z2
def Tryz.F12:=aj t1<|aj t2<|aj t3<|Z2
inductive NxtL(nx:Nat->Option (Nat×Nat)):Nat->List Nat->Prop where
 |nil {v:Nat}:nx v=none->NxtL nx v []
 |cons {v x w:Nat} {l:List Nat}:nx v=some (x,w)->NxtL nx w l->NxtL nx v (x::l)
def nxV:Option (Nat×Nat)->Value
 |none=>.tuple #[.int .i64 0,.int .i64 0,.bool false]
 |some (x,w)=>.tuple #[.int .i64 (x:Nat),.int .i64 (w:Nat),.bool true]
theorem chain_ok{h0:Hp}(K:h0.t.Sized h0.n){g:FuncId}{post:Array Value}{nx:Nat->Option (Nat×Nat)}{D:Nat->Prop}(C: ∀h,Gr h0 h-> ∀v,D v->Ret zM g ([.int .i64 (v:Nat)]++post.toList) h fun r h'=>Gr h h'/\r=nxV (nx v))(L: ∀v x w,D v->nx v=some (x,w)->D w){v:Nat}{l:List Nat}(i:D v)(p:NxtL nx v l)(E:l.length<=1000):
 Ret zM 203 [.int .i64 (v:Nat),.func (.func g) #[] post] h0 fun r h'=>Gr h0 h'/\fL h' (r,1,l.flatMap cB)/\ ∀c,aq r c->h0.n<=c:=by
 have S:=Si K
 refine ab (n:=28) (rs:=[.tmp 4]) rfl Tryz.e203 rfl rfl rfl (lbt rfl) ?_
 simp only [BS,LB,Nat.reduceLT,Nat.reduceEqDiff]
 refine step_ret (C _ S.gr v i) ?_
 rintro r Y ⟨M,rfl⟩
 replace S:=S.call M
 have q: ∀(o:Option (Nat×Nat)),∃x w b,nxV o=.tuple #[.int .i64 x,.int .i64 w,.bool b]:=fun o=>by
  rcases o with _|⟨x,w⟩
  . exact⟨_,_,_,rfl⟩
  . exact⟨_,_,_,rfl⟩
 obtain⟨N,O,P,z⟩:=q (nx v)
 simp only [BS,LB,Nat.reduceLT,Nat.reduceEqDiff,z]
 replace S:=S.nilG (k:=1)
 refine bL (fun(a:List Nat) f h=> ∃done v x w b A,l=done++a/\D v/\NxtL nx v a/\nxV (nx v)=.tuple #[.int .i64 x,.int .i64 w,.bool b]/\St NoM h0 h [] [(A,1,dJ done)]/\f 1=.func (.func g) #[] post/\f 4=A/\f 5=.int .i64 x/\f 6=.int .i64 w/\f 7=.bool b) (fun a=>a.length) ?_ l _ _ ?_
 . clear S p i z
   intro a Q f h ⟨done,v,x,w,b,A,el,i,p,e,S,r1,r4,r5,r6,r7⟩
   cases p with
   | nil t=>
     rw [t]at e
     simp only [nxV,Value.tuple.injEq,Array.mk.injEq,List.cons.injEq,Value.bool.injEq,Value.int.injEq]at e
     obtain⟨⟨_,rfl⟩,⟨_,rfl⟩,rfl,_⟩:=e
     simp only [BS,LB,ac,Nat.reduceLT,Nat.reduceEqDiff,r4,r7]
     rw [Xr]at el
     subst el
     refine⟨S.gr,(S.gown _ m0).1,fun c R=>?_⟩
     exact((S.gown _ m0).2 c (my (S.gown _ m0).1 R)).elim (fun h=>h) (fun h=>h.elim)
   | @cons _ y u d t T=>
     rw [t]at e
     simp only [nxV,Value.tuple.injEq,Array.mk.injEq,List.cons.injEq,Value.bool.injEq,Value.int.injEq]at e
     obtain⟨⟨_,rfl⟩,⟨_,rfl⟩,rfl,_⟩:=e
     have F:done.length+(d.length+1)<=1000:=by rw [el]at E;simpa using E
     have G:=L _ _ _ i t
     simp only [BS,LB,Nat.reduceLT,Nat.reduceEqDiff,r4,r5,r7]
     refine ae (co (by exact Tryz.t33.1) (by exact XF) (by decide) (by rfl)) S ?_;clear S;intro h H S I;simp only [LC,bA,bS,ah,Nat.reduceMul,Nat.reduceAdd,XB,XC,Xx,XI]at S
     simp only [BS,LB,Nat.reduceLT,Nat.reduceEqDiff]
     have s:aM h 1 (.slice (some ⟨H,0,none⟩) 1 1)=some (1,dJ [y]):=by simp only [aM];rw [S.lds (b:=H) (o:=0) (n:=1*1) m0 (lbt rfl)];rfl
     replace S:=S.drop1
     refine eh (S.grow (j:=0) (m:=1) (new:=dJ [y]) rfl Tryz.t33.1 XF (by decide) Tryz.t33.2.2.2.2.2 s rfl (by decide) rfl (by rw [ks,ks];simp;omega)) ?_
     clear S s;rintro h B S
     simp only [LC,<-xk]at S
     simp only [BS,LB,Nat.reduceLT,Nat.reduceEqDiff,r1,r6]
     refine step_ret (C _ S.gr u G) ?_
     rintro r Z ⟨U,rfl⟩
     replace S:=S.call U
     obtain⟨V,W,X,J⟩:=q (nx u)
     simp only [BS,LB,Nat.reduceLT,Nat.reduceEqDiff,J]
     exact Q d _ _ (by simp) ⟨done++[y],u,V,W,X,B,by rw [el];simp,G,T,J,S,by simp [aa,r1],by simp [aa],by simp [aa],by simp [aa],by simp [aa]⟩
 . exact⟨[],v,N,O,P,.slice none 0 0,rfl,i,p,z,S,by simp [aa,cD],by simp [aa],by simp [aa],by simp [aa],by simp [aa]⟩
theorem head1_ok{h0:Hp}(d:h0.t.Sized h0.n){a:Arc}:bz zM 116 [.agg ⟨ct a⟩] h0 (.int .i64 (a.t:Nat)):=by
 have S:=Si d
 refine ab (n:=5) (rs:=[.tmp 2]) rfl Tryz.e116 rfl rfl rfl (lbt rfl) ?_
 simp only [BS,Nat.reduceLT,ct]
 refine ae (aS (by intro x e;cases e)) S ?_;clear S;intro h f S c;simp only [ah]at S
 simp only [BS,LB,ac,Nat.reduceLT,Nat.reduceEqDiff,F11,S.ld (b:=f) (o:=1) m0 rfl]
 exact S.gr
theorem head2_ok{h0:Hp}(d:h0.t.Sized h0.n){a:Arc}:bz zM 118 [.agg ⟨ct a⟩] h0 (.int .i64 (a.s:Nat)):=by
 have S:=Si d
 refine ab (n:=5) (rs:=[.tmp 2]) rfl Tryz.e118 rfl rfl rfl (lbt rfl) ?_
 simp only [BS,Nat.reduceLT,ct]
 refine ae (aS (by intro x e;cases e)) S ?_;clear S;intro h f S c;simp only [ah]at S
 simp only [BS,LB,ac,Nat.reduceLT,Nat.reduceEqDiff,F12,S.ld (b:=f) (o:=0) m0 rfl]
 exact S.gr
def nxB(A:List Arc)(i:Bool)(P:Nat->List Nat)(v:Nat):Option (Nat×Nat):=match P v with
 | []=>none
 |a::_=>some (a,fsB i (A.getD a default))
end Go.Ab
end

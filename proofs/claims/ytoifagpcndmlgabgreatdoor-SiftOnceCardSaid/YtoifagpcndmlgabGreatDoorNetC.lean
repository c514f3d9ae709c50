/- Nets, cells, flags: what the functions do (part 3). -/
import Derived.Test.YtoifagpcndmlgabGreatDoorNetB
open Go.Ab.Tryz
open Go.Ab.Tryz renaming abEnv->zL,e3E->Xt,e38->XX
open List renaming range->zM,getD_eq_getElem?_getD->zO,getElem?_eq_getElem->Xb,getElem_mem->Xe,flatMap_eq_foldl->Xg,take->Xk,drop->Xl,length_map->Xp,length_range->Xq,getElem?_map->Xr,mem_cons_of_mem->Xs,take_succ_eq_append_getElem->Xu,replicate->Xw,length_append->Xy,take_of_length_le->XA,map_eq_flatMap->XE,drop_zero->XG,all_cons->XI,map_cons->XJ,getElem?_append_right->XK,flatMap_cons->XM,drop_eq_getElem_cons->XN,getElem?_append_left->XO,all_nil->XP,map_const'->XS,append_nil->XT,mem_append_right->XV,mem_cons->XY,map_congr_left->X2,map_map->X3
open Nat renaming le_trans->Xa,lt_of_lt_of_le->Xc,lt_of_succ_le->Xd,zero_add->Xf,zero_le->Xh,zero_mul->Xi,mul_one->Xn,one_mul->Xo,le_refl->Xv,lt_of_le_of_lt->Xz,mul_le_mul_right->XB,zero_ne_one->XC,and_le_left->XD,testBit_two_pow->XF,xor_lt_two_pow->XH,le_mul_of_pos_right->XR,testBit_and->XU,blt_eq->XW,land->X4
open Int renaming toNat_natCast->Xj,cast_ofNat_Int->Xx,tdiv_eq_ediv_of_nonneg->XL,eq_ofNat_of_zero_le->XQ
open Bool renaming and_true->Xm,true_and->XZ
set_option maxHeartbeats 4000000
set_option linter.defProp false
set_option linter.unusedVariables false
set_option linter.unusedSimpArgs false
section
namespace Go.Ab
open Go.Proofs
set_option maxRecDepth 10000
def Tryz.F8:=aj t1<|aj t2<|aj t3<|aj t4<|aj t5<|aj t6<|aj Z3<|aj Z4<|aj t9<|aj t10<|aj t11<|aj t12<|aj Z15<|aj Z22<|aj t15<|aj t16<|aj t17<|aj t28<|aj Z0<|aj t32<|aj t34<|aj t47<|aj t100<|aj t101<|aj t102<|aj Z2<|aj t144<|aj t162<|aj t164<|aj Z1<|aj Z16<|aj t172<|aj t194<|aj t215<|aj t218<|aj r218<|aj t221<|aj t242<|aj Z7<|aj Z11<|aj t288<|aj Z19<|aj t300<|aj t302<|aj t304<|aj t305<|aj t306<|aj t307<|Z18
def seen(A:List Arc)(fs ft:Arc->Nat):List Arc:=A.map fun a=>⟨fs a,ft a,a.w⟩
def NextF(E:Env)(g:FuncId)(a:Gra)(b:Value)(fs:Arc->Nat):Prop:= ∀(h:Hp) (e:Nat),h.t.Sized h.n->aS h e b a-> ∀v,v<a.nodes->Ret E g [b,.int .i64 (v:Nat)] h fun r d=>Gr h d/\ar d 1 bM r (outs a.arcs fs a.arcs.length v)/\ ∀c,aq r c->h.n<=c
def ef(l:List Nat):List Value:=l.flatMap bM
theorem kW(l:List Nat):ef l=l.map fun(x:Nat)=>Value.int .i64 x:=by
 unfold ef;rw [Xg,XE,Xg];rfl
theorem ints_map(l:List Int):ints l=l.map fun x=>Value.int .i64 x:=by
 unfold ints;rw [Xg,XE,Xg];rfl
theorem pD(l:List Nat):(ef l).length=l.length:=by rw [kW,Xp]
theorem nats_app(l:List Nat)(x:Nat):ef (l++[x])=ef l++ef [x]:=by rw [kW,kW,kW,List.map_append]
theorem seen_at{A:List Arc}{fs ft:Arc->Nat}{i:Nat}(a:i<A.length):(seen A fs ft).getD i default=⟨fs (A.getD i default),ft (A.getD i default),(A.getD i default).w⟩/\(seen A fs ft).getD i default∈seen A fs ft:=by
 have e:(seen A fs ft).getD i default=⟨fs (A.getD i default),ft (A.getD i default),(A.getD i default).w⟩:=by
  unfold seen;simp [zO,a]
 refine⟨e,?_⟩
 rw [zO,Xb (by unfold seen;simpa using a)]
 exact Xe _
theorem seen_mem{A:List Arc}{fs ft:Arc->Nat}{a:Arc}(c:a∈seen A fs ft): ∃i,i<A.length/\(seen A fs ft).getD i default=a:=by
 obtain⟨i,b,e⟩:=List.mem_iff_getElem.1 c
 exact⟨i,by unfold seen at b;simpa using b,by simp [zO,b,e]⟩
def vZ(a:Hp)(m:Nat)(r:Value)(B:List Arc)(s N:Nat):Prop:= ∃b d e D f O,r=.agg ⟨[b,d,e]⟩/\ar a 1 bM b ((zM N).map D)/\ar a 1 (encI .i64) d f/\ar a 1 bM e O/\f.length=N/\(∀v,IsD B s v (D v))/\(∀c,aq b c\/aq d c\/aq e c->m<=c)/\O.Nodup/\ ∀v∈O,v<N
theorem tQ{h0:Hp}(d:h0.t.Sized h0.n){F:List Nat}{p:Value}{N:Nat}{K:Nat->Option Int}(H:c6 h0 F p N K)(e:N<=1000):Ret zL 127 [p] h0 fun r a=> ∃(v:Nat) (k:Int) (b:Bool),r=.tuple #[.int .i64 (v:Nat),.int .i64 k,.bool b]/\Mo (· ∈F) h0 a/\c6 a F p N (if b=true then cK K v none else K)/\(b=true->K v=some k/\ ∀u k',K u=some k'->k<=k')/\(b=false-> ∀v,K v=none):=by
 refine rC (vq d H e) ?_
 rintro r a (⟨rfl,c,g⟩|⟨v,k,rfl,c,f,i,j⟩)
 . exact⟨0,0,false,rfl,g.fr,H.gr g,fun h=>(by cases h),fun _=>c⟩
 . exact⟨v,k,true,rfl,i,j,fun _=>⟨c,fun u k' h=>by have:=f u k' h;omega⟩,fun h=>(by cases h)⟩
def FloodI(h0:Hp)(B:List Arc)(s N m g i j k n o t:Nat)(y z:FuncId)(O:List Nat)(ρ:Nat->Value)(d:List Deferred)(h:Hp):Prop:=
 ∃ (e:List Nat) (D:Nat->Nat) (K:Nat->Option Int) (F:List Nat) (p:List (Value×Value×Nat)) (c:Nat) (f:Int->Option Value) (q:List Int) (l:Value) (r:Nat) (v:Nat) (a:Int) (b:Bool),d=e.map qk/\
   St NoM h0 h ([(r,Ob.row [.int .i64 a] 1),(m,.row [ptrTo g] 1),(g,.row [ptrTo o,.slice (some ⟨k,0,none⟩) N N,.slice (some ⟨j,0,none⟩) N N,l,.map (some i)] 1),(i,.map p c),(j,.row (ints q) 1),(k,.row (ef ((zM N).map D)) 1),(n,.row [.slice none 0 0,.slice none 0 0,.slice none 0 0] 1)]++dh e) [(l,1,ef O)]/\
   (∀w∈F,h0.n<=w/\w∉keys ([(r,Ob.row [.int .i64 a] 1),(m,.row [ptrTo g] 1),(g,.row [ptrTo o,.slice (some ⟨k,0,none⟩) N N,.slice (some ⟨j,0,none⟩) N N,l,.map (some i)] 1),(i,.map p c),(j,.row (ints q) 1),(k,.row (ef ((zM N).map D)) 1),(n,.row [.slice none 0 0,.slice none 0 0,.slice none 0 0] 1)]++dh e) [(l,1,ef O)])/\
   q.length=N/\dG p c f/\ClF O f/\Dj B s N O D K (fun _=>False)/\c6 h F (ptrTo o) N (if b=true then cK K v none else K)/\(b=true->K v=some a/\ ∀u x,K u=some x->a<=x)/\(b=false-> ∀v,K v=none)/\
   ρ 0=ptrTo t/\ρ 2=.func (.func y) #[ptrTo t] #[]/\ρ 3=.func (.func z) #[] #[]/\ρ 8=ptrTo n/\ρ 9=ptrTo m/\ρ 10=.int .i64 v/\ρ 11=ptrTo r/\ρ 12=.bool b
theorem yY {h0:Hp} (ok:h0.t.Sized h0.n) {l:Gra} (al:Good l) {pn:Value} {nb:Nat} (hn:aS h0 nb pn l) {s:Nat} (hs:s<l.nodes) {gN gE:FuncId} {fs ft:Arc->Nat} (hN:NextF zL gN l pn fs) (hE:KeyF zL gE ft) (bl: ∀a∈l.arcs,ft a<l.nodes):
 Ret zL 94 [pn,.int .i64 s,.func (.func gN) #[pn] #[],.func (.func gE) #[] #[]] h0 fun r h'=>Gr h0 h'/\vZ h' h0.n r (seen l.arcs fs ft) s l.nodes:=by
 have n1:=al.n1
 have n2:=al.n2
 have S:=Si ok
 have c1: ¬((s:Int)<0):=by omega
 have c2: ¬((l.nodes:Int)<=(s:Int)):=by omega
 obtain⟨bp,b7⟩: ∃b,pn=ptrTo b:=by obtain⟨b,_,_,_,_,_,e,_⟩:=hn.ex;exact⟨b,e⟩
 subst b7
 refine ab (n:=117) (rs:=[.cell 8 170]) rfl Tryz.e94 rfl rfl rfl (lbt rfl) ?_
 simp only [BS,F8]
 refine ag aw S ?_;clear S;intro h W S cs
 simp only [BS,LB,Nat.reduceLT,Nat.reduceEqDiff,F8,c1]
 refine am (ca S.ok (hn.gr S.gr)) ?_;intro h g;replace S:=S.call g;clear g
 simp only [BS,LB,Nat.reduceLT,Nat.reduceEqDiff,c2]
 refine am (ca S.ok (hn.gr S.gr)) ?_;intro h g;replace S:=S.call g;clear g
 simp only [BS,LB,Nat.reduceLT,Nat.reduceEqDiff]
 have nF:=S.fr.n
 have kF:=fun {c} (t:c∈_)=>S.key_lt (b:=c) t
 refine step_ret (wo S.ok) ?_;intro v h ⟨g,Fh,H,hFn⟩;replace S:=S.call g;clear g
 rename Value=>p
 have dF: ∀c∈Fh,c∉keys [(W,Ob.row [.slice none 0 0,.slice none 0 0,.slice none 0 0] 1)] []:=fun c t w=>by have:=kF w;have:=hFn c t;omega
 have lF:=H.lt S.ok
 have Y:=S
 have gF: ∀c∈Fh,h0.n<=c\/NoM c:=fun c t=>.inl (Xa nF (hFn c t))
 replace S:=S.base
 simp only [BS,LB]
 refine ag (bR (by exact Tryz.t28.1) (by exact Tryz.e2E) (by decide) (by rfl)) S ?_;clear S;intro h bm S a5;simp only [LC,aV,bK,ah,Nat.reduceMul,Nat.reduceAdd,Xi,Xf,Xn,Xo]at S
 simp only [BS,LB,Nat.reduceLT,Nat.reduceEqDiff]
 refine am (ca S.ok (hn.gr (Y.rebase S).gr)) ?_;intro h g;replace S:=S.call g;clear g
 simp only [BS,LB,Nat.reduceLT,Nat.reduceEqDiff]
 have kl:=fun {c} (t:c∈_)=>S.key_lt (b:=c) t
 have kn:=S.fr.n
 refine step_ret (rep64_ok S.ok (x:=72057594037927936) (.inr ⟨bm,0,none,1,rfl,Xv _,S.lds (b:=bm) (o:=0) (n:=1*1) m0 (lbt rfl)⟩) n1 (by omega)) ?_;intro v h ⟨g,bd,ed,nd,Rd⟩;replace S:=S.call g;clear g
 subst ed
 replace S:=S.drop1
 replace S:=S.push (b:=bd) (o:=.row _ 1) (.inl (Xa kn nd)) Rd (fun w=>by have:=kl (Xs _ w);omega)
 simp only [BS,LB]
 refine ag (bR (by exact Tryz.t34.1) (by exact Xt) (by decide) (by rfl)) S ?_;clear S;intro h bo S a6;simp only [LC,aV,bK,ah,Nat.reduceMul,Nat.reduceAdd,Xi,Xf,Xn,Xo]at S
 simp only [BS,LB,Nat.reduceLT,Nat.reduceEqDiff]
 refine am (ca S.ok (hn.gr (Y.rebase S).gr)) ?_;intro h g;replace S:=S.call g;clear g
 simp only [BS,LB,Nat.reduceLT,Nat.reduceEqDiff]
 have bq:=fun {c} (t:c∈_)=>S.key_lt (b:=c) t
 have ax:=S.fr.n
 refine step_ret (repI_ok S.ok (x:= -1) (.inr ⟨bo,0,none,1,rfl,Xv _,S.lds (b:=bo) (o:=0) (n:=1*1) m0 (lbt rfl)⟩) n1 (by omega)) ?_;intro v h ⟨g,ba,ea,na,Ra⟩;replace S:=S.call g;clear g
 subst ea
 replace S:=S.drop1
 replace S:=S.push (b:=ba) (o:=.row _ 1) (.inl (Xa ax na)) Ra (fun w=>by have:=bq (Xs _ w);omega)
 have pp: ∃b,p=ptrTo b:=by obtain⟨b,_,_,e,_⟩:=H.ex;exact⟨b,e⟩
 obtain⟨bP,rfl⟩:=pp
 simp only [BS,LB,Nat.reduceLT,Nat.reduceEqDiff,Nat.reduceAdd,F8]
 refine ag mI S ?_;clear S;intro h G S cv
 simp only [BS,LB,Nat.reduceLT,Nat.reduceEqDiff,Nat.reduceAdd,Nat.reduceLeDiff,F8]
 refine ag (aZ (by intro x e;cases e)) S ?_;clear S;intro h C S cw;simp only [ah]at S
 simp only [BS,F8]
 refine ag aw S ?_;clear S;intro h I S cx
 simp only [BS,LB,Nat.reduceLT,Nat.reduceEqDiff]
 refine az (ay S (i:=0) rfl ?_ ?_ ?_ ono) ?_
 . exact(by simp only [F8])
 . exact(by exact cq)
 . exact Xd (lbt rfl)
 clear S;rintro h ⟨S,mo⟩;clear mo;simp only [LC,ah,lay,Xk,Xl,Nat.reduceAdd]at S
 simp only [BS,LB,Nat.reduceLT,Nat.reduceEqDiff,F8,S.ld (b:=I) (o:=0) m0 rfl,S.ld (b:=C) (o:=0) m1 rfl]
 have d8: ∀c∈Fh,c≠W:=fun c t e=>dF c t (by rw [e];simp [keys])
 have cY:=Xa kn nd
 have c0:=Xa ax na
 clear kl bq kF kn nd ax na Ra Rd
 have HA:=H.mo S.fr dF
 have bt: ∀c∈Fh,c≠I/\c≠C/\c≠G/\c≠ba/\c≠bd/\c≠W:=fun c t=>by have:=lF c t;have:=d8 c t;omega
 replace S:=Y.rebase S
 clear Y dF lF d8 H a5 a6
 have T:=S.baseF Fh
 have nh:=S.fr.n
 have a7: ∀L,(∀c∈keys L [],c=I\/c=C\/c=G\/c=ba\/c=bd\/c=W)-> ∀c∈Fh,c∉keys L []:=fun L hL c t w=>by
  have:=bt c t
  have:=hL c w
  omega
 have ps:Ret zL 146 [ptrTo bP,.int .i64 (s:Nat),.int .i64 0] h _:=qu S.ok HA hs (by omega) rfl
 refine step_ret ps ?_
 rintro r Q ⟨f1,F1,H1,J⟩
 replace S:=S.rebaseF gF (T.stepF f1 (fun c t=>⟨.inl (.inr t),a7 _ (fun c t=>by simpa [keys]using t) c t⟩))
 have P: ∀c∈F1,h0.n<=c/\c∉keys [(I,Ob.row [ptrTo C] 1),(C,.row [ptrTo bP,.slice (some ⟨bd,0,none⟩) l.nodes l.nodes,.slice (some ⟨ba,0,none⟩) l.nodes l.nodes,.slice none 0 0,.map (some G)] 1),(G,.map [] 0),(ba,.row (Xw l.nodes (.int .i64 (-1))) 1),(bd,.row (Xw l.nodes (.int .i64 72057594037927936)) 1),(W,.row [.slice none 0 0,.slice none 0 0,.slice none 0 0] 1)] []:=fun c t=>by
  rcases J c t with h2|h2
  . exact⟨(gF c h2).elim (fun h=>h) (fun h=>h.elim),a7 _ (fun c t=>by simpa [keys]using t) c h2⟩
  . refine⟨Xa nh h2,fun w=>?_⟩
    have:=T.key_lt (b:=c) (by simpa [keys]using w)
    omega
 clear T a7 bt hFn gF nF J HA f1
 replace S:=S.nilG (k:=1)
 have dj:=dj_init (B:=seen l.arcs fs ft) hs
 have bu:=H1.lt S.ok
 have S1:=S
 replace S:=S.baseF F1
 simp only [BS,LB,Nat.reduceLT,Nat.reduceEqDiff,F8,S.ld (b:=I) (o:=0) m0 rfl,S.ld (b:=C) (o:=0) m1 rfl]
 refine step_ret (tQ S.ok H1 (by omega)) ?_
 rintro r h2 ⟨v,k,b,rfl,f2,H2,a0,a1⟩
 replace S:=S.stepF f2 (fun c t=>⟨.inl (.inr t),fun w=>(P c t).2 (by simpa [keys,ez]using w)⟩)
 simp only [BS,LB,Nat.reduceLT,Nat.reduceEqDiff,F8]
 have S2:=S
 replace S:=S.base
 refine ag aw S ?_;clear S;intro h bk S cz
 simp only [BS,LB,Nat.reduceLT,Nat.reduceEqDiff]
 refine az (ay S (i:=0) rfl ?_ ?_ ?_ ono) ?_
 . exact(by simp only [F8])
 . exact(by exact aX)
 . exact Xd (lbt rfl)
 clear S;rintro h ⟨S,mo⟩;clear mo;simp only [LC,ah,lay,Xk,Xl,Nat.reduceAdd]at S
 simp only [BS,LB,Nat.reduceLT,Nat.reduceEqDiff]
 have H3:=H2.mo S.fr (fun c t w=>(P c t).2 (by simpa [keys,ez]using w))
 refine pS (FloodI h0 (seen l.arcs fs ft) s l.nodes I C G ba bd W bP bp gN gE) (fun O=>l.nodes-O.length) ?_ [] _ _ _ ?_
 . clear S S1 S2 H3 a0 a1 H2 f2 H1 dj P bu ps
   intro O ih ρ d hS ⟨dbs,D,K,F,es,c,f,aL,vO,bk,v,key,b,hd,Y,Z,lA,MI,CF,dj,H,a0,a1,r0,r2,r3,r8,r9,r10,r11,r12⟩
   simp only [List.cons_append,List.nil_append]at Y Z
   have S:=Y.base
   cases b with
   | false=>
     simp only [BS,LB,Nat.reduceLT,Nat.reduceEqDiff,F8,r8,r9,r12,S.ld (b:=I) (o:=0) m1 rfl,S.lds (b:=C) (o:=1) (n:=3) m2 (lbt rfl)]
     have bb:Fl vO:=by
      rcases(Y.gown _ m0).1 with⟨e,_⟩|⟨_,_,e,_⟩
      . rw [show vO=_ from e];exact cg
      . rw [show vO=_ from e];exact cg
     refine az (S.store (i:=6) rfl Tryz.t170.2.1 (by intro x e;cases e) rfl (by simp only [ah,List.drop_succ_cons,XG,List.take_succ_cons,List.take_zero,XI,XP,bb.2.1,Xm];rfl) (lbt rfl) ono) ?_
     clear S;rintro h ⟨S,_⟩
     simp only [LC,ah,lay,Xk,Xl,Nat.reduceAdd]at S
     simp only [BS]
     replace S:=(Y.rebase S).permL (L':=dh dbs++[(bk,_),(I,_),(C,_),(G,_),(ba,_),(bd,_),(W,_)]) List.perm_append_comm
     subst hd
     refine dp (eR dbs _ S fun h' S'=>?_)
     have lT:=S'.lds (b:=W) (o:=0) (n:=3) m6 (lbt rfl)
     refine⟨rfl,_,tA (by decide) (by simp only [aK,r8,ac,Nat.reduceEqDiff,reduceIte];exact c9 Tryz.t170.1 Tryz.t170.2.1 lT),S'.gr,?_⟩
     refine⟨_,_,_,D,aL,O,rfl,?_,?_,?_,lA,dj.done (a1 rfl) n2,?_,dj.nd,dj.lt⟩
     . refine .inr ⟨bd,0,none,l.nodes,by rw [Xp,Xq],by rw [Xp,Xq];exact Xv _,?_⟩
       have:=(S'.row (b:=bd) m5).load (o:=0) (n:=((zM l.nodes).map D).length*1) (by rw [pD];omega)
       rw [this,XG,XA (by rw [pD];omega)];rfl
     . refine .inr ⟨ba,0,none,l.nodes,by rw [lA],by rw [lA];exact Xv _,?_⟩
       have:=(S'.row (b:=ba) m4).load (o:=0) (n:=aL.length*1) (by rw [cu];omega)
       rw [this,XG,XA (by rw [cu];omega)];rfl
     . exact(S'.gown _ m0).1.sl rfl cZ (by decide)
     . rintro c (h|h|h)
       . have h:bd=c:=h
         subst h;exact((S'.own _ m5).1).elim (fun h=>h) (fun h=>h.elim)
       . have h:ba=c:=h
         subst h;exact((S'.own _ m4).1).elim (fun h=>h) (fun h=>h.elim)
       . exact((S'.gblk m0 h).1).elim (fun h=>h) (fun h=>h.elim)
   | true =>
     simp only [if_true]at H
     obtain⟨hk,bv⟩:=a0 rfl
     obtain⟨_,n,rfl,_,_⟩:=dj.i3 v key hk
     obtain⟨cb,cc,be,c3⟩:=dj.pop hk bv
     have lk:=qI (x:=(v:Int)) Tryz.t162.1 Tryz.t3.1 (z:=.int .i64 0) (by kernel_rfl) (show hS.get G=some (.map es c)from(S.own _ m3).2) MI
     rw [CF v,if_neg cc,Option.getD_none]at lk
     have w1:an .i64 1=1:=rfl
     simp only [BS,LB,Nat.reduceLT,Nat.reduceEqDiff,Int.reduceAdd,F8,r9,r10,r12,lk,w1,S.ld (b:=I) (o:=0) m1 rfl,S.ld (b:=C) (o:=4) m2 rfl]
     refine az (S.mputI (i:=3) rfl Tryz.t162.1 Tryz.t3.1 MI _) ?_
     clear S;rintro h ⟨_,R,c',bx,S⟩
     simp only [LC]at S
     simp only [BS]
     refine au (aC rfl) (q:=0) (ps:=[]) (by kernel_rfl) ?_
     simp only [BS,LB,cls,Nat.reduceLT,Nat.reduceEqDiff,Nat.reduceAdd,Nat.reducePow,Nat.reduceDiv,Nat.reduceMod,Nat.reduceLeDiff,F8,r9,r10,r11,be,S.ld (b:=I) (o:=0) m1 rfl,S.ld (b:=C) (o:=1) m2 rfl,S.ld (b:=bk) (o:=0) m0 rfl]
     refine dw (ay S (i:=5) rfl Tryz.t2.2.2.1 aX (by rw [pD,Xp,Xq];exact be) ono) ?_
     clear S;rintro h ⟨S,_⟩
     simp only [LC]at S
     have eD:(ef ((zM l.nodes).map D)).set v (.int .i64 (n:Nat))=ef ((zM l.nodes).map fun u=>if u=v then n else D u):=by
      rw [kW,kW,X3,X3]
      have:=iX (N:=l.nodes) (k:=v) (F:=(fun(x:Nat)=>Value.int .i64 x)∘D) (F':=(fun(x:Nat)=>Value.int .i64 x)∘fun u=>if u=v then n else D u) (fun u _ hu=>by simp [hu])
      rw [<-this];simp
     rw [eD]at S
     simp only [BS,LB,Nat.reduceAdd]
     refine au (aC rfl) (q:=128) (ps:=[(0,8)]) (by kernel_rfl) ?_
     simp only [BS,LB,cls,Nat.reduceLT,Nat.reduceEqDiff,Nat.reduceAdd,Nat.reducePow,Nat.reduceDiv,Nat.reduceMod,Nat.reduceLeDiff,F8,r9,r10,S.ld (b:=I) (o:=0) m1 rfl,S.ld (b:=C) (o:=3) m2 rfl]
     refine dS (bR (by exact Tryz.t34.1) (by exact Xt) (by decide) (by rfl)) S ?_;clear S;intro h bs S cA cN;simp only [LC,aV,bK,ah,Nat.reduceMul,Nat.reduceAdd,Xi,Xf,Xn,Xo]at S
     simp only [BS,LB,cls,Nat.reduceLT,Nat.reduceEqDiff,Nat.reduceAdd,Nat.reducePow,Nat.reduceDiv,Nat.reduceMod,Nat.reduceLeDiff]
     have bB:aJ h 1 (.slice (some ⟨bs,0,none⟩) 1 1)=some (1,ef [v]):=by simp only [aJ];rw [S.lds (b:=bs) (o:=0) (n:=1*1) m0 (lbt rfl)];rfl
     replace S:=S.drop1
     refine dn_v (S.grow (j:=0) (m:=1) (new:=ef [v]) rfl Tryz.t34.1 Xt (by decide) Tryz.t34.2.2.2.2.2 bB rfl (by decide) rfl (by rw [pD,pD];have:=dj.len;simp;omega)) ?_
     clear S bB;rintro h A S
     simp only [LC,<-nats_app]at S
     have bb:Fl A:=by
      rcases(S.gown _ m0).1 with⟨e,_⟩|⟨_,_,e,_⟩
      . rw [show A=_ from e];exact cg
      . rw [show A=_ from e];exact cg
     simp only [BS,LB,cls,Nat.reduceLT,Nat.reduceEqDiff,Nat.reduceAdd,Nat.reducePow,Nat.reduceDiv,Nat.reduceMod,Nat.reduceLeDiff,F8]
     refine dw (ay S (i:=2) rfl Tryz.t34.2.2.1 bb (Xd (lbt rfl)) ono) ?_
     clear S;rintro h ⟨S,_⟩
     simp only [LC]at S
     simp only [BS,LB,Nat.reduceLT,Nat.reduceEqDiff,Nat.reduceAdd,r0,r2,r10]
     have pv:vO=.slice none 0 0\/ ∃c n,vO=.slice (some ⟨c,0,some 1⟩) n n/\c≠I:=by
      rcases(Y.gown _ m0).1 with⟨e,_⟩|⟨c,n,e,_⟩
      . exact .inl e
      . refine .inr ⟨c,n,e,fun h=>?_⟩
        exact(Y.gblk (c:=c) m0 (by rw [show vO=_ from e];rfl)).2 (by subst h;exact List.mem_map_of_mem (f:=Prod.fst) m1)
     refine⟨?_,?_⟩
     . clear ih
       rcases pv with rfl|⟨cO,nO,rfl,bE⟩
       . simp only [bg,bF,aW,bI,a9,ne_eq,not_false_eq_true,bN,ce,bA,bn,bQ,c8,aK,Nat.reduceLT,Nat.reduceEqDiff,reduceIte,Xm,r9,ac,yJ,noteSl,pair_x,entry_nl,oO]
       . simp only [bg,bF,aW,bI,a9,ne_eq,not_false_eq_true,bN,ce,bA,bn,bQ,c8,aK,Nat.reduceLT,Nat.reduceEqDiff,reduceIte,Xm,r9,ac,yJ,noteSl,dr bE,dr bE.symm]
     have kO: ∀c∈keys ((bk,Ob.row [.int .i64 (n:Nat)] 1)::(I,.row [ptrTo C] 1)::(C,.row [ptrTo bP,.slice (some ⟨bd,0,none⟩) l.nodes l.nodes,.slice (some ⟨ba,0,none⟩) l.nodes l.nodes,vO,.map (some G)] 1)::(G,.map es c)::(ba,.row (ints aL) 1)::(bd,.row (ef ((zM l.nodes).map D)) 1)::(W,.row [.slice none 0 0,.slice none 0 0,.slice none 0 0] 1)::dh dbs) [(vO,1,ef O)],c<hS.n:=fun c t=>Y.key_lt t
     have kS:=fun {c} t=>S.key_lt (b:=c) t
     have c4:=(Y.rebase S).gr.n
     refine step_ret (hN _ nb S.ok (hn.gr (Y.rebase S).gr) v be) ?_
     rintro vl h ⟨g,sl,bL⟩
     have kn:=S.fr.n
     have gn:=g.n
     replace S:=S.call g;clear g
     simp only [BS,LB,Nat.reduceLT,Nat.reduceEqDiff,r3]
     have ax:=S.fr.n
     have c7:=fun {c} t=>sl.lt S.ok (b:=c) t
     refine step_ret (arcs_ok' S.ok cq sl.fl fQ) ?_;intro v h ⟨g,b1,b2,b3,e,q1,q2,q3,y1,y2,y3⟩;replace S:=S.call g;replace sl:=sl.gr g;clear g
     subst e
     simp only [BS]
     have hH:=H.mo S.fr (fun c t w=>(Z c t).2 w)
     have bX:=H.lt Y.ok
     refine fq S (g:=184) (a:=#[]) (b:=#[ptrTo b1,ptrTo b2,ptrTo b3]) (by simp [bQ,aa,ac]) rfl rfl ?_
     intro h2 db lb S' dc dd g2
     have R1:=Y.rebase S'
     obtain⟨X,hX,R1⟩: ∃X:eu,X=_/\St NoM h0 h2 ((lb,.loop X)::(db,.dfr)::(bk,Ob.row [.int .i64 (n:Nat)] 1)::(I,.row [ptrTo C] 1)::(C,.row [ptrTo bP,.slice (some ⟨bd,0,none⟩) l.nodes l.nodes,.slice (some ⟨ba,0,none⟩) l.nodes l.nodes,A,.map (some G)] 1)::(G,.map R c')::(ba,.row (ints aL) 1)::(bd,.row (ef ((zM l.nodes).map fun u=>if u=v then n else D u)) 1)::(W,.row [.slice none 0 0,.slice none 0 0,.slice none 0 0] 1)::dh dbs) [(A,1,ef (O++[v]))]:=⟨_,rfl,R1⟩
     have bY:ClF (O++[v]) (dR f (v:Int) (some (.int .i64 1))):=fun u=>by
      unfold dR
      by_cases e:u=v
      . subst e;simp
      . have e': ¬((u:Int)=(v:Int)):=by omega
        rw [if_neg e',CF u]
        simp [e]
     have hJ :Yld zL lb (fun k h' F'=> ∃K' Fh E,St NoM h0 h' ((lb,.loop X)::(db,.dfr)::(bk,Ob.row [.int .i64 (n:Nat)] 1)::(I,.row [ptrTo C] 1)::(C,.row [ptrTo bP,.slice (some ⟨bd,0,none⟩) l.nodes l.nodes,.slice (some ⟨ba,0,none⟩) l.nodes l.nodes,A,.map (some G)] 1)::(G,.map R c')::(ba,.row (ints E) 1)::(bd,.row (ef ((zM l.nodes).map fun u=>if u=v then n else D u)) 1)::(W,.row [.slice none 0 0,.slice none 0 0,.slice none 0 0] 1)::dh dbs) [(A,1,ef (O++[v]))]/\
      c6 h' Fh (ptrTo bP) l.nodes K'/\(∀c∈Fh,h0.n<=c/\c∉keys ((lb,.loop X)::(db,.dfr)::(bk,Ob.row [.int .i64 (n:Nat)] 1)::(I,.row [ptrTo C] 1)::(C,.row [ptrTo bP,.slice (some ⟨bd,0,none⟩) l.nodes l.nodes,.slice (some ⟨ba,0,none⟩) l.nodes l.nodes,A,.map (some G)] 1)::(G,.map R c')::(ba,.row (ints E) 1)::(bd,.row (ef ((zM l.nodes).map fun u=>if u=v then n else D u)) 1)::(W,.row [.slice none 0 0,.slice none 0 0,.slice none 0 0] 1)::dh dbs) [(A,1,ef (O++[v]))])/\
      E.length=l.nodes/\Dj (seen l.arcs fs ft) s l.nodes (O++[v]) (fun u=>if u=v then n else D u) K' (fun a=> ∃id∈(outs l.arcs fs l.arcs.length v).drop k,(seen l.arcs fs ft).getD id default=a)/\
      F'=keys ((lb,.loop X)::(db,.dfr)::(bk,Ob.row [.int .i64 (n:Nat)] 1)::(I,.row [ptrTo C] 1)::(C,.row [ptrTo bP,.slice (some ⟨bd,0,none⟩) l.nodes l.nodes,.slice (some ⟨ba,0,none⟩) l.nodes l.nodes,A,.map (some G)] 1)::(G,.map R c')::(ba,.row (ints E) 1)::(bd,.row (ef ((zM l.nodes).map fun u=>if u=v then n else D u)) 1)::(W,.row [.slice none 0 0,.slice none 0 0,.slice none 0 0] 1)::dh dbs) [(A,1,ef (O++[v]))]++Fh) (fun _ _=>False) (oK l.arcs ft (outs l.arcs fs l.arcs.length v)):=by
      clear ih S' R1 y1 y2 y3 hH S g2 H Z sl
      refine⟨?_,?_,fun _ _ h=>h.elim,?_⟩
      . rintro k h F' ⟨K',Fh,E,S,H,Z,_,_,rfl⟩
        exact⟨S.ok,fun b hb=>(List.mem_append.1 hb).elim (fun hb=>S.key_lt hb) (fun hb=>H.lt S.ok b hb)⟩
      . rintro k h F' h' ⟨K',Fh,E,S,H,q⟩ g
        exact⟨K',Fh,E,S.call g,H.gr g,q⟩
      . rintro k x h F' hx ⟨K',Fh,E,S,H,Z,bf,U,rfl⟩
        have bh:k<(outs l.arcs fs l.arcs.length v).length:=by
         have:=(List.getElem?_eq_some_iff.1 hx).1
         simpa [oK]using this
        unfold oK at hx
        rw [Xr,Xb bh]at hx
        cases hx
        have w:=gQ.1 (Xe bh)
        rw [XN bh]at U
        generalize(outs l.arcs fs l.arcs.length v)[k]=id at w U
        obtain⟨ad,bi⟩:=w
        subst hX
        refine fG (S.get m0) (by rw [Tryz.e94];rfl) rfl ?_
        have S1:=S
        replace S:=S.base
        simp only [BS,LB,Nat.reduceLT,Nat.reduceEqDiff,F8]
        refine ag aw S ?_;clear S;intro h b0 S cf
        simp only [BS,LB,Nat.reduceLT,Nat.reduceEqDiff,Xx,cG]
        refine az (S.store (i:=0) rfl ?_ ?_ rfl rfl ?_ ono) ?_
        . exact(by exact Tryz.t108.2.1)
        . exact(by intro x e;cases e)
        . exact lbt rfl
        clear S;rintro h ⟨S,mo⟩;clear mo;simp only [LC,ah,lay,Xk,Xl,Nat.reduceAdd]at S
        simp only [BS]
        refine eH S (i:=1) rfl rfl rfl rfl rfl ?_
        clear S;intro h S
        simp only [LC]at S
        have af:l.arcs.getD id default∈l.arcs:=by rw [zO,Xb ad];exact Xe ad
        have de:=al.arcs _ af
        have dm:O.length*cF<=12*cF:=XB _ (Xa dj.len n2)
        have cT:=pj
        have wn:an .i64 ((n:Int)+((l.arcs.getD id default).w:Int))=((n+(l.arcs.getD id default).w:Nat):Int):=by rw [wrap64]<;>omega
        simp only [BS,LB,Nat.reduceLT,Nat.reduceEqDiff,F8,r9,r11,wn,S.ld (b:=I) (o:=0) m4 rfl,S.ld (b:=b0) (o:=1) m0 rfl,S.ld (b:=b0) (o:=2) m0 rfl,S.ld (b:=bk) (o:=0) m3 rfl]
        have hH:=H.mo S.fr (fun c t w=>(Z c t).2 w)
        have b4:=H.lt S1.ok
        have d3:C≠ba:=fun e=>by
         have ap:=S1.apart
         subst e
         simp only [keys,XJ,List.cons_append,List.nodup_cons,XY]at ap
         exact ap.2.2.2.2.1 (.inr (.inl trivial))
        replace S:=S.mono (M':=fun c=>c∈keys _ _\/c∈Fh) (fun _ h=>.inl h)
        refine step_ret (reach_ok S.ok (arc:=id) (far:=n+(l.arcs.getD id default).w) (S.row m5) hH (by omega) (S.own _ m6).2 bx bY (S.row m7) bf (bl _ af) (fun h=>(Z ba h).2 (by simp [keys])) (fun h=>(Z C h).2 (by simp [keys])) d3) ?_
        rintro r h ⟨f1,F2,ch,H2,ai,cj,ck,dn⟩
        have kq:=fun {c} t=>S.key_lt (b:=c) t
        have qn:=S.fr.n
        have S2:=S.callF (i:=7) (Fh:=Fh) rfl f1 (fun c t=>⟨.inl (.inr t),fun w=>by
         rcases List.mem_cons.1 w with e|w
         . have:=b4 c t;omega
         . exact(Z c t).2 w⟩) (o':=.row _ 1) cj
        simp only [List.set_cons_zero,List.set_cons_succ]at S2
        clear S
        simp only [BS]
        have S:=S2.base
        refine dy S (i:=1) rfl ?_
        clear S;intro h S
        simp only [LC]at S
        have H3:=H2.mo S.fr (fun c t w=>by
         rcases ai c t with Q|Q
         . rcases List.mem_cons.1 w with e|w
           . have:=b4 c Q;omega
           . exact(Z c Q).2 w
         . have:=kq w;omega)
        have S3:=S2.rebase S
        refine .inl ⟨rfl,_,⟨_,F2,ch,S1.rebaseF (fun c t=>.inl (Z c t).1) S3.drop1,H3,fun c t=>?_,ck,?_,rfl⟩,S3.fr.mono (fun c t=>List.mem_append.2 t),fun c t=>?_⟩
        . rcases ai c t with Q|Q
          . exact Z c Q
          . refine⟨Xa S1.fr.n (Xa qn Q),fun w=>?_⟩
            have:=kq (Xs _ w)
            omega
        . obtain⟨e1,e2⟩:=seen_at (fs:=fs) (ft:=ft) ad
          have:=U.relaxed (ex':=fun a=> ∃cl∈(outs l.arcs fs l.arcs.length v).drop (k+1),(seen l.arcs fs ft).getD cl default=a) e2 (by rw [e1];show fs _∈_;rw [bi];simp) (by rw [e1];exact bl _ af) (by rw [e1];simp only [bi,if_true];rw [Xy,List.length_singleton,Nat.succ_mul];omega) (fun b hb hx=>by
           by_cases eb:b=(seen l.arcs fs ft).getD id default
           . exact .inr eb
           . left
             rintro⟨i,hi,rfl⟩
             rcases List.mem_cons.1 hi with e|hi
             . subst e;exact eb rfl
             . exact hx ⟨i,hi,rfl⟩)
          simp only [e1,bi,if_true]at this
          exact this
        . rcases List.mem_append.1 t with t|t
          . exact .inl (List.mem_append_left _ t)
          . rcases ai c t with Q|Q
            . exact .inl (XV _ Q)
            . exact .inr (Xa qn Q)
     have ak:=(Y.rebase S).gr
     have cW:=kT l.arcs fs l.arcs.length v
     have dq:=al.many
     refine eg (iter_useN (arcs_it (hq:=h0) ok S.ok ak.keep ak.n hn sl (fun id ad=>(gQ.1 ad).1) (by omega) hE y1 y2 y3) (fun _ _ h=>h) hJ (h:=h2) (F:=keys ((lb,.loop X)::(db,.dfr)::(bk,Ob.row [.int .i64 (n:Nat)] 1)::(I,.row [ptrTo C] 1)::(C,.row [ptrTo bP,.slice (some ⟨bd,0,none⟩) l.nodes l.nodes,.slice (some ⟨ba,0,none⟩) l.nodes l.nodes,A,.map (some G)] 1)::(G,.map R c')::(ba,.row (ints aL) 1)::(bd,.row (ef ((zM l.nodes).map fun u=>if u=v then n else D u)) 1)::(W,.row [.slice none 0 0,.slice none 0 0,.slice none 0 0] 1)::dh dbs) [(A,1,ef (O++[v]))]++F) g2.fr (fun b hb hlt=>?_)
      ⟨cK K v none,F,aL,R1,hH.gr g2,fun c t=>⟨(Z c t).1,fun w=>?_⟩,lA,cb.exm (fun a ha hs=>?_),rfl⟩) fun o rc h' y=>iq y ?_
     . rcases List.mem_append.1 hb with V|V
       . have k2:=(R1.key_own V).elim (fun h=>h) (fun h=>h.elim)
         rcases List.mem_cons.1 V with e|V
         . simp only []at e;omega
         . rcases List.mem_cons.1 V with e|V
           . simp only []at e;omega
           . have k1:=kS V
             rintro(h|h|h|h|h)
             . omega
             . omega
             . omega
             . have:=bL b h;omega
             . omega
       . have k1:=bX b V
         have k2:=(Z b V).1
         rintro(h|h|h|h|h)
         . omega
         . omega
         . omega
         . have:=bL b h;omega
         . omega
     . have k1:=bX c t
       have ds:=S.fr.n
       rcases List.mem_cons.1 w with e|w
       . simp only []at e;omega
       . rcases List.mem_cons.1 w with e|w
         . simp only []at e;omega
         . rcases S.key_own w with Q|Q
           . omega
           . exact(Z c t).2 Q
     . obtain⟨i,hi,e⟩:=seen_mem ha
       refine⟨i,?_,e⟩
       rw [XG]
       refine gQ.2 ⟨hi,?_⟩
       have:=(seen_at (fs:=fs) (ft:=ft) hi).1
       rw [e]at this
       rw [this]at hs
       exact hs
     . rintro Fx ⟨K',a2,E,T,H',J,bf,U,rfl⟩
       clear hJ R1 y1 y2 y3 hH S' S
       rw [show(oK l.arcs ft (outs l.arcs fs l.arcs.length v)).length=(outs l.arcs fs l.arcs.length v).length by simp [oK],List.drop_length]at U
       replace U:=U.exm (ex':=fun _=>False) (fun a _ h=>by obtain⟨i,hi,_⟩:=h;cases hi)
       subst hX
       refine⟨_,T.get m0,XC,?_⟩
       have ai: ∀c∈a2,c≠lb:=fun c t e=>(J c t).2 (by rw [e];exact m0)
       have H2:=H'.mo ((Mo.refl (M:=(· =lb)) T.ok).put (.inr rfl) .dead) ai
       replace T:=T.dead
       replace J:=fun c t=>And.intro (J c t).1 (fun w=>(J c t).2 (Xs _ w))
       have S:=T.base
       show Run _ _ _ _ _ _ _ _
       simp only [BS,Nat.reduceLT,Nat.reduceEqDiff,if_false,F8,r11,S.ld (b:=bk) (o:=0) m1 rfl]
       refine ag aw S ?_;clear S;intro h a3 S cn
       simp only [BS,LB,Nat.reduceLT,Nat.reduceEqDiff,r11]
       refine az (ay S (i:=0) rfl ?_ ?_ ?_ ono) ?_
       . exact(by simp only [F8])
       . exact(by exact aX)
       . exact Xd (lbt rfl)
       clear S;rintro h ⟨S,mo⟩;clear mo;simp only [LC,ah,lay,Xk,Xl,Nat.reduceAdd]at S
       simp only [BS,LB,Nat.reduceLT,Nat.reduceEqDiff,F8,r9,S.ld (b:=I) (o:=0) m3 rfl,S.ld (b:=C) (o:=0) m4 rfl]
       have H3:=H2.mo S.fr (fun c t w=>(J c t).2 w)
       have cp:=H2.lt T.ok
       have a4: ∀c∈a2,h0.n<=c/\c∉keys ([(a3,Ob.row [.int .i64 (n:Nat)] 1),(I,.row [ptrTo C] 1),(C,.row [ptrTo bP,.slice (some ⟨bd,0,none⟩) l.nodes l.nodes,.slice (some ⟨ba,0,none⟩) l.nodes l.nodes,A,.map (some G)] 1),(G,.map R c'),(ba,.row (ints E) 1),(bd,.row (ef ((zM l.nodes).map fun u=>if u=v then n else D u)) 1),(W,.row [.slice none 0 0,.slice none 0 0,.slice none 0 0] 1)]++dh (db::dbs)) [(A,1,ef (O++[v]))]:=fun c t=>by
        refine⟨(J c t).1,fun w=>?_⟩
        have Q:=(J c t).2
        have h2:=cp c t
        simp [keys,dh]at w
        rcases w with h|h|h|h|h|h|h|h|h|h
        . omega
        all_goals exact Q (by simp [keys,dh,h])
       replace S:=(T.rebase S).sub (L':=(a3,Ob.row [.int .i64 (n:Nat)] 1)::(db,.dfr)::(I,.row [ptrTo C] 1)::(C,.row [ptrTo bP,.slice (some ⟨bd,0,none⟩) l.nodes l.nodes,.slice (some ⟨ba,0,none⟩) l.nodes l.nodes,A,.map (some G)] 1)::(G,.map R c')::(ba,.row (ints E) 1)::(bd,.row (ef ((zM l.nodes).map fun u=>if u=v then n else D u)) 1)::(W,.row [.slice none 0 0,.slice none 0 0,.slice none 0 0] 1)::dh dbs) (G':=[(A,1,ef (O++[v]))]) (.cons_cons _ (.cons_cons _ (List.sublist_cons_self _ _))) (List.Sublist.refl _)
       replace S:=S.permL (L':=[(a3,Ob.row [.int .i64 (n:Nat)] 1),(I,.row [ptrTo C] 1),(C,.row [ptrTo bP,.slice (some ⟨bd,0,none⟩) l.nodes l.nodes,.slice (some ⟨ba,0,none⟩) l.nodes l.nodes,A,.map (some G)] 1),(G,.map R c'),(ba,.row (ints E) 1),(bd,.row (ef ((zM l.nodes).map fun u=>if u=v then n else D u)) 1),(W,.row [.slice none 0 0,.slice none 0 0,.slice none 0 0] 1)]++dh (db::dbs)) (.cons _ (by
        show(List.append [_,_,_,_,_,_] ((db,Ob.dfr)::dh dbs)).Perm _
        exact List.perm_middle))
       clear T H' H2 J
       have T:=S.baseF a2
       refine step_ret (tQ S.ok H3 (by omega)) ?_
       rintro rr h3 ⟨v3,k3,cr,rfl,f3,H4,b5,b6⟩
       replace S:=S.rebaseF (fun c t=>.inl (a4 c t).1) (T.stepF f3 (fun c t=>⟨.inl (.inr t),(a4 c t).2⟩))
       simp only [BS,LB,Nat.reduceLT,Nat.reduceEqDiff,r11]
       clear T
       have T:=S
       replace S:=S.base
       simp only [LC]at S
       refine az (ay S (i:=0) rfl ?_ ?_ ?_ ono) ?_
       . exact(by simp only [F8])
       . exact(by exact aX)
       . exact Xd (lbt rfl)
       clear S;rintro h ⟨S,mo⟩;clear mo;simp only [LC,ah,lay,Xk,Xl,Nat.reduceAdd]at S
       simp only [BS,LB,Nat.reduceLT,Nat.reduceEqDiff]
       have H5:=H4.mo S.fr (fun c t w=>(a4 c t).2 w)
       replace S:=T.rebase S
       subst hd
       have dt:(O++[v]).length=O.length+1:=by simp
       have cX:=U.len
       refine ih (O++[v]) _ _ _ (by omega) ⟨db::dbs,_,K',a2,R,c',_,E,A,a3,v3,k3,cr,rfl,S,a4,bf,bx,bY,U,H5,b5,b6,?_⟩
       refine⟨by simp [aa,r0,ac],by simp [aa,r2,ac],by simp [aa,r3,ac],by simp [aa,r8,ac],by simp [aa,r9,ac],by simp [aa],by simp [aa,ac],by simp [aa]⟩
 . have e1:ef ((zM l.nodes).map fun _=>FAR)=Xw l.nodes (.int .i64 72057594037927936):=by
    rw [kW,XS,Xq,List.map_replicate];rfl
   have e2:ints (Xw l.nodes (-1))=Xw l.nodes (.int .i64 (-1)):=by
    rw [ints_map,List.map_replicate]
   have S3:=S1.rebaseF (fun c t=>.inl (P c t).1) (S2.rebase S)
   have nn:=S2.fr.n
   refine⟨[],fun _=>FAR,cK (fun _=>none) s (some 0),F1,[],0,fun _=>none,Xw l.nodes (-1),.slice none 0 0,bk,v,k,b,rfl,?_,?_,by simp,qS,fun u=>by simp,dj,H3,a0,a1,?_⟩
   . rw [e1,e2];exact S3
   . rw [e1,e2]
     intro c t
     refine⟨(P c t).1,fun w=>?_⟩
     have Q:=(P c t).2
     have h2:=bu c t
     simp [keys,ez,dh]at w Q
     omega
   . refine⟨by simp [aa,ac,aR,bU],by simp [aa,ac,aR,bU],by simp [aa,ac,aR,bU],by simp [aa,ac,aR,bU],by simp [aa,ac,aR,bU],by simp [aa,ac,aR,bU],by simp [aa,ac,aR,bU],by simp [aa,ac,aR,bU]⟩
def Tryz.F1o:=aj t1<|aj t2<|aj t3<|Z2
def Tryz.F1p:=aj t1<|aj t2<|aj t3<|Z2
def Tryz.F1q:=aj t1<|aj t2<|aj t3<|aj t28<|aj Z0<|aj t32<|aj t34<|aj t144<|aj t164<|aj Z1<|aj Z16<|t172
def Tryz.F1r:=aj t1<|aj t2<|aj t3<|aj t28<|aj Z0<|aj t32<|aj t34<|aj t144<|aj t164<|aj Z1<|aj Z16<|t172
theorem fromKey:KeyF zL 98 Arc.t:=by
 intro f a c
 have S:=Si c
 refine ab (n:=5) (rs:=[.tmp 2]) rfl Tryz.e98 rfl rfl rfl (lbt rfl) ?_
 simp only [BS,Nat.reduceLT,cG]
 refine ag (aZ (by intro x e;cases e)) S ?_;clear S;intro h b S d;simp only [ah]at S
 simp only [BS,LB,ae,Nat.reduceLT,Nat.reduceEqDiff,F1o,S.ld (b:=b) (o:=1) m0 rfl]
 exact S.gr
theorem toKey:KeyF zL 96 Arc.s:=by
 intro f a c
 have S:=Si c
 refine ab (n:=5) (rs:=[.tmp 2]) rfl Tryz.e96 rfl rfl rfl (lbt rfl) ?_
 simp only [BS,Nat.reduceLT,cG]
 refine ag (aZ (by intro x e;cases e)) S ?_;clear S;intro h b S d;simp only [ah]at S
 simp only [BS,LB,ae,Nat.reduceLT,Nat.reduceEqDiff,F1p,S.ld (b:=b) (o:=0) m0 rfl]
 exact S.gr
theorem fromNext{b:Gra}(a:Good b){c:Value}:NextF zL 97 b c Arc.s:=fun h g d e v f=>xe d e (by have:=a.many;omega) f
theorem toNext{b:Gra}(a:Good b){c:Value}:NextF zL 95 b c Arc.t:=fun h g d e v f=>zJ d e (by have:=a.many;omega) f
theorem Ar{h0:Hp}(C:h0.t.Sized h0.n){j:Gra}(f:Good j){p:Value}{E:Nat}(F:aS h0 E p j){s:Nat}(G:s<j.nodes):
 Ret zL 45 [p,.int .i64 s] h0 fun r q=>Gr h0 q/\vZ q h0.n r (seen j.arcs Arc.s Arc.t) s j.nodes:=by
 have S:=Si C
 refine ab (n:=10) (rs:=[.cell 4 170]) rfl Tryz.e45 rfl rfl rfl (lbt rfl) ?_
 simp only [BS,F1q]
 refine ag aw S ?_;clear S;intro h k S t
 simp only [BS,LB,Nat.reduceLT,Nat.reduceEqDiff]
 have H:=S.fr.n
 have I:=(S.row (b:=k) m0).lt S.ok
 refine step_ret (yY S.ok f (F.gr S.gr) G (fromNext f) fromKey (fun a J=>(f.arcs a J).2.1)) ?_;intro v h ⟨g,T⟩;replace S:=S.call g;clear g
 obtain⟨u,w,y,D,K,O,rfl,z,A,B,t4,t5,t6,t7,t8⟩:=T
 have L:=z.fl
 have M:=A.fl
 have N:=B.fl
 have l: ∀c,aq u c\/aq w c\/aq y c->c≠k:=fun c d e=>by have:=t6 c d;omega
 simp only [BS,LB,Nat.reduceLT,Nat.reduceEqDiff]
 refine az (S.store (i:=0) rfl Tryz.t170.2.1 (by intro x e;cases e) rfl (by simp only [ah,XI,XP,L.2.1,M.2.1,N.2.1,Xm]) (lbt rfl) ono) ?_
 clear S;rintro h ⟨S,m⟩
 simp only [LC,ah,lay,Xk,Xl,Nat.reduceAdd]at S
 simp only [BS,ae]
 refine(cU (by decide) (by simp only [aK,ac,Nat.reduceEqDiff,reduceIte];exact c9 Tryz.t170.1 Tryz.t170.2.1 (S.lds (b:=k) (o:=0) (n:=3) m0 (lbt rfl)))).2 (dH.2 ?_)
 exact⟨S.gr,u,w,y,D,K,O,rfl,z.mo m (fun c d=>l c (.inl d)),A.mo m (fun c d=>l c (.inr (.inl d))),B.mo m (fun c d=>l c (.inr (.inr d))),t4,t5,fun c d=>Xa H (t6 c d),t7,t8⟩
theorem vH{h0:Hp}(C:h0.t.Sized h0.n){j:Gra}(f:Good j){p:Value}{E:Nat}(F:aS h0 E p j){s:Nat}(G:s<j.nodes):
 Ret zL 44 [p,.int .i64 s] h0 fun r q=>Gr h0 q/\vZ q h0.n r (seen j.arcs Arc.t Arc.s) s j.nodes:=by
 have S:=Si C
 refine ab (n:=10) (rs:=[.cell 4 170]) rfl Tryz.e44 rfl rfl rfl (lbt rfl) ?_
 simp only [BS,F1r]
 refine ag aw S ?_;clear S;intro h k S t
 simp only [BS,LB,Nat.reduceLT,Nat.reduceEqDiff]
 have H:=S.fr.n
 have I:=(S.row (b:=k) m0).lt S.ok
 refine step_ret (yY S.ok f (F.gr S.gr) G (toNext f) toKey (fun a J=>(f.arcs a J).1)) ?_;intro v h ⟨g,T⟩;replace S:=S.call g;clear g
 obtain⟨u,w,y,D,K,O,rfl,z,A,B,t4,t5,t6,t7,t8⟩:=T
 have L:=z.fl
 have M:=A.fl
 have N:=B.fl
 have l: ∀c,aq u c\/aq w c\/aq y c->c≠k:=fun c d e=>by have:=t6 c d;omega
 simp only [BS,LB,Nat.reduceLT,Nat.reduceEqDiff]
 refine az (S.store (i:=0) rfl Tryz.t170.2.1 (by intro x e;cases e) rfl (by simp only [ah,XI,XP,L.2.1,M.2.1,N.2.1,Xm]) (lbt rfl) ono) ?_
 clear S;rintro h ⟨S,m⟩
 simp only [LC,ah,lay,Xk,Xl,Nat.reduceAdd]at S
 simp only [BS,ae]
 refine(cU (by decide) (by simp only [aK,ac,Nat.reduceEqDiff,reduceIte];exact c9 Tryz.t170.1 Tryz.t170.2.1 (S.lds (b:=k) (o:=0) (n:=3) m0 (lbt rfl)))).2 (dH.2 ?_)
 exact⟨S.gr,u,w,y,D,K,O,rfl,z.mo m (fun c d=>l c (.inl d)),A.mo m (fun c d=>l c (.inr (.inl d))),B.mo m (fun c d=>l c (.inr (.inr d))),t4,t5,fun c d=>Xa H (t6 c d),t7,t8⟩
def Tryz.F1s:=aj t1<|t2
def wy(x:Int):Int:=min (max x 0) 72057594037927936
theorem AI{h0:Hp}(b:h0.t.Sized h0.n){b1 a:Nat}{x:Int}(c:h0.load b1 0 1=some [.int .i64 0])(d:h0.load a 0 1=some [.int .i64 72057594037927936]):aM zL 201 [.int .i64 x,ptrTo b1,ptrTo a] h0 (.int .i64 (wy x)):=by
 have S:=Si b
 refine ab (n:=10) (rs:=[.tmp 4]) rfl Tryz.e201 rfl rfl rfl (lbt rfl) ?_
 simp only [BS,LB,ae,Nat.reduceLT,Nat.reduceEqDiff,F1s,c,d]
 exact⟨rfl,S.gr⟩
theorem Ck{h0:Hp}(d:h0.t.Sized h0.n):Ret zL 182 [.int .i64 0,.int .i64 72057594037927936] h0 fun v h=>Gr h0 h/\ ∃b1 a,v=.func (.func 201) #[] #[ptrTo b1,ptrTo a]/\h.load b1 0 1=some [.int .i64 0]/\h.load a 0 1=some [.int .i64 72057594037927936]:=by
 have S:=Si d
 refine ab (n:=6) (rs:=[.tmp 4]) rfl Tryz.e182 rfl rfl rfl (lbt rfl) ?_
 simp only [BS,Nat.reduceLT]
 refine ag (aZ (by intro x e;cases e)) S ?_;clear S;intro h b1 S b;simp only [ah]at S
 simp only [BS,Nat.reduceLT,Nat.reduceEqDiff,if_false]
 refine ag (aZ (by intro x e;cases e)) S ?_;clear S;intro h a S c;simp only [ah]at S
 simp only [BS,LB,ae,Nat.reduceLT,Nat.reduceEqDiff]
 exact⟨S.gr,b1,a,rfl,S.ld m1 rfl,S.ld m0 rfl⟩
theorem n9{h0:Hp}(a:h0.t.Sized h0.n){x:Int}:aM zL 141 [.int .i64 x] h0 (.int .i64 (wy x)):=by
 have S:=Si a
 refine ab (n:=6) (rs:=[.tmp 2]) rfl Tryz.e141 rfl rfl rfl (lbt rfl) ?_
 simp only [BS,LB]
 refine step_ret (Ck S.ok) ?_;intro v h ⟨g,b1,b2,e,e1,e2⟩;replace S:=S.call g;clear g
 subst e
 simp only [BS,LB,Nat.reduceLT,Nat.reduceEqDiff]
 refine am (AI S.ok e1 e2) ?_;intro h g;replace S:=S.call g;clear g
 simp only [BS,LB,ae,Nat.reduceLT,Nat.reduceEqDiff]
 exact S.gr
theorem pY{h0:Hp}(a:h0.t.Sized h0.n){x:Int}:aM zL 142 [.int .i64 x] h0 (.bool (decide (wy x<72057594037927936))):=by
 have S:=Si a
 refine ab (n:=6) (rs:=[.tmp 2]) rfl Tryz.e142 rfl rfl rfl (lbt rfl) ?_
 simp only [BS,LB,Nat.reduceLT,Nat.reduceEqDiff]
 refine am (n9 S.ok) ?_;intro h g;replace S:=S.call g;clear g
 simp only [BS,LB,ae,Nat.reduceLT,Nat.reduceEqDiff]
 exact S.gr
theorem wy_bd(x:Int):0<=wy x/\wy x<=72057594037927936:=by unfold wy;omega
theorem wy_id{x:Int}(h0:0<=x)(a:x<=72057594037927936):wy x=x:=by unfold wy;omega
end Go.Ab
end
section
namespace Go.Ab
structure YldP(E:Env)(lb:Nat)(J:Nat->Hp->List Nat->Prop)(n:Nat)(P:Nat->Hp->List Nat->List Value->Prop):Prop where
 lt: ∀i h F,J i h F->h.t.Sized h.n/\ ∀b∈F,b<h.n
 gr: ∀i h F h',J i h F->Gr h h'->J i h' F
 round: ∀i x h F,i<n->P i h F x->J i h F->kC E lb x h fun o h'=>o=.ret (.bool true)/\ ∃F',J (i+1) h' F'/\Mo (· ∈F) h h'/\ ∀b∈F',b∈F\/h.n<=b
def IterP(E:Env)(g:FuncId)(post:List Value)(h0:Hp)(D:Nat->Prop)(n:Nat)(P:Nat->Hp->List Nat->List Value->Prop):Prop:=
 ∀a J,YldP E a J n P-> ∀h F,ItS h0 D h F->J 0 h F->fK E g (.func (.yield a) #[] #[]::post) none h fun o b c=>b=none/\ ∃u d,o=.ret u/\J n c d
theorem AS{E:Env}{cx:Cx}{o:Oper}{l:Loc}{K:Ex->Loc->Hp->Prop}{h0 h:Hp}{D:Nat->Prop}{e i n:Nat}{J:Nat->Hp->List Nat->Prop}{P:Nat->Hp->List Nat->List Value->Prop}{x:List Value}{F:List Nat}
 (Y:YldP E e J n P) (s:ItS h0 D h F) (f:J i h F) (g:i<n) (j:P i h F x)
 (k: ∀d F',J (i+1) d F'->ItS h0 D d F'->Mo (· ∈F) h d->(∀b∈F',b∈F\/h.n<=b)->K .normal (l.put o.dst (.bool true)) d):eZ E cx o l K (some (.yield e x,h)):=by
 refine uI (Y.round i x h F g j f) ?_
 rintro q d ⟨rfl,F',a,b,c⟩
 exact k d F' a (s.mo b c (Y.lt _ _ _ a).2) b c
def encV(w:Value):List Value:=[w]
theorem zt(w:Value):(encV w).length=1:=rfl
theorem flat_encV(l:List Value):l.flatMap encV=l:=by
 induction l with
 |nil=>rfl
 |cons x l a=>rw [XM,a];rfl
def gV(h:Hp)(m:Nat)(v:Value)(n:Nat)(R:Nat->List Int):Prop:=
 ∃a:List Value,ar h 1 encV v a/\a.length=n/\(∀c,aq v c->m<=c)/\ ∀i w,a[i]? =some w->ar h 1 (encI .i64) w (R i)/\ ∀c,aq w c->m<=c
theorem gV.mo{M:Nat->Prop}{h k:Hp}{m n:Nat}{v:Value}{R:Nat->List Int}(r:gV h m v n R)(g:Mo M h k)(l: ∀b,M b->b<m):gV k m v n R:=by
 obtain⟨o,a,b,c,d⟩:=r
 exact⟨o,a.mo g (fun x e f=>by have:=c x e;have:=l x f;omega),b,c,fun i w j=>⟨(d i w j).1.mo g (fun x e f=>by have:=(d i w j).2 x e;have:=l x f;omega),(d i w j).2⟩⟩
theorem gV.gr{h a:Hp}{m n:Nat}{v:Value}{R:Nat->List Int}(r:gV h m v n R)(g:Gr h a):gV a m v n R:=r.mo (M:=NoM) g.fr (fun _ h=>h.elim)
theorem gV.low{h:Hp}{m f n:Nat}{v:Value}{R:Nat->List Int}(r:gV h m v n R)(g:f<=m):gV h f v n R:=by
 obtain⟨k,a,b,c,d⟩:=r
 exact⟨k,a,b,fun x e=>Xa g (c x e),fun i w j=>⟨(d i w j).1,fun x e=>Xa g ((d i w j).2 x e)⟩⟩
theorem gV.row{h:Hp}{m n:Nat}{v:Value}{R:Nat->List Int}(r:gV h m v n R){i:Nat}(k:i<n): ∃w,(∃c o,mN (some 1) v (.int .i64 (i:Nat))=some (.pointer (some ⟨c,o,none⟩))/\h.load c o 1=some [w])/\ar h 1 (encI .i64) w (R i)/\ ∀c,aq w c->m<=c:=by
 obtain⟨e,a,b,c,d⟩:=r
 obtain⟨q,o,g,j⟩:=a.ix (kd:=.i64) zt (i:=i) (by omega)
 have f:e[i]? =some e[i]:=Xb (by omega)
 exact⟨e[i],⟨q,o,g,j⟩,(d i _ f).1,(d i _ f).2⟩
theorem flat_nat(l:List Nat):l.flatMap bM=(l.map fun(x:Nat)=>(x:Int)).flatMap (encI .i64):=by
 induction l with
 |nil=>rfl
 |cons x l a=>rw [XM,XJ,XM,a];rfl
theorem sl_nat{h:Hp}{v:Value}{l:List Nat}(s:ar h 1 bM v l):ar h 1 (encI .i64) v (l.map fun(x:Nat)=>(x:Int)):=by
 rcases s with⟨rfl,rfl⟩|⟨b,o,s,c,rfl,d,a⟩
 . exact .inl ⟨rfl,rfl⟩
 . refine .inr ⟨b,o,s,c,by grind,by grind,?_⟩
   rw [Xp,a,flat_nat]
def jz(N:Nat)(l:List Int):Prop:=l.length<=16/\ ∀i,i<l.length->0<=l.getD i 0/\l.getD i 0<N/\l.getD i 0∉l.take i
theorem jz.push{N:Nat}{l:List Int}(h:jz N l)(d:l.length<16){x:Int}(h0:0<=x)(f:x<N)(g:x∉l):jz N (l++[x]):=by
 refine⟨by simp;omega,fun i b=>?_⟩
 simp at b
 by_cases e:i=l.length
 . grind
 . have a:i<l.length:=by omega
   have c:(l++[x]).getD i 0=l.getD i 0:=by grind
   rw [c,List.take_append_of_le_length (by omega)]
   exact h.2 i a
theorem mayL_nil(N:Nat):jz N []:=⟨by simp,fun i a=>by simp at a⟩
structure TabAt(h:Hp)(m:Nat)(p:Value)(N:Nat)(marks:List Int)(R Q:Nat->List Int):Prop where
 ex: ∃b vM vT vF,p=ptrTo b/\Row h b [.int .i64 N,vM,vT,vF] 1/\ar h 1 (encI .i64) vM marks/\gV h m vT marks.length R/\gV h m vF marks.length Q/\m<=b/\ ∀c,aq vM c->m<=c
theorem TabAt.mo{M:Nat->Prop}{h c:Hp}{m N:Nat}{p:Value}{a:List Int}{R Q:Nat->List Int}(t:TabAt h m p N a R Q)(g:Mo M h c)(d: ∀b,M b->b<m):TabAt c m p N a R Q:=by
 obtain⟨b,f,i,j,e,k,l,n,q,r,s⟩:=t.ex
 exact⟨b,f,i,j,e,g.has (o:=.row _ 1) k (fun h=>by grind),l.mo g (fun x u v=>by grind),n.mo g d,q.mo g d,r,s⟩
theorem TabAt.gr{h b:Hp}{m N:Nat}{p:Value}{a:List Int}{R Q:Nat->List Int}(t:TabAt h m p N a R Q)(g:Gr h b):TabAt b m p N a R Q:=t.mo (M:=NoM) g.fr (fun _ h=>h.elim)
theorem gV.lenq{h c:Hp}{m n:Nat}{v:Value}{R:Nat->List Int}{e:TypeId}(r:gV c m v n R):oD (some (.slice e)) h v=some (.val (.int .i64 n),h):=by
 have⟨d,a,b,_⟩:=r
 rw [<-b];exact a.lenq
end Go.Ab

end
section
namespace Go.Ab
open Go.Proofs
set_option maxRecDepth 10000
def Tryz.FV:=aj t1<|aj t2<|aj t3<|aj t4<|t162
def Tryz.F0C:=aj t1<|aj t2<|aj t3<|aj t4<|aj t5<|aj t6<|aj Z3<|aj t34<|t137
def Tryz.FW:=aj t1<|aj t2<|aj t3<|aj t4<|aj t34<|aj t137<|t162
theorem may1_ok{h0:Hp}(y:h0.t.Sized h0.n){b5 p b c N k:Nat}{x:Int}{q:List (Value×Value×Nat)}{f:Int->Option Value}(e5:h0.load b5 0 1=some [.map (some b)])(A:h0.load p 0 1=some [.int .i64 N])(s:h0.get b=some (.map q c))(t:dG q c f)(hf:(f x).getD (.int .i64 0)=.int .i64 k)(F:k<=1)(B:b5≠b)(C:p≠b):
 Ret zL 90 [.int .i64 x,ptrTo b5,ptrTo p] h0 fun r u=>Mo (· =b) h0 u/\r=.bool (decide (x<0\/(N:Int)<=x\/k=1))/\ ∃es' c',u.get b=some (.map es' c')/\dG es' c' (dR f x (some (.int .i64 (k+1:Nat)))):=by
 have S:=St.init1 y (o:=.map q c) s
 have v:=qI (x:=x) Tryz.t162.1 Tryz.t3.1 (z:=.int .i64 0) (by kernel_rfl) s t
 rw [hf]at v
 have w:an .i64 ((k:Int)+1)=((k+1:Nat):Int):=by rw [wrap64]<;>omega
 refine ab (n:=22) (rs:=[.tmp 4]) rfl Tryz.e90 rfl rfl rfl (lbt rfl) ?_
 simp only [BS,LB,Nat.reduceLT,Nat.reduceEqDiff,FV,e5,v,w]
 refine az (S.mputI (i:=0) rfl Tryz.t162.1 Tryz.t3.1 t _) ?_
 clear S;rintro h ⟨_,es',c',a,S⟩
 simp only [LC]at S
 have j:=S.old e5 B
 have d:=S.old A C
 have l:h.get b=some (.map es' c'):=(S.own _ m0).2
 have e:=qI (x:=x) Tryz.t162.1 Tryz.t3.1 (z:=.int .i64 0) (by kernel_rfl) l a
 rw [show dR f x (some (.int .i64 ((k+1:Nat):Int))) x=some (.int .i64 ((k+1:Nat):Int)) by unfold dR;rw [if_pos rfl],Option.getD_some]at e
 by_cases g:x<0
 . simp only [BS,LB,ae,Nat.reduceLT,Nat.reduceEqDiff,g]
   exact⟨S.fr,by simp [g],es',c',l,a⟩
 . by_cases m:(N:Int)<=x
   . simp only [BS,LB,ae,Nat.reduceLT,Nat.reduceEqDiff,FV,d,g,m]
     exact⟨S.fr,by simp [m],es',c',l,a⟩
   . by_cases D:k=1
     . subst D
       simp only [BS,LB,ae,Nat.reduceLT,Nat.reduceEqDiff,Nat.reduceAdd,Int.reduceLT,Xx,FV,j,d,g,m,e]
       exact⟨S.fr,by simp,es',c',l,a⟩
     . have E:k=0:=by omega
       subst E
       simp only [BS,LB,ae,Nat.reduceLT,Nat.reduceEqDiff,Int.reduceLT,Xx,FV,j,d,g,m,e]
       exact⟨S.fr,by simp [g,m],es',c',l,a⟩
def OkAt(N:Nat)(l:List Int)(i:Nat):Prop:=0<=l.getD i 0/\l.getD i 0<N/\l.getD i 0∉l.take i
theorem mayIdx_ok {h0:Hp} (V:h0.t.Sized h0.n) {b5 t a N:Nat} {v:Value} {l:List Int} (A:ar h0 1 (encI .i64) v l) (hl:l.length<=1000) (e5:h0.load b5 0 1=some [.map (some a)]) (B:h0.load t 0 1=some [.int .i64 N]) (K:h0.get a=some (.map [] 0)) (L:b5≠a) (M:t≠a):
 Ret zL 144 [v,.func (.func 90) #[] #[ptrTo b5,ptrTo t]] h0 fun r O=>Mo (· =a) h0 O/\ ∃z,r=.int .i64 z/\(0<=z↔ ¬ ∀i,i<l.length->OkAt N l i):=by
 have C: ∀c,aq v c-> ¬c=a:=by
  rintro c P rfl
  rcases A with⟨rfl,_⟩|⟨b,o,s,Q,rfl,_,W⟩
  . exact P.elim
  . have:b=c:=P
    subst this
    simp [Hp.load,K]at W
 refine ab (n:=19) (rs:=[.tmp 4]) rfl Tryz.e144 rfl rfl rfl (lbt rfl) ?_
 simp only [BS,LB,Nat.reduceLT,Nat.reduceEqDiff,F0C,A.lenq]
 refine aO (fun(i:Nat) g h=>i<=l.length/\Mo (· =a) h0 h/\(∃D c f,h.get a=some (.map D c)/\dG D c f/\ ∀x,f x=if x∈l.take i then some (.int .i64 1)else none)/\(∀j,j<i->OkAt N l j)/\g 0=v/\g 1=.func (.func 90) #[] #[ptrTo b5,ptrTo t]/\g 7=.int .i64 l.length/\g 8=.int .i64 i) (fun i=>l.length-i) ?_ 0 _ _ ?_
 . intro i X g h ⟨hi,mo,⟨D,c,f,hg,MI,hf⟩,hok,r0,r1,r7,r8⟩
   by_cases hlt:i<l.length
   . obtain ⟨q,o,m,E⟩:=(A.mo mo C).ix (kd:=.i64) (bO .i64) hlt
     have w:an .i64 ((i:Int)+1)=((i+1:Nat):Int):=by rw [wrap64]<;>omega
     have R: ∀{b:Nat} {x},b≠a->h0.load b 0 1=some x->h.load b 0 1=some x:=fun F e=>by
      have:=mo.get _ (a8 mo.ok0 e) F
      unfold Hp.load at e⊢
      rw [this];exact e
     have G:l.getD i 0=l[i]:=by simp [zO,hlt]
     simp only [BS,LB,Nat.reduceLT,Nat.reduceEqDiff,F0C,r0,r1,r7,r8,aB,hlt,m,E,encI]
     refine step_ret (may1_ok mo.ok (x:=l[i]) (N:=N) (k:=if l[i]∈l.take i then 1 else 0) (R L e5) (R M B) hg MI (by rw [hf];split<;>rfl) (by split<;>omega) L M) ?_
     rintro r O ⟨Y,rfl,H,Q,I,J⟩
     have p:=mo.trans Y (fun _ h=>.inl h)
     by_cases d:OkAt N l i
     . have e:decide (l[i]<0\/(N:Int)<=l[i]\/(if l[i]∈l.take i then 1 else 0)=1)=false:=by
        obtain⟨Z,w2,S⟩:=d
        rw [G]at Z w2 S
        rw [if_neg S]
        simp;omega
       rw [e]
       have u:l[i]∉l.take i:=by have:=d.2.2;rwa [G]at this
       simp only [BS,LB,Nat.reduceLT,Nat.reduceEqDiff,r8,w]
       refine X (i+1) _ _ (by omega) ⟨by omega,p,⟨H,Q,_,I,J,fun x=>?_⟩,fun j T=>?_,by simp [aa,r0],by simp [aa,r1,ac],by simp [aa,r7],by simp [aa]⟩
       . have U:=Xu hlt
         rw [if_neg u]
         unfold dR
         by_cases y:x=l[i]
         . rw [if_pos y,if_pos (by rw [U];exact XV _ (List.mem_singleton.2 y))];rfl
         . rw [if_neg y,hf]
           have:x∈l.take (i+1)↔x∈l.take i:=by rw [U,List.mem_append,List.mem_singleton];exact⟨fun h=>h.resolve_right y,.inl⟩
           simp only [this]
       . by_cases B:j=i
         . subst B;exact d
         . exact hok j (by omega)
     . have e:decide (l[i]<0\/(N:Int)<=l[i]\/(if l[i]∈l.take i then 1 else 0)=1)=true:=by
        unfold OkAt at d
        rw [G]at d
        simp only [decide_eq_true_eq]
        by_cases u:l[i]∈l.take i
        . rw [if_pos u];exact .inr (.inr rfl)
        . by_cases a1:l[i]<0
          . exact .inl a1
          . by_cases a2:(N:Int)<=l[i]
            . exact .inr (.inl a2)
            . exact absurd ⟨by omega,by omega,u⟩ d
       rw [e]
       simp only [BS,LB,ae,Nat.reduceLT,Nat.reduceEqDiff]
       exact⟨p,_,rfl,by simp only [Int.natCast_nonneg,true_iff];exact fun h=>d (h i hlt)⟩
   . simp only [BS,LB,ae,Nat.reduceLT,Nat.reduceEqDiff,r7,r8,aB,hlt]
     exact⟨mo,_,rfl,⟨fun h=>by omega,fun h=>absurd (fun j T=>hok j (by omega)) h⟩⟩
 . exact⟨Xh _,Mo.refl V,⟨[],0,fun _=>none,K,qS,fun x=>by simp⟩,fun j T=>by omega,by simp [aa,aR],by simp [aa,aR,bU,ac],by simp [aa],by simp [aa]⟩
noncomputable instance mayDec(N:Nat)(l:List Int):Decidable (jz N l):=Classical.propDecidable _
theorem mayCf_ok{h0:Hp}(j:h0.t.Sized h0.n){b5 b a N:Nat}{v:Value}{l:List Int}(k:ar h0 1 (encI .i64) v l)(m:l.length<=1000)(e5:h0.load b5 0 1=some [.map (some a)])(o:h0.load b 0 1=some [.int .i64 N])(p:h0.get a=some (.map [] 0))(q:b5≠a)(s:b≠a)(d:Decidable (∀i,i<l.length->OkAt N l i)):
 Ret zL 91 [v,.func (.func 90) #[] #[ptrTo b5,ptrTo b]] h0 fun r t=>Mo (· =a) h0 t/\r=.bool (!decide (∀i,i<l.length->OkAt N l i)):=by
 refine ab (n:=9) (rs:=[.tmp 4]) rfl Tryz.e91 rfl rfl rfl (lbt rfl) ?_
 simp only [BS,LB,Nat.reduceLT,Nat.reduceEqDiff]
 refine step_ret (mayIdx_ok j k m e5 o p q s) ?_
 rintro r h ⟨f,z,rfl,g⟩
 by_cases c: ∀i,i<l.length->OkAt N l i
 . have e: ¬(0<=z):=fun h=>g.1 h c
   simp only [BS,LB,ae,Nat.reduceLT,Nat.reduceEqDiff,e]
   exact⟨f,by rw [decide_eq_true c];rfl⟩
 . have e:0<=z:=g.2 c
   simp only [BS,LB,ae,Nat.reduceLT,Nat.reduceEqDiff,e]
   exact⟨f,by rw [decide_eq_false c];rfl⟩
theorem may_ok{h0:Hp}(s:h0.t.Sized h0.n){v:Value}{l:List Int}{N:Nat}(g:ar h0 1 (encI .i64) v l)(t:l.length<=1000):aM zL 39 [.int .i64 N,v] h0 (.bool (decide (jz N l))):=by
 have S:=Si s
 refine ab (n:=18) (rs:=[.tmp 4]) rfl Tryz.e39 rfl rfl rfl (lbt rfl) ?_
 simp only [BS,Nat.reduceLT]
 refine ag (aZ (by intro x e;cases e)) S ?_;clear S;intro h u S p;simp only [ah]at S
 simp only [BS]
 refine ag mI S ?_;clear S;intro h A S a
 simp only [BS,FW]
 refine ag aw S ?_;clear S;intro h w S q
 simp only [BS,LB,Nat.reduceLT,Nat.reduceEqDiff]
 refine az (ay S (i:=0) rfl ?_ ?_ ?_ ono) ?_
 . exact(by simp only [FW])
 . exact(by exact wj)
 . exact Xd (lbt rfl)
 clear S;rintro h ⟨S,j⟩;clear j;simp only [LC,ah,lay,Xk,Xl,Nat.reduceAdd]at S
 by_cases f:l.length<=16
 . have k:(l.length:Int)<=16:=by omega
   simp only [BS,LB,Nat.reduceLT,Nat.reduceEqDiff,FW,g.lenq,k]
   have m:=S.apart
   simp only [keys,XJ,List.map_nil,List.filterMap_nil,XT,List.nodup_cons,XY,List.not_mem_nil,or_false,not_or]at m
   have d:Decidable (∀i,i<l.length->OkAt N l i):=Classical.propDecidable _
   refine step_ret (mayCf_ok S.ok (g.gr S.gr) t (S.ld (b:=w) (o:=0) m0 rfl) (S.ld (b:=u) (o:=0) m2 rfl) (S.own _ m1).2 m.1.1 (fun e=>m.2.1 e.symm) d) ?_
   rintro r h ⟨j,rfl⟩
   have y:Gr h0 h:=(S.fr.trans j (fun c z=>.inr (by subst z;exact a)):Mo NoM h0 h).gr
   simp only [BS,LB,ae,Nat.reduceLT,Nat.reduceEqDiff]
   refine⟨?_,y⟩
   congr 1
   by_cases c: ∀i,i<l.length->OkAt N l i
   . have:jz N l:=⟨f,c⟩
     rw [decide_eq_true c,decide_eq_true this];rfl
   . have: ¬jz N l:=fun h=>c h.2
     rw [decide_eq_false c,decide_eq_false this];rfl
 . have k: ¬(l.length:Int)<=16:=by omega
   simp only [BS,LB,ae,Nat.reduceLT,Nat.reduceEqDiff,FW,g.lenq,k]
   exact⟨by have: ¬jz N l:=fun h=>f h.1;simp [this],S.gr⟩
def Tryz.F0a:=aj t1<|aj t2<|aj t3<|aj t4<|aj t28<|aj Z0<|aj t32<|aj t34<|aj t115<|aj t164<|aj Z1<|aj t168<|Z16
def Tryz.F0D:=aj t1<|aj t2<|aj t3<|aj t4<|aj t6<|aj Z3<|aj t28<|aj t110<|t113
open Classical in
noncomputable def dOf(B:List Arc)(s v:Nat):Nat:=if h: ∃x,IsD B s v x then h.choose else 0
theorem dOf_is{B:List Arc}{s v x:Nat}(h:IsD B s v x):dOf B s v=x/\IsD B s v (dOf B s v):=by
 have a: ∃x,IsD B s v x:=⟨x,h⟩
 have e:dOf B s v=a.choose:=by unfold dOf;rw [dif_pos a]
 rw [e]
 exact⟨a.choose_spec.uniq h,a.choose_spec⟩
noncomputable def rowD(B:List Arc)(N s:Nat):List Int:=(zM N).map fun v=>((dOf B s v:Nat):Int)
theorem rowD_of{B:List Arc}{N s:Nat}{D:Nat->Nat}(h: ∀v,IsD B s v (D v)):((zM N).map D).map (fun(x:Nat)=>(x:Int))=rowD B N s:=by
 unfold rowD
 rw [X3]
 refine X2 fun v _=>?_
 show((D v:Nat):Int)=_
 rw [(dOf_is (h v)).1]
def RunF(E:Env)(g:FuncId)(a:Gra)(b:Value)(B:List Arc):Prop:= ∀(h:Hp) (d:Nat),h.t.Sized h.n->aS h d b a-> ∀s,s<a.nodes->Ret E g [b,.int .i64 (s:Nat)] h fun r c=>Gr h c/\vZ c h.n r B s a.nodes
theorem runTo{a:Gra}(b:Good a){c:Value}:RunF zL 44 a c (seen a.arcs Arc.t Arc.s):=fun h g d e s f=>vH d b e f
theorem runFrom{a:Gra}(b:Good a){c:Value}:RunF zL 45 a c (seen a.arcs Arc.s Arc.t):=fun h g d e s f=>Ar d b e f
def PRow(m:Nat)(R:Nat->List Int)(i:Nat)(h:Hp)(F:List Nat)(x:List Value):Prop:= ∃w,x=[w]/\ar h 1 (encI .i64) w (R i)/\ ∀c,aq w c->m<=c/\c∉F
theorem rows_ok{h0:Hp}(j:h0.t.Sized h0.n){p g i:Value}(k:Fl p)(l:Fl g)(m:Fl i):Ret zL 43 [p,g,i] h0 fun v f=>Gr h0 f/\ ∃b1 a b,v=.func (.func 93) #[] #[ptrTo b1,ptrTo a,ptrTo b]/\h0.n<=b1/\h0.n<=a/\h0.n<=b/\f.load b1 0 1=some [g]/\f.load a 0 1=some [i]/\f.load b 0 1=some [p]:=by
 have S:=Si j
 refine ab (n:=8) (rs:=[.tmp 6]) rfl Tryz.e43 rfl rfl rfl (lbt rfl) ?_
 simp only [BS,Nat.reduceLT]
 refine ag (bC (by assumption)) S ?_;clear S;intro h b S c
 simp only [BS,Nat.reduceLT,Nat.reduceEqDiff,if_false]
 refine ag (bC (by assumption)) S ?_;clear S;intro h b1 S d
 simp only [BS,Nat.reduceLT,Nat.reduceEqDiff,if_false]
 refine ag (bC (by assumption)) S ?_;clear S;intro h a S e
 simp only [BS,LB,ae,Nat.reduceLT,Nat.reduceEqDiff]
 exact⟨S.gr,b1,a,b,rfl,d,e,c,S.ld m1 rfl,S.ld m0 rfl,S.ld m2 rfl⟩
theorem rows_it{hq h0:Hp}(A:hq.t.Sized hq.n)(d:h0.t.Sized h0.n)(Q:dW hq h0)(R:hq.n<=h0.n){x j:Value}{f:Gra}{C b1 p q m:Nat}(S:aS hq C x f){l:List Int}(G:ar h0 1 (encI .i64) j l)(E: ∀i,i<l.length->0<=l.getD i 0/\l.getD i 0<f.nodes)(H:l.length<1000){g:FuncId}{B:List Arc}(T:RunF zL g f x B)(U:m<=h0.n)
 (V:h0.load b1 0 1=some [j]) (W:h0.load p 0 1=some [.func (.func g) #[] #[]]) (e3:h0.load q 0 1=some [x]):
 IterP zL 93 [ptrTo b1,ptrTo p,ptrTo q] h0 (fun c=>c=b1\/c=p\/c=q\/aq j c\/c<hq.n) l.length (PRow m fun i=>rowD B f.nodes (l.getD i 0).toNat):=by
 intro X J Y h F s y
 refine enter (n:=22) (rs:=[]) rfl Tryz.e93 rfl rfl rfl (lbt rfl) ?_
 have I:=s.load d V (.inl rfl)
 simp only [BS,LB,Nat.reduceLT,F0a,I,G.lenq]
 refine aO (fun(i:Nat) e h=>i<=l.length/\ ∃F,ItS h0 (fun c=>c=b1\/c=p\/c=q\/aq j c\/c<hq.n) h F/\J i h F/\e 0=.func (.yield X) #[] #[]/\e 2=ptrTo p/\e 3=ptrTo q/\e 7=j/\e 8=.int .i64 l.length/\e 9=.int .i64 i) (fun i=>l.length-i) ?_ 0 _ _ ?_
 . clear I
   intro i Z e h ⟨hi,F,s,y,r0,r2,r3,r7,r8,r9⟩
   by_cases hlt:i<l.length
   . obtain⟨c,o,r,t⟩:=(s.sl d G (fun b h=>.inr (.inr (.inr (.inl h))))).ix (kd:=.i64) (bO .i64) hlt
     have l2:=s.load d W (.inr (.inl rfl))
     have l3:=s.load d e3 (.inr (.inr (.inl rfl)))
     have nt:aS h C x f:=S.keep A (s.keep Q R (fun c z=>.inr (.inr (.inr (.inr z)))))
     have w:an .i64 ((i:Int)+1)=((i+1:Nat):Int):=by rw [wrap64]<;>omega
     have K:l.getD i 0=l[i]:=by simp [zO,hlt]
     have L:=E i hlt
     rw [K]at L
     obtain⟨mk,u⟩: ∃k:Nat,l[i]=k:=⟨l[i].toNat,by omega⟩
     rw [u]at t L
     simp only [BS,LB,Nat.reduceLT,Nat.reduceEqDiff,F0a,r0,r2,r3,r7,r8,r9,aB,hlt,r,t,encI,l2,l3]
     refine step_ret (T h C s.ok nt mk (by omega)) ?_
     rintro v M ⟨N,P,vA,vO,D,aL,O,rfl,s1,s2,s3,t4,t5,t6,t7,t8⟩
     simp only [BS,LB,Nat.reduceLT,Nat.reduceEqDiff,F0a]
     refine AS Y (s.gr N) (Y.gr _ _ _ _ y N) (i:=i) hlt ⟨P,rfl,?_,fun c z=>⟨?_,fun hF=>?_⟩⟩ ?_
     . have:=sl_nat s1
       rw [rowD_of t5]at this
       show ar M 1 _ P (rowD B f.nodes (l.getD i 0).toNat)
       rw [K,u]
       exact this
     . exact Xa U (Xa s.n (t6 c (.inl z)))
     . have h1:=s.lt c hF
       have M:=t6 c (.inl z)
       omega
     . intro h' F' a s' _ _
       simp only [BS,LB,Nat.reduceLT,Nat.reduceEqDiff,r9,w]
       exact Z (i+1) _ _ (by omega) ⟨by omega,F',s',a,by simp [aa,r0],by simp [aa,r2,ac],by simp [aa,r3,ac],by simp [aa,r7],by simp [aa,r8],by simp [aa]⟩
   . simp only [BS,LB,Nat.reduceLT,r8,r9,aB,hlt]
     have:i=l.length:=by omega
     subst this
     exact bS (cJ ⟨rfl,_,rfl,rfl,_,F,rfl,y⟩)
 . exact⟨by omega,F,s,y,by simp [aa,bJ],by simp [aa,bJ,ac],by simp [aa,bJ,ac],by simp [aa],by simp [aa],by simp [aa]⟩
theorem zh {h0:Hp} (ok:h0.t.Sized h0.n) {g:FuncId} {post:Array Value} {D:Nat->Prop} {n m:Nat} {R:Nat->List Int} (it:IterP zL g post.toList h0 D n (PRow m R)) (G:m<=h0.n) (hn:n<1000):
 Ret zL 92 [.slice none 0 0,.func (.func g) #[] post] h0 fun r t=>Gr h0 t/\gV t m r n R:=by
 have S:=Si ok
 refine ab (n:=13) (rs:=[.tmp 4]) rfl Tryz.e92 rfl rfl rfl (lbt rfl) ?_
 simp only [BS,Nat.reduceLT]
 refine ag (bC (by exact cg)) S ?_;clear S;intro h v S W
 simp only [BS,Nat.reduceLT,Nat.reduceEqDiff,if_false]
 replace S:=S.nilG (k:=1)
 have g0:=S.gr
 refine fq S (g:=g) (a:=#[]) (b:=post) (by simp [bQ,aa,aR,bU]) rfl rfl ?_
 intro Y C y z af ai g2
 obtain⟨X,Z,z⟩: ∃X:eu,X=_/\St NoM h0 Y [(y,.loop X),(C,.dfr),(v,.row [.slice none 0 0] 1)] [(.slice none 0 0,1,[])]:=⟨_,rfl,z⟩
 have hJ:YldP zL y (fun k t F=> ∃(f:List Value) (p:Value),St NoM h0 t [(y,.loop X),(C,.dfr),(v,.row [p] 1)] [(p,1,f)]/\f.length=k/\k<=n/\(∀i w,f[i]? =some w->ar t 1 (encI .i64) w (R i)/\ ∀c,aq w c->m<=c/\c∉F)/\F=keys [(y,.loop X),(C,.dfr),(v,.row [p] 1)] [(p,1,f)]) n (PRow m R):=by
  refine⟨?_,?_,?_⟩
  . rintro i h F ⟨f,p,S,_,_,_,rfl⟩;exact⟨S.ok,fun b A=>S.key_lt A⟩
  . rintro i h F t ⟨f,p,S,a,b,c,rfl⟩ gg;exact⟨f,p,S.call gg,a,b,fun i w l=>⟨(c i w l).1.gr gg,(c i w l).2⟩,rfl⟩
  . rintro i x hR F hi ⟨w,rfl,sw,l⟩ ⟨f,p,S,a,b,c,rfl⟩
    subst Z
    obtain⟨J,K,N,rfl⟩:=sw.form
    have fw:Fl (.slice J K N):=cg
    refine fG (S.get m0) (by rw [Tryz.e92];rfl) rfl ?_
    have P:=S
    replace S:=S.base
    simp only [BS,LB,Nat.reduceLT,Nat.reduceEqDiff]
    refine eH S (i:=0) rfl rfl rfl rfl rfl ?_
    clear S;intro h S
    simp only [LC]at S
    simp only [BS,LB,Nat.reduceLT,Nat.reduceEqDiff,F0D,S.ld (b:=v) (o:=0) m2 rfl]
    refine ag (bR (by exact Tryz.t110.1) (by exact Tryz.e28E) (by decide) (by rfl)) S ?_;clear S;intro h bs S ad;simp only [LC,aV,bK,ah,Nat.reduceMul,Nat.reduceAdd,Xi,Xf,Xn,Xo]at S
    simp only [BS,LB,Nat.reduceLT,Nat.reduceEqDiff]
    have H:aJ h 1 (.slice (some ⟨bs,0,none⟩) 1 1)=some (1,[.slice J K N]):=by simp only [aJ];rw [S.lds (b:=bs) (o:=0) (n:=1*1) m0 (lbt rfl)];rfl
    replace S:=S.drop1
    refine dM (S.grow (j:=0) (m:=1) (new:=[.slice J K N]) rfl Tryz.t110.1 Tryz.e28E (by decide) Tryz.t110.2.2.2.2.2 H rfl (by decide) (by simp [fw.2.1]) (by simp;omega)) ?_
    clear S H;rintro h q S
    simp only [LC]at S
    have fv:Fl q:=by
     rcases(S.gown _ m0).1 with⟨e,_⟩|⟨_,_,e,_⟩
     . rw [show q=_ from e];exact cg
     . rw [show q=_ from e];exact cg
    simp only [BS,LB,Nat.reduceLT,Nat.reduceEqDiff]
    refine az (ay S (i:=2) rfl Tryz.t110.2.2.1 fv (Xd (lbt rfl)) ono) ?_
    clear S;rintro h ⟨S,_⟩
    simp only [LC]at S
    simp only [BS]
    refine dy S (i:=0) rfl ?_
    clear S;intro h S
    simp only [LC]at S
    refine⟨rfl,_,⟨f++[.slice J K N],q,P.rebase S,by simp [a],by omega,fun j u E=>?_,rfl⟩,S.fr,S.key_new⟩
    have s:ar h 1 (encI .i64) u (R j)/\ ∀c,aq u c->m<=c/\c∉keys [(y,Ob.dfr),(C,.dfr),(v,.dfr)] [(p,1,f)]/\c<hR.n:=by
     by_cases hj:j<f.length
     . rw [XO hj]at E
       obtain⟨O,B⟩:=c j u E
       exact⟨O.mo S.fr (fun x d I=>(B x d).2 I),fun x d=>⟨(B x d).1,(B x d).2,O.lt P.ok d⟩⟩
     . rw [XK (by omega)]at E
       have Q:j-f.length=0:=by
        have:=(List.getElem?_eq_some_iff.1 E).1
        simp at this;omega
       rw [Q]at E
       cases E
       have:j=f.length:=by omega
       subst this
       rw [a]
       exact⟨sw.mo S.fr (fun x d I=>(l x d).2 I),fun x d=>⟨(l x d).1,(l x d).2,sw.lt P.ok d⟩⟩
    refine⟨s.1,fun x d=>⟨(s.2 x d).1,fun G=>?_⟩⟩
    rcases S.key_new x G with h1|h1
    . exact(s.2 x d).2.1 h1
    . have:=(s.2 x d).2.2;omega
 refine eg (it y _ hJ Y _ ?_ ⟨[],_,z,rfl,Xh _,fun i w l=>by simp at l,rfl⟩) ?_
 . exact⟨z.ok,z.fr.n,fun b A _=>z.gr.get b A,fun b A h=>by have:=(z.key_own A).elim (fun h=>h) (fun h=>h.elim);omega,fun b A=>z.key_lt A⟩
 . rintro o rc t ⟨rfl,u,F,rfl,f,p,T,a,_,c,rfl⟩
   subst Z
   refine⟨_,T.get m0,XC,?_⟩
   have U: ∀i w,f[i]? =some w->ar (t.put y .dead) 1 (encI .i64) w (R i)/\ ∀c,aq w c->m<=c/\c∉keys [(C,.dfr),(v,.row [p] 1)] [(p,1,f)]:=fun i w l=>by
    obtain⟨O,B⟩:=c i w l
    exact⟨O.mo ((Mo.refl (M:=(· =y)) T.ok).put (.inr rfl) .dead) (fun x d e=>(B x d).2 (by rw [e];exact m0)),fun x d=>⟨(B x d).1,fun G=>(B x d).2 (Xs _ G)⟩⟩
   replace T:=T.dead
   have S:=T
   show Run _ _ _ _ _ _ _ _
   simp only [BS,LB,Nat.reduceLT,Nat.reduceEqDiff,F0D,S.ld (b:=v) (o:=0) m1 rfl]
   refine dp (eR [C] _ (L:=[(v,_)]) T.base fun h3 V=>⟨rfl,_,rfl,?_⟩)
   refine⟨(T.fr.trans V.fr (fun c hc=>(T.key_own hc).symm):Mo NoM h0 h3).gr,f,?_,a,fun x d=>?_,fun i w l=>⟨(U i w l).1.mo V.fr (fun x d I=>((U i w l).2 x d).2 I),fun x d=>((U i w l).2 x d).1⟩⟩
   . exact(V.gown _ m0).1.sl (flat_encV f).symm zt (by decide)
   . exact Xa G (((T.gblk m0 d).1).elim (fun h=>h) (fun h=>h.elim))
theorem vU{h0:Hp}(b:h0.t.Sized h0.n){g:FuncId}{post:Array Value}{D:Nat->Prop}{n m:Nat}{R:Nat->List Int}(c:IterP zL g post.toList h0 D n (PRow m R))(d:m<=h0.n)(e:n<1000):
 Ret zL 42 [.func (.func g) #[] post] h0 fun r a=>Gr h0 a/\gV a m r n R:=by
 have S:=Si b
 refine ab (n:=5) (rs:=[.tmp 2]) rfl Tryz.e42 rfl rfl rfl (lbt rfl) ?_
 simp only [BS,LB,Nat.reduceLT,Nat.reduceEqDiff]
 refine step_ret (zh S.ok c d e) ?_;intro v h ⟨g,L⟩;replace S:=S.call g;clear g
 simp only [BS,LB,ae,Nat.reduceLT,Nat.reduceEqDiff]
 exact⟨S.gr,L⟩
def Tryz.F0E:=aj t1<|aj t2<|aj t3<|aj t4<|aj t28<|aj Z0<|aj t32<|aj t33<|aj t34<|aj t110<|aj t113<|aj t115<|aj Z5<|aj t164<|Z1
def Tryz.F1t:=aj t1<|aj t2<|aj t3<|aj t4<|aj t28<|aj t33<|aj t34<|aj t110<|Z5
def Tryz.F1u:=aj t1<|aj t2<|aj t3<|aj t4<|aj t28<|aj t33<|aj t34<|aj t110<|Z5
def Tryz.F1v:=aj t1<|aj t2<|aj t3<|aj t28<|aj t33<|aj t34<|aj t110<|Z5
def Tryz.F1w:=aj t1<|aj t2<|aj t3<|aj t28<|aj t33<|aj t34<|aj t110<|Z5
def Tryz.Fy:=aj t1<|aj t2<|aj t3<|aj t4<|aj t28<|aj t33<|aj t34<|aj t110<|aj Z5<|t212
noncomputable def toR(a:Gra)(l:List Int)(i:Nat):List Int:=rowD (seen a.arcs Arc.t Arc.s) a.nodes (l.getD i 0).toNat
noncomputable def frR(a:Gra)(l:List Int)(i:Nat):List Int:=rowD (seen a.arcs Arc.s Arc.t) a.nodes (l.getD i 0).toNat
theorem tabOf_ok{h0:Hp}(z:h0.t.Sized h0.n){k:Gra}(q:Good k){A G:Value}{I:Nat}(t:aS h0 I A k){l:List Int}(o:ar h0 1 (encI .i64) G l)(f:l.length<1000):
 Ret zL 15 [A,G] h0 fun r H=>Gr h0 H/\((¬jz k.nodes l/\r=.pointer none)\/(jz k.nodes l/\TabAt H h0.n r k.nodes l (toR k l) (frR k l))):=by
 have S:=Si z
 obtain⟨N,rfl⟩: ∃b,A=ptrTo b:=by obtain⟨b,_,_,_,_,_,e,_⟩:=t.ex;exact⟨b,e⟩
 refine ab (n:=28) (rs:=[.tmp 4]) rfl Tryz.e15 rfl rfl rfl (lbt rfl) ?_
 simp only [BS,LB,Nat.reduceLT,Nat.reduceEqDiff,F0E]
 refine am (ca S.ok (t.gr S.gr)) ?_;intro h g;replace S:=S.call g;clear g
 simp only [BS,LB,Nat.reduceLT,Nat.reduceEqDiff]
 refine am (may_ok S.ok (o.gr S.gr) (by omega)) ?_;intro h g;replace S:=S.call g;clear g
 by_cases j:jz k.nodes l
 . have B:decide (jz k.nodes l)=true:=decide_eq_true j
   simp only [BS,LB,Nat.reduceLT,Nat.reduceEqDiff,B]
   refine am (ca S.ok (t.gr S.gr)) ?_;intro h g;replace S:=S.call g;clear g
   simp only [BS,LB,Nat.reduceLT,Nat.reduceEqDiff]
   have J:=S.fr.n
   refine step_ret (jm S.ok (bO .i64) (o.gr S.gr) (by omega)) ?_;intro v h ⟨g,d,hM⟩;replace S:=S.call g;clear g
   rename Value=>vM
   obtain⟨O,P,Q,rfl⟩:=d.form
   simp only [BS,LB,Nat.reduceLT,Nat.reduceEqDiff]
   refine step_ret (rows_ok S.ok cq o.fl fQ) ?_;intro v h ⟨g,b1,b2,b3,e,q1,q2,q3,y1,y2,y3⟩;replace S:=S.call g;replace d:=d.gr g;clear g
   subst e
   simp only [BS,LB,Nat.reduceLT,Nat.reduceEqDiff]
   have y:=rows_it z S.ok S.gr.keep S.fr.n t (o.gr S.gr) (fun i u=>⟨(j.2 i u).1,(j.2 i u).2.1⟩) f (runTo q) (m:=h0.n) S.fr.n y1 y2 y3
   refine step_ret (vU S.ok y S.fr.n f) ?_;intro v h ⟨g,p⟩;replace S:=S.call g;replace d:=d.gr g;clear g
   rename Value=>vT
   obtain⟨R,T,U,rfl⟩: ∃a n c,vT=.slice a n c:=by obtain⟨_,s,_⟩:=p;exact s.form
   clear y y1 y2 y3 q1 q2 q3
   simp only [BS,LB,Nat.reduceLT,Nat.reduceEqDiff]
   refine step_ret (rows_ok S.ok cq o.fl fQ) ?_;intro v h ⟨g,b1,b2,b3,e,q1,q2,q3,y1,y2,y3⟩;replace S:=S.call g;replace d:=d.gr g;replace p:=p.gr g;clear g
   subst e
   simp only [BS,LB,Nat.reduceLT,Nat.reduceEqDiff]
   have y:=rows_it z S.ok S.gr.keep S.fr.n t (o.gr S.gr) (fun i u=>⟨(j.2 i u).1,(j.2 i u).2.1⟩) f (runFrom q) (m:=h0.n) S.fr.n y1 y2 y3
   refine step_ret (vU S.ok y S.fr.n f) ?_;intro v h ⟨g,L2⟩;replace S:=S.call g;replace d:=d.gr g;replace p:=p.gr g;clear g
   rename Value=>vF
   obtain⟨V,W,X,rfl⟩: ∃a n c,vF=.slice a n c:=by obtain⟨_,s,_⟩:=L2;exact s.form
   simp only [BS,LB,Nat.reduceLT,Nat.reduceEqDiff,Nat.reduceAdd,F0E]
   have K:=S
   replace S:=S.base
   refine ag (aZ (by intro x e;cases e)) S ?_;clear S;intro h b S L;simp only [ah]at S
   simp only [BS,LB,ae,Nat.reduceLT,Nat.reduceEqDiff]
   have C:=S.fr
   have w:=d.mo C (fun c _ j=>by cases j)
   have D:=p.mo C (fun c j=>by cases j)
   have E:=L2.mo C (fun c j=>by cases j)
   have F:=S.row (b:=b) m0
   replace S:=K.rebase S
   exact⟨S.gr,.inr ⟨j,⟨b,_,_,_,rfl,F,w,D,E,(S.own _ m0).1.elim (fun h=>h) (fun h=>h.elim),fun c M=>Xa J (hM c M)⟩⟩⟩
 . have B:decide (jz k.nodes l)=false:=decide_eq_false j
   simp only [BS,LB,ae,Nat.reduceLT,Nat.reduceEqDiff,B]
   exact⟨S.gr,.inl j⟩
theorem qq{h0:Hp}(a:h0.t.Sized h0.n){m N:Nat}{p:Value}{l:List Int}{R Q:Nat->List Int}(t:TabAt h0 m p N l R Q):aM zL 138 [p] h0 (.int .i64 N):=by
 have S:=Si a
 obtain⟨b,e,f,g,rfl,c,_⟩:=t.ex
 have d:=c.load1 (o:=0) rfl
 refine ab (n:=9) (rs:=[.tmp 2]) rfl Tryz.e138 rfl rfl rfl (lbt rfl) ?_
 simp only [BS,LB,ae,Nat.reduceLT,Nat.reduceEqDiff,F1t,d]
 exact S.gr
theorem nu{h0:Hp}(e:h0.t.Sized h0.n){m N:Nat}{p:Value}{l:List Int}{R Q:Nat->List Int}(t:TabAt h0 m p N l R Q)(a:l.length<1000):Ret zL 34 [p] h0 fun r d=>Gr h0 d/\ar d 1 (encI .i64) r l/\ ∀c,aq r c->h0.n<=c:=by
 have S:=Si e
 obtain⟨b,k,q,s,rfl,f,i,_⟩:=t.ex
 have j:=f.load1 (o:=1) rfl
 refine ab (n:=10) (rs:=[.tmp 2]) rfl Tryz.e34 rfl rfl rfl (lbt rfl) ?_
 simp only [BS,LB,Nat.reduceLT,Nat.reduceEqDiff,F1u,j]
 refine step_ret (jm S.ok (bO .i64) i (by omega)) ?_;intro v h ⟨g,sl,hc⟩;replace S:=S.call g;clear g
 simp only [BS,LB,ae,Nat.reduceLT,Nat.reduceEqDiff]
 exact⟨S.gr,sl,hc⟩
def iC(N n:Nat)(R:Nat->List Int)(i v:Int):Int:=if 0<=i/\i<n/\0<=v/\v<N then(R i.toNat).getD v.toNat 0 else 72057594037927936
theorem tos_ok{h0:Hp}(c:h0.t.Sized h0.n){m N:Nat}{p:Value}{l:List Int}{R Q:Nat->List Int}(t:TabAt h0 m p N l R Q):Ret zL 140 [p] h0 fun r a=>Gr h0 a/\gV a m r l.length R:=by
 have S:=Si c
 obtain⟨b,f,g,h,rfl,d,_,L,_⟩:=t.ex
 have e:=d.load1 (o:=2) rfl
 refine ab (n:=7) (rs:=[.tmp 2]) rfl Tryz.e140 rfl rfl rfl (lbt rfl) ?_
 simp only [BS,LB,ae,Nat.reduceLT,Nat.reduceEqDiff,F1v,e]
 exact⟨S.gr,L⟩
theorem froms_ok{h0:Hp}(c:h0.t.Sized h0.n){m N:Nat}{p:Value}{l:List Int}{R Q:Nat->List Int}(t:TabAt h0 m p N l R Q):Ret zL 143 [p] h0 fun r a=>Gr h0 a/\gV a m r l.length Q:=by
 have S:=Si c
 obtain⟨b,f,g,h,rfl,d,_,_,L,_⟩:=t.ex
 have e:=d.load1 (o:=3) rfl
 refine ab (n:=7) (rs:=[.tmp 2]) rfl Tryz.e143 rfl rfl rfl (lbt rfl) ?_
 simp only [BS,LB,ae,Nat.reduceLT,Nat.reduceEqDiff,F1w,e]
 exact⟨S.gr,L⟩
theorem yN{h0:Hp}(z:h0.t.Sized h0.n){m N:Nat}{p:Value}{l:List Int}{R Q W:Nat->List Int}(t:TabAt h0 m p N l R Q){g:FuncId}(A: ∀h,Gr h0 h->Ret zL g [p] h fun r s=>Gr h s/\gV s m r l.length W)(B: ∀i,i<l.length->(W i).length=N){i v:Int}:
 aM zL 139 [p,.func (.func g) #[p] #[],.int .i64 i,.int .i64 v] h0 (.int .i64 (iC N l.length W i v)):=by
 have S:=Si z
 obtain⟨b,I,J,K,rfl,u,e,_⟩:=t.ex
 have x:=u.load1 (o:=0) rfl
 have f:=u.load1 (o:=1) rfl
 unfold iC
 refine ab (n:=44) (rs:=[.tmp 8]) rfl Tryz.e139 rfl rfl rfl (lbt rfl) ?_
 by_cases a:i<0
 . rw [if_neg (by omega)]
   simp only [BS,LB,ae,Nat.reduceLT,Nat.reduceEqDiff,Fy,a]
   exact S.gr
 . by_cases j:(l.length:Int)<=i
   . rw [if_neg (by omega)]
     simp only [BS,LB,ae,Nat.reduceLT,Nat.reduceEqDiff,Fy,f,a,j,e.lenq]
     exact S.gr
   . by_cases q:v<0
     . rw [if_neg (by omega)]
       simp only [BS,LB,ae,Nat.reduceLT,Nat.reduceEqDiff,Fy,f,a,j,q,e.lenq]
       exact S.gr
     . by_cases y:(N:Int)<=v
       . rw [if_neg (by omega)]
         simp only [BS,LB,ae,Nat.reduceLT,Nat.reduceEqDiff,Fy,x,f,a,j,q,y,e.lenq]
         exact S.gr
       . rw [if_pos (by omega)]
         obtain⟨d,rfl⟩:=XQ (show 0<=i by omega)
         obtain⟨k,rfl⟩:=XQ (show 0<=v by omega)
         simp only [BS,LB,Nat.reduceLT,Nat.reduceEqDiff,Fy,x,f,a,j,q,y,e.lenq]
         refine step_ret (A _ S.gr) ?_;intro v h ⟨g,L⟩;replace S:=S.call g;clear g
         obtain⟨w,⟨c,o,C,D⟩,sw,_⟩:=L.row (i:=d) (by omega)
         have E:=B d (by omega)
         obtain⟨M,O,F,G⟩:=sw.ix (kd:=.i64) (bO .i64) (i:=k) (by omega)
         have H:(W d).getD k 0=(W d)[k]:=by simp [zO,show k<(W d).length by omega]
         simp only [BS,LB,ae,Nat.reduceLT,Nat.reduceEqDiff,Fy,C,D,F,G,encI,Xj,H]
         exact S.gr
theorem Aa{h0:Hp}(a:h0.t.Sized h0.n){m N:Nat}{p:Value}{l:List Int}{R Q:Nat->List Int}(t:TabAt h0 m p N l R Q)(b: ∀i,i<l.length->(R i).length=N){i v:Int}:aM zL 86 [p,.int .i64 i,.int .i64 v] h0 (.int .i64 (iC N l.length R i v)):=by
 have S:=Si a
 refine ab (n:=13) (rs:=[.tmp 6]) rfl Tryz.e86 rfl rfl rfl (lbt rfl) ?_
 simp only [BS,LB,Nat.reduceLT,Nat.reduceEqDiff]
 refine am (yN S.ok t (fun h g=>tos_ok g.ok (t.gr g)) b) ?_;intro h g;replace S:=S.call g;clear g
 simp only [BS,LB,ae,Nat.reduceLT,Nat.reduceEqDiff]
 exact S.gr
theorem wA{h0:Hp}(a:h0.t.Sized h0.n){m N:Nat}{p:Value}{l:List Int}{R Q:Nat->List Int}(t:TabAt h0 m p N l R Q)(b: ∀i,i<l.length->(Q i).length=N){i v:Int}:aM zL 88 [p,.int .i64 i,.int .i64 v] h0 (.int .i64 (iC N l.length Q i v)):=by
 have S:=Si a
 refine ab (n:=13) (rs:=[.tmp 6]) rfl Tryz.e88 rfl rfl rfl (lbt rfl) ?_
 simp only [BS,LB,Nat.reduceLT,Nat.reduceEqDiff]
 refine am (yN S.ok t (fun h g=>froms_ok g.ok (t.gr g)) b) ?_;intro h g;replace S:=S.call g;clear g
 simp only [BS,LB,ae,Nat.reduceLT,Nat.reduceEqDiff]
 exact S.gr
end Go.Ab
end
section
namespace Go.Ab
theorem St.growB{M:Nat->Prop}{h0 h:Hp}{L:List (Nat×Ob)}{G:List GL}(S:St M h0 h L G){E:Env}{t w e:TypeId}{f k m len b md:Nat}{y vs new:List Value}{x:Value}(C:Row h b vs md)(a:len*k=vs.length)(D:E.und t=some (.slice e))(F:dZ E e f k y)(H:0<f)
 (q:dJ E w=some false) (g:aJ h k x=some (m,new)) (z:m*k=new.length) (I:0<m) (A:0<k) (r:(vs.length+new.length)*(f+1)<=70368744177664) {ts:List TypeId}:
 ∃B v',dg E h (t::w::ts) (.slice (some ⟨b,0,none⟩) len len) x=some (B,v')/\St M h0 B L ((v',k,vs++new)::G):=by
 obtain⟨⟨i,J,rfl,rfl⟩,K,N⟩:=F
 obtain⟨p,el,j,d,s⟩:=C
 have l:Nat.ble (len+m) len=false:=by
  cases q:Nat.ble (len+m) len with
  |false=>rfl
  |true=>exact absurd (lbt q) (by omega)
 have o:len+m<=vs.length+new.length:=by
  rw [<-a,<-z]
  have I:=XR len A
  have O:=XR m A
  omega
 have c:(Nat.ble ((len+m)*(i.bytes+1)) 70368744177664&&Nat.blt 0 i.bytes)=true:=by
  rw [Nat.ble_eq_true_of_le (Xa (XB _ o) r)]
  simp only [XZ]
  rw [XW];exact H
 have u:Nat.beq y.length i.size=true:=by rw [N];exact Nat.beq_refl _
 have v:jg p vs.length 0 (len*i.size) new=some (p.pushAll vs.length new,vs.length+new.length):=by
  unfold jg
  rw [a,Nat.beq_refl vs.length]
  rfl
 refine⟨h.new (.cells (p.pushAll vs.length new) (vs.length+new.length) e 1),.slice (some ⟨h.n,0,some i.size⟩) (len+m) (len+m),?_,S.newG (n:=len+m) ?_ ?_⟩
 . unfold dg
   simp only [q]
   unfold jv
   simp only [D,J,g]
   unfold eS
   rw [l]
   simp only [cond_false]
   rw [c,K]
   simp only [cond_true,u]
   unfold ns
   simp only [j,v]
 . rw [Nat.add_mul,a,z,Xy]
 . refine⟨p.pushAll vs.length new,e,?_,?_,fun n=>?_⟩
   . rw [Hp.get_new _ _ S.ok,if_pos rfl,Xy]
   . rw [Xy];exact Tr.sized_pushAll _ d
   . rw [Tr.get_pushAll _ _ _ d,List.getElem?_append]
     split
     . exact s n
     . rfl
end Go.Ab

end
section
namespace Go.Ab
open Go.Proofs
set_option maxRecDepth 10000
def lowD(v t:Int):Int:=if wy t<72057594037927936 then(if wy v<72057594037927936 then wy (wy v-wy t)else 72057594037927936)else 0
theorem low_ok{h0:Hp}(i:h0.t.Sized h0.n){v t:Int}:aM zL 87 [.int .i64 v,.int .i64 t] h0 (.int .i64 (lowD v t)):=by
 have S:=Si i
 have a:=wy_bd v
 have b:=wy_bd t
 have c:wy (wy v)=wy v:=wy_id a.1 a.2
 have d:wy (wy t)=wy t:=wy_id b.1 b.2
 have w:an .i64 (wy v-wy t)=wy v-wy t:=by rw [wrap64]<;>omega
 refine ab (n:=21) (rs:=[.tmp 4]) rfl Tryz.e87 rfl rfl rfl (lbt rfl) ?_
 simp only [BS,LB,Nat.reduceLT,Nat.reduceEqDiff]
 refine am (n9 S.ok) ?_;intro h g;replace S:=S.call g;clear g
 simp only [BS,LB,Nat.reduceLT,Nat.reduceEqDiff]
 refine am (n9 S.ok) ?_;intro h g;replace S:=S.call g;clear g
 simp only [BS,LB,Nat.reduceLT,Nat.reduceEqDiff]
 refine am (pY S.ok) ?_;intro h g;replace S:=S.call g;clear g
 unfold lowD
 by_cases e:wy t<72057594037927936
 . simp only [BS,LB,Nat.reduceLT,Nat.reduceEqDiff,d,e]
   refine am (pY S.ok) ?_;intro h g;replace S:=S.call g;clear g
   by_cases f:wy v<72057594037927936
   . simp only [BS,LB,Nat.reduceLT,Nat.reduceEqDiff,c,f,w]
     refine am (n9 S.ok) ?_;intro h g;replace S:=S.call g;clear g
     simp only [BS,LB,ae,Nat.reduceLT,Nat.reduceEqDiff]
     exact S.gr
   . simp only [BS,LB,ae,Nat.reduceLT,Nat.reduceEqDiff,c,f]
     exact S.gr
 . simp only [BS,LB,ae,Nat.reduceLT,Nat.reduceEqDiff,d,e]
   exact S.gr
theorem lift_ok{h0:Hp}(a:h0.t.Sized h0.n){v t:Int}:aM zL 89 [.int .i64 v,.int .i64 t] h0 (.int .i64 (lowD t v)):=by
 have S:=Si a
 refine ab (n:=8) (rs:=[.tmp 4]) rfl Tryz.e89 rfl rfl rfl (lbt rfl) ?_
 simp only [BS,LB,Nat.reduceLT,Nat.reduceEqDiff]
 refine am (low_ok S.ok) ?_;intro h g;replace S:=S.call g;clear g
 simp only [BS,LB,ae,Nat.reduceLT,Nat.reduceEqDiff]
 exact S.gr
def Tryz.F0F:=aj t1<|aj t2<|aj t3<|aj t4<|aj t33<|aj t34<|aj t110<|aj Z5<|aj t160<|t161
def Tryz.F0G:=aj t1<|aj t2<|aj t3<|aj t4<|aj t5<|aj t6<|aj t33<|aj t34<|aj t110<|Z5
theorem iw{h0:Hp}(a:h0.t.Sized h0.n){m N:Nat}{p:Value}{l:List Int}{R Q:Nat->List Int}(t:TabAt h0 m p N l R Q){v:Int}:aM zL 84 [p,.int .i64 v] h0 (.bool (decide (0<=v/\v<N))):=by
 have S:=Si a
 refine ab (n:=13) (rs:=[.tmp 4]) rfl Tryz.e84 rfl rfl rfl (lbt rfl) ?_
 by_cases c:0<=v
 . simp only [BS,LB,Nat.reduceLT,Nat.reduceEqDiff,c]
   refine am (qq S.ok (t.gr S.gr)) ?_;intro h g;replace S:=S.call g;clear g
   simp only [BS,LB,ae,Nat.reduceLT,Nat.reduceEqDiff]
   exact S.gr
 . simp only [BS,LB,ae,Nat.reduceLT,Nat.reduceEqDiff,c]
   exact⟨by simp,S.gr⟩
theorem wayTo_ok{h0:Hp}(b:h0.t.Sized h0.n){m N:Nat}{p:Value}{l:List Int}{R Q:Nat->List Int}(t:TabAt h0 m p N l R Q)(a: ∀i,i<l.length->(R i).length=N){i v w:Int}:
 aM zL 85 [.func (.func 86) #[p] #[],.func (.func 87) #[] #[],.int .i64 i,.int .i64 v,.int .i64 w] h0 (.int .i64 (lowD (iC N l.length R i v) (iC N l.length R i w))):=by
 have S:=Si b
 refine ab (n:=21) (rs:=[.tmp 10]) rfl Tryz.e85 rfl rfl rfl (lbt rfl) ?_
 simp only [BS,LB,Nat.reduceLT,Nat.reduceEqDiff]
 refine am (Aa S.ok (t.gr S.gr) a) ?_;intro h g;replace S:=S.call g;clear g
 simp only [BS,LB,Nat.reduceLT,Nat.reduceEqDiff]
 refine am (Aa S.ok (t.gr S.gr) a) ?_;intro h g;replace S:=S.call g;clear g
 simp only [BS,LB,Nat.reduceLT,Nat.reduceEqDiff]
 refine am (low_ok S.ok) ?_;intro h g;replace S:=S.call g;clear g
 simp only [BS,LB,ae,Nat.reduceLT,Nat.reduceEqDiff]
 exact S.gr
theorem wayFr_ok{h0:Hp}(b:h0.t.Sized h0.n){m N:Nat}{p:Value}{l:List Int}{R Q:Nat->List Int}(t:TabAt h0 m p N l R Q)(a: ∀i,i<l.length->(Q i).length=N){i v w:Int}:
 aM zL 85 [.func (.func 88) #[p] #[],.func (.func 89) #[] #[],.int .i64 i,.int .i64 v,.int .i64 w] h0 (.int .i64 (lowD (iC N l.length Q i w) (iC N l.length Q i v))):=by
 have S:=Si b
 refine ab (n:=21) (rs:=[.tmp 10]) rfl Tryz.e85 rfl rfl rfl (lbt rfl) ?_
 simp only [BS,LB,Nat.reduceLT,Nat.reduceEqDiff]
 refine am (wA S.ok (t.gr S.gr) a) ?_;intro h g;replace S:=S.call g;clear g
 simp only [BS,LB,Nat.reduceLT,Nat.reduceEqDiff]
 refine am (wA S.ok (t.gr S.gr) a) ?_;intro h g;replace S:=S.call g;clear g
 simp only [BS,LB,Nat.reduceLT,Nat.reduceEqDiff]
 refine am (lift_ok S.ok) ?_;intro h g;replace S:=S.call g;clear g
 simp only [BS,LB,ae,Nat.reduceLT,Nat.reduceEqDiff]
 exact S.gr
def oe(N n:Nat)(R Q:Nat->List Int)(i v w:Int):Int:=if(0<=v/\v<N)/\(0<=w/\w<N)/\0<=i/\i<n then max (lowD (iC N n R i v) (iC N n R i w)) (lowD (iC N n Q i w) (iC N n Q i v))else 0
theorem wL{h0:Hp}(f:h0.t.Sized h0.n){m N:Nat}{p:Value}{l:List Int}{R Q:Nat->List Int}(t:TabAt h0 m p N l R Q)(j: ∀i,i<l.length->(R i).length=N)(k: ∀i,i<l.length->(Q i).length=N)(d:l.length<1000){i v w:Int}:
 aM zL 38 [p,.int .i64 i,.int .i64 v,.int .i64 w] h0 (.int .i64 (oe N l.length R Q i v w)):=by
 have S:=Si f
 by_cases a:0<=v/\v<N
 . by_cases b:0<=w/\w<N
   . by_cases c:i<0
     . rw [show oe N l.length R Q i v w=0 from if_neg (by omega)]
       refine ab (n:=43) (rs:=[.tmp 8]) rfl XX rfl rfl rfl (lbt rfl) ?_
       simp only [BS,LB,Nat.reduceLT,Nat.reduceEqDiff]
       refine am (iw S.ok (t.gr S.gr)) ?_;intro h g;replace S:=S.call g;clear g
       simp only [BS,LB,Nat.reduceLT,Nat.reduceEqDiff,a]
       refine am (iw S.ok (t.gr S.gr)) ?_;intro h g;replace S:=S.call g;clear g
       simp only [BS,LB,ae,Nat.reduceLT,Nat.reduceEqDiff,b,c]
       exact S.gr
     . by_cases e:(l.length:Int)<=i
       . rw [show oe N l.length R Q i v w=0 from if_neg (by omega)]
         refine ab (n:=43) (rs:=[.tmp 8]) rfl XX rfl rfl rfl (lbt rfl) ?_
         simp only [BS,LB,Nat.reduceLT,Nat.reduceEqDiff]
         refine am (iw S.ok (t.gr S.gr)) ?_;intro h g;replace S:=S.call g;clear g
         simp only [BS,LB,Nat.reduceLT,Nat.reduceEqDiff,a]
         refine am (iw S.ok (t.gr S.gr)) ?_;intro h g;replace S:=S.call g;clear g
         simp only [BS,LB,Nat.reduceLT,Nat.reduceEqDiff,b,c]
         refine step_ret (nu S.ok (t.gr S.gr) d) ?_;intro v h ⟨g,slM,_⟩;replace S:=S.call g;clear g
         simp only [BS,LB,ae,Nat.reduceLT,Nat.reduceEqDiff,F0F,e,slM.lenq]
         exact S.gr
       . rw [show oe N l.length R Q i v w=max (lowD (iC N l.length R i v) (iC N l.length R i w)) (lowD (iC N l.length Q i w) (iC N l.length Q i v))from if_pos ⟨a,b,by omega,by omega⟩]
         refine ab (n:=43) (rs:=[.tmp 8]) rfl XX rfl rfl rfl (lbt rfl) ?_
         simp only [BS,LB,Nat.reduceLT,Nat.reduceEqDiff]
         refine am (iw S.ok (t.gr S.gr)) ?_;intro h g;replace S:=S.call g;clear g
         simp only [BS,LB,Nat.reduceLT,Nat.reduceEqDiff,a]
         refine am (iw S.ok (t.gr S.gr)) ?_;intro h g;replace S:=S.call g;clear g
         simp only [BS,LB,Nat.reduceLT,Nat.reduceEqDiff,b,c]
         refine step_ret (nu S.ok (t.gr S.gr) d) ?_;intro v h ⟨g,slM,_⟩;replace S:=S.call g;clear g
         simp only [BS,LB,Nat.reduceLT,Nat.reduceEqDiff,F0F,e,slM.lenq]
         refine am (wayTo_ok S.ok (t.gr S.gr) j) ?_;intro h g;replace S:=S.call g;clear g
         simp only [BS,LB,Nat.reduceLT,Nat.reduceEqDiff]
         refine am (wayFr_ok S.ok (t.gr S.gr) k) ?_;intro h g;replace S:=S.call g;clear g
         simp only [BS,LB,ae,Nat.reduceLT,Nat.reduceEqDiff]
         exact S.gr
   . rw [show oe N l.length R Q i v w=0 from if_neg (fun h=>b h.2.1)]
     refine ab (n:=43) (rs:=[.tmp 8]) rfl XX rfl rfl rfl (lbt rfl) ?_
     simp only [BS,LB,Nat.reduceLT,Nat.reduceEqDiff]
     refine am (iw S.ok (t.gr S.gr)) ?_;intro h g;replace S:=S.call g;clear g
     simp only [BS,LB,Nat.reduceLT,Nat.reduceEqDiff,a]
     refine am (iw S.ok (t.gr S.gr)) ?_;intro h g;replace S:=S.call g;clear g
     simp only [BS,LB,ae,Nat.reduceLT,Nat.reduceEqDiff,b]
     exact S.gr
 . rw [show oe N l.length R Q i v w=0 from if_neg (fun h=>a h.1)]
   refine ab (n:=43) (rs:=[.tmp 8]) rfl XX rfl rfl rfl (lbt rfl) ?_
   simp only [BS,LB,Nat.reduceLT,Nat.reduceEqDiff]
   refine am (iw S.ok (t.gr S.gr)) ?_;intro h g;replace S:=S.call g;clear g
   simp only [BS,LB,ae,Nat.reduceLT,Nat.reduceEqDiff,a]
   exact S.gr
def oI(N n:Nat)(R Q:Nat->List Int)(v w:Int)(l:List Int):Int:=l.foldl (fun b i=>max b (oe N n R Q i v w)) 0
theorem bBest_ok{h0:Hp}(q:h0.t.Sized h0.n){m N:Nat}{p:Value}{l:List Int}{R Q:Nat->List Int}(t:TabAt h0 m p N l R Q)(r: ∀i,i<l.length->(R i).length=N)(s: ∀i,i<l.length->(Q i).length=N)(u:l.length<1000){e:Value}{a:List Int}(j:ar h0 1 (encI .i64) e a)(x:a.length<1000){v w:Int}:
 aM zL 121 [p,e,.int .i64 v,.int .i64 w] h0 (.int .i64 (oI N l.length R Q v w a)):=by
 have S:=Si q
 refine ab (n:=26) (rs:=[.tmp 8]) rfl Tryz.e121 rfl rfl rfl (lbt rfl) ?_
 simp only [BS,LB,Nat.reduceLT,Nat.reduceEqDiff,F0G,j.lenq]
 refine aO (fun(k:Nat) b h=>k<=a.length/\Gr h0 h/\b 0=p/\b 2=.int .i64 v/\b 3=.int .i64 w/\b 8=.int .i64 (oI N l.length R Q v w (a.take k))/\b 11=e/\b 12=.int .i64 a.length/\b 13=.int .i64 k) (fun k=>a.length-k) ?_ 0 _ _ ?_
 . clear S
   intro k y b h ⟨hk,g0,r0,r2,r3,r8,r11,r12,r13⟩
   have z:an .i64 ((k:Int)+1)=((k+1:Nat):Int):=by rw [wrap64]<;>omega
   by_cases hlt:k<a.length
   . obtain⟨c,o,d,f⟩:=(j.gr g0).ix (kd:=.i64) (bO .i64) hlt
     simp only [BS,LB,Nat.reduceLT,Nat.reduceEqDiff,F0G,r0,r2,r3,r8,r11,r12,r13,aB,hlt,d,f,encI]
     refine am (wL g0.ok (t.gr g0) r s u) ?_
     intro h g
     simp only [BS,LB,Nat.reduceLT,Nat.reduceEqDiff,r13,z]
     refine y (k+1) _ _ (by omega) ⟨by omega,g0.trans g,by simp [aa,r0],by simp [aa,r2],by simp [aa,r3],?_,by simp [aa,r11],by simp [aa,r12],by simp [aa]⟩
     rw [Xu hlt]
     unfold oI
     rw [List.foldl_append]
     simp [aa]
   . simp only [BS,LB,ae,Nat.reduceLT,Nat.reduceEqDiff,r8,r12,r13,aB,hlt]
     rw [XA (by omega)]
     exact⟨rfl,g0⟩
 . exact⟨Xh _,S.gr,by simp [aa,aR],by simp [aa,aR,bU],by simp [aa,aR,bU],by simp [aa,oI],by simp [aa],by simp [aa],by simp [aa]⟩
end Go.Ab
end
section
namespace Go.Ab
theorem Wk.trans{B:List Arc}{a b c x y:Nat}(h:Wk B a b x)(k:Wk B b c y):Wk B a c (x+y):=by
 induction k with
 |nil=>exact h
 | @snoc w e d _ f=>exact Wk.snoc' f d rfl rfl (by omega)
theorem Wk.back{B C:List Arc}(c: ∀a∈B,∃b∈C,b.s=a.t/\b.t=a.s/\b.w=a.w){m v w x y:Nat}(h:Wk B v w x)(k:Wk C m w y):Wk C m v (x+y):=by
 induction h generalizing y with
 |nil=>rw [Xf];exact k
 | @snoc z e d _ f=>
   obtain⟨b,g,i,j,e3⟩:=c e d
   have:=f (Wk.snoc' k g i j rfl)
   rw [e3]at this
   rw [show z+e.w+y=z+(y+e.w) by omega];exact this
theorem IsD.wk{B:List Arc}{s v x w:Nat}(h:IsD B s v x)(k:Wk B s v w):x<FAR/\x<=w/\Wk B s v x:=by
 rcases h with⟨a,b,c⟩|⟨a,b⟩
 . exact⟨a,c w k,b⟩
 . exact absurd k (b w)
theorem IsD.far{B:List Arc}{s v x:Nat}(h:IsD B s v x)(d:x<FAR):Wk B s v x:=by
 rcases h with⟨a,b,c⟩|⟨a,b⟩
 . exact b
 . omega
end Go.Ab

end
section
namespace Go.Ab
open Go.Proofs
set_option maxRecDepth 10000
theorem zW(B:List Arc)(N s:Nat):(rowD B N s).length=N:=by simp [rowD]
end Go.Ab
end
section
namespace Go.Ab
end Go.Ab

end
section
namespace Go.Ab
open Go.Proofs
set_option maxRecDepth 10000
def Tryz.FJ:=aj t1<|aj t2<|aj t3<|aj t4<|aj t5<|aj t6<|aj Z3<|aj Z4<|aj t9<|aj t10<|aj t11<|t34
theorem pos_first{ks:List Int}{x:Int}: ∀{i:Nat} (a:i<ks.length),ks[i]=x->(∀j (c:j<ks.length),j<i->ks[j]≠x)->pos ks x=some i:=by
 induction ks with
 |nil=>intro i a;simp at a
 | cons y k f=>
   intro i a b d
   cases i with
   |zero=>simp only [List.getElem_cons_zero]at b;unfold pos;rw [if_pos b.symm]
   | succ i=>
     have g:y≠x:=d 0 (by simp) (by omega)
     have:=f (i:=i) (by simpa using a) (by simpa using b) (fun j c h=>by have:=d (j+1) (by simpa using c) (by omega);simpa using this)
     unfold pos
     rw [if_neg (fun e=>g e.symm),this]
     rfl
theorem pos_no{ks:List Int}{x:Int}(a: ∀j (b:j<ks.length),ks[j]≠x):pos ks x=none:=by
 induction ks with
 |nil=>rfl
 | cons y f c=>
   have d:y≠x:=a 0 (by simp)
   unfold pos
   rw [if_neg (fun e=>d e.symm),c (fun j b=>by have:=a (j+1) (by simpa using b);simpa using this)]
   rfl
theorem BP {h0:Hp} (ok:h0.t.Sized h0.n) {v:Value} {l:List Int} (L:ar h0 1 (encI .i64) v l) (hl:l.length<1000):
 Ret zL 18 [v] h0 fun r A=>Gr h0 A/\ar A 1 (encI .i64) r (norm [] l)/\ ∀c,aq r c->h0.n<=c:=by
 have S:=Si ok
 have fv:=L.fl
 refine ab (n:=46) (rs:=[.tmp 2]) rfl Tryz.e18 rfl rfl rfl (lbt rfl) ?_
 simp only [BS]
 replace S:=(S.nilG (k:=1)).nilG (k:=1)
 refine aO (fun(i:Nat) g h=>i<=l.length/\ ∃(M D:Value) (p ks:List Int),St NoM h0 h [] [(D,1,ints ks),(M,1,ints p)]/\norm [] l=p++norm ks (l.drop i)/\p.length=i/\ks.length<=i/\g 0=v/\g 3=M/\g 4=D/\g 5=.int .i64 i) (fun i=>l.length-i) ?_ 0 _ _ ?_
 . clear S
   intro i X g h ⟨hi,M,D,p,ks,S,hnm,lo,lk,s,B,C,t⟩
   have w:an .i64 ((i:Int)+1)=((i+1:Nat):Int):=by rw [wrap64]<;>omega
   by_cases hlt:i<l.length
   . have Y:l.drop i=l[i]::l.drop (i+1):=XN hlt
     obtain⟨c0,o0,Q,Z⟩:=L.ix (kd:=.i64) (bO .i64) hlt
     generalize l[i]=x at Y Z
     simp only [BS,LB,Nat.reduceLT,Nat.reduceEqDiff,FJ,s,t,L.lenq,aB,hlt]
     refine aO (fun(a:Nat) g A=>A=h/\a<=ks.length/\(∀j (G:j<ks.length),j<a->ks[j]≠x)/\g 0=v/\g 3=M/\g 4=D/\g 5=.int .i64 i/\g 6=.int .i64 a) (fun a=>ks.length-a) ?_ 0 _ _ ?_
     . clear s B C t
       rintro a R g A ⟨rfl,ha,T,s,B,C,t,N⟩
       have wa:an .i64 ((a:Int)+1)=((a+1:Nat):Int):=by rw [wrap64]<;>omega
       have O:ar A 1 (encI .i64) D ks:=(S.gown _ m0).1.sl rfl (fun _=>rfl) (by decide)
       have E:A.load c0 o0 1=some [.int .i64 x]:=S.gr.load Z
       have H: ∀(q:Nat) (z:List Int) (u d:Value) (U:Nat->Value) (F:Hp),q=nw ks x->z=nj ks x->St NoM h0 F [] [(u,1,ints z),(d,1,ints (p++[(q:Int)]))]->norm [] l=(p++[(q:Int)])++norm z (l.drop (i+1)):=fun q z u d U F e1 e2 _=>by
        rw [hnm,Y,norm,<-e1,<-e2,List.append_assoc];rfl
       by_cases y:a<ks.length
       . obtain⟨c1,o1,x1,I⟩:=O.ix (kd:=.i64) (bO .i64) y
         replace I:A.load c1 o1 1=some [.int .i64 ks[a]]:=I
         by_cases P:ks[a]=x
         . simp only [BS]
           refine au (aC rfl) (q:=0) (ps:=[]) (by kernel_rfl) ?_
           have V: ¬(a:Int)=(ks.length:Int):=by omega
           rw [P]at I
           simp only [BS,LB,cls,ae,Nat.reduceLT,Nat.reduceEqDiff,Nat.reduceAdd,Nat.reducePow,Nat.reduceDiv,Nat.reduceMod,Nat.reduceLeDiff,FJ,s,B,C,t,N,O.lenq,aB,y,x1,I,Q,E,V]
           refine ag (bR (by exact Tryz.t34.1) (by exact Xt) (by decide) (by rfl)) S ?_;clear S;intro h J S K;simp only [LC,aV,bK,ah,Nat.reduceMul,Nat.reduceAdd,Xi,Xf,Xn,Xo]at S
           simp only [BS,LB,Nat.reduceLT,Nat.reduceEqDiff]
           have ps:=pos_first y P T
           have f:aJ h 1 (.slice (some ⟨J,0,none⟩) 1 1)=some (1,ints [(a:Int)]):=by simp only [aJ];rw [S.lds (b:=J) (o:=0) (n:=1*1) m0 (lbt rfl)];rfl
           replace S:=S.drop1
           refine dM (S.grow (j:=1) (m:=1) (new:=ints [(a:Int)]) rfl Tryz.t34.1 Xt (by decide) Tryz.t34.2.2.2.2.2 f rfl (by decide) rfl (by rw [cu,cu];simp;omega)) ?_
           clear S f;rintro F d S
           simp only [LC]at S
           rw [<-ib]at S
           simp only [BS,LB,Nat.reduceLT,Nat.reduceEqDiff,t,w]
           refine X (i+1) _ _ (by omega) ⟨by omega,d,D,_,ks,S,H a ks D d g F (by unfold nw;rw [ps]) (by unfold nj;rw [ps]) S,by simp [lo],by omega,by simp [aa,s],by simp [aa],by simp [aa,C],by simp [aa]⟩
         . simp only [BS]
           refine au (aC rfl) (q:=0) (ps:=[]) (by kernel_rfl) ?_
           simp only [BS,LB,cls,Nat.reduceLT,Nat.reduceEqDiff,Nat.reduceAdd,Nat.reducePow,Nat.reduceDiv,Nat.reduceMod,Nat.reduceLeDiff,FJ,s,C,t,N,O.lenq,aB,y,x1,I,Q,E,P,wa]
           refine R (a+1) _ _ (by omega) ⟨rfl,by omega,fun j G af=>?_,by simp [aa,s],by simp [aa,B],by simp [aa,C],by simp [aa,t],by simp [aa]⟩
           by_cases e:j=a
           . subst e;exact P
           . exact T j G (by omega)
       . have ea:a=ks.length:=by omega
         subst ea
         have ps:=pos_no (ks:=ks) (x:=x) (fun j G=>T j G G)
         simp only [BS]
         refine au (aC rfl) (q:=0) (ps:=[]) (by kernel_rfl) ?_
         simp only [BS,LB,cls,ae,Nat.reduceLT,Nat.reduceEqDiff,Nat.reduceAdd,Nat.reducePow,Nat.reduceDiv,Nat.reduceMod,Nat.reduceLeDiff,FJ,s,B,C,t,N,O.lenq,aB,y,Q,E]
         refine ag (bR (by exact Tryz.t34.1) (by exact Xt) (by decide) (by rfl)) S ?_;clear S;intro h J S K;simp only [LC,aV,bK,ah,Nat.reduceMul,Nat.reduceAdd,Xi,Xf,Xn,Xo]at S
         simp only [BS,LB,Nat.reduceLT,Nat.reduceEqDiff]
         have f:aJ h 1 (.slice (some ⟨J,0,none⟩) 1 1)=some (1,ints [x]):=by simp only [aJ];rw [S.lds (b:=J) (o:=0) (n:=1*1) m0 (lbt rfl)];rfl
         replace S:=S.drop1
         refine dM (S.grow (j:=0) (m:=1) (new:=ints [x]) rfl Tryz.t34.1 Xt (by decide) Tryz.t34.2.2.2.2.2 f rfl (by decide) rfl (by rw [cu,cu];simp;omega)) ?_
         clear S f;rintro F u S
         simp only [LC]at S
         rw [<-ib]at S
         simp only [BS,LB,Nat.reduceLT,Nat.reduceEqDiff,B,N]
         refine ag (bR (by exact Tryz.t34.1) (by exact Xt) (by decide) (by rfl)) S ?_;clear S;intro h bu S ad;simp only [LC,aV,bK,ah,Nat.reduceMul,Nat.reduceAdd,Xi,Xf,Xn,Xo]at S
         simp only [BS,LB,Nat.reduceLT,Nat.reduceEqDiff]
         have f:aJ h 1 (.slice (some ⟨bu,0,none⟩) 1 1)=some (1,ints [((ks.length:Nat):Int)]):=by simp only [aJ];rw [S.lds (b:=bu) (o:=0) (n:=1*1) m0 (lbt rfl)];rfl
         replace S:=S.drop1
         refine dM (S.grow (j:=1) (m:=1) (new:=ints [((ks.length:Nat):Int)]) rfl Tryz.t34.1 Xt (by decide) Tryz.t34.2.2.2.2.2 f rfl (by decide) rfl (by rw [cu,cu];simp;omega)) ?_
         clear S f;rintro F d S
         simp only [LC]at S
         rw [<-ib]at S
         simp only [BS,LB,Nat.reduceLT,Nat.reduceEqDiff,t,w]
         refine X (i+1) _ _ (by omega) ⟨by omega,d,u,_,_,S,H ks.length _ u d g F (by unfold nw;rw [ps]) (by unfold nj;rw [ps]) S,by simp [lo],by simp;omega,by simp [aa,s],by simp [aa],by simp [aa],by simp [aa]⟩
     . exact⟨rfl,Xh _,fun j G h=>absurd h (by omega),by simp [aa,s],by simp [aa,B],by simp [aa,C],by simp [aa,t],by simp [aa]⟩
   . have W:i=l.length:=by omega
     simp only [BS,LB,ae,Nat.reduceLT,Nat.reduceEqDiff,FJ,s,B,t,L.lenq,aB,hlt]
     rw [W,List.drop_length,norm,XT]at hnm
     rw [hnm]
     exact⟨S.gr,(S.gown _ m1).1.sl rfl (fun _=>rfl) (by decide),fun c hc=>((S.gblk m1 hc).1).elim (fun h=>h) (fun h=>h.elim)⟩
 . exact⟨Xh _,_,_,[],[],S,rfl,rfl,Xv _,by simp [aa,bJ],by simp [aa],by simp [aa],by simp [aa]⟩
end Go.Ab
end
section
namespace Go.Ab
theorem rQ{z:Nat}(h:z<256):an .u8 (z:Int)=(z:Int):=by
 show an .u8 (.ofNat z)=_
 unfold an
 simp only [hf,sgn,pw]
 have:Nat.blt z 256=true:=by rw [XW];exact h
 rw [this];rfl
section
variable{E:Env}{t:TypeId}{p q:Operand}{x y i:Nat}
theorem bits8(op:BinOp)(a:x<256)(b:y<256):ky op .u8 (x:Int) (y:Int)=match op with
 | .and=>some (an .u8 ((X4 x y:Nat):Int))
 | .or=>some (an .u8 ((Nat.lor x y:Nat):Int))
 | .xor=>some (an .u8 ((Nat.xor x y:Nat):Int))
 | .andNot=>some (an .u8 ((Nat.xor x (X4 x y):Nat):Int))
 |_=>none:=by
 show ky op .u8 (.ofNat x) (.ofNat y)=_
 have c:Nat.blt x (pw .u8)=true:=by rw [XW];exact a
 have d:Nat.blt y (pw .u8)=true:=by rw [XW];exact b
 unfold ky
 simp only [c,d,Bool.and_self,cond_true]
 cases op<;>rfl
theorem b_and8(a:x<256)(b:y<256):bH E .and t p q (.int .u8 (x:Int)) (.int .u8 (y:Int))=some (.int .u8 ((x&&& y:Nat):Int)):=by
 show(bif i7 .u8 .u8 then(ky .and .u8 (x:Int) (y:Int)).map (Value.int .u8 ·)else none)=_
 rw [bits8 .and a b]
 simp only []
 rw [show X4 x y=x&&& y from rfl,rQ (Xz XD a)]
 rfl
theorem b_or8(a:x<256)(b:y<256):bH E .or t p q (.int .u8 (x:Int)) (.int .u8 (y:Int))=some (.int .u8 ((x|||y:Nat):Int)):=by
 show(bif i7 .u8 .u8 then(ky .or .u8 (x:Int) (y:Int)).map (Value.int .u8 ·)else none)=_
 rw [bits8 .or a b]
 simp only []
 rw [show Nat.lor x y=x|||y from rfl,rQ (Nat.or_lt_two_pow (n:=8) a b)]
 rfl
theorem xg(a:x<256)(b:y<256):bH E .andNot t p q (.int .u8 (x:Int)) (.int .u8 (y:Int))=some (.int .u8 ((x ^^^(x&&& y):Nat):Int)):=by
 show(bif i7 .u8 .u8 then(ky .andNot .u8 (x:Int) (y:Int)).map (Value.int .u8 ·)else none)=_
 rw [bits8 .andNot a b]
 simp only []
 rw [show Nat.xor x (X4 x y)=x ^^^(x&&& y)from rfl,rQ (XH (n:=8) a (Xz XD a))]
 rfl
theorem b_shl8{k:IntKind}(a:i<8):bH E .shl t p q (.int .u8 1) (.int k (i:Int))=some (.int .u8 ((2 ^i:Nat):Int)):=by
 have:i=0\/i=1\/i=2\/i=3\/i=4\/i=5\/i=6\/i=7:=by omega
 rcases this with rfl|rfl|rfl|rfl|rfl|rfl|rfl|rfl<;>rfl
end
theorem pow8{i:Nat}(h:i<8):2 ^i<256:=Nat.pow_lt_pow_right (by decide) h
theorem and_pow{x i:Nat}:(x&&& 2 ^i=0)↔x.testBit i=false:=by
 constructor
 . intro h
   have:=congrArg (fun z=>z.testBit i) h
   simpa [XU,XF]using this
 . intro h
   refine Nat.eq_of_testBit_eq fun j=>?_
   rw [XU,XF,Nat.zero_testBit]
   by_cases e:i=j
   . subst e;rw [h];rfl
   . simp [e]
def setB(x i:Nat):Nat:=(x ^^^(x&&& 2 ^i))|||2 ^i
theorem setB_at(x i j:Nat):(setB x i).testBit j=if j=i then true else x.testBit j:=by
 unfold setB
 rw [Nat.testBit_or,Nat.testBit_xor,XU,XF]
 by_cases e:j=i
 . subst e;simp
 . have a: ¬i=j:=fun h=>e h.symm
   simp [e,a]
theorem setB_lt{x i:Nat}(a:x<256)(b:i<8):setB x i<256:=
 Nat.or_lt_two_pow (n:=8) (XH (n:=8) a (Xz XD a)) (pow8 b)
end Go.Ab

end
section
namespace Go.Ab
open Go.Proofs
set_option maxRecDepth 10000
def eJ(l:List Nat):List Value:=l.map fun(x:Nat)=>.int .i64 x
theorem sZ(l:List Nat):l.flatMap bM=eJ l:=by
 unfold eJ;rw [Xg,XE,Xg];rfl
theorem mF(l:List Nat):(eJ l).length=l.length:=by simp [eJ]
theorem natM_at{l:List Nat}{i:Nat}(h:i<l.length):(eJ l)[i]? =some (.int .i64 (l.getD i 0:Nat)):=by
 unfold eJ;rw [Xr,Xb h];simp [zO,h]
theorem z7(l:List Nat)(i x:Nat):(eJ l).set i (.int .i64 (x:Nat))=eJ (l.set i x):=by unfold eJ;rw [List.map_set]
def Tryz.F0H:=aj t1<|aj t2<|aj t3<|aj t4<|aj t5<|aj t6<|aj t22<|aj t36<|Z8
def Tryz.F0I:=aj t1<|aj t2<|aj t3<|aj t4<|aj t5<|t100
def ia(n:Nat)(B:Nat->Nat):List Value:=(zM n).map fun j=>.int .u8 (B j:Nat)
theorem um{n:Nat}{B:Nat->Nat}:(ia n B).length=n:=by simp [ia]
theorem sT{n j:Nat}{B:Nat->Nat}(h:j<n):(ia n B)[j]? =some (.int .u8 (B j:Nat)):=ju (F:=fun j=>Value.int .u8 ((B j:Nat):Int)) h
theorem ue{n j x:Nat}{B:Nat->Nat}:(ia n B).set j (.int .u8 (x:Nat))=ia n (cV B j x):=by
 have:=iX (N:=n) (k:=j) (F:=fun j=>Value.int .u8 ((B j:Nat):Int)) (F':=fun u=>Value.int .u8 ((cV B j x u:Nat):Int)) (fun i _ a=>by simp [cV,a])
 unfold ia
 rw [<-this];simp [cV]
structure ey(h:Hp)(bp bb rows wide long:Nat)(B:Nat->Nat):Prop where
 r:Row h bp [.int .i64 rows,.int .i64 wide,.int .i64 long,.slice (some ⟨bb,0,none⟩) (rows*long) (rows*long)] 1
 b:Row h bb (ia (rows*long) B) 1
 lt: ∀j,B j<256
theorem ey.gr{h d:Hp}{e f a b c:Nat}{B:Nat->Nat}(m:ey h e f a b c B)(g:Gr h d):ey d e f a b c B:=⟨m.r.gr g,m.b.gr g,m.lt⟩
theorem ey.bits{h:Hp}{d e a b c:Nat}{B:Nat->Nat}(m:ey h d e a b c B):pH h (ptrTo d) a b true:=.inr ⟨d,_,_,rfl,m.r,rfl⟩
def fj(B:Nat->Nat)(a r i:Nat):Bool:=(B (r*a+i/8)).testBit (i%8)
theorem bitB_set{B:Nat->Nat}{b r i d c:Nat}(g:i/8<b)(j:c/8<b):fj (cV B (r*b+i/8) (setB (B (r*b+i/8)) (i%8))) b d c=if d=r/\c=i then true else fj B b d c:=by
 unfold fj cV
 by_cases e:d*b+c/8=r*b+i/8
 . rw [if_pos e,setB_at]
   have k:d=r:=by
    have a:(d*b+c/8)/b=(r*b+i/8)/b:=by rw [e]
    rw [Nat.mul_comm d,Nat.mul_comm r,Nat.mul_add_div (by omega),Nat.mul_add_div (by omega),Nat.div_eq_of_lt g,Nat.div_eq_of_lt j]at a
    omega
   subst k
   have e8:c/8=i/8:=by omega
   rw [e]
   by_cases f:c%8=i%8
   . rw [if_pos f,if_pos ⟨rfl,by omega⟩]
   . rw [if_neg f,if_neg (fun h=>f (by rw [h.2]))]
 . rw [if_neg e,if_neg (fun h=>e (by rw [h.1,h.2]))]
theorem yR{h0:Hp}(u:h0.t.Sized h0.n){a w:Nat}(v:a<=100)(C:w<=1000):Ret zL 22 [.int .i64 (a:Nat),.int .i64 (w:Nat)] h0 fun r k=>Gr h0 k/\ ∃c d,r=ptrTo c/\h0.n<=c/\h0.n<=d/\c≠d/\ey k c d a w ((w+7)/8) (fun _=>0):=by
 have S:=Si u
 have l: ¬((a:Int)<0):=by omega
 have m: ¬((w:Int)<0):=by omega
 have o: ¬((67108864:Int)<(w:Int)):=by omega
 have p:an .i64 ((w:Int)+8)=(w:Int)+8:=by rw [wrap64]<;>omega
 have q:an .i64 ((w:Int)+8-1)=((w+7:Nat):Int):=by rw [wrap64]<;>omega
 have g:(w+7)/8<=126:=by omega
 have i:an .i64 ((((w+7:Nat):Int)).tdiv 8)=(((w+7)/8:Nat):Int):=by
  rw [XL (by omega),show(((w+7:Nat):Int)/8)=(((w+7)/8:Nat):Int) by omega,wrap64]<;>omega
 generalize D:(w+7)/8=K at g i
 have E:a*K<=100*126:=Nat.mul_le_mul v g
 have s:an .i64 ((a:Int)*(K:Int))=((a*K:Nat):Int):=by rw [<-Int.natCast_mul,wrap64]<;>omega
 have mk: ∀(n:Nat),aV [Value.int .u8 0] n=ia n (fun _=>0):=fun n=>by
  rw [mQ]
  unfold ia
  rw [XS,Xq]
  rfl
 by_cases t:0<(K:Int)
 . have y:(268435456:Int).tdiv (K:Int)=((268435456/K:Nat):Int):=by
    rw [XL (by decide)];rfl
   have F:268435456/126<=268435456/K:=Nat.div_le_div_left g (by omega)
   have G:268435456/K<=268435456:=Nat.div_le_self _ _
   have H:(268435456/126:Nat)=2130440:=rfl
   have z:an .i64 ((268435456:Int).tdiv (K:Int))=(268435456:Int).tdiv (K:Int):=by rw [y,wrap64]<;>omega
   have A: ¬((268435456:Int).tdiv (K:Int)<(a:Int)):=by omega
   have B:(K:Int)≠0:=by omega
   refine ab (n:=37) (rs:=[.tmp 4]) rfl Tryz.e22 rfl rfl rfl (lbt rfl) ?_
   simp only [BS,LB,Nat.reduceLT,Nat.reduceEqDiff,l,m,o,p,q,i,z,s,t,A,kJ (n:=8) (by decide),kJ (n:=(K:Int)) B]
   refine ag (jW (by exact Tryz.t22.1) (by exact Tryz.e5E) (by omega) (by omega)) S ?_;clear S;intro h d S b
   rw [Xj,mk]at S
   simp only [BS,LB,Nat.reduceLT,Nat.reduceEqDiff,Nat.reduceAdd,F0H,Xj]
   refine ag (aZ (by intro x e;cases e)) S ?_;clear S;intro h c S f;simp only [ah]at S
   simp only [BS,LB,ae,Nat.reduceLT,Nat.reduceEqDiff]
   have j:=S.apart
   exact⟨S.gr,c,d,rfl,by have:=S.fr.n;omega,b,fun e=>(by subst e;simp [keys]at j),⟨S.row m0,S.row m1,fun _=>Nat.zero_lt_succ _⟩⟩
 . refine ab (n:=37) (rs:=[.tmp 4]) rfl Tryz.e22 rfl rfl rfl (lbt rfl) ?_
   simp only [BS,LB,Nat.reduceLT,Nat.reduceEqDiff,l,m,o,p,q,i,s,t,kJ (n:=8) (by decide)]
   refine ag (jW (by exact Tryz.t22.1) (by exact Tryz.e5E) (by omega) (by omega)) S ?_;clear S;intro h d S b
   rw [Xj,mk]at S
   simp only [BS,LB,Nat.reduceLT,Nat.reduceEqDiff,Nat.reduceAdd,F0H,Xj]
   refine ag (aZ (by intro x e;cases e)) S ?_;clear S;intro h c S f;simp only [ah]at S
   simp only [BS,LB,ae,Nat.reduceLT,Nat.reduceEqDiff]
   have j:=S.apart
   exact⟨S.gr,c,d,rfl,by have:=S.fr.n;omega,b,fun e=>(by subst e;simp [keys]at j),⟨S.row m0,S.row m1,fun _=>Nat.zero_lt_succ _⟩⟩
theorem set1_ok{h0:Hp}(p:h0.t.Sized h0.n){a d j n i:Nat}{B:Nat->Nat}(R:Row h0 a (ia n B) 1)(c:j<n)(hB:B j<256)(q:i<8)(s:h0.load d 0 1=some [.bool true])(e:d≠a):
 Ret zL 58 [.pointer (some ⟨a,j,none⟩),.int .u8 ((2 ^i:Nat):Int),ptrTo d] h0 fun r k=>Mo (· =a) h0 k/\r=.bool true/\Row k a (ia n (cV B j (setB (B j) i))) 1:=by
 have S:=St.init1 p (o:=.row (ia n B) 1) R
 have l:=S.ld (b:=a) (o:=j) m0 (sT c)
 have m:=pow8 q
 have t:(B j ^^^(B j&&& 2 ^i))<256:=XH (n:=8) hB (Xz XD hB)
 refine ab (n:=19) (rs:=[.tmp 5]) rfl Tryz.e58 rfl rfl rfl (lbt rfl) ?_
 simp only [BS,LB,Nat.reduceLT,Nat.reduceEqDiff,F0I,l,xg hB m]
 refine az (ay S (i:=0) rfl Tryz.t5.2.2.1 aX (by rw [um];exact c) ono) ?_
 clear S l;rintro h ⟨S,v⟩
 simp only [LC]at S
 rw [ue]at S
 have f:=S.ld (b:=a) (o:=j) m0 (sT c)
 have w:cV B j (B j ^^^(B j&&& 2 ^i)) j=(B j ^^^(B j&&& 2 ^i)):=by simp [cV]
 rw [w]at f
 have g:=S.old s e
 simp only [BS,LB,Nat.reduceLT,Nat.reduceEqDiff,F0I,g,f,b_or8 t m]
 refine az (ay S (i:=0) rfl Tryz.t5.2.2.1 aX (by rw [um];exact c) ono) ?_
 clear S f;rintro h ⟨S,v⟩
 simp only [LC]at S
 rw [show(((B j ^^^(B j&&& 2 ^i))|||2 ^i:Nat):Int)=((setB (B j) i:Nat):Int)from rfl,ue]at S
 have x:cV (cV B j (B j ^^^(B j&&& 2 ^i))) j (setB (B j) i)=cV B j (setB (B j) i):=by
  funext u;unfold cV;split<;>rfl
 rw [x]at S
 simp only [BS,LB,ae,Nat.reduceLT,Nat.reduceEqDiff]
 exact⟨S.fr,S.row m0⟩
end Go.Ab
end
section
namespace Go.Ab
open Go.Proofs
set_option maxRecDepth 10000
def Tryz.F1x:=aj t1<|aj t2<|aj t3<|aj t4<|aj t5<|aj t22<|aj t36<|aj t100<|aj t101<|Z8
section
variable{h0:Hp}{bp bb rows wide long:Nat}{B:Nat->Nat}
theorem rD{r i:Nat}(e:r<rows)(g:i<wide)(a:rows<=100)(b:wide<=1000)(c:long=(wide+7)/8):
 an .i64 ((r:Int)*(long:Int))=((r*long:Nat):Int)/\an .i64 ((i:Int).tdiv 8)=((i/8:Nat):Int)/\an .i64 (((r*long:Nat):Int)+((i/8:Nat):Int))=((r*long+i/8:Nat):Int)/\(i:Int).tmod 8=((i%8:Nat):Int)/\r*long+i/8<rows*long/\i/8<long/\i%8<8:=by
 have f:long<=126:=by omega
 have h:r*long<=100*126:=Nat.mul_le_mul (by omega) f
 have d:i/8<long:=by omega
 have j:r*long+long<=rows*long:=by
  rw [<-Nat.succ_mul];exact XB _ e
 refine⟨by rw [<-Int.natCast_mul,wrap64]<;>omega,?_,by rw [wrap64]<;>omega,rfl,by omega,d,by omega⟩
 rw [show(i:Int).tdiv 8=((i/8:Nat):Int)from rfl,wrap64]<;>omega
theorem bSet_ok(x:h0.t.Sized h0.n)(m:ey h0 bp bb rows wide long B)(l:bp≠bb){r i:Nat}(E:r<rows)(F:i<wide)(b:rows<=100)(d:wide<=1000)(e:long=(wide+7)/8):
 Ret zL 23 [ptrTo bp,.int .i64 (r:Nat),.int .i64 (i:Nat),.bool true] h0 fun v p=>Mo (· =bb) h0 p/\v=.bool true/\ey p bp bb rows wide long (cV B (r*long+i/8) (setB (B (r*long+i/8)) (i%8))):=by
 obtain⟨G,H,I,J,y,n6,t⟩:=rD E F b d e
 have K: ∀{h:Hp} {s:Nat},Gr h0 h->h.load s 0 1=some [.bool true]->s≠bb->Ret zL 32 [ptrTo bp,.int .i64 (r:Nat),.int .i64 (i:Nat),.func (.func 58) #[] #[ptrTo s]] h fun v p=>Mo (· =bb) h p/\v=.bool true/\Row p bb (ia (rows*long) (cV B (r*long+i/8) (setB (B (r*long+i/8)) (i%8)))) 1:=by
  intro h s g L N
  have S:=Si g.ok
  have k:=m.gr g
  have O: ¬(r:Int)<0:=by omega
  have P: ¬(rows:Int)<=(r:Int):=by omega
  have Q: ¬(i:Int)<0:=by omega
  have T: ¬(wide:Int)<=(i:Int):=by omega
  have U:=k.r.load1 (o:=2) rfl
  have V:=k.r.load1 (o:=3) rfl
  have W:=k.r.lt g.ok
  refine ab (n:=46) (rs:=[.tmp 8]) rfl Tryz.e32 rfl rfl rfl (lbt rfl) ?_
  simp only [BS,LB,Nat.reduceLT,Nat.reduceEqDiff,O]
  refine am (kD S.ok k.bits) ?_;intro h1 u;replace S:=S.call u
  simp only [BS,LB,Nat.reduceLT,Nat.reduceEqDiff,P,Q]
  refine am (jq S.ok (k.gr u).bits) ?_;intro X z;replace S:=S.call z
  have a:=u.trans z
  have Y:=a.load U
  have Z:=a.load V
  simp only [BS,LB,Nat.reduceLT,Nat.reduceEqDiff,T]
  refine au (aC rfl) (q:=0) (ps:=[]) (by kernel_rfl) ?_
  simp only [BS,LB,cls,Nat.reduceLT,Nat.reduceEqDiff,Nat.reduceAdd,Nat.reducePow,Nat.reduceDiv,Nat.reduceMod,Nat.reduceLeDiff,F1x,Y,Z,G,H,I,J,y,kJ (n:=8) (by decide),kK (n:=8) (by decide),b_shl8 t]
  refine cM (set1_ok S.ok (k.b.gr a) y (k.lt _) t (a.load L) N) ?_
  rintro v h3 ⟨A,rfl,R3⟩
  have vv:leaves X h3 bp=true:=m9 (A.get bp (Xc W a.n) l)
  simp only [BS,LB,cls,ae,Nat.reduceLT,Nat.reduceEqDiff,Nat.reduceAdd,Nat.reducePow,Nat.reduceDiv,Nat.reduceMod,Nat.reduceLeDiff]
  exact⟨(a.fr (M:=(· =bb))).trans A (fun c w=>.inl w),R3⟩
 have S:=Si x
 have zb:=m.b.lt x
 refine ab (n:=14) (rs:=[.tmp 8]) rfl Tryz.e23 rfl rfl rfl (lbt rfl) ?_
 simp only [BS,Nat.reduceLT]
 refine ag (bC (by exact mC)) S ?_;clear S;intro h s S C
 simp only [BS,LB,Nat.reduceLT,Nat.reduceEqDiff]
 have k7:=S.fr.n
 refine step_ret (K S.gr (S.ld m0 rfl) (by omega)) ?_
 rintro v h ⟨f,rfl,R⟩
 simp only [BS,LB,ae,Nat.reduceLT,Nat.reduceEqDiff]
 have D:Mo (· =bb) h0 h:=(S.gr.fr (M:=(· =bb))).trans f (fun c w=>.inl w)
 refine⟨D,D.has (o:=.row _ 1) m.r l,R,fun j=>?_⟩
 unfold cV
 split
 . exact setB_lt (m.lt _) t
 . exact m.lt _
end
theorem iZ{n:Nat}{f:Nat->Bool}:(zM (n+1)).filter f=(zM n).filter f++if f n=true then [n]else []:=by
 rw [List.range_succ,List.filter_append]
 congr 1
 by_cases h:f n=true
 . simp [h]
 . simp [h]
theorem sc{f:Nat->Bool}{i:Nat}(h:f i=true): ∀n,i<n->((zM n).filter f)[((zM i).filter f).length]? =some i:=by
 intro n
 induction n with
 |zero=>intro a;omega
 | succ n b=>
   intro a
   rw [iZ]
   by_cases c:i<n
   . have:=b c
     rw [XO (List.getElem?_eq_some_iff.1 this).1];exact this
   . have:i=n:=by omega
     subst this
     rw [XK (Xv _),if_pos h]
     simp
theorem qE{n:Nat}{f:Nat->Bool}:((zM n).filter f).length<=n:=by
 have:=List.length_filter_le f (zM n)
 rwa [Xq]at this
end Go.Ab

end
section
namespace Go.Ab
open Go.Proofs
set_option maxRecDepth 10000
def Tryz.F0J:=aj t1<|aj t2<|aj t3<|aj t4<|aj t6<|aj Z3<|aj t34<|t132
def IterW(E:Env)(g:FuncId)(post:List Value)(h0:Hp)(D W:Nat->Prop)(xs:List (List Value)):Prop:=
 ∀a J Z,(∀v h,¬Z (.pan v) h)->Yld E a J Z xs->(∀i h F c,J i h F->Mo W h c->J i c F)-> ∀h F,ItS h0 D h F->(∀b,W b->h.get b=h0.get b)->(∀b∈F,¬W b)->J 0 h F->fK E g ([]++[.func (.yield a) #[] #[]]++post) none h (YQ J Z xs.length)
theorem iter_w{E:Env}{g:FuncId}{post:List Value}{h0:Hp}{D:Nat->Prop}{xs:List (List Value)}(H:lS E g [] post h0 D xs):IterW E g post h0 D NoM xs:=fun a J Z b Y _ h F s _ _ c=>H a J Z b Y h F s c
theorem uC(l:List Nat):(l.flatMap bM).length=l.length:=by rw [bZ cZ];omega
theorem rj{h:Hp}{p:GL}(g:fJ h p){c:Nat}(a:aq p.1 c):ez p=some c:=by
 rcases g with⟨e,_⟩|⟨b,n,e,_⟩
 . rw [e]at a;exact a.elim
 . obtain⟨v,k,d⟩:=p
   simp only []at e a
   subst e
   exact congrArg some a
theorem yk{h0:Hp}(Z:h0.t.Sized h0.n){g:FuncId}{post:Array Value}{D W:Nat->Prop}{xs:List Nat}(it:IterW zL g post.toList h0 D W (xs.map fun(x:Nat)=>[.int .i64 x]))(J: ∀b,W b->b<h0.n)(hn:xs.length<100000):
 Ret zL 176 [.slice none 0 0,.func (.func g) #[] post] h0 fun r l=>Mo W h0 l/\fJ l (r,1,xs.flatMap bM)/\ ∀c,aq r c->h0.n<=c:=by
 have S:=Si Z
 refine ab (n:=13) (rs:=[.tmp 4]) rfl Tryz.e176 rfl rfl rfl (lbt rfl) ?_
 simp only [BS,Nat.reduceLT]
 refine ag (bC (by exact cg)) S ?_;clear S;intro h p S u
 simp only [BS,Nat.reduceLT,Nat.reduceEqDiff,if_false]
 replace S:=S.nilG (k:=1)
 have K:=S.gr
 replace S:=S.monoM (M:=W)
 have E:=S.fr
 refine fq S (g:=g) (a:=#[]) (b:=post) (by simp [bQ,aa,aR,bU]) rfl rfl ?_
 intro G v t q ad af N
 obtain⟨X,O,q⟩: ∃X:eu,X=_/\St W h0 G [(t,.loop X),(v,.dfr),(p,.row [.slice none 0 0] 1)] [(.slice none 0 0,1,[])]:=⟨_,rfl,q⟩
 have P: ∀c,h0.n<=c-> ¬W c:=fun c h H=>by have:=J c H;omega
 have hJ:Yld zL t (fun k l F=> ∃(e:Value),St W h0 l [(t,.loop X),(v,.dfr),(p,.row [e] 1)] [(e,1,(xs.take k).flatMap bM)]/\k<=xs.length/\(∀c∈F,h0.n<=c)/\F=keys [(t,.loop X),(v,.dfr),(p,.row [e] 1)] [(e,1,(xs.take k).flatMap bM)]) (fun _ _=>False) (xs.map fun(x:Nat)=>[.int .i64 x]):=by
  refine⟨?_,?_,fun _ _ h=>h.elim,?_⟩
  . rintro i h F ⟨e,S,_,_,rfl⟩;exact⟨S.ok,fun b f=>S.key_lt f⟩
  . rintro i h F l ⟨e,S,a,b,rfl⟩ C;exact⟨e,S.call C,a,b,rfl⟩
  . rintro i x hR F w ⟨e,S,a,b,rfl⟩
    have z:i<xs.length:=by
     have:=(List.getElem?_eq_some_iff.1 w).1
     simpa using this
    rw [Xr,Xb z]at w
    cases w
    have tk:(xs.take (i+1)).flatMap bM=(xs.take i).flatMap bM++[.int .i64 (xs[i]:Nat)]:=by rw [List.take_add_one,Xb z,List.flatMap_append];rfl
    have tl:(xs.take i).length<=i:=by rw [List.length_take];omega
    subst O
    refine fG (S.get m0) (by rw [Tryz.e176];rfl) rfl ?_
    have Q:=S
    replace S:=S.base
    simp only [BS,LB,Nat.reduceLT,Nat.reduceEqDiff]
    refine eH S (i:=0) rfl rfl rfl rfl rfl ?_
    clear S;intro h S
    simp only [LC]at S
    simp only [BS,LB,Nat.reduceLT,Nat.reduceEqDiff,F0J,S.ld (b:=p) (o:=0) m2 rfl]
    refine ag (bR (by exact Tryz.t34.1) (by exact Xt) (by decide) (by rfl)) S ?_;clear S;intro h R S U;simp only [LC,aV,bK,ah,Nat.reduceMul,Nat.reduceAdd,Xi,Xf,Xn,Xo]at S
    simp only [BS,LB,Nat.reduceLT,Nat.reduceEqDiff]
    have A:aJ h 1 (.slice (some ⟨R,0,none⟩) 1 1)=some (1,[.int .i64 (xs[i]:Nat)]):=by simp only [aJ];rw [S.lds (b:=R) (o:=0) (n:=1*1) m0 (lbt rfl)];rfl
    replace S:=S.drop1
    refine dM (S.grow (j:=0) (m:=1) (new:=[.int .i64 (xs[i]:Nat)]) rfl Tryz.t34.1 Xt (by decide) Tryz.t34.2.2.2.2.2 A rfl (by decide) rfl (by rw [uC];simp;omega)) ?_
    clear S A;rintro h B S
    simp only [LC]at S
    have fv:Fl B:=(S.gown _ m0).1.fl
    simp only [BS,LB,Nat.reduceLT,Nat.reduceEqDiff]
    refine az (ay S (i:=2) rfl Tryz.t34.2.2.1 fv (Xd (lbt rfl)) ono) ?_
    clear S;rintro h ⟨S,_⟩
    simp only [LC]at S
    simp only [BS]
    refine dy S (i:=0) rfl ?_
    clear S;intro h S
    simp only [LC]at S
    rw [<-tk]at S
    have I:=Q.rebase S
    refine .inl ⟨rfl,_,⟨B,I,by omega,fun c d=>?_,rfl⟩,S.fr,fun c d=>(S.key_own d).symm⟩
    rcases S.key_own d with V|V
    . have:=Q.fr.n;omega
    . exact b c V
 have s: ∀c∈keys [(t,Ob.loop X),(v,.dfr),(p,.row [.slice none 0 0] 1)] [(.slice none 0 0,1,[])],h0.n<=c:=fun c d=>by
  have n2:=u
  have:=E.n
  simp [keys,ez]at d
  omega
 refine eg (it t _ _ (fun _ _ h=>h) hJ ?_ G _ ?_ ?_ (fun c d=>P c (s c d)) ⟨_,q,Xh _,s,rfl⟩) fun o rc l y=>iq y ?_
 . rintro i h F l ⟨e,S,a,b,rfl⟩ C
   exact⟨e,S.step C (fun c d=>.inl d) (fun c d H=>P c (b c d) H),a,b,rfl⟩
 . have C:Mo W h0 G:=q.fr
   exact⟨q.ok,q.fr.n,fun b f _=>(K.trans N).get b f,fun b f h=>by have:=s b f;omega,fun b f=>q.key_lt f⟩
 . exact fun b f=>(K.trans N).get b (J b f)
 . rintro F ⟨e,T,a,b,rfl⟩
   rw [Xp,List.take_length]at T b
   subst O
   refine⟨_,T.get m0,XC,?_⟩
   replace T:=T.dead
   have S:=T
   show Run _ _ _ _ _ _ _ _
   simp only [BS,LB,Nat.reduceLT,Nat.reduceEqDiff,F0J,S.ld (b:=p) (o:=0) m1 rfl]
   refine dp (eR [v] _ (L:=[(p,_)]) T.base fun h3 Y=>⟨rfl,_,rfl,?_⟩)
   refine⟨(T.fr.trans Y.fr (fun c d=>(T.key_own d).symm):Mo W h0 h3),(Y.gown _ m0).1,fun x w=>?_⟩
   refine b x ?_
   have:ez (e,1,xs.flatMap bM)=some x:=rj (T.gown _ m0).1 w
   exact gp m0 this
theorem tO{h0:Hp}(d:h0.t.Sized h0.n){g:FuncId}{post:Array Value}{D W:Nat->Prop}{xs:List Nat}(e:IterW zL g post.toList h0 D W (xs.map fun(x:Nat)=>[.int .i64 x]))(i: ∀b,W b->b<h0.n)(j:xs.length<100000):
 Ret zL 128 [.func (.func g) #[] post] h0 fun r a=>Mo W h0 a/\fJ a (r,1,xs.flatMap bM)/\ ∀c,aq r c->h0.n<=c:=by
 have S:=Si d
 refine ab (n:=5) (rs:=[.tmp 2]) rfl Tryz.e128 rfl rfl rfl (lbt rfl) ?_
 simp only [BS,LB,Nat.reduceLT,Nat.reduceEqDiff]
 refine step_ret (yk S.ok e i j) ?_
 rintro r h ⟨f,q⟩
 simp only [BS,LB,ae,Nat.reduceLT,Nat.reduceEqDiff]
 exact⟨f,q⟩
def Tryz.F0b:=aj t1<|aj t2<|aj t3<|aj t4<|aj t5<|aj t6<|aj t28<|t213
theorem Bm{h0:Hp}(q:h0.t.Sized h0.n){v:Value}{a b:Int}(c:ar h0 1 (encI .i64) v [a,b]):aM zL 210 [.func (.func 141) #[] #[],v] h0 (.int .i64 (wy (wy (wy a)+wy b))):=by
 have S:=Si q
 have k:=wy_bd a
 have x:=wy_bd b
 have y:=wy_bd (wy a)
 have r:an .i64 1=1:=rfl
 have s:an .i64 2=2:=rfl
 have t:an .i64 (wy a)=wy a:=by rw [wrap64]<;>omega
 have u:wy (wy a)=wy a:=wy_id k.1 k.2
 have w:an .i64 (wy a+wy b)=wy a+wy b:=by rw [wrap64]<;>omega
 refine ab (n:=22) (rs:=[.tmp 4]) rfl Tryz.e210 rfl rfl rfl (lbt rfl) ?_
 simp only [BS,LB,Nat.reduceLT,Nat.reduceEqDiff,Nat.reduceAdd,Xx,F0b,c.lenq]
 rw [ct]
 obtain⟨l,m,d,e⟩:=c.ix (kd:=.i64) (bO .i64) (i:=0) (by simp)
 replace d:mN (some 1) v (.int .i64 0)=some (.pointer (some ⟨l,m,none⟩)):=d
 replace e:h0.load l m 1=some [.int .i64 a]:=e
 simp only [BS,LB,Nat.reduceLT,Nat.reduceEqDiff,Int.reduceLT,F0b,d,e]
 refine am (n9 S.ok) ?_;intro h g;replace S:=S.call g;clear g
 simp only [BS,LB,Nat.reduceLT,Nat.reduceEqDiff,t,Int.zero_add]
 refine am (n9 S.ok) ?_;intro h g;replace S:=S.call g;clear g
 simp only [BS,LB,Nat.reduceLT,Nat.reduceEqDiff,r,u,Int.zero_add]
 rw [ct]
 obtain⟨o,p,f,j⟩:=(c.gr S.gr).ix (kd:=.i64) (bO .i64) (i:=1) (by simp)
 replace f:mN (some 1) v (.int .i64 1)=some (.pointer (some ⟨o,p,none⟩)):=f
 replace j:h.load o p 1=some [.int .i64 b]:=j
 simp only [BS,LB,Nat.reduceLT,Nat.reduceEqDiff,Int.reduceLT,F0b,f,j]
 refine am (n9 S.ok) ?_;intro h g;replace S:=S.call g;clear g
 simp only [BS,LB,Nat.reduceLT,Nat.reduceEqDiff,w]
 refine am (n9 S.ok) ?_;intro h g;replace S:=S.call g;clear g
 simp only [BS,LB,Nat.reduceLT,Nat.reduceEqDiff,Int.reduceAdd,s]
 rw [ct]
 simp only [BS,LB,ae,Nat.reduceLT,Nat.reduceEqDiff,Int.reduceLT]
 exact S.gr
theorem add_ok{h0:Hp}(e:h0.t.Sized h0.n){a b:Int}:aM zL 205 [.int .i64 a,.int .i64 b] h0 (.int .i64 (wy (wy (wy a)+wy b))):=by
 have S:=Si e
 refine ab (n:=9) (rs:=[.tmp 4]) rfl Tryz.e205 rfl rfl rfl (lbt rfl) ?_
 simp only [BS,LB,Nat.reduceLT,Nat.reduceEqDiff]
 refine ag (bR (by exact Tryz.t28.1) (by exact Tryz.e2E) (by decide) (by rfl)) S ?_;clear S;intro h c S d;simp only [LC,aV,bK,ah,Nat.reduceMul,Nat.reduceAdd,Xi,Xf,Xn,Xo]at S
 simp only [BS,LB,Nat.reduceLT,Nat.reduceEqDiff]
 refine am (Bm S.ok (a:=a) (b:=b) (.inr ⟨c,0,none,2,rfl,Xv _,S.lds (b:=c) (o:=0) (n:=2*1) m0 (lbt rfl)⟩)) ?_;intro h g;replace S:=S.call g;clear g
 simp only [BS,LB,ae,Nat.reduceLT,Nat.reduceEqDiff]
 exact S.gr
def Tryz.F1y:=aj t1<|aj t2<|aj t3<|aj t4<|aj t34<|aj t35<|Z6
def Tryz.F0c:=aj t1<|aj t2<|aj t3<|aj t4<|aj Z0<|aj t32<|aj t34<|aj t35<|aj Z6<|aj Z2<|aj t164<|Z1
structure eG(h:Hp)(nb:Nat)(p:Value)(N:Nat)(m:List Int)(c:Nat->Nat):Prop where
 at0:kj h nb p m
 len:m.length=N
 val: ∀v,v<N->m.getD v 0=(c v:Int)
theorem eG.gr{h a:Hp}{b N:Nat}{p:Value}{m:List Int}{c:Nat->Nat}(x:eG h b p N m c)(g:Gr h a):eG a b p N m c:=⟨x.at0.gr g,x.len,x.val⟩
theorem eG.keep{h a:Hp}{d N:Nat}{p:Value}{m:List Int}{c:Nat->Nat}(e:h.t.Sized h.n)(x:eG h d p N m c)(g:dW h a):eG a d p N m c:=by
 obtain⟨b,v,rfl,r,s,f,i⟩:=x.at0
 exact⟨⟨b,v,rfl,g.row e r,s.keep e g,f,i⟩,x.len,x.val⟩
theorem qm{h0:Hp}(e:h0.t.Sized h0.n){f N:Nat}{p:Value}{m:List Int}{c:Nat->Nat}(x:eG h0 f p N m c){v:Nat}(g:v<N):aM zL 10 [p,.int .i64 (v:Nat)] h0 (.int .i64 (c v:Nat)):=by
 have S:=Si e
 obtain⟨b,t,rfl,r,s,_,_⟩:=x.at0
 have h:=r.load1 (o:=0) rfl
 have u:=x.len
 have j: ¬(v:Int)<0:=by omega
 have k: ¬(m.length:Int)<=(v:Int):=by omega
 obtain⟨d,o,l,a⟩:=s.ix (kd:=.i64) (bO .i64) (i:=v) (by omega)
 have q:m[v]'(by omega)=(c v:Int):=by
  rw [<-x.val v g,zO,Xb (by omega)];rfl
 rw [q]at a
 replace a:h0.load d o 1=some [.int .i64 (c v:Nat)]:=a
 refine ab (n:=27) (rs:=[.tmp 4]) rfl Tryz.e10 rfl rfl rfl (lbt rfl) ?_
 simp only [BS,LB,ae,Nat.reduceLT,Nat.reduceEqDiff,F1y,j,h,s.lenq,k,l,a]
 exact S.gr
theorem inside_ok{h0:Hp}(z:h0.t.Sized h0.n){B C q N:Nat}{p:Value}{d:Gra}{m:List Int}{c:Nat->Nat}(j:Good d)(D:aS h0 B (ptrTo q) d)(x:eG h0 C p d.nodes m c){k a:Nat}(l:a<d.arcs.length):
 aM zL 113 [ptrTo q,p,.int .i64 (k:Nat),.int .i64 (a:Nat)] h0 (.bool (decide (c (d.arcs.getD a default).s=k/\c (d.arcs.getD a default).t=k))):=by
 have S:=Si z
 have J:Fl p:=by obtain⟨b,_,rfl,_⟩:=x.at0;exact cq
 have r:d.arcs[a]=d.arcs.getD a default:=by simp [zO,l]
 have E:d.arcs.getD a default∈d.arcs:=by rw [<-r];exact Xe l
 obtain⟨s,t,_⟩:=j.arcs _ E
 refine ab (n:=34) (rs:=[.tmp 8]) rfl Tryz.e113 rfl rfl rfl (lbt rfl) ?_
 simp only [BS,LB,Nat.reduceLT,Nat.reduceEqDiff]
 refine step_ret (iU S.ok D l) ?_
 rintro K h ⟨F,rfl⟩
 replace S:=S.call F
 rw [r]
 generalize d.arcs.getD a default=A at s t
 simp only [BS,LB,Nat.reduceLT,Nat.reduceEqDiff,F0c,cG]
 refine ag aw S ?_;clear S;intro h u S v
 simp only [BS,LB,Nat.reduceLT,Nat.reduceEqDiff]
 refine az (S.store (i:=0) rfl ?_ ?_ rfl rfl ?_ ono) ?_
 . exact(by exact Tryz.t108.2.1)
 . exact(by intro x e;cases e)
 . exact lbt rfl
 clear S;rintro h ⟨S,G⟩;clear G;simp only [LC,ah,lay,Xk,Xl,Nat.reduceAdd]at S
 simp only [BS,LB,Nat.reduceLT,Nat.reduceEqDiff,F0c,S.ld (b:=u) (o:=0) m0 rfl]
 refine am (qm S.ok (x.gr S.gr) s) ?_
 intro L H;replace S:=S.call H
 by_cases w:c A.s=k
 . have f:(c A.s:Int)=(k:Int):=by omega
   simp only [BS,LB,Nat.reduceLT,Nat.reduceEqDiff,F0c,f,S.ld (b:=u) (o:=1) m0 rfl]
   refine am (qm S.ok (x.gr S.gr) t) ?_
   intro M I;replace S:=S.call I
   by_cases y:c A.t=k
   . have g:(c A.t:Int)=(k:Int):=by omega
     simp only [BS,LB,ae,Nat.reduceLT,Nat.reduceEqDiff,g]
     exact⟨by rw [decide_eq_true ⟨w,y⟩],S.gr⟩
   . have g: ¬(c A.t:Int)=(k:Int):=by omega
     simp only [BS,LB,ae,Nat.reduceLT,Nat.reduceEqDiff,g]
     exact⟨by rw [decide_eq_false (fun h=>y h.2)],S.gr⟩
 . have f: ¬(c A.s:Int)=(k:Int):=by omega
   simp only [BS,LB,ae,Nat.reduceLT,Nat.reduceEqDiff,f]
   exact⟨by rw [decide_eq_false (fun h=>w h.1)],S.gr⟩
end Go.Ab
end
section
namespace Go.Ab
open Go.Proofs
set_option maxRecDepth 10000
def Tryz.F0K:=aj t1<|aj t2<|aj t3<|aj t4<|aj t5<|aj t6<|aj Z3<|aj t34<|t137
def Tryz.FX:=aj t1<|aj t2<|aj t3<|aj t4<|aj Z0<|aj t32<|aj t34<|aj t35<|aj Z6<|aj Z2<|aj t164<|Z1
def Tryz.F0d:=aj t1<|aj t3<|aj t4<|aj Z0<|aj t32<|aj t34<|aj t35<|aj Z6<|aj t137<|aj t164<|Z1
theorem pairN{x:Option Tch}:jh none x=true:=by cases x<;>rfl
theorem dW.grk{hq h0 h:Hp}(k:dW hq h0)(n:hq.n<=h0.n)(g:Gr h0 h):dW hq h:=fun b a=>(g.get b (Xc a n)).trans (k b a)
def HoldP(E:Env)(hq:Hp)(g:FuncId)(post:List Value)(N:Nat)(f:Nat->Bool):Prop:= ∀h,h.t.Sized h.n->dW hq h->hq.n<=h.n-> ∀v,v<N->aM E g ([.int .i64 (v:Nat)]++post) h (.bool (f v))
theorem indexI_ok{hq h0:Hp}(a:h0.t.Sized h0.n)(s:dW hq h0)(p:hq.n<=h0.n){v:Value}{xs:List Nat}{N:Nat}{g:FuncId}{post:Array Value}{f:Nat->Bool}(l:ar h0 1 bM v xs)(D:xs.length<=1000)(t: ∀x∈xs,x<N)(hf:HoldP zL hq g post.toList N f):
 Ret zL 144 [v,.func (.func g) #[] post] h0 fun r u=>Gr h0 u/\ ∃z:Int,r=.int .i64 z/\(0<=z↔xs.any f=true):=by
 have S:=Si a
 have E:=l.fl
 refine ab (n:=19) (rs:=[.tmp 4]) rfl Tryz.e144 rfl rfl rfl (lbt rfl) ?_
 simp only [BS,LB,Nat.reduceLT,Nat.reduceEqDiff,F0K,l.lenq]
 refine aO (fun(i:Nat) b h=>i<=xs.length/\Gr h0 h/\(∀j,(k:j<xs.length)->j<i->f xs[j]=false)/\b 0=v/\b 1=.func (.func g) #[] post/\b 7=.int .i64 (xs.length:Nat)/\b 8=.int .i64 i) (fun i=>xs.length-i) ?_ 0 _ _ ?_
 . clear S
   intro i y b h ⟨hi,g1,hno,r0,r1,r7,r8⟩
   have w:an .i64 ((i:Int)+1)=((i+1:Nat):Int):=by rw [wrap64]<;>omega
   by_cases hlt:i<xs.length
   . obtain⟨c,o,A,m⟩:=(l.gr g1).ix (kd:=.i64) cZ hlt
     replace m:h.load c o 1=some [.int .i64 (xs[i]:Nat)]:=m
     simp only [BS,LB,Nat.reduceLT,Nat.reduceEqDiff,F0K,r0,r1,r7,r8,aB,hlt,A,m]
     refine am (hf _ g1.ok (s.grk p g1) (Xa p g1.n) xs[i] (t _ (Xe hlt))) ?_
     intro F q
     cases d:f xs[i]with
     | true=>
       simp only [BS,LB,ae,Nat.reduceLT,Nat.reduceEqDiff]
       refine⟨g1.trans q,_,rfl,⟨fun _=>List.any_eq_true.2 ⟨_,Xe hlt,d⟩,fun _=>by omega⟩⟩
     | false=>
       simp only [BS,LB,Nat.reduceLT,Nat.reduceEqDiff,r8,w]
       refine y (i+1) _ _ (by omega) ⟨by omega,g1.trans q,fun j k B=>?_,by simp [aa,r0],by simp [aa,r1],by simp [aa,r7],by simp [aa]⟩
       by_cases e:j=i
       . subst e;exact d
       . exact hno j k (by omega)
   . simp only [BS,LB,ae,Nat.reduceLT,Nat.reduceEqDiff,r7,r8,aB,hlt]
     refine⟨g1,_,rfl,⟨fun h=>by omega,fun h=>?_⟩⟩
     obtain⟨x,C,d⟩:=List.any_eq_true.1 h
     obtain⟨j,k,e⟩:=List.getElem_of_mem C
     rw [<-e,hno j k (by omega)]at d
     cases d
 . exact⟨Xh _,Gr.refl a,fun j _ h=>by omega,by simp [aa,bJ],by simp [aa,bJ],by simp [aa],by simp [aa]⟩
theorem yv{hq h0:Hp}(a:h0.t.Sized h0.n)(j:dW hq h0)(k:hq.n<=h0.n){v:Value}{xs:List Nat}{N:Nat}{g:FuncId}{post:Array Value}{f:Nat->Bool}(d:ar h0 1 bM v xs)(l:xs.length<=1000)(m: ∀x∈xs,x<N)(hf:HoldP zL hq g post.toList N f):
 aM zL 91 [v,.func (.func g) #[] post] h0 (.bool (xs.any f)):=by
 have S:=Si a
 have o:=d.fl
 refine ab (n:=9) (rs:=[.tmp 4]) rfl Tryz.e91 rfl rfl rfl (lbt rfl) ?_
 simp only [BS,LB,Nat.reduceLT,Nat.reduceEqDiff]
 refine step_ret (indexI_ok a j k d l m hf) ?_
 rintro r h ⟨e,z,rfl,i⟩
 cases b:xs.any f with
 | true=>
   have c:=i.2 b
   simp only [BS,LB,ae,Nat.reduceLT,Nat.reduceEqDiff,c]
   exact e
 | false=>
   have c: ¬0<=z:=fun h=>by rw [i.1 h]at b;cases b
   simp only [BS,LB,ae,Nat.reduceLT,Nat.reduceEqDiff,c]
   exact e
section
variable{hq:Hp}{γ:Gra}{nb mb bp k:Nat}{p:Value}{m:List Int}{c:Nat->Nat}
def beyB(γ:Gra)(c:Nat->Nat)(k a:Nat):Bool:=!decide (c (γ.arcs.getD a default).s=k)
theorem beyond_ok(f:hq.t.Sized hq.n)(u:Good γ)(J:aS hq nb (ptrTo bp) γ)(x:eG hq mb p γ.nodes m c){b1 w y:Nat}(K:hq.load b1 0 1=some [ptrTo bp])(z:hq.load w 0 1=some [p])(B:hq.load y 0 1=some [.int .i64 (k:Nat)]):
 HoldP zL hq 164 [ptrTo b1,ptrTo w,ptrTo y] γ.arcs.length (beyB γ c k):=by
 intro h L g M a v
 have S:=Si L
 have C:γ.arcs[a]=γ.arcs.getD a default:=by simp [zO,v]
 have N:γ.arcs.getD a default∈γ.arcs:=by rw [<-C];exact Xe v
 obtain⟨D,O,_⟩:=u.arcs _ N
 refine ab (n:=24) (rs:=[.tmp 5]) rfl Tryz.e164 rfl rfl rfl (lbt rfl) ?_
 simp only [BS,LB,Nat.reduceLT,Nat.reduceEqDiff,FX,g.load f K]
 refine step_ret (iU S.ok (J.keep f g) v) ?_
 rintro T U ⟨P,rfl⟩
 replace S:=S.call P
 unfold beyB
 rw [C]
 generalize γ.arcs.getD a default=A at D O
 simp only [BS,LB,Nat.reduceLT,Nat.reduceEqDiff,FX,cG]
 refine ag aw S ?_;clear S;intro h E S F
 simp only [BS,LB,Nat.reduceLT,Nat.reduceEqDiff]
 refine az (S.store (i:=0) rfl ?_ ?_ rfl rfl ?_ ono) ?_
 . exact(by exact Tryz.t108.2.1)
 . exact(by intro x e;cases e)
 . exact lbt rfl
 clear S;rintro h ⟨S,Q⟩;clear Q;simp only [LC,ah,lay,Xk,Xl,Nat.reduceAdd]at S
 have l:=g.grk M S.gr
 obtain⟨b,V,rfl,r,s,_,_⟩:=(x.keep f l).at0
 have G:=r.load1 (o:=0) rfl
 have W:=x.len
 obtain⟨d,o,H,t⟩:=s.ix (kd:=.i64) (bO .i64) (i:=A.s) (by omega)
 have R:m[A.s]'(by omega)=(c A.s:Int):=by
  rw [<-x.val A.s D,zO,Xb (by omega)];rfl
 rw [R]at t
 simp only [encI]at t
 simp only [BS,LB,Nat.reduceLT,Nat.reduceEqDiff]
 refine au (aC rfl) (q:=0) (ps:=[]) (by kernel_rfl) ?_
 by_cases I:c A.s=k
 . have j:(c A.s:Int)=(k:Int):=by omega
   simp only [BS,LB,cls,ae,Nat.reduceLT,Nat.reduceEqDiff,Nat.reduceAdd,Nat.reducePow,Nat.reduceDiv,Nat.reduceMod,Nat.reduceLeDiff,FX,l.load f z,l.load f B,G,H,t,j,S.ld (b:=E) (o:=0) m0 rfl]
   exact⟨by rw [decide_eq_true I];rfl,S.gr⟩
 . have j: ¬(c A.s:Int)=(k:Int):=by omega
   simp only [BS,LB,cls,ae,Nat.reduceLT,Nat.reduceEqDiff,Nat.reduceAdd,Nat.reducePow,Nat.reduceDiv,Nat.reduceMod,Nat.reduceLeDiff,FX,l.load f z,l.load f B,G,H,t,j,S.ld (b:=E) (o:=0) m0 rfl]
   exact⟨by rw [decide_eq_false I];rfl,S.gr⟩
def borB(γ:Gra)(c:Nat->Nat)(k v:Nat):Bool:=decide (c v=k)&&(outs γ.arcs Arc.t γ.arcs.length v).any (beyB γ c k)
theorem Bz(f:hq.t.Sized hq.n)(j:Good γ)(C:aS hq nb (ptrTo bp) γ)(x:eG hq mb p γ.nodes m c){b1 y z b4:Nat}(D:hq.load b1 0 1=some [p])(E:hq.load y 0 1=some [.int .i64 (k:Nat)])(F:hq.load z 0 1=some [ptrTo bp])(l4:hq.load b4 0 1=some [.func (.func 164) #[] #[ptrTo z,ptrTo b1,ptrTo y]]):
 HoldP zL hq 166 [ptrTo b1,ptrTo y,ptrTo z,ptrTo b4] γ.nodes (borB γ c k):=by
 intro h l g G v H
 have S:=Si l
 obtain⟨b,vm,rfl,r,s,_,_⟩:=(x.keep f g).at0
 have I:=r.load1 (o:=0) rfl
 have hl:=x.len
 obtain⟨d,o,J,w⟩:=s.ix (kd:=.i64) (bO .i64) (i:=v) (by omega)
 have ev:m[v]'(by omega)=(c v:Int):=by
  rw [<-x.val v H,zO,Xb (by omega)];rfl
 rw [ev]at w
 replace w:h.load d o 1=some [.int .i64 (c v:Nat)]:=w
 have A:=g.load f D
 have B:=g.load f E
 have K:=g.load f F
 have L:=g.load f l4
 have M:=a8 l A
 have N:=a8 l B
 have O:=a8 l K
 have P:=a8 l L
 have Q:=r.lt l
 have R:=a8 l w
 unfold borB
 by_cases T:c v=k
 . have t:(c v:Int)=(k:Int):=by omega
   refine ab (n:=23) (rs:=[.tmp 6]) rfl Tryz.e166 rfl rfl rfl (lbt rfl) ?_
   simp only [BS,LB]
   refine au (aC rfl) (q:=0) (ps:=[(12,13)]) (by kernel_rfl) ?_
   simp only [BS,LB,cls,Nat.reduceLT,Nat.reduceEqDiff,Nat.reduceAdd,Nat.reducePow,Nat.reduceDiv,Nat.reduceMod,Nat.reduceLeDiff,F0d,A,B,K,I,J,w,t]
   refine cM (zJ S.ok (C.keep f g) (by have:=j.many;omega) H) ?_
   rintro vl h2 ⟨e,sl,_⟩
   have U:=av e M
   have V:=av e N
   have W:=av e O
   have X:=av e P
   have Y:=av e Q
   have Z:=av e R
   replace S:=S.call e
   simp only [BS,LB,cls,Nat.reduceLT,Nat.reduceEqDiff,Nat.reduceAdd,Nat.reducePow,Nat.reduceDiv,Nat.reduceMod,Nat.reduceLeDiff,F0d,e.load L]
   refine cy (yv S.ok (g.grk G e) (Xa G e.n) sl (by have:=j.many;have:=kT γ.arcs Arc.t γ.arcs.length v;omega) (fun a ha=>(gQ.1 ha).1) (post:=#[ptrTo z,ptrTo b1,ptrTo y]) (beyond_ok f j C x F D E)) ?_
   intro h3 u
   have w1:=av u (Xc M e.n)
   have w2:=av u (Xc N e.n)
   have w3:=av u (Xc O e.n)
   have w4:=av u (Xc P e.n)
   have wb:=av u (Xc Q e.n)
   have wd:=av u (Xc R e.n)
   replace S:=S.call u
   simp only [BS,LB,cls,ae,Nat.reduceLT,Nat.reduceEqDiff,Nat.reduceAdd,Nat.reducePow,Nat.reduceDiv,Nat.reduceMod,Nat.reduceLeDiff]
   refine⟨by simp only [bg,bF,aW,bI,a9,ne_eq,not_false_eq_true,bN,ce,bA,bn,bQ,c8,aK,Nat.reduceLT,Nat.reduceEqDiff,reduceIte,Xm,ac,aR,bU,aN U,aN V,aN W,aN X,aN Y,aN Z,aI U,aI V,aI W,aI X,aI Y,aI Z,aN w1,aN w2,aN w3,aN w4,aN wb,aN wd,aI w1,aI w2,aI w3,aI w4,aI wb,aI wd],?_⟩
   exact⟨by rw [decide_eq_true T,XZ],S.gr⟩
 . have t: ¬(c v:Int)=(k:Int):=by omega
   refine ab (n:=23) (rs:=[.tmp 6]) rfl Tryz.e166 rfl rfl rfl (lbt rfl) ?_
   simp only [BS,LB]
   refine au (aC rfl) (q:=0) (ps:=[(12,13)]) (by kernel_rfl) ?_
   simp only [BS,LB,cls,ae,Nat.reduceLT,Nat.reduceEqDiff,Nat.reduceAdd,Nat.reducePow,Nat.reduceDiv,Nat.reduceMod,Nat.reduceLeDiff,F0d,A,B,I,J,w,t]
   refine⟨by simp only [bg,bF,aW,bI,a9,ne_eq,not_false_eq_true,bN,ce,bA,bn,bQ,c8,aK,Nat.reduceLT,Nat.reduceEqDiff,reduceIte,Xm,ac,aR,bU,rY,pairN],?_⟩
   exact⟨by rw [decide_eq_false T,Bool.false_and],S.gr⟩
end
end Go.Ab

end
section
namespace Go.Ab
open Go.Proofs
set_option maxRecDepth 10000
def Tryz.F0L:=aj t1<|aj t2<|aj t3<|aj t4<|aj t5<|aj t34<|aj t35<|aj Z6<|t137
def Tryz.F0e:=aj t1<|aj t2<|aj t3<|aj t4<|aj Z0<|aj t32<|aj t34<|aj t35<|aj Z6<|aj t132<|aj t137<|aj t164<|Z1
def Tryz.F1z:=aj t1<|aj t3<|aj t4<|aj Z0<|aj t32<|aj t164<|Z1
def Tryz.FK:=aj t1<|aj t2<|aj t3<|aj t4<|aj t28<|aj Z0<|aj t32<|aj t34<|aj Z2<|aj t164<|aj Z1<|Z16
def Tryz.F0M:=aj t1<|aj t2<|aj t3<|aj t28<|aj Z0<|aj t32<|aj t34<|aj t137<|aj t164<|aj Z1<|Z16
theorem cnodes_ok{h0:Hp}(f:h0.t.Sized h0.n){p d:Value}(g:Fl p)(i:Fl d):Ret zL 165 [p,d] h0 fun v e=>Gr h0 e/\ ∃b1 a,v=.func (.func 191) #[] #[ptrTo b1,ptrTo a]/\h0.n<=b1/\h0.n<=a/\e.load b1 0 1=some [p]/\e.load a 0 1=some [d]:=by
 have S:=Si f
 refine ab (n:=6) (rs:=[.tmp 4]) rfl Tryz.e165 rfl rfl rfl (lbt rfl) ?_
 simp only [BS,Nat.reduceLT]
 refine ag (bC (by assumption)) S ?_;clear S;intro h b1 S b
 simp only [BS,Nat.reduceLT,Nat.reduceEqDiff,if_false]
 refine ag (bC (by assumption)) S ?_;clear S;intro h a S c
 simp only [BS,LB,ae,Nat.reduceLT,Nat.reduceEqDiff]
 exact⟨S.gr,b1,a,rfl,b,c,S.ld m1 rfl,S.ld m0 rfl⟩
theorem cnodes_it {hq h0:Hp} (q:hq.t.Sized hq.n) (j:h0.t.Sized h0.n) (C:dW hq h0) (t:hq.n<=h0.n) {I N:Nat} {p:Value} {m:List Int} {c:Nat->Nat} (x:eG hq I p N m c) (T:N<=1000) {b1 k:Nat} {g:FuncId} {post:Array Value} {f:Nat->Bool} (hf:HoldP zL hq g post.toList N f)
 (K:h0.load b1 0 1=some [p]) (L:h0.load k 0 1=some [.func (.func g) #[] post]):
 lS zL 191 [] [ptrTo b1,ptrTo k] h0 (fun c=>c=b1\/c=k\/c<hq.n) (((zM N).filter f).map fun(v:Nat)=>[.int .i64 (v:Nat)]):=by
 intro M J Z O Y h F s d
 have D:=s.load j K (.inl rfl)
 obtain⟨b,U,rfl,r,E,_,_⟩:=(x.keep q (s.keep C t (fun c u=>.inr (.inr u)))).at0
 have G:=r.load1 (o:=0) rfl
 have V:=x.len
 have y:(m.length:Int)=(N:Int):=by omega
 refine enter (n:=25) (rs:=[]) rfl Tryz.e191 rfl rfl rfl (lbt rfl) ?_
 simp only [BS,LB,Nat.reduceLT,Nat.reduceEqDiff,F0L,D,G,E.lenq,y]
 refine aO (fun(i:Nat) e h=>i<=N/\ ∃F,ItS h0 (fun c=>c=b1\/c=k\/c<hq.n) h F/\J ((zM i).filter f).length h F/\e 0=.func (.yield M) #[] #[]/\e 1=ptrTo b1/\e 2=ptrTo k/\e 11=.int .i64 (N:Nat)/\e 12=.int .i64 i) (fun i=>N-i) ?_ 0 _ _ ?_
 . clear D s d F r E G h
   intro i H e h ⟨hi,F,s,d,r0,r1,r2,r11,r12⟩
   have w:an .i64 ((i:Int)+1)=((i+1:Nat):Int):=by rw [wrap64]<;>omega
   by_cases hlt:i<N
   . have P:=s.load j L (.inr (.inl rfl))
     simp only [BS,LB,Nat.reduceLT,Nat.reduceEqDiff,F0L,r2,r11,r12,aB,hlt,P]
     refine am (hf _ s.ok (s.keep C t (fun c u=>.inr (.inr u))) (Xa t s.n) i hlt) ?_
     intro W l
     cases z:f i with
     | true=>
       have Q:(((zM N).filter f).map fun(v:Nat)=>[Value.int .i64 (v:Nat)])[((zM i).filter f).length]? =some [.int .i64 (i:Nat)]:=by
        rw [Xr,sc z _ hlt];rfl
       have A:((zM (i+1)).filter f).length=((zM i).filter f).length+1:=by rw [iZ,if_pos z];simp
       simp only [BS,LB,Nat.reduceLT,Nat.reduceEqDiff,r0]
       refine cI Y (s.gr l) (Y.gr _ _ _ _ d l) (i:=((zM i).filter f).length) Q ?_ ?_ ?_
       . intro B R a S _ _
         simp only [BS,LB,Nat.reduceLT,Nat.reduceEqDiff,r12,w]
         exact H (i+1) _ _ (by omega) ⟨by omega,R,S,by rw [A];exact a,by simp [aa,r0],by simp [aa,r1,ac],by simp [aa,r2,ac],by simp [aa,r11],by simp [aa]⟩
       . intro B a _
         simp only [BS,LB,Nat.reduceLT,Nat.reduceEqDiff]
         exact fi rfl ⟨rfl,.inr (.inl ⟨_,rfl,a⟩)⟩
       . intro v B a
         exact absurd a (O v B)
     | false=>
       have A:(zM (i+1)).filter f=(zM i).filter f:=by rw [iZ,if_neg (by rw [z];decide)];simp
       simp only [BS,LB,Nat.reduceLT,Nat.reduceEqDiff,r12,w]
       exact H (i+1) _ _ (by omega) ⟨by omega,F,s.gr l,by rw [A];exact Y.gr _ _ _ _ d l,by simp [aa,r0],by simp [aa,r1,ac],by simp [aa,r2,ac],by simp [aa,r11],by simp [aa]⟩
   . simp only [BS,LB,Nat.reduceLT,r11,r12,aB,hlt]
     have:i=N:=by omega
     subst this
     exact bS (cJ ⟨rfl,_,rfl,rfl,.inl ⟨_,F,rfl,by simpa using d⟩⟩)
 . exact⟨Xh _,F,s,d,by simp [aa,bJ],by simp [aa,bJ,ac],by simp [aa,bJ,ac],by simp [aa],by simp [aa]⟩
theorem border_ok{h0:Hp}(z:h0.t.Sized h0.n){a:Gra}{T U E k:Nat}{p:Value}{m:List Int}{c:Nat->Nat}(j:Good a)(F:aS h0 T (ptrTo E) a)(x:eG h0 U p a.nodes m c):
 Ret zL 114 [p,ptrTo E,.int .i64 (k:Nat)] h0 fun r G=>Gr h0 G/\ar G 1 bM r ((zM a.nodes).filter (borB a c k))/\ ∀c,aq r c->h0.n<=c:=by
 have S:=Si z
 have fp:Fl p:=by obtain⟨b,_,rfl,_⟩:=x.at0;exact cq
 obtain⟨bc,V,rfl,r,s,_,_⟩:=x.at0
 have W:=r.load1 (o:=0) rfl
 have X:=x.len
 have Y:=j.n1
 have n2:=j.n2
 have A:(m.length:Int)=(a.nodes:Int):=by omega
 obtain⟨H,ov,sv,cv,Z⟩: ∃d o s c,V=.slice (some ⟨d,o,s⟩) m.length c:=by
  rcases s with⟨_,e⟩|⟨d,o,s,c,e,_⟩
  . subst e;simp at X;omega
  . exact⟨d,o,s,c,e⟩
 subst Z
 have B:H<h0.n:=s.lt z (b:=H) rfl
 refine ab (n:=29) (rs:=[.tmp 6]) rfl Tryz.e114 rfl rfl rfl (lbt rfl) ?_
 simp only [BS,Nat.reduceLT]
 refine ag (bC (by exact cq)) S ?_;clear S;intro h l S I
 simp only [BS,Nat.reduceLT,Nat.reduceEqDiff,if_false]
 refine ag (bC (by exact cq)) S ?_;clear S;intro h u S J
 simp only [BS,Nat.reduceLT,Nat.reduceEqDiff,if_false]
 refine ag (bC (by exact aX)) S ?_;clear S;intro h K S L
 have z3:=(S.row (b:=l) m2).lt S.ok
 have z4:=(S.row (b:=u) m1).lt S.ok
 have zc:=Xc (r.lt z) S.gr.n
 have zd:=Xc B S.gr.n
 have C:=S.gr.load W
 have s':=s.gr S.gr
 simp only [BS]
 refine au (aC rfl) (q:=0) (ps:=[(8,13),(8,12),(8,9)]) (by kernel_rfl) ?_
 simp only [BS,LB,cls,Nat.reduceLT,Nat.reduceEqDiff,Nat.reduceAdd,Nat.reducePow,Nat.reduceDiv,Nat.reduceMod,Nat.reduceLeDiff,F0e,S.ld (b:=l) (o:=0) m2 rfl,S.ld (b:=u) (o:=0) m1 rfl]
 refine cy (ca S.ok (F.gr S.gr)) ?_
 intro h1 t
 have M:=av t z3
 have N:=av t z4
 have O:=av t zc
 have P:=av t zd
 have w:=t.load C
 replace S:=S.call t
 simp only [BS,LB,cls,Nat.reduceLT,Nat.reduceEqDiff,Nat.reduceAdd,Nat.reducePow,Nat.reduceDiv,Nat.reduceMod,Nat.reduceLeDiff,F0e,w,s'.lenq,A,S.ld (b:=l) (o:=0) m2 rfl,S.ld (b:=u) (o:=0) m1 rfl]
 refine⟨by simp only [bg,bF,aW,bI,a9,ne_eq,not_false_eq_true,bN,ce,bA,bn,bQ,c8,aK,Nat.reduceLT,Nat.reduceEqDiff,reduceIte,Xm,ac,yW,aN M,aN N,aN O,aI M,aI N,aI O,aN P,aI P],?_⟩
 refine ag aw S ?_;clear S;intro h Q S R
 simp only [BS,LB,Nat.reduceLT,Nat.reduceEqDiff]
 refine az (ay S (i:=0) rfl Tryz.t137.2.1 fQ (Xd (lbt rfl)) ono) ?_
 clear S;rintro h2 ⟨S,_⟩
 simp only [LC]at S
 simp only [BS,LB,Nat.reduceLT,Nat.reduceEqDiff,F0e,S.ld (b:=l) (o:=0) m3 rfl]
 have D:=S.gr
 have y:=S.ok
 have l3:=S.ld (b:=l) (o:=0) m3 rfl
 have l4:=S.ld (b:=u) (o:=0) m2 rfl
 have l5:=S.ld (b:=K) (o:=0) m1 rfl
 have l7:=S.ld (b:=Q) (o:=0) m0 rfl
 have hf:=Bz y j (F.gr D) (x.gr D) l3 l5 l4 l7
 refine step_ret (cnodes_ok S.ok cq fQ) ?_
 rintro v h4 ⟨g,b1,b2,rfl,Y,ad,y1,y2⟩
 have it:=cnodes_it y g.ok g.keep g.n (x.gr D) (by omega) (g:=166) (post:=#[ptrTo l,ptrTo K,ptrTo u,ptrTo Q]) hf y1 y2
 replace S:=S.call g
 simp only [BS,LB,Nat.reduceLT,Nat.reduceEqDiff]
 refine step_ret (tO S.ok (g:=191) (post:=#[ptrTo b1,ptrTo b2]) (iter_w it) (fun _ h=>h.elim) (by have:=qE (n:=a.nodes) (f:=borB a c k);omega)) ?_
 rintro r h5 ⟨f5,G5,d5⟩
 have g5:=f5.gr
 have k5:=S.fr.n
 replace S:=S.call g5
 simp only [BS,LB,ae,Nat.reduceLT,Nat.reduceEqDiff]
 exact⟨S.gr,G5.sl rfl cZ (by decide),fun c hc=>by have:=d5 c hc;omega⟩
theorem Ch{h0:Hp}(d:h0.t.Sized h0.n){a:Gra}{e c b:Nat}(f:aS h0 e (ptrTo c) a)(j:b<a.nodes):aM zL 192 [ptrTo c,.int .i64 (b:Nat)] h0 (.bool true):=by
 have S:=Si d
 have g:(0:Int)<=(b:Int):=by omega
 have h:(b:Int)<(a.nodes:Int):=by omega
 refine ab (n:=17) (rs:=[.tmp 4]) rfl Tryz.e192 rfl rfl rfl (lbt rfl) ?_
 simp only [BS,LB,Nat.reduceLT,Nat.reduceEqDiff,F1z,g]
 refine am (ca S.ok f) ?_
 intro k i
 simp only [BS,LB,ae,Nat.reduceLT,Nat.reduceEqDiff,h]
 exact i
noncomputable def jC(c:Gra)(b a:Nat):Bool:=decide (dOf (seen c.arcs Arc.t Arc.s) b (c.arcs.getD a default).s<FAR/\dOf (seen c.arcs Arc.t Arc.s) b (c.arcs.getD a default).t<FAR/\dOf (seen c.arcs Arc.t Arc.s) b (c.arcs.getD a default).s=(c.arcs.getD a default).w+dOf (seen c.arcs Arc.t Arc.s) b (c.arcs.getD a default).t)
def HoldA(E:Env)(hq:Hp)(x:Nat)(g:FuncId)(post:List Value)(N:Nat)(f:Nat->Bool):Prop:= ∀h,h.t.Sized h.n->(∀b,b<hq.n->b≠x->h.get b=hq.get b)->hq.n<=h.n-> ∀v,v<N->aM E g ([.int .i64 (v:Nat)]++post) h (.bool (f v))
theorem lg{h a:Hp}{b o n:Nat}{l:List Value}(e:h.load b o n=some l)(g:a.get b=h.get b):a.load b o n=some l:=by
 unfold Hp.load at e⊢
 rw [g];exact e
theorem sl_get{a:Type}{h d:Hp}{k:Nat}{enc:a->List Value}{v:Value}{xs:List a}(s:ar h k enc v xs)(g: ∀c,aq v c->d.get c=h.get c):ar d k enc v xs:=by
 rcases s with s|⟨b,o,s,c,e,f,i⟩
 . exact .inl s
 . exact .inr ⟨b,o,s,c,e,f,lg i (g b (by rw [e];rfl))⟩
theorem tells1_ok{g hq:Hp}(D:g.t.Sized g.n)(j:hq.t.Sized hq.n)(X:dW g hq)(M:g.n<=hq.n){x:Nat}(hx:g.n<=x){f:Gra}(E:Good f){Y N b r b5:Nat}(Z:aS g Y (ptrTo N) f)(B:r≠x)(x5:b5≠x)(O: ∀v,IsD (seen f.arcs Arc.t Arc.s) b v (dOf (seen f.arcs Arc.t Arc.s) b v)){C vA vO:Value}(P:hq.load r 0 1=some [ptrTo N])(Q:hq.load b5 0 1=some [C])(R:ar hq 1 bM C ((zM f.nodes).map (dOf (seen f.arcs Arc.t Arc.s) b)))(xD: ∀c,aq C c->c≠x):
 HoldA zL hq x 204 [ptrTo r,ptrTo b5] f.arcs.length (jC f b):=by
 intro h ok k nq a F
 have kN:dW g h:=fun c s=>(k c (Xc s M) (by omega)).trans (X c s)
 have nN:g.n<=h.n:=Xa M nq
 have e2:=lg P (k r (a8 j P) B)
 have e5:=lg Q (k b5 (a8 j Q) x5)
 have t:ar h 1 bM C _:=sl_get R (fun c s=>k c (R.lt j s) (xD c s))
 have S:=Si ok
 have T:f.arcs[a]=f.arcs.getD a default:=by simp [zO,F]
 have hm:f.arcs.getD a default∈f.arcs:=by rw [<-T];exact Xe F
 obtain⟨hs,ht,hw⟩:=E.arcs _ hm
 unfold jC
 have G:=O (f.arcs.getD a default).s
 have H:=O (f.arcs.getD a default).t
 generalize hd:dOf (seen f.arcs Arc.t Arc.s) b=d at G H t
 refine ab (n:=35) (rs:=[.tmp 4]) rfl Tryz.e204 rfl rfl rfl (lbt rfl) ?_
 simp only [BS,LB,Nat.reduceLT,Nat.reduceEqDiff,FK,e2]
 refine step_ret (iU S.ok (Z.keep D kN) F) ?_
 rintro rv h4 ⟨g4,rfl⟩
 replace S:=S.call g4
 rw [T]
 generalize f.arcs.getD a default=A at hs ht hw G H
 simp only [BS,LB,Nat.reduceLT,Nat.reduceEqDiff,FK,cG]
 refine ag aw S ?_;clear S;intro h u S U
 simp only [BS,LB,Nat.reduceLT,Nat.reduceEqDiff]
 refine az (S.store (i:=0) rfl ?_ ?_ rfl rfl ?_ ono) ?_
 . exact(by exact Tryz.t108.2.1)
 . exact(by intro x e;cases e)
 . exact lbt rfl
 clear S;rintro h ⟨S,mo⟩;clear mo;simp only [LC,ah,lay,Xk,Xl,Nat.reduceAdd]at S
 have w:=t.gr S.gr
 have lD:((zM f.nodes).map d).length=f.nodes:=by simp
 obtain⟨c1,o1,x1,I⟩:=w.ix (kd:=.i64) cZ (i:=A.t) (by omega)
 obtain⟨c2,o2,B,V⟩:=w.ix (kd:=.i64) cZ (i:=A.s) (by omega)
 simp only [List.getElem_map,List.getElem_range,bM]at I V
 have J:=S.gr.load e5
 have z6:=(S.row (b:=u) m0).lt S.ok
 have z5:=a8 S.ok J
 have zc:=a8 S.ok I
 simp only [BS,LB,Nat.reduceLT,Nat.reduceEqDiff]
 refine au (aC rfl) (q:=0) (ps:=[]) (by kernel_rfl) ?_
 simp only [BS,LB,cls,Nat.reduceLT,Nat.reduceEqDiff,Nat.reduceAdd,Nat.reducePow,Nat.reduceDiv,Nat.reduceMod,Nat.reduceLeDiff,FK,J,x1,I,S.ld (b:=u) (o:=1) m0 rfl,S.ld (b:=u) (o:=2) m0 rfl]
 refine cy (add_ok S.ok) ?_
 intro h7 p
 have v6:=av p z6
 have v5:=av p z5
 have vc:=av p zc
 replace S:=S.call p
 simp only [BS,LB,cls,Nat.reduceLT,Nat.reduceEqDiff,Nat.reduceAdd,Nat.reducePow,Nat.reduceDiv,Nat.reduceMod,Nat.reduceLeDiff]
 have ad:=nL
 have b1:=G.le
 have r:=H.le
 have K:wy (wy (wy (d A.t:Nat))+wy (A.w:Nat))=(if d A.t+A.w<FAR then((d A.t+A.w:Nat):Int)else(FAR:Int)):=by
  unfold wy
  repeat' split
  all_goals omega
 rw [K]
 have y:=p.load J
 have z:=p.load V
 by_cases hf:d A.t+A.w<FAR
 . rw [if_pos hf]
   have w1:wy ((d A.t+A.w:Nat):Int)<72057594037927936:=by unfold wy;omega
   have L:decide (wy ((d A.t+A.w:Nat):Int)<72057594037927936)=true:=decide_eq_true w1
   refine am (pY S.ok) ?_
   intro h8 l;replace S:=S.call l
   rw [L]
   by_cases W:d A.s=A.w+d A.t
   . have m:((d A.t+A.w:Nat):Int)=(d A.s:Int):=by omega
     simp only [BS,LB,ae,Nat.reduceLT,Nat.reduceEqDiff,FK,l.load y,B,l.load z,m,S.ld (b:=u) (o:=0) m0 rfl]
     exact⟨by rw [decide_eq_true ⟨by omega,by omega,W⟩],S.gr⟩
   . have m: ¬((d A.t+A.w:Nat):Int)=(d A.s:Int):=by omega
     simp only [BS,LB,ae,Nat.reduceLT,Nat.reduceEqDiff,FK,l.load y,B,l.load z,m,S.ld (b:=u) (o:=0) m0 rfl]
     exact⟨by rw [decide_eq_false (fun h=>W h.2.2)],S.gr⟩
 . rw [if_neg hf]
   have L:decide (wy (FAR:Int)<72057594037927936)=false:=decide_eq_false (by unfold wy;omega)
   refine am (pY S.ok) ?_
   intro h8 l;replace S:=S.call l
   rw [L]
   simp only [BS,LB,ae,Nat.reduceLT,Nat.reduceEqDiff]
   exact⟨by rw [decide_eq_false (fun h=>by omega)],S.gr⟩
theorem tells_ok{h0 a:Hp}(l:a.t.Sized a.n)(C:h0.t.Sized h0.n)(s:Gr a h0){x:Nat}(E:a.n<=x)(F:x<h0.n){d:Gra}(g:Good d){G t b:Nat}(u:aS a G (ptrTo t) d)(H:b<d.nodes):
 Ret zL 195 [ptrTo t,.int .i64 (b:Nat)] h0 fun r w=>Gr h0 w/\ ∃f b5,r=.func (.func 204) #[] #[ptrTo f,ptrTo b5]/\h0.n<=f/\h0.n<=b5/\HoldA zL w x 204 [ptrTo f,ptrTo b5] d.arcs.length (jC d b):=by
 have S:=Si C
 refine ab (n:=10) (rs:=[.tmp 4]) rfl Tryz.e195 rfl rfl rfl (lbt rfl) ?_
 simp only [BS,Nat.reduceLT]
 refine ag (aZ (by intro x e;cases e)) S ?_;clear S;intro h f S j;simp only [ah]at S
 simp only [BS,LB,Nat.reduceLT,Nat.reduceEqDiff,F0M,S.ld (b:=f) (o:=0) m0 rfl]
 refine step_ret (vH S.ok g (u.gr (s.trans S.gr)) H) ?_
 rintro r T ⟨I,U,vA,vO,D,V,O,rfl,m,J,K,_,y,L,_⟩
 have W:=S.fr.n
 replace S:=S.call I
 have M:=m.fl
 have N:=J.fl
 have P:=K.fl
 have z:D=dOf (seen d.arcs Arc.t Arc.s) b:=funext fun v=>((dOf_is (y v)).1).symm
 have p: ∀v,IsD (seen d.arcs Arc.t Arc.s) b v (dOf (seen d.arcs Arc.t Arc.s) b v):=fun v=>by rw [<-z];exact y v
 rw [z]at m
 simp only [BS,F0M]
 have Q:=S.row (b:=f) m0
 have X:=S.fr.n
 have k:=S.gr
 have q:=S.ok
 clear S
 have S:=Si q
 refine ag aw S ?_;clear S;intro h b5 S A
 simp only [BS,LB,Nat.reduceLT,Nat.reduceEqDiff]
 refine az (S.store (i:=0) rfl Tryz.t170.2.1 (by intro x e;cases e) rfl (by simp only [ah,XI,XP,M.2.1,N.2.1,P.2.1,Xm]) (lbt rfl) ono) ?_
 clear S;rintro Y ⟨S,_⟩
 simp only [LC,ah,lay,Xk,Xl,Nat.reduceAdd]at S
 simp only [BS,LB,ae,Nat.reduceLT,Nat.reduceEqDiff]
 refine⟨k.trans S.gr,f,b5,rfl,j,by omega,?_⟩
 have B:=s.trans (k.trans S.gr)
 exact tells1_ok l S.ok B.keep B.n E g u (by omega) (by omega) p (vA:=vA) (vO:=vO) ((Q.gr S.gr).load1 (o:=0) rfl) (S.ld (b:=b5) (o:=0) m0 rfl) (m.gr S.gr) (fun c R e=>by have:=L c (.inl R);omega)
def Tryz.F0N:=aj t1<|aj t2<|aj t3<|aj t4<|t137
def Tryz.F0O:=aj t1<|aj t2<|aj t3<|aj t4<|aj t9<|aj t24<|t132
def Tryz.FY:=aj t1<|aj t2<|aj t3<|aj t4<|aj t5<|aj t6<|aj Z3<|aj Z4<|aj t9<|aj t10<|aj t24<|aj Z0<|aj t32<|aj t34<|aj t132<|aj t137<|aj t164<|Z1
theorem marked_ok{h0:Hp}(f:h0.t.Sized h0.n){n:Nat}{d:Value}(g:Fl d):Ret zL 194 [.int .i64 (n:Nat),d] h0 fun v e=>Gr h0 e/\ ∃b1 a,v=.func (.func 203) #[] #[ptrTo b1,ptrTo a]/\h0.n<=b1/\h0.n<=a/\e.load b1 0 1=some [.int .i64 (n:Nat)]/\e.load a 0 1=some [d]:=by
 have S:=Si f
 refine ab (n:=6) (rs:=[.tmp 4]) rfl Tryz.e194 rfl rfl rfl (lbt rfl) ?_
 simp only [BS,Nat.reduceLT]
 refine ag (bC (by exact aX)) S ?_;clear S;intro h b1 S b
 simp only [BS,Nat.reduceLT,Nat.reduceEqDiff,if_false]
 refine ag (bC (by assumption)) S ?_;clear S;intro h a S c
 simp only [BS,LB,ae,Nat.reduceLT,Nat.reduceEqDiff]
 exact⟨S.gr,b1,a,rfl,b,c,S.ld m1 rfl,S.ld m0 rfl⟩
theorem marked_it {hq h0:Hp} (y:hq.t.Sized hq.n) (e:h0.t.Sized h0.n) (z:dW hq h0) (r:hq.n<=h0.n) {x:Nat} {N:Nat} (I:N<=1000) {b1 j:Nat} {g:FuncId} {post:Array Value} {f:Nat->Bool} (hf:HoldA zL hq x g post.toList N f)
 (A:h0.load b1 0 1=some [.int .i64 (N:Nat)]) (B:h0.load j 0 1=some [.func (.func g) #[] post]):
 lS zL 203 [] [ptrTo b1,ptrTo j] h0 (fun c=>c=b1\/c=j\/(c<hq.n/\c≠x)) (((zM N).filter f).map fun(v:Nat)=>[.int .i64 (v:Nat)]):=by
 intro C J Z D Y h F s b
 have t:=s.load e A (.inl rfl)
 refine enter (n:=19) (rs:=[]) rfl Tryz.e203 rfl rfl rfl (lbt rfl) ?_
 simp only [BS,LB,Nat.reduceLT,F0N,t]
 refine aO (fun(i:Nat) d h=>i<=N/\ ∃F,ItS h0 (fun c=>c=b1\/c=j\/(c<hq.n/\c≠x)) h F/\J ((zM i).filter f).length h F/\d 0=.func (.yield C) #[] #[]/\d 1=ptrTo b1/\d 2=ptrTo j/\d 5=.int .i64 (N:Nat)/\d 6=.int .i64 i) (fun i=>N-i) ?_ 0 _ _ ?_
 . clear t s b F h
   intro i u d h ⟨hi,F,s,b,r0,r1,r2,r5,r6⟩
   have w:an .i64 ((i:Int)+1)=((i+1:Nat):Int):=by rw [wrap64]<;>omega
   by_cases hlt:i<N
   . have E:=s.load e B (.inr (.inl rfl))
     simp only [BS,LB,Nat.reduceLT,Nat.reduceEqDiff,F0N,r2,r5,r6,aB,hlt,E]
     refine am (hf _ s.ok (fun c l m=>(s.data c (Xc l r) (.inr (.inr ⟨l,m⟩))).trans (z c l)) (Xa r s.n) i hlt) ?_
     intro K k
     cases o:f i with
     | true=>
       have m:(((zM N).filter f).map fun(v:Nat)=>[Value.int .i64 (v:Nat)])[((zM i).filter f).length]? =some [.int .i64 (i:Nat)]:=by
        rw [Xr,sc o _ hlt];rfl
       have p:((zM (i+1)).filter f).length=((zM i).filter f).length+1:=by rw [iZ,if_pos o];simp
       simp only [BS,LB,Nat.reduceLT,Nat.reduceEqDiff,r0]
       refine cI Y (s.gr k) (Y.gr _ _ _ _ b k) (i:=((zM i).filter f).length) m ?_ ?_ ?_
       . intro q G a H _ _
         simp only [BS,LB,Nat.reduceLT,Nat.reduceEqDiff,r6,w]
         exact u (i+1) _ _ (by omega) ⟨by omega,G,H,by rw [p];exact a,by simp [aa,r0],by simp [aa,r1,ac],by simp [aa,r2,ac],by simp [aa,r5],by simp [aa]⟩
       . intro q a _
         simp only [BS,LB,Nat.reduceLT,Nat.reduceEqDiff]
         exact fi rfl ⟨rfl,.inr (.inl ⟨_,rfl,a⟩)⟩
       . intro v q a
         exact absurd a (D v q)
     | false=>
       have p:(zM (i+1)).filter f=(zM i).filter f:=by rw [iZ,if_neg (by rw [o];decide)];simp
       simp only [BS,LB,Nat.reduceLT,Nat.reduceEqDiff,r6,w]
       exact u (i+1) _ _ (by omega) ⟨by omega,F,s.gr k,by rw [p];exact Y.gr _ _ _ _ b k,by simp [aa,r0],by simp [aa,r1,ac],by simp [aa,r2,ac],by simp [aa,r5],by simp [aa]⟩
   . simp only [BS,LB,Nat.reduceLT,r5,r6,aB,hlt]
     have:i=N:=by omega
     subst this
     exact bS (cJ ⟨rfl,_,rfl,rfl,.inl ⟨_,F,rfl,by simpa using b⟩⟩)
 . exact⟨Xh _,F,s,b,by simp [aa,bJ],by simp [aa,bJ,ac],by simp [aa,bJ,ac],by simp [aa],by simp [aa]⟩
def dB(n:Nat)(f:Nat->Bool):List Value:=(zM n).map fun j=>.bool (f j)
theorem ry{n:Nat}{f:Nat->Bool}:(dB n f).length=n:=by simp [dB]
theorem bolC_at{n j:Nat}{f:Nat->Bool}(h:j<n):(dB n f)[j]? =some (.bool (f j)):=ju (F:=fun j=>Value.bool (f j)) h
theorem zR{n j:Nat}{f:Nat->Bool}:(dB n f).set j (.bool true)=dB n (fun u=>decide (u=j)||f u):=by
 have:=iX (N:=n) (k:=j) (F:=fun j=>Value.bool (f j)) (F':=fun u=>Value.bool (decide (u=j)||f u)) (fun i _ a=>by simp [a])
 unfold dB
 rw [<-this];simp
theorem kh{n:Nat}{f g:Nat->Bool}(h: ∀j,j<n->f j=g j):dB n f=dB n g:=by
 unfold dB
 refine X2 fun j a=>?_
 rw [h j (List.mem_range.1 a)]
theorem putB_ok{h0:Hp}(E:h0.t.Sized h0.n){d n:Nat}{f:Nat->Bool}(R:Row h0 d (dB n f) 1){g:FuncId}{post:Array Value}{D:Nat->Prop}{xs:List Nat}(M:lS zL g [] post.toList h0 D (xs.map fun(v:Nat)=>[.int .i64 (v:Nat)]))(G: ¬D d)(B: ∀x∈xs,x<n)(hl:xs.length<=1000):
 Ret zL 193 [.slice (some ⟨d,0,none⟩) n n,.func (.func g) #[] post,.bool true] h0 fun r t=>Mo (· =d) h0 t/\r=.slice (some ⟨d,0,none⟩) n n/\Row t d (dB n (fun u=>decide (u∈xs)||f u)) 1:=by
 have S:=St.init1 E (o:=.row (dB n f) 1) R
 have zl:=R.lt E
 refine ab (n:=15) (rs:=[.tmp 6]) rfl Tryz.e193 rfl rfl rfl (lbt rfl) ?_
 simp only [BS,Nat.reduceLT]
 refine ag (bC (by exact cg)) S ?_;clear S;intro h m S H
 simp only [BS,Nat.reduceLT,Nat.reduceEqDiff,if_false]
 refine ag (bC (by exact mC)) S ?_;clear S;intro h w S I
 simp only [BS,Nat.reduceLT,Nat.reduceEqDiff,if_false]
 have N:dB n f=dB n (fun u=>decide (u∈xs.take 0)||f u):=kh fun j _=>by simp
 refine fq S (g:=g) (a:=#[]) (b:=post) (by simp [bQ,aa,ac]) rfl rfl ?_
 intro J A z p O P g2
 obtain⟨X,K,p⟩: ∃X:eu,X=_/\St (· =d) h0 J [(z,.loop X),(A,.dfr),(w,.row [.bool true] 1),(m,.row [.slice (some ⟨d,0,none⟩) n n] 1),(d,.row (dB n f) 1)] []:=⟨_,rfl,p⟩
 have Q:Yld zL z (fun k t F=>St (· =d) h0 t [(z,.loop X),(A,.dfr),(w,.row [.bool true] 1),(m,.row [.slice (some ⟨d,0,none⟩) n n] 1),(d,.row (dB n (fun u=>decide (u∈xs.take k)||f u)) 1)] []/\k<=xs.length/\F=[z,A,w,m,d]) (fun _ _=>False) (xs.map fun(v:Nat)=>[.int .i64 (v:Nat)]):=by
  refine⟨?_,?_,fun _ _ h=>h.elim,?_⟩
  . rintro i h F ⟨S,_,rfl⟩;exact⟨S.ok,fun b l=>S.key_lt (by simpa [keys]using l)⟩
  . rintro i h F t ⟨S,a,rfl⟩ V;exact⟨S.call V,a,rfl⟩
  . rintro i x hR F C ⟨S,a,rfl⟩
    have q:i<xs.length:=by
     have:=(List.getElem?_eq_some_iff.1 C).1
     simpa using this
    rw [Xr,Xb q]at C
    cases C
    have s:=B _ (Xe q)
    have W:dB n (fun u=>decide (u∈xs.take (i+1))||f u)=(dB n (fun u=>decide (u∈xs.take i)||f u)).set xs[i] (.bool true):=by
     rw [zR]
     refine kh fun j _=>?_
     rw [Xu q]
     simp only [List.mem_append,List.mem_singleton]
     by_cases Y:j=xs[i]<;>by_cases Z:j∈xs.take i<;>simp [Y,Z]
    rw [W]
    generalize xs[i]=x at s
    subst K
    refine fG (S.get m0) (by rw [Tryz.e193];rfl) rfl ?_
    have S0:=S
    replace S:=S.base
    simp only [BS,LB,Nat.reduceLT,Nat.reduceEqDiff]
    refine eH S (i:=0) rfl rfl rfl rfl rfl ?_
    clear S;intro h S
    simp only [LC]at S
    simp only [BS,LB,Nat.reduceLT,Nat.reduceEqDiff,F0O,s,S.ld (b:=m) (o:=0) m3 rfl,S.ld (b:=w) (o:=0) m2 rfl]
    refine az (ay S (i:=4) rfl Tryz.t4.2.2.1 mC (by rw [ry];exact s) ono) ?_
    clear S;rintro h ⟨S,_⟩
    simp only [LC]at S
    simp only [BS]
    refine dy S (i:=0) rfl ?_
    clear S;intro h S
    simp only [LC]at S
    refine .inl ⟨rfl,_,⟨S0.rebase S,by omega,rfl⟩,?_,fun c hc=>.inl hc⟩
    have:=S.fr
    simp only [keys,XJ,List.map_nil,List.filterMap_nil,XT]at this
    exact this
 refine eg (M z _ _ (fun _ _ h=>h) Q J [z,A,w,m,d] ?_ ⟨by rw [<-N];exact p,Xh _,rfl⟩) fun o rc t y=>iq y ?_
 . have kn:=S.fr.n
   refine⟨p.ok,p.fr.n,fun b l hd=>p.fr.get b l (fun e=>G (e▸hd)),fun b l h=>?_,fun b l=>p.key_lt (by simpa [keys]using l)⟩
   simp only [XY,List.not_mem_nil,or_false]at l
   rcases l with rfl|rfl|rfl|rfl|rfl
   . omega
   . omega
   . omega
   . omega
   . exact G h.2
 . rintro F ⟨T,_,rfl⟩
   rw [Xp,List.take_length]at T
   subst K
   refine⟨_,T.get m0,XC,?_⟩
   replace T:=T.dead
   have S:=T
   show Run _ _ _ _ _ _ _ _
   simp only [BS,LB,Nat.reduceLT,Nat.reduceEqDiff,F0O,S.ld (b:=m) (o:=0) m2 rfl]
   refine dp (eR [A] _ (L:=[(w,_),(m,_),(d,_)]) T.base fun h4 S4=>?_)
   refine⟨rfl,(jw (by decide)).2 (dH.2 ?_)⟩
   have U:=T.rebase S4
   exact⟨U.fr,rfl,U.row m2⟩
theorem anyT_ok {h0:Hp} (M:h0.t.Sized h0.n) {d:Gra} (l:Good d) {N y b:Nat} {z:Value} {xs:List Nat} (A:aS h0 N (ptrTo y) d) (G:b<d.nodes) (B:ar h0 1 bM z xs) (m:xs=[b]):
 Ret zL 167 [ptrTo y,z] h0 fun r H=>Gr h0 H/\ ∃f,r=.slice (some ⟨f,0,none⟩) d.arcs.length d.arcs.length/\Row H f (dB d.arcs.length (jC d b)) 1/\h0.n<=f:=by
 have S:=Si M
 have I:=l.many
 have fL:=B.fl
 have hl:xs.length=1:=by rw [m];rfl
 refine ab (n:=32) (rs:=[.tmp 4]) rfl Tryz.e167 rfl rfl rfl (lbt rfl) ?_
 simp only [BS,LB,Nat.reduceLT,Nat.reduceEqDiff,FY]
 refine am (j8 S.ok A) ?_
 intro h1 O;replace S:=S.call O
 simp only [BS,LB,Nat.reduceLT,Nat.reduceEqDiff]
 have C:=S.gr
 have p:=S.ok
 clear S
 have S:=Si p
 rename Hp=>hA
 refine ag (jW (by exact Tryz.t24.1) (by exact Tryz.e4E) (by omega) (by omega)) S ?_;clear S;intro h f S q
 have P:aV [Value.bool false] d.arcs.length=dB d.arcs.length (fun a=>decide (0=1)&&jC d b a):=by
  rw [mQ]
  unfold dB
  simp [XS]
 rw [Xj,P]at S
 simp only [BS,LB,Nat.reduceLT,Nat.reduceEqDiff,FY,Xj,B.lenq]
 refine aO (fun(i:Nat) k h=>i<=1/\St NoM hA h [(f,.row (dB d.arcs.length (fun a=>decide (i=1)&&jC d b a)) 1)] []/\k 0=ptrTo y/\k 5=.slice (some ⟨f,0,none⟩) d.arcs.length d.arcs.length/\k 13=z/\k 14=.int .i64 (xs.length:Nat)/\k 15=.int .i64 i) (fun i=>1-i) ?_ 0 _ _ ?_
 . clear S
   intro i Q k h ⟨hi,S,r0,r5,r13,r14,r15⟩
   have w:an .i64 ((i:Int)+1)=((i+1:Nat):Int):=by rw [wrap64]<;>omega
   have D:=C.trans S.gr
   by_cases hlt:i<xs.length
   . have J:i=0:=by omega
     obtain⟨c,o,R,s⟩:=(B.gr D).ix (kd:=.i64) cZ hlt
     have T:xs[i]=b:=by subst m;subst J;rfl
     rw [T]at s
     replace s:h.load c o 1=some [.int .i64 (b:Nat)]:=s
     simp only [BS,LB,Nat.reduceLT,Nat.reduceEqDiff,FY,r0,r13,r14,r15,aB,hlt,R,s]
     refine am (Ch S.ok (A.gr D) G) ?_
     intro h2 U;replace S:=S.call U
     have hS:=S.gr
     have E:=(S.row (b:=f) m0).lt S.ok
     simp only [BS,LB,Nat.reduceLT,Nat.reduceEqDiff,FY,r0,r5]
     refine step_ret (tells_ok p S.ok S.gr (x:=f) q E l (A.gr C) G) ?_
     rintro v h3 ⟨K,V,W,rfl,n2,n5,hf⟩
     replace S:=S.call K
     have F:=S.ok
     simp only [BS,LB,Nat.reduceLT,Nat.reduceEqDiff]
     refine step_ret (marked_ok S.ok (n:=d.arcs.length) fQ) ?_
     rintro v h4 ⟨t,X,Y,rfl,n1,n3,Z,y3⟩
     have it:=marked_it F t.ok t.keep t.n (x:=f) (by omega) (g:=204) (post:=#[ptrTo V,ptrTo W]) hf Z y3
     have kg:=K.n
     replace S:=S.call t
     simp only [BS,LB,Nat.reduceLT,Nat.reduceEqDiff]
     refine step_ret (putB_ok S.ok (S.row (b:=f) m0) (g:=203) (post:=#[ptrTo X,ptrTo Y]) it (fun h=>?_) (fun x hx=>List.mem_range.1 (List.mem_filter.1 hx).1) (Xa qE (by omega))) ?_
     . rcases h with h|h|h
       . omega
       . omega
       . exact h.2 rfl
     . rintro v h5 ⟨f5,rfl,R5⟩
       have L:=S.call1 (i:=0) (o':=.row _ 1) rfl f5 R5
       simp only [List.set_cons_zero]at L
       simp only [BS,LB,Nat.reduceLT,Nat.reduceEqDiff,r15,w]
       refine Q (i+1) _ _ (by omega) ⟨by omega,?_,by simp [aa,r0,ac],by simp [aa],by simp [aa,r13],by simp [aa,r14],by simp [aa]⟩
       have e:dB d.arcs.length (fun a=>decide (i+1=1)&&jC d b a)=dB d.arcs.length (fun u=>decide (u∈(zM d.arcs.length).filter (jC d b))||(decide (i=1)&&jC d b u)):=kh fun j hj=>by
        subst J
        simp [List.mem_filter,hj]
       rw [e]
       exact L
   . have i1:i=1:=by omega
     simp only [BS,LB,ae,Nat.reduceLT,Nat.reduceEqDiff,r5,r14,r15,aB,hlt]
     refine⟨D,f,rfl,?_,by have:=C.n;omega⟩
     have e:dB d.arcs.length (jC d b)=dB d.arcs.length (fun a=>decide (i=1)&&jC d b a):=kh fun j _=>by rw [decide_eq_true i1,XZ]
     rw [e]
     exact S.row m0
 . exact⟨Xh _,S,by simp [aa,bJ,ac],by simp [aa],by simp [aa],by simp [aa],by simp [aa]⟩
theorem arcsT_ok{h0:Hp}(j:h0.t.Sized h0.n){a:Gra}(d:Good a){k f b:Nat}(l:aS h0 k (ptrTo f) a)(m:b<a.nodes):
 Ret zL 115 [ptrTo f,.int .i64 (b:Nat)] h0 fun r g=>Gr h0 g/\ ∃c,r=.slice (some ⟨c,0,none⟩) a.arcs.length a.arcs.length/\Row g c (dB a.arcs.length (jC a b)) 1/\h0.n<=c:=by
 have S:=Si j
 refine ab (n:=9) (rs:=[.tmp 4]) rfl Tryz.e115 rfl rfl rfl (lbt rfl) ?_
 simp only [BS,LB,Nat.reduceLT,Nat.reduceEqDiff]
 refine ag (bR (by exact Tryz.t34.1) (by exact Xt) (by decide) (by rfl)) S ?_;clear S;intro h e S i;simp only [LC,aV,bK,ah,Nat.reduceMul,Nat.reduceAdd,Xi,Xf,Xn,Xo]at S
 simp only [BS,LB,Nat.reduceLT,Nat.reduceEqDiff]
 have p:ar h 1 bM (.slice (some ⟨e,0,none⟩) 1 1) [b]:=.inr ⟨e,0,none,1,rfl,Xv _,S.lds (b:=e) (o:=0) (n:=1*1) m0 (lbt rfl)⟩
 have s:=S.fr.n
 refine step_ret (anyT_ok S.ok d (l.gr S.gr) m p rfl) ?_
 rintro r t ⟨q,c,rfl,R,u⟩
 replace S:=S.call q
 simp only [BS,LB,ae,Nat.reduceLT,Nat.reduceEqDiff]
 exact⟨S.gr,c,rfl,R,by omega⟩
end Go.Ab
end

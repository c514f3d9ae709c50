/- Nets, cells, flags: what the functions do (part 4). -/
import Derived.Test.YtdicllcgofpggaaGreatDoorNetC
open Go.Ab.Tryz
open Go.Ab.Tryz renaming abEnv->zB,e3E->XO,e23E->XY,e2E->XZ
open List renaming range->zM,getD_eq_getElem?_getD->zO,getElem?_eq_getElem->Xc,getElem_mem->Xe,take->Xf,drop->Xg,getElem?_map->Xh,length_map->Xi,take_succ_eq_append_getElem->Xk,getElem?_append_right->Xq,mem_cons_of_mem->Xr,getElem?_append_left->Xs,flatMap_eq_foldl->Xu,replicate->Xv,take_length->Xw,drop_zero->Xz,length_range->XA,flatMap_cons->XB,not_mem_nil->XC,mem_append->XD,flatMap_append->XE,set_cons_zero->XF,length_append->XG,mem_singleton->XH,all_cons->XI,map_cons->XJ,mem_cons->XK,drop_eq_getElem_cons->XN,all_nil->XP,take_of_length_le->XS,perm_append_comm->XT,mem_append_right->XU,map_eq_flatMap->XV,map_congr_left->XW,map_map->XX
open Nat renaming le_trans->Xa,lt_of_lt_of_le->Xb,lt_of_succ_le->Xd,zero_le->Xj,zero_add->Xl,mul_one->Xn,le_refl->Xo,zero_mul->Xp,one_mul->Xt,zero_ne_one->Xx,add_sub_cancel_left->XQ
open Bool renaming and_true->Xm
open Int renaming cast_ofNat_Int->Xy,toNat_natCast->XL,eq_ofNat_of_zero_le->XR
open Function renaming comp_def->XM
set_option maxHeartbeats 4000000
set_option linter.defProp false
set_option linter.unusedVariables false
set_option linter.unusedSimpArgs false
section
namespace Go.Ab
open Go.Proofs
set_option maxRecDepth 10000
def Tryz.F9:=aj t1<|aj t2<|aj t3<|aj t4<|aj t5<|aj t6<|aj Z0<|aj Z2<|aj t9<|aj t10<|aj t11<|aj t12<|aj Z6<|aj Z10<|aj t15<|aj t16<|aj t17<|aj t23<|aj t29<|aj Z1<|aj t38<|aj t58<|aj t67<|aj Z4<|aj t101<|aj t102<|aj t157<|aj t162<|aj Z3<|aj t209<|aj t213<|aj Z20<|aj t220<|aj t268<|aj t273<|aj t274<|aj t279<|aj r279<|aj t284<|aj Z12<|aj Z19<|aj Z15<|aj t355<|aj t357<|aj t359<|aj t360<|aj t361<|aj t362<|Z18
def seen(A:List Arc)(fs ft:Arc->Nat):List Arc:=A.map fun a=>⟨fs a,ft a,a.w⟩
def NextF(E:Env)(g:FuncId)(a:Gra)(b:Value)(fs:Arc->Nat):Prop:= ∀(h:Hp) (e:Nat),h.t.Sized h.n->bW h e b a-> ∀v,v<a.nodes->Ret E g [b,.int .i64 (v:Nat)] h fun r d=>Gr h d/\ay d 1 eO r (outs a.arcs fs a.arcs.length v)/\ ∀c,aq r c->h.n<=c
def eE(l:List Nat):List Value:=l.flatMap eO
theorem lg(l:List Nat):eE l=l.map fun(x:Nat)=>Value.int .i64 x:=by
 unfold eE;rw [Xu,XV,Xu];rfl
theorem ints_map(l:List Int):ints l=l.map fun x=>Value.int .i64 x:=by
 unfold ints;rw [Xu,XV,Xu];rfl
theorem p9(l:List Nat):(eE l).length=l.length:=by rw [lg,Xi]
theorem nats_app(l:List Nat)(x:Nat):eE (l++[x])=eE l++eE [x]:=by rw [lg,lg,lg,List.map_append]
theorem seen_at{A:List Arc}{fs ft:Arc->Nat}{i:Nat}(a:i<A.length):(seen A fs ft).getD i default=⟨fs (A.getD i default),ft (A.getD i default),(A.getD i default).w⟩/\(seen A fs ft).getD i default∈seen A fs ft:=by
 have e:(seen A fs ft).getD i default=⟨fs (A.getD i default),ft (A.getD i default),(A.getD i default).w⟩:=by
  unfold seen;simp [zO,a]
 refine⟨e,?_⟩
 rw [zO,Xc (by unfold seen;simpa using a)]
 exact Xe _
theorem seen_mem{A:List Arc}{fs ft:Arc->Nat}{a:Arc}(c:a∈seen A fs ft): ∃i,i<A.length/\(seen A fs ft).getD i default=a:=by
 obtain⟨i,b,e⟩:=List.mem_iff_getElem.1 c
 exact⟨i,by unfold seen at b;simpa using b,by simp [zO,b,e]⟩
def xw(a:Hp)(m:Nat)(r:Value)(B:List Arc)(s N:Nat):Prop:= ∃b d e D f O,r=.agg ⟨[b,d,e]⟩/\ay a 1 eO b ((zM N).map D)/\ay a 1 (encI .i64) d f/\ay a 1 eO e O/\f.length=N/\(∀v,IsD B s v (D v))/\(∀c,aq b c\/aq d c\/aq e c->m<=c)/\O.Nodup/\ ∀v∈O,v<N
theorem uC{a:Hp}(e:a.t.Sized a.n){F:List Nat}{p:Value}{N:Nat}{K:Nat->Option Int}(H:dS a F p N K)(f:N<=1000):Ret zB 192 [p] a fun r c=> ∃(v:Nat) (k:Int) (b:Bool),r=.tuple #[.int .i64 (v:Nat),.int .i64 k,.bool b]/\Mo (· ∈F) a c/\dS c F p N (if b=true then eQ K v none else K)/\(b=true->K v=some k/\ ∀u k',K u=some k'->k<=k')/\(b=false-> ∀v,K v=none):=by
 refine iS (C0 e H f) ?_
 rintro r c (⟨rfl,d,g⟩|⟨v,k,rfl,d,i,j,l⟩)
 . exact⟨0,0,false,rfl,g.fr,H.gr g,fun h=>(by cases h),fun _=>d⟩
 . exact⟨v,k,true,rfl,j,l,fun _=>⟨d,fun u k' h=>by have:=i u k' h;omega⟩,fun h=>(by cases h)⟩
def FloodI(t:Hp)(B:List Arc)(s N m g i j k n o w:Nat)(z A:FuncId)(O:List Nat)(ρ:Nat->Value)(d:List Deferred)(h:Hp):Prop:=
 ∃ (e:List Nat) (D:Nat->Nat) (K:Nat->Option Int) (F:List Nat) (p:List (Value×Value×Nat)) (c:Nat) (f:Int->Option Value) (q:List Int) (l:Value) (r:Nat) (v:Nat) (a:Int) (b:Bool),d=e.map qN/\
   St NoM t h ([(r,Ob.row [.int .i64 a] 1),(m,.row [ptrTo g] 1),(g,.row [ptrTo o,.slice (some ⟨k,0,none⟩) N N,.slice (some ⟨j,0,none⟩) N N,l,.map (some i)] 1),(i,.map p c),(j,.row (ints q) 1),(k,.row (eE ((zM N).map D)) 1),(n,.row [.slice none 0 0,.slice none 0 0,.slice none 0 0] 1)]++dm e) [(l,1,eE O)]/\
   (∀x∈F,t.n<=x/\x∉keys ([(r,Ob.row [.int .i64 a] 1),(m,.row [ptrTo g] 1),(g,.row [ptrTo o,.slice (some ⟨k,0,none⟩) N N,.slice (some ⟨j,0,none⟩) N N,l,.map (some i)] 1),(i,.map p c),(j,.row (ints q) 1),(k,.row (eE ((zM N).map D)) 1),(n,.row [.slice none 0 0,.slice none 0 0,.slice none 0 0] 1)]++dm e) [(l,1,eE O)])/\
   q.length=N/\dO p c f/\ClF O f/\Dj B s N O D K (fun _=>False)/\dS h F (ptrTo o) N (if b=true then eQ K v none else K)/\(b=true->K v=some a/\ ∀u y,K u=some y->a<=y)/\(b=false-> ∀v,K v=none)/\
   ρ 0=ptrTo w/\ρ 2=.func (.func z) #[ptrTo w] #[]/\ρ 3=.func (.func A) #[] #[]/\ρ 8=ptrTo n/\ρ 9=ptrTo m/\ρ 10=.int .i64 v/\ρ 11=ptrTo r/\ρ 12=.bool b
theorem Am {h0:Hp} (ok:h0.t.Sized h0.n) {l:Gra} (a0:Good l) {pn:Value} {nb:Nat} (hn:bW h0 nb pn l) {s:Nat} (hs:s<l.nodes) {gN gE:FuncId} {fs ft:Arc->Nat} (hN:NextF zB gN l pn fs) (hE:KeyF zB gE ft) (bm: ∀a∈l.arcs,ft a<l.nodes):
 Ret zB 138 [pn,.int .i64 s,.func (.func gN) #[pn] #[],.func (.func gE) #[] #[]] h0 fun r h'=>Gr h0 h'/\xw h' h0.n r (seen l.arcs fs ft) s l.nodes:=by
 have n1:=a0.n1
 have n2:=a0.n2
 have S:=Si ok
 have c1: ¬((s:Int)<0):=by omega
 have c2: ¬((l.nodes:Int)<=(s:Int)):=by omega
 obtain⟨bp,b7⟩: ∃b,pn=ptrTo b:=by obtain⟨b,_,_,_,_,_,e,_⟩:=hn.ex;exact⟨b,e⟩
 subst b7
 refine ab (n:=117) (rs:=[.cell 8 218]) rfl Tryz.e138 rfl rfl rfl (lbt rfl) ?_
 simp only [BS,F9]
 refine ag av S ?_;clear S;intro h W S cv
 simp only [BS,LB,Nat.reduceLT,Nat.reduceEqDiff,F9,c1]
 refine al (cK S.ok (hn.gr S.gr)) ?_;intro h g;replace S:=S.call g;clear g
 simp only [BS,LB,Nat.reduceLT,Nat.reduceEqDiff,c2]
 refine al (cK S.ok (hn.gr S.gr)) ?_;intro h g;replace S:=S.call g;clear g
 simp only [BS,LB,Nat.reduceLT,Nat.reduceEqDiff]
 have nF:=S.fr.n
 have kF:=fun {c} (t:c∈_)=>S.key_lt (b:=c) t
 refine step_ret (Cq S.ok) ?_;intro v h ⟨g,Fh,H,hFn⟩;replace S:=S.call g;clear g
 rename Value=>p
 have dF: ∀c∈Fh,c∉keys [(W,Ob.row [.slice none 0 0,.slice none 0 0,.slice none 0 0] 1)] []:=fun c t w=>by have:=kF w;have:=hFn c t;omega
 have lF:=H.lt S.ok
 have Y:=S
 have gF: ∀c∈Fh,h0.n<=c\/NoM c:=fun c t=>.inl (Xa nF (hFn c t))
 replace S:=S.base
 simp only [BS,LB]
 refine ag (bj (by exact Tryz.t23.1) (by exact XZ) (by decide) (by rfl)) S ?_;clear S;intro h bn S a7;simp only [LC,aU,bA,ah,Nat.reduceMul,Nat.reduceAdd,Xp,Xl,Xn,Xt]at S
 simp only [BS,LB,Nat.reduceLT,Nat.reduceEqDiff]
 refine al (cK S.ok (hn.gr (Y.rebase S).gr)) ?_;intro h g;replace S:=S.call g;clear g
 simp only [BS,LB,Nat.reduceLT,Nat.reduceEqDiff]
 have kl:=fun {c} (t:c∈_)=>S.key_lt (b:=c) t
 have kn:=S.fr.n
 refine step_ret (rep64_ok S.ok (x:=72057594037927936) (.inr ⟨bn,0,none,1,rfl,Xo _,S.lds (b:=bn) (o:=0) (n:=1*1) m0 (lbt rfl)⟩) n1 (by omega)) ?_;intro v h ⟨g,bd,ed,nd,Rd⟩;replace S:=S.call g;clear g
 subst ed
 replace S:=S.drop1
 replace S:=S.push (b:=bd) (o:=.row _ 1) (.inl (Xa kn nd)) Rd (fun w=>by have:=kl (Xr _ w);omega)
 simp only [BS,LB]
 refine ag (bj (by exact Tryz.t38.1) (by exact XO) (by decide) (by rfl)) S ?_;clear S;intro h bt S a8;simp only [LC,aU,bA,ah,Nat.reduceMul,Nat.reduceAdd,Xp,Xl,Xn,Xt]at S
 simp only [BS,LB,Nat.reduceLT,Nat.reduceEqDiff]
 refine al (cK S.ok (hn.gr (Y.rebase S).gr)) ?_;intro h g;replace S:=S.call g;clear g
 simp only [BS,LB,Nat.reduceLT,Nat.reduceEqDiff]
 have bu:=fun {c} (t:c∈_)=>S.key_lt (b:=c) t
 have a1:=S.fr.n
 refine step_ret (repI_ok S.ok (x:= -1) (.inr ⟨bt,0,none,1,rfl,Xo _,S.lds (b:=bt) (o:=0) (n:=1*1) m0 (lbt rfl)⟩) n1 (by omega)) ?_;intro v h ⟨g,ba,ea,na,Ra⟩;replace S:=S.call g;clear g
 subst ea
 replace S:=S.drop1
 replace S:=S.push (b:=ba) (o:=.row _ 1) (.inl (Xa a1 na)) Ra (fun w=>by have:=bu (Xr _ w);omega)
 have pp: ∃b,p=ptrTo b:=by obtain⟨b,_,_,e,_⟩:=H.ex;exact⟨b,e⟩
 obtain⟨bP,rfl⟩:=pp
 simp only [BS,LB,Nat.reduceLT,Nat.reduceEqDiff,Nat.reduceAdd,F9]
 refine ag tK S ?_;clear S;intro h G S cx
 simp only [BS,LB,Nat.reduceLT,Nat.reduceEqDiff,Nat.reduceAdd,Nat.reduceLeDiff,F9]
 refine ag (bU (by intro x e;cases e)) S ?_;clear S;intro h C S cz;simp only [ah]at S
 simp only [BS,F9]
 refine ag av S ?_;clear S;intro h I S cA
 simp only [BS,LB,Nat.reduceLT,Nat.reduceEqDiff]
 refine aw (ar S (i:=0) rfl ?_ ?_ ?_ ono) ?_
 . exact(by simp only [F9])
 . exact(by exact cP)
 . exact Xd (lbt rfl)
 clear S;rintro h ⟨S,mo⟩;clear mo;simp only [LC,ah,lay,Xf,Xg,Nat.reduceAdd]at S
 simp only [BS,LB,Nat.reduceLT,Nat.reduceEqDiff,F9,S.ld (b:=I) (o:=0) m0 rfl,S.ld (b:=C) (o:=0) m1 rfl]
 have d8: ∀c∈Fh,c≠W:=fun c t e=>dF c t (by rw [e];simp [keys])
 have c0:=Xa kn nd
 have c3:=Xa a1 na
 clear kl bu kF kn nd a1 na Ra Rd
 have HA:=H.mo S.fr dF
 have bv: ∀c∈Fh,c≠I/\c≠C/\c≠G/\c≠ba/\c≠bd/\c≠W:=fun c t=>by have:=lF c t;have:=d8 c t;omega
 replace S:=Y.rebase S
 clear Y dF lF d8 H a7 a8
 have T:=S.baseF Fh
 have nh:=S.fr.n
 have bb: ∀L,(∀c∈keys L [],c=I\/c=C\/c=G\/c=ba\/c=bd\/c=W)-> ∀c∈Fh,c∉keys L []:=fun L hL c t w=>by
  have:=bv c t
  have:=hL c w
  omega
 have ps:Ret zB 191 [ptrTo bP,.int .i64 (s:Nat),.int .i64 0] h _:=uD S.ok HA hs (by omega) rfl
 refine step_ret ps ?_
 rintro r Q ⟨f1,F1,H1,J⟩
 replace S:=S.rebaseF gF (T.stepF f1 (fun c t=>⟨.inl (.inr t),bb _ (fun c t=>by simpa [keys]using t) c t⟩))
 have P: ∀c∈F1,h0.n<=c/\c∉keys [(I,Ob.row [ptrTo C] 1),(C,.row [ptrTo bP,.slice (some ⟨bd,0,none⟩) l.nodes l.nodes,.slice (some ⟨ba,0,none⟩) l.nodes l.nodes,.slice none 0 0,.map (some G)] 1),(G,.map [] 0),(ba,.row (Xv l.nodes (.int .i64 (-1))) 1),(bd,.row (Xv l.nodes (.int .i64 72057594037927936)) 1),(W,.row [.slice none 0 0,.slice none 0 0,.slice none 0 0] 1)] []:=fun c t=>by
  rcases J c t with h2|h2
  . exact⟨(gF c h2).elim (fun h=>h) (fun h=>h.elim),bb _ (fun c t=>by simpa [keys]using t) c h2⟩
  . refine⟨Xa nh h2,fun w=>?_⟩
    have:=T.key_lt (b:=c) (by simpa [keys]using w)
    omega
 clear T bb bv hFn gF nF J HA f1
 replace S:=S.nilG (k:=1)
 have dj:=dj_init (B:=seen l.arcs fs ft) hs
 have bw:=H1.lt S.ok
 have S1:=S
 replace S:=S.baseF F1
 simp only [BS,LB,Nat.reduceLT,Nat.reduceEqDiff,F9,S.ld (b:=I) (o:=0) m0 rfl,S.ld (b:=C) (o:=0) m1 rfl]
 refine step_ret (uC S.ok H1 (by omega)) ?_
 rintro r h2 ⟨v,k,b,rfl,f2,H2,a2,a3⟩
 replace S:=S.stepF f2 (fun c t=>⟨.inl (.inr t),fun w=>(P c t).2 (by simpa [keys,fu]using w)⟩)
 simp only [BS,LB,Nat.reduceLT,Nat.reduceEqDiff,F9]
 have S2:=S
 replace S:=S.base
 refine ag av S ?_;clear S;intro h bk S cN
 simp only [BS,LB,Nat.reduceLT,Nat.reduceEqDiff]
 refine aw (ar S (i:=0) rfl ?_ ?_ ?_ ono) ?_
 . exact(by simp only [F9])
 . exact(by exact cg)
 . exact Xd (lbt rfl)
 clear S;rintro h ⟨S,mo⟩;clear mo;simp only [LC,ah,lay,Xf,Xg,Nat.reduceAdd]at S
 simp only [BS,LB,Nat.reduceLT,Nat.reduceEqDiff]
 have H3:=H2.mo S.fr (fun c t w=>(P c t).2 (by simpa [keys,fu]using w))
 refine qO (FloodI h0 (seen l.arcs fs ft) s l.nodes I C G ba bd W bP bp gN gE) (fun O=>l.nodes-O.length) ?_ [] _ _ _ ?_
 . clear S S1 S2 H3 a2 a3 H2 f2 H1 dj P bw ps
   intro O ih ρ d hS ⟨dbs,D,K,F,es,c,f,aL,vO,bk,v,key,b,hd,Y,Z,lA,MI,CF,dj,H,a2,a3,r0,r2,r3,r8,r9,r10,r11,r12⟩
   simp only [List.cons_append,List.nil_append]at Y Z
   have S:=Y.base
   cases b with
   | false=>
     simp only [BS,LB,Nat.reduceLT,Nat.reduceEqDiff,F9,r8,r9,r12,S.ld (b:=I) (o:=0) m1 rfl,S.lds (b:=C) (o:=1) (n:=3) m2 (lbt rfl)]
     have be:Fl vO:=by
      rcases(Y.gown _ m0).1 with⟨e,_⟩|⟨_,_,e,_⟩
      . rw [show vO=_ from e];exact cd
      . rw [show vO=_ from e];exact cd
     refine aw (S.store (i:=6) rfl Tryz.t218.2.1 (by intro x e;cases e) rfl (by simp only [ah,List.drop_succ_cons,Xz,List.take_succ_cons,List.take_zero,XI,XP,be.2.1,Xm];rfl) (lbt rfl) ono) ?_
     clear S;rintro h ⟨S,_⟩
     simp only [LC,ah,lay,Xf,Xg,Nat.reduceAdd]at S
     simp only [BS]
     replace S:=(Y.rebase S).permL (L':=dm dbs++[(bk,_),(I,_),(C,_),(G,_),(ba,_),(bd,_),(W,_)]) XT
     subst hd
     refine fH (fW dbs _ S fun h' S'=>?_)
     have lT:=S'.lds (b:=W) (o:=0) (n:=3) m6 (lbt rfl)
     refine⟨rfl,_,uq (by decide) (by simp only [aT,r8,ac,Nat.reduceEqDiff,reduceIte];exact gu Tryz.t218.1 Tryz.t218.2.1 lT),S'.gr,?_⟩
     refine⟨_,_,_,D,aL,O,rfl,?_,?_,?_,lA,dj.done (a3 rfl) n2,?_,dj.nd,dj.lt⟩
     . refine .inr ⟨bd,0,none,l.nodes,by rw [Xi,XA],by rw [Xi,XA];exact Xo _,?_⟩
       have:=(S'.row (b:=bd) m5).load (o:=0) (n:=((zM l.nodes).map D).length*1) (by rw [p9];omega)
       rw [this,Xz,XS (by rw [p9];omega)];rfl
     . refine .inr ⟨ba,0,none,l.nodes,by rw [lA],by rw [lA];exact Xo _,?_⟩
       have:=(S'.row (b:=ba) m4).load (o:=0) (n:=aL.length*1) (by rw [bQ];omega)
       rw [this,Xz,XS (by rw [bQ];omega)];rfl
     . exact(S'.gown _ m0).1.sl rfl iq (by decide)
     . rintro c (h|h|h)
       . have h:bd=c:=h
         subst h;exact((S'.own _ m5).1).elim (fun h=>h) (fun h=>h.elim)
       . have h:ba=c:=h
         subst h;exact((S'.own _ m4).1).elim (fun h=>h) (fun h=>h.elim)
       . exact((S'.gblk m0 h).1).elim (fun h=>h) (fun h=>h.elim)
   | true =>
     simp only [if_true]at H
     obtain⟨hk,bx⟩:=a2 rfl
     obtain⟨_,n,rfl,_,_⟩:=dj.i3 v key hk
     obtain⟨cb,cc,bf,c4⟩:=dj.pop hk bx
     have lk:=tS (x:=(v:Int)) Tryz.t213.1 Tryz.t3.1 (z:=.int .i64 0) (by kernel_rfl) (show hS.get G=some (.map es c)from(S.own _ m3).2) MI
     rw [CF v,if_neg cc,Option.getD_none]at lk
     have w1:am .i64 1=1:=rfl
     simp only [BS,LB,Nat.reduceLT,Nat.reduceEqDiff,Int.reduceAdd,F9,r9,r10,r12,lk,w1,S.ld (b:=I) (o:=0) m1 rfl,S.ld (b:=C) (o:=4) m2 rfl]
     refine aw (S.mputI (i:=3) rfl Tryz.t213.1 Tryz.t3.1 MI _) ?_
     clear S;rintro h ⟨_,R,c',bB,S⟩
     simp only [LC]at S
     simp only [BS]
     refine au (ax rfl) (q:=0) (ps:=[]) (by kernel_rfl) ?_
     simp only [BS,LB,cls,Nat.reduceLT,Nat.reduceEqDiff,Nat.reduceAdd,Nat.reducePow,Nat.reduceDiv,Nat.reduceMod,Nat.reduceLeDiff,F9,r9,r10,r11,bf,S.ld (b:=I) (o:=0) m1 rfl,S.ld (b:=C) (o:=1) m2 rfl,S.ld (b:=bk) (o:=0) m0 rfl]
     refine d9 (ar S (i:=5) rfl Tryz.t2.2.2.1 cg (by rw [p9,Xi,XA];exact bf) ono) ?_
     clear S;rintro h ⟨S,_⟩
     simp only [LC]at S
     have eD:(eE ((zM l.nodes).map D)).set v (.int .i64 (n:Nat))=eE ((zM l.nodes).map fun u=>if u=v then n else D u):=by
      rw [lg,lg,XX,XX]
      have:=kA (N:=l.nodes) (k:=v) (F:=(fun(x:Nat)=>Value.int .i64 x)∘D) (F':=(fun(x:Nat)=>Value.int .i64 x)∘fun u=>if u=v then n else D u) (fun u _ hu=>by simp [hu])
      rw [<-this];simp
     rw [eD]at S
     simp only [BS,LB,Nat.reduceAdd]
     refine au (ax rfl) (q:=128) (ps:=[(0,8)]) (by kernel_rfl) ?_
     simp only [BS,LB,cls,Nat.reduceLT,Nat.reduceEqDiff,Nat.reduceAdd,Nat.reducePow,Nat.reduceDiv,Nat.reduceMod,Nat.reduceLeDiff,F9,r9,r10,S.ld (b:=I) (o:=0) m1 rfl,S.ld (b:=C) (o:=3) m2 rfl]
     refine ec (bj (by exact Tryz.t38.1) (by exact XO) (by decide) (by rfl)) S ?_;clear S;intro h bs S cQ cT;simp only [LC,aU,bA,ah,Nat.reduceMul,Nat.reduceAdd,Xp,Xl,Xn,Xt]at S
     simp only [BS,LB,cls,Nat.reduceLT,Nat.reduceEqDiff,Nat.reduceAdd,Nat.reducePow,Nat.reduceDiv,Nat.reduceMod,Nat.reduceLeDiff]
     have bI:aA h 1 (.slice (some ⟨bs,0,none⟩) 1 1)=some (1,eE [v]):=by simp only [aA];rw [S.lds (b:=bs) (o:=0) (n:=1*1) m0 (lbt rfl)];rfl
     replace S:=S.drop1
     refine jx (S.grow (j:=0) (m:=1) (new:=eE [v]) rfl Tryz.t38.1 XO (by decide) Tryz.t38.2.2.2.2.2 bI rfl (by decide) rfl (by rw [p9,p9];have:=dj.len;simp;omega)) ?_
     clear S bI;rintro h A S
     simp only [LC,<-nats_app]at S
     have be:Fl A:=by
      rcases(S.gown _ m0).1 with⟨e,_⟩|⟨_,_,e,_⟩
      . rw [show A=_ from e];exact cd
      . rw [show A=_ from e];exact cd
     simp only [BS,LB,cls,Nat.reduceLT,Nat.reduceEqDiff,Nat.reduceAdd,Nat.reducePow,Nat.reduceDiv,Nat.reduceMod,Nat.reduceLeDiff,F9]
     refine d9 (ar S (i:=2) rfl Tryz.t38.2.2.1 be (Xd (lbt rfl)) ono) ?_
     clear S;rintro h ⟨S,_⟩
     simp only [LC]at S
     simp only [BS,LB,Nat.reduceLT,Nat.reduceEqDiff,Nat.reduceAdd,r0,r2,r10]
     have pv:vO=.slice none 0 0\/ ∃c n,vO=.slice (some ⟨c,0,some 1⟩) n n/\c≠I:=by
      rcases(Y.gown _ m0).1 with⟨e,_⟩|⟨c,n,e,_⟩
      . exact .inl e
      . refine .inr ⟨c,n,e,fun h=>?_⟩
        exact(Y.gblk (c:=c) m0 (by rw [show vO=_ from e];rfl)).2 (by subst h;exact List.mem_map_of_mem (f:=Prod.fst) m1)
     refine⟨?_,?_⟩
     . clear ih
       rcases pv with rfl|⟨cO,nO,rfl,bL⟩
       . simp only [aX,bo,aS,bD,aV,ne_eq,not_false_eq_true,bC,bR,aZ,aW,bZ,cu,aT,Nat.reduceLT,Nat.reduceEqDiff,reduceIte,Xm,r9,ac,rz,sI,pair_x,Ak,px]
       . simp only [aX,bo,aS,bD,aV,ne_eq,not_false_eq_true,bC,bR,aZ,aW,bZ,cu,aT,Nat.reduceLT,Nat.reduceEqDiff,reduceIte,Xm,r9,ac,rz,sI,ja bL,ja bL.symm]
     have kO: ∀c∈keys ((bk,Ob.row [.int .i64 (n:Nat)] 1)::(I,.row [ptrTo C] 1)::(C,.row [ptrTo bP,.slice (some ⟨bd,0,none⟩) l.nodes l.nodes,.slice (some ⟨ba,0,none⟩) l.nodes l.nodes,vO,.map (some G)] 1)::(G,.map es c)::(ba,.row (ints aL) 1)::(bd,.row (eE ((zM l.nodes).map D)) 1)::(W,.row [.slice none 0 0,.slice none 0 0,.slice none 0 0] 1)::dm dbs) [(vO,1,eE O)],c<hS.n:=fun c t=>Y.key_lt t
     have kS:=fun {c} t=>S.key_lt (b:=c) t
     have c5:=(Y.rebase S).gr.n
     refine step_ret (hN _ nb S.ok (hn.gr (Y.rebase S).gr) v bf) ?_
     rintro vl h ⟨g,sl,bT⟩
     have kn:=S.fr.n
     have gn:=g.n
     replace S:=S.call g;clear g
     simp only [BS,LB,Nat.reduceLT,Nat.reduceEqDiff,r3]
     have a1:=S.fr.n
     have c7:=fun {c} t=>sl.lt S.ok (b:=c) t
     refine step_ret (arcs_ok' S.ok cP sl.fl ic) ?_;intro v h ⟨g,b1,b2,b3,e,q1,q2,q3,y1,y2,y3⟩;replace S:=S.call g;replace sl:=sl.gr g;clear g
     subst e
     simp only [BS]
     have hH:=H.mo S.fr (fun c t w=>(Z c t).2 w)
     have bX:=H.lt Y.ok
     refine jm S (g:=223) (a:=#[]) (b:=#[ptrTo b1,ptrTo b2,ptrTo b3]) (by simp [bZ,aa,ac]) rfl rfl ?_
     intro h2 db lb S' c8 c9 g2
     have R1:=Y.rebase S'
     obtain⟨X,hX,R1⟩: ∃X:gm,X=_/\St NoM h0 h2 ((lb,.loop X)::(db,.dfr)::(bk,Ob.row [.int .i64 (n:Nat)] 1)::(I,.row [ptrTo C] 1)::(C,.row [ptrTo bP,.slice (some ⟨bd,0,none⟩) l.nodes l.nodes,.slice (some ⟨ba,0,none⟩) l.nodes l.nodes,A,.map (some G)] 1)::(G,.map R c')::(ba,.row (ints aL) 1)::(bd,.row (eE ((zM l.nodes).map fun u=>if u=v then n else D u)) 1)::(W,.row [.slice none 0 0,.slice none 0 0,.slice none 0 0] 1)::dm dbs) [(A,1,eE (O++[v]))]:=⟨_,rfl,R1⟩
     have bY:ClF (O++[v]) (dY f (v:Int) (some (.int .i64 1))):=fun u=>by
      unfold dY
      by_cases e:u=v
      . subst e;simp
      . have e': ¬((u:Int)=(v:Int)):=by omega
        rw [if_neg e',CF u]
        simp [e]
     have hJ :Yld zB lb (fun k h' F'=> ∃K' Fh E,St NoM h0 h' ((lb,.loop X)::(db,.dfr)::(bk,Ob.row [.int .i64 (n:Nat)] 1)::(I,.row [ptrTo C] 1)::(C,.row [ptrTo bP,.slice (some ⟨bd,0,none⟩) l.nodes l.nodes,.slice (some ⟨ba,0,none⟩) l.nodes l.nodes,A,.map (some G)] 1)::(G,.map R c')::(ba,.row (ints E) 1)::(bd,.row (eE ((zM l.nodes).map fun u=>if u=v then n else D u)) 1)::(W,.row [.slice none 0 0,.slice none 0 0,.slice none 0 0] 1)::dm dbs) [(A,1,eE (O++[v]))]/\
      dS h' Fh (ptrTo bP) l.nodes K'/\(∀c∈Fh,h0.n<=c/\c∉keys ((lb,.loop X)::(db,.dfr)::(bk,Ob.row [.int .i64 (n:Nat)] 1)::(I,.row [ptrTo C] 1)::(C,.row [ptrTo bP,.slice (some ⟨bd,0,none⟩) l.nodes l.nodes,.slice (some ⟨ba,0,none⟩) l.nodes l.nodes,A,.map (some G)] 1)::(G,.map R c')::(ba,.row (ints E) 1)::(bd,.row (eE ((zM l.nodes).map fun u=>if u=v then n else D u)) 1)::(W,.row [.slice none 0 0,.slice none 0 0,.slice none 0 0] 1)::dm dbs) [(A,1,eE (O++[v]))])/\
      E.length=l.nodes/\Dj (seen l.arcs fs ft) s l.nodes (O++[v]) (fun u=>if u=v then n else D u) K' (fun a=> ∃id∈(outs l.arcs fs l.arcs.length v).drop k,(seen l.arcs fs ft).getD id default=a)/\
      F'=keys ((lb,.loop X)::(db,.dfr)::(bk,Ob.row [.int .i64 (n:Nat)] 1)::(I,.row [ptrTo C] 1)::(C,.row [ptrTo bP,.slice (some ⟨bd,0,none⟩) l.nodes l.nodes,.slice (some ⟨ba,0,none⟩) l.nodes l.nodes,A,.map (some G)] 1)::(G,.map R c')::(ba,.row (ints E) 1)::(bd,.row (eE ((zM l.nodes).map fun u=>if u=v then n else D u)) 1)::(W,.row [.slice none 0 0,.slice none 0 0,.slice none 0 0] 1)::dm dbs) [(A,1,eE (O++[v]))]++Fh) (fun _ _=>False) (pg l.arcs ft (outs l.arcs fs l.arcs.length v)):=by
      clear ih S' R1 y1 y2 y3 hH S g2 H Z sl
      refine⟨?_,?_,fun _ _ h=>h.elim,?_⟩
      . rintro k h F' ⟨K',Fh,E,S,H,Z,_,_,rfl⟩
        exact⟨S.ok,fun b hb=>(List.mem_append.1 hb).elim (fun hb=>S.key_lt hb) (fun hb=>H.lt S.ok b hb)⟩
      . rintro k h F' h' ⟨K',Fh,E,S,H,q⟩ g
        exact⟨K',Fh,E,S.call g,H.gr g,q⟩
      . rintro k x h F' hx ⟨K',Fh,E,S,H,Z,bh,U,rfl⟩
        have bi:k<(outs l.arcs fs l.arcs.length v).length:=by
         have:=(List.getElem?_eq_some_iff.1 hx).1
         simpa [pg]using this
        unfold pg at hx
        rw [Xh,Xc bi]at hx
        cases hx
        have w:=rR.1 (Xe bi)
        rw [XN bi]at U
        generalize(outs l.arcs fs l.arcs.length v)[k]=id at w U
        obtain⟨ad,bl⟩:=w
        subst hX
        refine jn (S.get m0) (by rw [Tryz.e138];rfl) rfl ?_
        have S1:=S
        replace S:=S.base
        simp only [BS,LB,Nat.reduceLT,Nat.reduceEqDiff,F9]
        refine ag av S ?_;clear S;intro h b0 S cf
        simp only [BS,LB,Nat.reduceLT,Nat.reduceEqDiff,Xy,cD]
        refine aw (S.store (i:=0) rfl ?_ ?_ rfl rfl ?_ ono) ?_
        . exact(by exact Tryz.t90.2.1)
        . exact(by intro x e;cases e)
        . exact lbt rfl
        clear S;rintro h ⟨S,mo⟩;clear mo;simp only [LC,ah,lay,Xf,Xg,Nat.reduceAdd]at S
        simp only [BS]
        refine iN S (i:=1) rfl rfl rfl rfl rfl ?_
        clear S;intro h S
        simp only [LC]at S
        have af:l.arcs.getD id default∈l.arcs:=by rw [zO,Xc ad];exact Xe ad
        have dd:=a0.arcs _ af
        have de:O.length*WMAX<=12*WMAX:=Nat.mul_le_mul_right _ (Xa dj.len n2)
        have cW:=WMAX_eq
        have wn:am .i64 ((n:Int)+((l.arcs.getD id default).w:Int))=((n+(l.arcs.getD id default).w:Nat):Int):=by rw [wrap64]<;>omega
        simp only [BS,LB,Nat.reduceLT,Nat.reduceEqDiff,F9,r9,r11,wn,S.ld (b:=I) (o:=0) m4 rfl,S.ld (b:=b0) (o:=1) m0 rfl,S.ld (b:=b0) (o:=2) m0 rfl,S.ld (b:=bk) (o:=0) m3 rfl]
        have hH:=H.mo S.fr (fun c t w=>(Z c t).2 w)
        have b4:=H.lt S1.ok
        have d3:C≠ba:=fun e=>by
         have ap:=S1.apart
         subst e
         simp only [keys,XJ,List.cons_append,List.nodup_cons,XK]at ap
         exact ap.2.2.2.2.1 (.inr (.inl trivial))
        replace S:=S.mono (M':=fun c=>c∈keys _ _\/c∈Fh) (fun _ h=>.inl h)
        refine step_ret (reach_ok S.ok (arc:=id) (far:=n+(l.arcs.getD id default).w) (S.row m5) hH (by omega) (S.own _ m6).2 bB bY (S.row m7) bh (bm _ af) (fun h=>(Z ba h).2 (by simp [keys])) (fun h=>(Z C h).2 (by simp [keys])) d3) ?_
        rintro r h ⟨f1,F2,ch,H2,ai,cl,cm,df⟩
        have kq:=fun {c} t=>S.key_lt (b:=c) t
        have qn:=S.fr.n
        have S2:=S.callF (i:=7) (Fh:=Fh) rfl f1 (fun c t=>⟨.inl (.inr t),fun w=>by
         rcases List.mem_cons.1 w with e|w
         . have:=b4 c t;omega
         . exact(Z c t).2 w⟩) (o':=.row _ 1) cl
        simp only [XF,List.set_cons_succ]at S2
        clear S
        simp only [BS]
        have S:=S2.base
        refine fk S (i:=1) rfl ?_
        clear S;intro h S
        simp only [LC]at S
        have H3:=H2.mo S.fr (fun c t w=>by
         rcases ai c t with Q|Q
         . rcases List.mem_cons.1 w with e|w
           . have:=b4 c Q;omega
           . exact(Z c Q).2 w
         . have:=kq w;omega)
        have S3:=S2.rebase S
        refine .inl ⟨rfl,_,⟨_,F2,ch,S1.rebaseF (fun c t=>.inl (Z c t).1) S3.drop1,H3,fun c t=>?_,cm,?_,rfl⟩,S3.fr.mono (fun c t=>List.mem_append.2 t),fun c t=>?_⟩
        . rcases ai c t with Q|Q
          . exact Z c Q
          . refine⟨Xa S1.fr.n (Xa qn Q),fun w=>?_⟩
            have:=kq (Xr _ w)
            omega
        . obtain⟨e1,e2⟩:=seen_at (fs:=fs) (ft:=ft) ad
          have:=U.relaxed (ex':=fun a=> ∃cn∈(outs l.arcs fs l.arcs.length v).drop (k+1),(seen l.arcs fs ft).getD cn default=a) e2 (by rw [e1];show fs _∈_;rw [bl];simp) (by rw [e1];exact bm _ af) (by rw [e1];simp only [bl,if_true];rw [XG,List.length_singleton,Nat.succ_mul];omega) (fun b hb hx=>by
           by_cases eb:b=(seen l.arcs fs ft).getD id default
           . exact .inr eb
           . left
             rintro⟨i,hi,rfl⟩
             rcases List.mem_cons.1 hi with e|hi
             . subst e;exact eb rfl
             . exact hx ⟨i,hi,rfl⟩)
          simp only [e1,bl,if_true]at this
          exact this
        . rcases List.mem_append.1 t with t|t
          . exact .inl (List.mem_append_left _ t)
          . rcases ai c t with Q|Q
            . exact .inl (XU _ Q)
            . exact .inr (Xa qn Q)
     have ak:=(Y.rebase S).gr
     have cX:=qk l.arcs fs l.arcs.length v
     have dn:=a0.many
     refine eJ (iter_useN (arcs_it (hq:=h0) ok S.ok ak.keep ak.n hn sl (fun id ad=>(rR.1 ad).1) (by omega) hE y1 y2 y3) (fun _ _ h=>h) hJ (h:=h2) (F:=keys ((lb,.loop X)::(db,.dfr)::(bk,Ob.row [.int .i64 (n:Nat)] 1)::(I,.row [ptrTo C] 1)::(C,.row [ptrTo bP,.slice (some ⟨bd,0,none⟩) l.nodes l.nodes,.slice (some ⟨ba,0,none⟩) l.nodes l.nodes,A,.map (some G)] 1)::(G,.map R c')::(ba,.row (ints aL) 1)::(bd,.row (eE ((zM l.nodes).map fun u=>if u=v then n else D u)) 1)::(W,.row [.slice none 0 0,.slice none 0 0,.slice none 0 0] 1)::dm dbs) [(A,1,eE (O++[v]))]++F) g2.fr (fun b hb hlt=>?_)
      ⟨eQ K v none,F,aL,R1,hH.gr g2,fun c t=>⟨(Z c t).1,fun w=>?_⟩,lA,cb.exm (fun a ha hs=>?_),rfl⟩) fun o rc h' y=>lS y ?_
     . rcases List.mem_append.1 hb with V|V
       . have k2:=(R1.key_own V).elim (fun h=>h) (fun h=>h.elim)
         rcases List.mem_cons.1 V with e|V
         . simp only []at e;omega
         . rcases List.mem_cons.1 V with e|V
           . simp only []at e;omega
           . have k1:=kS V
             rintro(h|h|h|h|h)
             . omega
             . omega
             . omega
             . have:=bT b h;omega
             . omega
       . have k1:=bX b V
         have k2:=(Z b V).1
         rintro(h|h|h|h|h)
         . omega
         . omega
         . omega
         . have:=bT b h;omega
         . omega
     . have k1:=bX c t
       have dr:=S.fr.n
       rcases List.mem_cons.1 w with e|w
       . simp only []at e;omega
       . rcases List.mem_cons.1 w with e|w
         . simp only []at e;omega
         . rcases S.key_own w with Q|Q
           . omega
           . exact(Z c t).2 Q
     . obtain⟨i,hi,e⟩:=seen_mem ha
       refine⟨i,?_,e⟩
       rw [Xz]
       refine rR.2 ⟨hi,?_⟩
       have:=(seen_at (fs:=fs) (ft:=ft) hi).1
       rw [e]at this
       rw [this]at hs
       exact hs
     . rintro Fx ⟨K',a4,E,T,H',J,bh,U,rfl⟩
       clear hJ R1 y1 y2 y3 hH S' S
       rw [show(pg l.arcs ft (outs l.arcs fs l.arcs.length v)).length=(outs l.arcs fs l.arcs.length v).length by simp [pg],List.drop_length]at U
       replace U:=U.exm (ex':=fun _=>False) (fun a _ h=>by obtain⟨i,hi,_⟩:=h;cases hi)
       subst hX
       refine⟨_,T.get m0,Xx,?_⟩
       have ai: ∀c∈a4,c≠lb:=fun c t e=>(J c t).2 (by rw [e];exact m0)
       have H2:=H'.mo ((Mo.refl (M:=(· =lb)) T.ok).put (.inr rfl) .dead) ai
       replace T:=T.dead
       replace J:=fun c t=>And.intro (J c t).1 (fun w=>(J c t).2 (Xr _ w))
       have S:=T.base
       show Run _ _ _ _ _ _ _ _
       simp only [BS,Nat.reduceLT,Nat.reduceEqDiff,if_false,F9,r11,S.ld (b:=bk) (o:=0) m1 rfl]
       refine ag av S ?_;clear S;intro h a5 S cp
       simp only [BS,LB,Nat.reduceLT,Nat.reduceEqDiff,r11]
       refine aw (ar S (i:=0) rfl ?_ ?_ ?_ ono) ?_
       . exact(by simp only [F9])
       . exact(by exact cg)
       . exact Xd (lbt rfl)
       clear S;rintro h ⟨S,mo⟩;clear mo;simp only [LC,ah,lay,Xf,Xg,Nat.reduceAdd]at S
       simp only [BS,LB,Nat.reduceLT,Nat.reduceEqDiff,F9,r9,S.ld (b:=I) (o:=0) m3 rfl,S.ld (b:=C) (o:=0) m4 rfl]
       have H3:=H2.mo S.fr (fun c t w=>(J c t).2 w)
       have cr:=H2.lt T.ok
       have a6: ∀c∈a4,h0.n<=c/\c∉keys ([(a5,Ob.row [.int .i64 (n:Nat)] 1),(I,.row [ptrTo C] 1),(C,.row [ptrTo bP,.slice (some ⟨bd,0,none⟩) l.nodes l.nodes,.slice (some ⟨ba,0,none⟩) l.nodes l.nodes,A,.map (some G)] 1),(G,.map R c'),(ba,.row (ints E) 1),(bd,.row (eE ((zM l.nodes).map fun u=>if u=v then n else D u)) 1),(W,.row [.slice none 0 0,.slice none 0 0,.slice none 0 0] 1)]++dm (db::dbs)) [(A,1,eE (O++[v]))]:=fun c t=>by
        refine⟨(J c t).1,fun w=>?_⟩
        have Q:=(J c t).2
        have h2:=cr c t
        simp [keys,dm]at w
        rcases w with h|h|h|h|h|h|h|h|h|h
        . omega
        all_goals exact Q (by simp [keys,dm,h])
       replace S:=(T.rebase S).sub (L':=(a5,Ob.row [.int .i64 (n:Nat)] 1)::(db,.dfr)::(I,.row [ptrTo C] 1)::(C,.row [ptrTo bP,.slice (some ⟨bd,0,none⟩) l.nodes l.nodes,.slice (some ⟨ba,0,none⟩) l.nodes l.nodes,A,.map (some G)] 1)::(G,.map R c')::(ba,.row (ints E) 1)::(bd,.row (eE ((zM l.nodes).map fun u=>if u=v then n else D u)) 1)::(W,.row [.slice none 0 0,.slice none 0 0,.slice none 0 0] 1)::dm dbs) (G':=[(A,1,eE (O++[v]))]) (.cons_cons _ (.cons_cons _ (List.sublist_cons_self _ _))) (List.Sublist.refl _)
       replace S:=S.permL (L':=[(a5,Ob.row [.int .i64 (n:Nat)] 1),(I,.row [ptrTo C] 1),(C,.row [ptrTo bP,.slice (some ⟨bd,0,none⟩) l.nodes l.nodes,.slice (some ⟨ba,0,none⟩) l.nodes l.nodes,A,.map (some G)] 1),(G,.map R c'),(ba,.row (ints E) 1),(bd,.row (eE ((zM l.nodes).map fun u=>if u=v then n else D u)) 1),(W,.row [.slice none 0 0,.slice none 0 0,.slice none 0 0] 1)]++dm (db::dbs)) (.cons _ (by
        show(List.append [_,_,_,_,_,_] ((db,Ob.dfr)::dm dbs)).Perm _
        exact List.perm_middle))
       clear T H' H2 J
       have T:=S.baseF a4
       refine step_ret (uC S.ok H3 (by omega)) ?_
       rintro rr h3 ⟨v3,k3,cs,rfl,f3,H4,b5,b6⟩
       replace S:=S.rebaseF (fun c t=>.inl (a6 c t).1) (T.stepF f3 (fun c t=>⟨.inl (.inr t),(a6 c t).2⟩))
       simp only [BS,LB,Nat.reduceLT,Nat.reduceEqDiff,r11]
       clear T
       have T:=S
       replace S:=S.base
       simp only [LC]at S
       refine aw (ar S (i:=0) rfl ?_ ?_ ?_ ono) ?_
       . exact(by simp only [F9])
       . exact(by exact cg)
       . exact Xd (lbt rfl)
       clear S;rintro h ⟨S,mo⟩;clear mo;simp only [LC,ah,lay,Xf,Xg,Nat.reduceAdd]at S
       simp only [BS,LB,Nat.reduceLT,Nat.reduceEqDiff]
       have H5:=H4.mo S.fr (fun c t w=>(a6 c t).2 w)
       replace S:=T.rebase S
       subst hd
       have ds:(O++[v]).length=O.length+1:=by simp
       have cY:=U.len
       refine ih (O++[v]) _ _ _ (by omega) ⟨db::dbs,_,K',a4,R,c',_,E,A,a5,v3,k3,cs,rfl,S,a6,bh,bB,bY,U,H5,b5,b6,?_⟩
       refine⟨by simp [aa,r0,ac],by simp [aa,r2,ac],by simp [aa,r3,ac],by simp [aa,r8,ac],by simp [aa,r9,ac],by simp [aa],by simp [aa,ac],by simp [aa]⟩
 . have e1:eE ((zM l.nodes).map fun _=>FAR)=Xv l.nodes (.int .i64 72057594037927936):=by
    rw [lg,List.map_const',XA,List.map_replicate];rfl
   have e2:ints (Xv l.nodes (-1))=Xv l.nodes (.int .i64 (-1)):=by
    rw [ints_map,List.map_replicate]
   have S3:=S1.rebaseF (fun c t=>.inl (P c t).1) (S2.rebase S)
   have nn:=S2.fr.n
   refine⟨[],fun _=>FAR,eQ (fun _=>none) s (some 0),F1,[],0,fun _=>none,Xv l.nodes (-1),.slice none 0 0,bk,v,k,b,rfl,?_,?_,by simp,uW,fun u=>by simp,dj,H3,a2,a3,?_⟩
   . rw [e1,e2];exact S3
   . rw [e1,e2]
     intro c t
     refine⟨(P c t).1,fun w=>?_⟩
     have Q:=(P c t).2
     have h2:=bw c t
     simp [keys,fu,dm]at w Q
     omega
   . refine⟨by simp [aa,ac,aG,bK],by simp [aa,ac,aG,bK],by simp [aa,ac,aG,bK],by simp [aa,ac,aG,bK],by simp [aa,ac,aG,bK],by simp [aa,ac,aG,bK],by simp [aa,ac,aG,bK],by simp [aa,ac,aG,bK]⟩
def Tryz.F1B:=aj t1<|aj t2<|aj t3<|Z4
def Tryz.F1C:=aj t1<|aj t2<|aj t3<|Z4
def Tryz.F1D:=aj t1<|aj t2<|aj t3<|aj t23<|aj Z1<|aj t38<|aj t67<|aj t162<|aj Z3<|aj t209<|aj Z20<|t220
def Tryz.F1E:=aj t1<|aj t2<|aj t3<|aj t23<|aj Z1<|aj t38<|aj t67<|aj t162<|aj Z3<|aj t209<|aj Z20<|t220
theorem fromKey:KeyF zB 142 Arc.t:=by
 intro f a c
 have S:=Si c
 refine ab (n:=5) (rs:=[.tmp 2]) rfl Tryz.e142 rfl rfl rfl (lbt rfl) ?_
 simp only [BS,Nat.reduceLT,cD]
 refine ag (bU (by intro x e;cases e)) S ?_;clear S;intro h b S d;simp only [ah]at S
 simp only [BS,LB,ae,Nat.reduceLT,Nat.reduceEqDiff,F1B,S.ld (b:=b) (o:=1) m0 rfl]
 exact S.gr
theorem toKey:KeyF zB 140 Arc.s:=by
 intro f a c
 have S:=Si c
 refine ab (n:=5) (rs:=[.tmp 2]) rfl Tryz.e140 rfl rfl rfl (lbt rfl) ?_
 simp only [BS,Nat.reduceLT,cD]
 refine ag (bU (by intro x e;cases e)) S ?_;clear S;intro h b S d;simp only [ah]at S
 simp only [BS,LB,ae,Nat.reduceLT,Nat.reduceEqDiff,F1C,S.ld (b:=b) (o:=0) m0 rfl]
 exact S.gr
theorem fromNext{b:Gra}(a:Good b){c:Value}:NextF zB 141 b c Arc.s:=fun h g d e v f=>netOut_ok d e (by have:=a.many;omega) f
theorem toNext{b:Gra}(a:Good b){c:Value}:NextF zB 139 b c Arc.t:=fun h g d e v f=>A8 d e (by have:=a.many;omega) f
theorem s9{j:Hp}(E:j.t.Sized j.n){k:Gra}(f:Good k){q:Value}{F:Nat}(G:bW j F q k){s:Nat}(H:s<k.nodes):
 Ret zB 72 [q,.int .i64 s] j fun r t=>Gr j t/\xw t j.n r (seen k.arcs Arc.s Arc.t) s k.nodes:=by
 have S:=Si E
 refine ab (n:=10) (rs:=[.cell 4 218]) rfl Tryz.e72 rfl rfl rfl (lbt rfl) ?_
 simp only [BS,F1D]
 refine ag av S ?_;clear S;intro h l S u
 simp only [BS,LB,Nat.reduceLT,Nat.reduceEqDiff]
 have I:=S.fr.n
 have J:=(S.row (b:=l) m0).lt S.ok
 refine step_ret (Am S.ok f (G.gr S.gr) H (fromNext f) fromKey (fun a K=>(f.arcs a K).2.1)) ?_;intro v h ⟨g,T⟩;replace S:=S.call g;clear g
 obtain⟨w,y,z,D,L,O,rfl,A,B,C,t4,t5,t6,t7,t8⟩:=T
 have M:=A.fl
 have N:=B.fl
 have P:=C.fl
 have m: ∀c,aq w c\/aq y c\/aq z c->c≠l:=fun c d e=>by have:=t6 c d;omega
 simp only [BS,LB,Nat.reduceLT,Nat.reduceEqDiff]
 refine aw (S.store (i:=0) rfl Tryz.t218.2.1 (by intro x e;cases e) rfl (by simp only [ah,XI,XP,M.2.1,N.2.1,P.2.1,Xm]) (lbt rfl) ono) ?_
 clear S;rintro h ⟨S,p⟩
 simp only [LC,ah,lay,Xf,Xg,Nat.reduceAdd]at S
 simp only [BS,ae]
 refine(gf (by decide) (by simp only [aT,ac,Nat.reduceEqDiff,reduceIte];exact gu Tryz.t218.1 Tryz.t218.2.1 (S.lds (b:=l) (o:=0) (n:=3) m0 (lbt rfl)))).2 (ib.2 ?_)
 exact⟨S.gr,w,y,z,D,L,O,rfl,A.mo p (fun c d=>m c (.inl d)),B.mo p (fun c d=>m c (.inr (.inl d))),C.mo p (fun c d=>m c (.inr (.inr d))),t4,t5,fun c d=>Xa I (t6 c d),t7,t8⟩
theorem sa{j:Hp}(E:j.t.Sized j.n){k:Gra}(f:Good k){q:Value}{F:Nat}(G:bW j F q k){s:Nat}(H:s<k.nodes):
 Ret zB 71 [q,.int .i64 s] j fun r t=>Gr j t/\xw t j.n r (seen k.arcs Arc.t Arc.s) s k.nodes:=by
 have S:=Si E
 refine ab (n:=10) (rs:=[.cell 4 218]) rfl Tryz.e71 rfl rfl rfl (lbt rfl) ?_
 simp only [BS,F1E]
 refine ag av S ?_;clear S;intro h l S u
 simp only [BS,LB,Nat.reduceLT,Nat.reduceEqDiff]
 have I:=S.fr.n
 have J:=(S.row (b:=l) m0).lt S.ok
 refine step_ret (Am S.ok f (G.gr S.gr) H (toNext f) toKey (fun a K=>(f.arcs a K).1)) ?_;intro v h ⟨g,T⟩;replace S:=S.call g;clear g
 obtain⟨w,y,z,D,L,O,rfl,A,B,C,t4,t5,t6,t7,t8⟩:=T
 have M:=A.fl
 have N:=B.fl
 have P:=C.fl
 have m: ∀c,aq w c\/aq y c\/aq z c->c≠l:=fun c d e=>by have:=t6 c d;omega
 simp only [BS,LB,Nat.reduceLT,Nat.reduceEqDiff]
 refine aw (S.store (i:=0) rfl Tryz.t218.2.1 (by intro x e;cases e) rfl (by simp only [ah,XI,XP,M.2.1,N.2.1,P.2.1,Xm]) (lbt rfl) ono) ?_
 clear S;rintro h ⟨S,p⟩
 simp only [LC,ah,lay,Xf,Xg,Nat.reduceAdd]at S
 simp only [BS,ae]
 refine(gf (by decide) (by simp only [aT,ac,Nat.reduceEqDiff,reduceIte];exact gu Tryz.t218.1 Tryz.t218.2.1 (S.lds (b:=l) (o:=0) (n:=3) m0 (lbt rfl)))).2 (ib.2 ?_)
 exact⟨S.gr,w,y,z,D,L,O,rfl,A.mo p (fun c d=>m c (.inl d)),B.mo p (fun c d=>m c (.inr (.inl d))),C.mo p (fun c d=>m c (.inr (.inr d))),t4,t5,fun c d=>Xa I (t6 c d),t7,t8⟩
def Tryz.F1F:=aj t1<|t2
def wy(x:Int):Int:=min (max x 0) 72057594037927936
theorem BD{a:Hp}(d:a.t.Sized a.n){b c:Nat}{x:Int}(e:a.load b 0 1=some [.int .i64 0])(f:a.load c 0 1=some [.int .i64 72057594037927936]):bG zB 251 [.int .i64 x,ptrTo b,ptrTo c] a (.int .i64 (wy x)):=by
 have S:=Si d
 refine ab (n:=10) (rs:=[.tmp 4]) rfl Tryz.e251 rfl rfl rfl (lbt rfl) ?_
 simp only [BS,LB,ae,Nat.reduceLT,Nat.reduceEqDiff,F1F,e,f]
 exact⟨rfl,S.gr⟩
theorem BY{a:Hp}(g:a.t.Sized a.n):Ret zB 250 [.int .i64 0,.int .i64 72057594037927936] a fun v h=>Gr a h/\ ∃b c,v=.func (.func 251) #[] #[ptrTo b,ptrTo c]/\h.load b 0 1=some [.int .i64 0]/\h.load c 0 1=some [.int .i64 72057594037927936]:=by
 have S:=Si g
 refine ab (n:=6) (rs:=[.tmp 4]) rfl Tryz.e250 rfl rfl rfl (lbt rfl) ?_
 simp only [BS,Nat.reduceLT]
 refine ag (bU (by intro x e;cases e)) S ?_;clear S;intro h b S d;simp only [ah]at S
 simp only [BS,Nat.reduceLT,Nat.reduceEqDiff,if_false]
 refine ag (bU (by intro x e;cases e)) S ?_;clear S;intro h c S f;simp only [ah]at S
 simp only [BS,LB,ae,Nat.reduceLT,Nat.reduceEqDiff]
 exact⟨S.gr,b,c,rfl,S.ld m1 rfl,S.ld m0 rfl⟩
theorem tE{a:Hp}(b:a.t.Sized a.n){x:Int}:bG zB 247 [.int .i64 x] a (.int .i64 (wy x)):=by
 have S:=Si b
 refine ab (n:=6) (rs:=[.tmp 2]) rfl Tryz.e247 rfl rfl rfl (lbt rfl) ?_
 simp only [BS,LB]
 refine step_ret (BY S.ok) ?_;intro v h ⟨g,b1,b2,e,e1,e2⟩;replace S:=S.call g;clear g
 subst e
 simp only [BS,LB,Nat.reduceLT,Nat.reduceEqDiff]
 refine al (BD S.ok e1 e2) ?_;intro h g;replace S:=S.call g;clear g
 simp only [BS,LB,ae,Nat.reduceLT,Nat.reduceEqDiff]
 exact S.gr
theorem yp{a:Hp}(b:a.t.Sized a.n){x:Int}:bG zB 241 [.int .i64 x] a (.bool (decide (wy x<72057594037927936))):=by
 have S:=Si b
 refine ab (n:=6) (rs:=[.tmp 2]) rfl Tryz.e241 rfl rfl rfl (lbt rfl) ?_
 simp only [BS,LB,Nat.reduceLT,Nat.reduceEqDiff]
 refine al (tE S.ok) ?_;intro h g;replace S:=S.call g;clear g
 simp only [BS,LB,ae,Nat.reduceLT,Nat.reduceEqDiff]
 exact S.gr
theorem wy_bd(x:Int):0<=wy x/\wy x<=72057594037927936:=by unfold wy;omega
theorem wy_id{x:Int}(a:0<=x)(b:x<=72057594037927936):wy x=x:=by unfold wy;omega
end Go.Ab
end
section
namespace Go.Ab
structure YldP(E:Env)(lb:Nat)(J:Nat->Hp->List Nat->Prop)(n:Nat)(P:Nat->Hp->List Nat->List Value->Prop):Prop where
 lt: ∀i h F,J i h F->h.t.Sized h.n/\ ∀b∈F,b<h.n
 gr: ∀i h F h',J i h F->Gr h h'->J i h' F
 round: ∀i x h F,i<n->P i h F x->J i h F->j7 E lb x h fun o h'=>o=.ret (.bool true)/\ ∃F',J (i+1) h' F'/\Mo (· ∈F) h h'/\ ∀b∈F',b∈F\/h.n<=b
def IterP(E:Env)(g:FuncId)(post:List Value)(b:Hp)(D:Nat->Prop)(n:Nat)(P:Nat->Hp->List Nat->List Value->Prop):Prop:=
 ∀a J,YldP E a J n P-> ∀h F,ItS b D h F->J 0 h F->dQ E g (.func (.yield a) #[] #[]::post) none h fun o c d=>c=none/\ ∃u e,o=.ret u/\J n d e
theorem Bu{E:Env}{cx:Cx}{o:Oper}{l:Loc}{K:Ex->Loc->Hp->Prop}{e h:Hp}{D:Nat->Prop}{f i n:Nat}{J:Nat->Hp->List Nat->Prop}{P:Nat->Hp->List Nat->List Value->Prop}{x:List Value}{F:List Nat}
 (Y:YldP E f J n P) (s:ItS e D h F) (g:J i h F) (j:i<n) (k:P i h F x)
 (m: ∀d F',J (i+1) d F'->ItS e D d F'->Mo (· ∈F) h d->(∀b∈F',b∈F\/h.n<=b)->K .normal (l.put o.dst (.bool true)) d):fC E cx o l K (some (.yield f x,h)):=by
 refine rN (Y.round i x h F j k g) ?_
 rintro q d ⟨rfl,F',a,b,c⟩
 exact m d F' a (s.mo b c (Y.lt _ _ _ a).2) b c
def encV(w:Value):List Value:=[w]
theorem qf(w:Value):(encV w).length=1:=rfl
theorem yg(l:List Value):l.flatMap encV=l:=by
 induction l with
 |nil=>rfl
 |cons x l a=>rw [XB,a];rfl
def eS(h:Hp)(m:Nat)(v:Value)(n:Nat)(R:Nat->List Int):Prop:=
 ∃a:List Value,ay h 1 encV v a/\a.length=n/\(∀c,aq v c->m<=c)/\ ∀i w,a[i]? =some w->ay h 1 (encI .i64) w (R i)/\ ∀c,aq w c->m<=c
theorem eS.mo{M:Nat->Prop}{h k:Hp}{m n:Nat}{v:Value}{R:Nat->List Int}(r:eS h m v n R)(g:Mo M h k)(l: ∀b,M b->b<m):eS k m v n R:=by
 obtain⟨o,a,b,c,d⟩:=r
 exact⟨o,a.mo g (fun x e f=>by have:=c x e;have:=l x f;omega),b,c,fun i w j=>⟨(d i w j).1.mo g (fun x e f=>by have:=(d i w j).2 x e;have:=l x f;omega),(d i w j).2⟩⟩
theorem eS.gr{h a:Hp}{m n:Nat}{v:Value}{R:Nat->List Int}(r:eS h m v n R)(g:Gr h a):eS a m v n R:=r.mo (M:=NoM) g.fr (fun _ h=>h.elim)
theorem eS.low{h:Hp}{m f n:Nat}{v:Value}{R:Nat->List Int}(r:eS h m v n R)(g:f<=m):eS h f v n R:=by
 obtain⟨k,a,b,c,d⟩:=r
 exact⟨k,a,b,fun x e=>Xa g (c x e),fun i w j=>⟨(d i w j).1,fun x e=>Xa g ((d i w j).2 x e)⟩⟩
theorem eS.row{h:Hp}{m n:Nat}{v:Value}{R:Nat->List Int}(r:eS h m v n R){i:Nat}(k:i<n): ∃w,(∃c o,iQ (some 1) v (.int .i64 (i:Nat))=some (.pointer (some ⟨c,o,none⟩))/\h.load c o 1=some [w])/\ay h 1 (encI .i64) w (R i)/\ ∀c,aq w c->m<=c:=by
 obtain⟨e,a,b,c,d⟩:=r
 obtain⟨q,o,g,j⟩:=a.ix (kd:=.i64) qf (i:=i) (by omega)
 have f:e[i]? =some e[i]:=Xc (by omega)
 exact⟨e[i],⟨q,o,g,j⟩,(d i _ f).1,(d i _ f).2⟩
theorem flat_nat(l:List Nat):l.flatMap eO=(l.map fun(x:Nat)=>(x:Int)).flatMap (encI .i64):=by
 induction l with
 |nil=>rfl
 |cons x l a=>rw [XB,XJ,XB,a];rfl
theorem sl_nat{h:Hp}{v:Value}{l:List Nat}(s:ay h 1 eO v l):ay h 1 (encI .i64) v (l.map fun(x:Nat)=>(x:Int)):=by
 rcases s with⟨rfl,rfl⟩|⟨b,o,s,c,rfl,d,a⟩
 . exact .inl ⟨rfl,rfl⟩
 . refine .inr ⟨b,o,s,c,by grind,by grind,?_⟩
   rw [Xi,a,flat_nat]
def gQ(N:Nat)(l:List Int):Prop:=l.length<=16/\ ∀i,i<l.length->0<=l.getD i 0/\l.getD i 0<N/\l.getD i 0∉l.take i
theorem gQ.push{N:Nat}{l:List Int}(h:gQ N l)(d:l.length<16){x:Int}(f:0<=x)(g:x<N)(j:x∉l):gQ N (l++[x]):=by
 refine⟨by simp;omega,fun i b=>?_⟩
 simp at b
 by_cases e:i=l.length
 . grind
 . have a:i<l.length:=by omega
   have c:(l++[x]).getD i 0=l.getD i 0:=by grind
   rw [c,List.take_append_of_le_length (by omega)]
   exact h.2 i a
theorem mayL_nil(N:Nat):gQ N []:=⟨by simp,fun i a=>by simp at a⟩
structure TabAt(h:Hp)(m:Nat)(p:Value)(N:Nat)(marks:List Int)(R Q:Nat->List Int):Prop where
 ex: ∃b vM vT vF,p=ptrTo b/\Row h b [.int .i64 N,vM,vT,vF] 1/\ay h 1 (encI .i64) vM marks/\eS h m vT marks.length R/\eS h m vF marks.length Q/\m<=b/\ ∀c,aq vM c->m<=c
theorem TabAt.mo{M:Nat->Prop}{h c:Hp}{m N:Nat}{p:Value}{a:List Int}{R Q:Nat->List Int}(t:TabAt h m p N a R Q)(g:Mo M h c)(d: ∀b,M b->b<m):TabAt c m p N a R Q:=by
 obtain⟨b,f,i,j,e,k,l,n,q,r,s⟩:=t.ex
 exact⟨b,f,i,j,e,g.has (o:=.row _ 1) k (fun h=>by grind),l.mo g (fun x u v=>by grind),n.mo g d,q.mo g d,r,s⟩
theorem TabAt.gr{h b:Hp}{m N:Nat}{p:Value}{a:List Int}{R Q:Nat->List Int}(t:TabAt h m p N a R Q)(g:Gr h b):TabAt b m p N a R Q:=t.mo (M:=NoM) g.fr (fun _ h=>h.elim)
theorem eS.lenq{h c:Hp}{m n:Nat}{v:Value}{R:Nat->List Int}{e:TypeId}(r:eS c m v n R):mR (some (.slice e)) h v=some (.val (.int .i64 n),h):=by
 have⟨d,a,b,_⟩:=r
 rw [<-b];exact a.lenq
end Go.Ab

end
section
namespace Go.Ab
open Go.Proofs
set_option maxRecDepth 10000
def Tryz.F00:=aj t1<|aj t2<|aj t3<|aj t4<|t213
def Tryz.F0S:=aj t1<|aj t2<|aj t3<|aj t4<|aj t5<|aj t6<|aj Z0<|aj t38<|t214
def Tryz.F01:=aj t1<|aj t2<|aj t3<|aj t4<|aj t38<|aj t213<|t214
theorem may1_ok{b:Hp}(B:b.t.Sized b.n){q s d c N k:Nat}{x:Int}{t:List (Value×Value×Nat)}{f:Int->Option Value}(e5:b.load q 0 1=some [.map (some d)])(C:b.load s 0 1=some [.int .i64 N])(u:b.get d=some (.map t c))(v:dO t c f)(hf:(f x).getD (.int .i64 0)=.int .i64 k)(H:k<=1)(D:q≠d)(E:s≠d):
 Ret zB 134 [.int .i64 x,ptrTo q,ptrTo s] b fun r y=>Mo (· =d) b y/\r=.bool (decide (x<0\/(N:Int)<=x\/k=1))/\ ∃es' c',y.get d=some (.map es' c')/\dO es' c' (dY f x (some (.int .i64 (k+1:Nat)))):=by
 have S:=St.init1 B (o:=.map t c) u
 have A:=tS (x:=x) Tryz.t213.1 Tryz.t3.1 (z:=.int .i64 0) (by kernel_rfl) u v
 rw [hf]at A
 have w:am .i64 ((k:Int)+1)=((k+1:Nat):Int):=by rw [wrap64]<;>omega
 refine ab (n:=22) (rs:=[.tmp 4]) rfl Tryz.e134 rfl rfl rfl (lbt rfl) ?_
 simp only [BS,LB,Nat.reduceLT,Nat.reduceEqDiff,F00,e5,A,w]
 refine aw (S.mputI (i:=0) rfl Tryz.t213.1 Tryz.t3.1 v _) ?_
 clear S;rintro h ⟨_,es',c',a,S⟩
 simp only [LC]at S
 have l:=S.old e5 D
 have e:=S.old C E
 have m:h.get d=some (.map es' c'):=(S.own _ m0).2
 have g:=tS (x:=x) Tryz.t213.1 Tryz.t3.1 (z:=.int .i64 0) (by kernel_rfl) m a
 rw [show dY f x (some (.int .i64 ((k+1:Nat):Int))) x=some (.int .i64 ((k+1:Nat):Int)) by unfold dY;rw [if_pos rfl],Option.getD_some]at g
 by_cases j:x<0
 . simp only [BS,LB,ae,Nat.reduceLT,Nat.reduceEqDiff,j]
   exact⟨S.fr,by simp [j],es',c',m,a⟩
 . by_cases p:(N:Int)<=x
   . simp only [BS,LB,ae,Nat.reduceLT,Nat.reduceEqDiff,F00,e,j,p]
     exact⟨S.fr,by simp [p],es',c',m,a⟩
   . by_cases F:k=1
     . subst F
       simp only [BS,LB,ae,Nat.reduceLT,Nat.reduceEqDiff,Nat.reduceAdd,Int.reduceLT,Xy,F00,l,e,j,p,g]
       exact⟨S.fr,by simp,es',c',m,a⟩
     . have G:k=0:=by omega
       subst G
       simp only [BS,LB,ae,Nat.reduceLT,Nat.reduceEqDiff,Int.reduceLT,Xy,F00,l,e,j,p,g]
       exact⟨S.fr,by simp [j,p],es',c',m,a⟩
def OkAt(N:Nat)(l:List Int)(i:Nat):Prop:=0<=l.getD i 0/\l.getD i 0<N/\l.getD i 0∉l.take i
theorem mayIdx_ok {a:Hp} (X:a.t.Sized a.n) {u y d N:Nat} {v:Value} {l:List Int} (C:ay a 1 (encI .i64) v l) (hl:l.length<=1000) (e5:a.load u 0 1=some [.map (some d)]) (D:a.load y 0 1=some [.int .i64 N]) (M:a.get d=some (.map [] 0)) (O:u≠d) (P:y≠d):
 Ret zB 187 [v,.func (.func 134) #[] #[ptrTo u,ptrTo y]] a fun r Q=>Mo (· =d) a Q/\ ∃z,r=.int .i64 z/\(0<=z↔ ¬ ∀i,i<l.length->OkAt N l i):=by
 have E: ∀c,aq v c-> ¬c=d:=by
  rintro c R rfl
  rcases C with⟨rfl,_⟩|⟨b,o,s,S,rfl,_,Y⟩
  . exact R.elim
  . have:b=c:=R
    subst this
    simp [Hp.load,M]at Y
 refine ab (n:=19) (rs:=[.tmp 4]) rfl Tryz.e187 rfl rfl rfl (lbt rfl) ?_
 simp only [BS,LB,Nat.reduceLT,Nat.reduceEqDiff,F0S,C.lenq]
 refine az (fun(i:Nat) m h=>i<=l.length/\Mo (· =d) a h/\(∃F c f,h.get d=some (.map F c)/\dO F c f/\ ∀x,f x=if x∈l.take i then some (.int .i64 1)else none)/\(∀j,j<i->OkAt N l j)/\m 0=v/\m 1=.func (.func 134) #[] #[ptrTo u,ptrTo y]/\m 7=.int .i64 l.length/\m 8=.int .i64 i) (fun i=>l.length-i) ?_ 0 _ _ ?_
 . intro i Z m h ⟨hi,mo,⟨F,c,f,hg,MI,hf⟩,hok,r0,r1,r7,r8⟩
   by_cases hlt:i<l.length
   . obtain ⟨q,o,p,G⟩:=(C.mo mo E).ix (kd:=.i64) (aH .i64) hlt
     have w:am .i64 ((i:Int)+1)=((i+1:Nat):Int):=by rw [wrap64]<;>omega
     have T: ∀{b:Nat} {x},b≠d->a.load b 0 1=some x->h.load b 0 1=some x:=fun H e=>by
      have:=mo.get _ (bJ mo.ok0 e) H
      unfold Hp.load at e⊢
      rw [this];exact e
     have I:l.getD i 0=l[i]:=by simp [zO,hlt]
     simp only [BS,LB,Nat.reduceLT,Nat.reduceEqDiff,F0S,r0,r1,r7,r8,an,hlt,p,G,encI]
     refine step_ret (may1_ok mo.ok (x:=l[i]) (N:=N) (k:=if l[i]∈l.take i then 1 else 0) (T O e5) (T P D) hg MI (by rw [hf];split<;>rfl) (by split<;>omega) O P) ?_
     rintro r Q ⟨f1,rfl,J,S,K,L⟩
     have t:=mo.trans f1 (fun _ h=>.inl h)
     by_cases g:OkAt N l i
     . have e:decide (l[i]<0\/(N:Int)<=l[i]\/(if l[i]∈l.take i then 1 else 0)=1)=false:=by
        obtain⟨w1,w2,U⟩:=g
        rw [I]at w1 w2 U
        rw [if_neg U]
        simp;omega
       rw [e]
       have A:l[i]∉l.take i:=by have:=g.2.2;rwa [I]at this
       simp only [BS,LB,Nat.reduceLT,Nat.reduceEqDiff,r8,w]
       refine Z (i+1) _ _ (by omega) ⟨by omega,t,⟨J,S,_,K,L,fun x=>?_⟩,fun j V=>?_,by simp [aa,r0],by simp [aa,r1,ac],by simp [aa,r7],by simp [aa]⟩
       . have W:=Xk hlt
         rw [if_neg A]
         unfold dY
         by_cases B:x=l[i]
         . rw [if_pos B,if_pos (by rw [W];exact XU _ (List.mem_singleton.2 B))];rfl
         . rw [if_neg B,hf]
           have:x∈l.take (i+1)↔x∈l.take i:=by rw [W,XD,XH];exact⟨fun h=>h.resolve_right B,.inl⟩
           simp only [this]
       . by_cases D:j=i
         . subst D;exact g
         . exact hok j (by omega)
     . have e:decide (l[i]<0\/(N:Int)<=l[i]\/(if l[i]∈l.take i then 1 else 0)=1)=true:=by
        unfold OkAt at g
        rw [I]at g
        simp only [decide_eq_true_eq]
        by_cases A:l[i]∈l.take i
        . rw [if_pos A];exact .inr (.inr rfl)
        . by_cases a1:l[i]<0
          . exact .inl a1
          . by_cases a2:(N:Int)<=l[i]
            . exact .inr (.inl a2)
            . exact absurd ⟨by omega,by omega,A⟩ g
       rw [e]
       simp only [BS,LB,ae,Nat.reduceLT,Nat.reduceEqDiff]
       exact⟨t,_,rfl,by simp only [Int.natCast_nonneg,true_iff];exact fun h=>g (h i hlt)⟩
   . simp only [BS,LB,ae,Nat.reduceLT,Nat.reduceEqDiff,r7,r8,an,hlt]
     exact⟨mo,_,rfl,⟨fun h=>by omega,fun h=>absurd (fun j V=>hok j (by omega)) h⟩⟩
 . exact⟨Xj _,Mo.refl X,⟨[],0,fun _=>none,M,uW,fun x=>by simp⟩,fun j V=>by omega,by simp [aa,aG],by simp [aa,aG,bK,ac],by simp [aa],by simp [aa]⟩
noncomputable instance mayDec(N:Nat)(l:List Int):Decidable (gQ N l):=Classical.propDecidable _
theorem mayCf_ok{a:Hp}(m:a.t.Sized a.n){e f b N:Nat}{v:Value}{l:List Int}(o:ay a 1 (encI .i64) v l)(p:l.length<=1000)(e5:a.load e 0 1=some [.map (some b)])(q:a.load f 0 1=some [.int .i64 N])(s:a.get b=some (.map [] 0))(t:e≠b)(u:f≠b)(d:Decidable (∀i,i<l.length->OkAt N l i)):
 Ret zB 135 [v,.func (.func 134) #[] #[ptrTo e,ptrTo f]] a fun r w=>Mo (· =b) a w/\r=.bool (!decide (∀i,i<l.length->OkAt N l i)):=by
 refine ab (n:=9) (rs:=[.tmp 4]) rfl Tryz.e135 rfl rfl rfl (lbt rfl) ?_
 simp only [BS,LB,Nat.reduceLT,Nat.reduceEqDiff]
 refine step_ret (mayIdx_ok m o p e5 q s t u) ?_
 rintro r h ⟨j,z,rfl,k⟩
 by_cases c: ∀i,i<l.length->OkAt N l i
 . have g: ¬(0<=z):=fun h=>k.1 h c
   simp only [BS,LB,ae,Nat.reduceLT,Nat.reduceEqDiff,g]
   exact⟨j,by rw [decide_eq_true c];rfl⟩
 . have g:0<=z:=k.2 c
   simp only [BS,LB,ae,Nat.reduceLT,Nat.reduceEqDiff,g]
   exact⟨j,by rw [decide_eq_false c];rfl⟩
theorem may_ok{a:Hp}(t:a.t.Sized a.n){v:Value}{l:List Int}{N:Nat}(j:ay a 1 (encI .i64) v l)(u:l.length<=1000):bG zB 67 [.int .i64 N,v] a (.bool (decide (gQ N l))):=by
 have S:=Si t
 refine ab (n:=18) (rs:=[.tmp 4]) rfl Tryz.e67 rfl rfl rfl (lbt rfl) ?_
 simp only [BS,Nat.reduceLT]
 refine ag (bU (by intro x e;cases e)) S ?_;clear S;intro h w S q;simp only [ah]at S
 simp only [BS]
 refine ag tK S ?_;clear S;intro h B S f
 simp only [BS,F01]
 refine ag av S ?_;clear S;intro h y S s
 simp only [BS,LB,Nat.reduceLT,Nat.reduceEqDiff]
 refine aw (ar S (i:=0) rfl ?_ ?_ ?_ ono) ?_
 . exact(by simp only [F01])
 . exact(by exact fl_map)
 . exact Xd (lbt rfl)
 clear S;rintro h ⟨S,k⟩;clear k;simp only [LC,ah,lay,Xf,Xg,Nat.reduceAdd]at S
 by_cases g:l.length<=16
 . have m:(l.length:Int)<=16:=by omega
   simp only [BS,LB,Nat.reduceLT,Nat.reduceEqDiff,F01,j.lenq,m]
   have p:=S.apart
   simp only [keys,XJ,List.map_nil,List.filterMap_nil,List.append_nil,List.nodup_cons,XK,XC,or_false,not_or]at p
   have d:Decidable (∀i,i<l.length->OkAt N l i):=Classical.propDecidable _
   refine step_ret (mayCf_ok S.ok (j.gr S.gr) u (S.ld (b:=y) (o:=0) m0 rfl) (S.ld (b:=w) (o:=0) m2 rfl) (S.own _ m1).2 p.1.1 (fun e=>p.2.1 e.symm) d) ?_
   rintro r h ⟨k,rfl⟩
   have z:Gr a h:=(S.fr.trans k (fun c A=>.inr (by subst A;exact f)):Mo NoM a h).gr
   simp only [BS,LB,ae,Nat.reduceLT,Nat.reduceEqDiff]
   refine⟨?_,z⟩
   congr 1
   by_cases c: ∀i,i<l.length->OkAt N l i
   . have:gQ N l:=⟨g,c⟩
     rw [decide_eq_true c,decide_eq_true this];rfl
   . have: ¬gQ N l:=fun h=>c h.2
     rw [decide_eq_false c,decide_eq_false this];rfl
 . have m: ¬(l.length:Int)<=16:=by omega
   simp only [BS,LB,ae,Nat.reduceLT,Nat.reduceEqDiff,F01,j.lenq,m]
   exact⟨by have: ¬gQ N l:=fun h=>g h.1;simp [this],S.gr⟩
def Tryz.F0g:=aj t1<|aj t2<|aj t3<|aj t4<|aj t23<|aj Z1<|aj t38<|aj t67<|aj t138<|aj t144<|aj t162<|aj Z3<|Z20
def Tryz.F0T:=aj t1<|aj t2<|aj t3<|aj t4<|aj t6<|aj Z0<|aj t23<|aj t39<|t136
open Classical in
noncomputable def dOf(B:List Arc)(s v:Nat):Nat:=if h: ∃x,IsD B s v x then h.choose else 0
theorem tD{B:List Arc}{s v x:Nat}(h:IsD B s v x):dOf B s v=x/\IsD B s v (dOf B s v):=by
 have a: ∃x,IsD B s v x:=⟨x,h⟩
 have e:dOf B s v=a.choose:=by unfold dOf;rw [dif_pos a]
 rw [e]
 exact⟨a.choose_spec.uniq h,a.choose_spec⟩
noncomputable def nw(B:List Arc)(N s:Nat):List Int:=(zM N).map fun v=>((dOf B s v:Nat):Int)
theorem rowD_of{B:List Arc}{N s:Nat}{D:Nat->Nat}(h: ∀v,IsD B s v (D v)):((zM N).map D).map (fun(x:Nat)=>(x:Int))=nw B N s:=by
 unfold nw
 rw [XX]
 refine XW fun v _=>?_
 show((D v:Nat):Int)=_
 rw [(tD (h v)).1]
def RunF(E:Env)(g:FuncId)(a:Gra)(b:Value)(B:List Arc):Prop:= ∀(h:Hp) (d:Nat),h.t.Sized h.n->bW h d b a-> ∀s,s<a.nodes->Ret E g [b,.int .i64 (s:Nat)] h fun r c=>Gr h c/\xw c h.n r B s a.nodes
theorem runTo{a:Gra}(b:Good a){c:Value}:RunF zB 71 a c (seen a.arcs Arc.t Arc.s):=fun h g d e s f=>sa d b e f
theorem runFrom{a:Gra}(b:Good a){c:Value}:RunF zB 72 a c (seen a.arcs Arc.s Arc.t):=fun h g d e s f=>s9 d b e f
def PRow(m:Nat)(R:Nat->List Int)(i:Nat)(h:Hp)(F:List Nat)(x:List Value):Prop:= ∃w,x=[w]/\ay h 1 (encI .i64) w (R i)/\ ∀c,aq w c->m<=c/\c∉F
theorem rows_ok{a:Hp}(l:a.t.Sized a.n){p j k:Value}(m:Fl p)(o:Fl j)(q:Fl k):Ret zB 70 [p,j,k] a fun v i=>Gr a i/\ ∃b c d,v=.func (.func 137) #[] #[ptrTo b,ptrTo c,ptrTo d]/\a.n<=b/\a.n<=c/\a.n<=d/\i.load b 0 1=some [j]/\i.load c 0 1=some [k]/\i.load d 0 1=some [p]:=by
 have S:=Si l
 refine ab (n:=8) (rs:=[.tmp 6]) rfl Tryz.e70 rfl rfl rfl (lbt rfl) ?_
 simp only [BS,Nat.reduceLT]
 refine ag (da (by assumption)) S ?_;clear S;intro h d S e
 simp only [BS,Nat.reduceLT,Nat.reduceEqDiff,if_false]
 refine ag (da (by assumption)) S ?_;clear S;intro h b S f
 simp only [BS,Nat.reduceLT,Nat.reduceEqDiff,if_false]
 refine ag (da (by assumption)) S ?_;clear S;intro h c S g
 simp only [BS,LB,ae,Nat.reduceLT,Nat.reduceEqDiff]
 exact⟨S.gr,b,c,d,rfl,f,g,e,S.ld m1 rfl,S.ld m0 rfl,S.ld m2 rfl⟩
theorem rows_it{hq d:Hp}(E:hq.t.Sized hq.n)(e:d.t.Sized d.n)(S:fq hq d)(T:hq.n<=d.n){y p:Value}{j:Gra}{G z q r m:Nat}(U:bW hq G y j){l:List Int}(I:ay d 1 (encI .i64) p l)(H: ∀i,i<l.length->0<=l.getD i 0/\l.getD i 0<j.nodes)(K:l.length<1000){g:FuncId}{B:List Arc}(V:RunF zB g j y B)(W:m<=d.n)
 (X:d.load z 0 1=some [p]) (Z:d.load q 0 1=some [.func (.func g) #[] #[]]) (e3:d.load r 0 1=some [y]):
 IterP zB 137 [ptrTo z,ptrTo q,ptrTo r] d (fun c=>c=z\/c=q\/c=r\/aq p c\/c<hq.n) l.length (PRow m fun i=>nw B j.nodes (l.getD i 0).toNat):=by
 intro lb J Y h F s A
 refine enter (n:=22) (rs:=[]) rfl Tryz.e137 rfl rfl rfl (lbt rfl) ?_
 have L:=s.load e X (.inl rfl)
 simp only [BS,LB,Nat.reduceLT,F0g,L,I.lenq]
 refine az (fun(i:Nat) f h=>i<=l.length/\ ∃F,ItS d (fun c=>c=z\/c=q\/c=r\/aq p c\/c<hq.n) h F/\J i h F/\f 0=.func (.yield lb) #[] #[]/\f 2=ptrTo q/\f 3=ptrTo r/\f 7=p/\f 8=.int .i64 l.length/\f 9=.int .i64 i) (fun i=>l.length-i) ?_ 0 _ _ ?_
 . clear L
   intro i ih f h ⟨hi,F,s,A,r0,r2,r3,r7,r8,r9⟩
   by_cases hlt:i<l.length
   . obtain⟨c,o,t,u⟩:=(s.sl e I (fun b h=>.inr (.inr (.inr (.inl h))))).ix (kd:=.i64) (aH .i64) hlt
     have l2:=s.load e Z (.inr (.inl rfl))
     have l3:=s.load e e3 (.inr (.inr (.inl rfl)))
     have nt:bW h G y j:=U.keep E (s.keep S T (fun c C=>.inr (.inr (.inr (.inr C)))))
     have w:am .i64 ((i:Int)+1)=((i+1:Nat):Int):=by rw [wrap64]<;>omega
     have M:l.getD i 0=l[i]:=by simp [zO,hlt]
     have N:=H i hlt
     rw [M]at N
     obtain⟨mk,x⟩: ∃k:Nat,l[i]=k:=⟨l[i].toNat,by omega⟩
     rw [x]at u N
     simp only [BS,LB,Nat.reduceLT,Nat.reduceEqDiff,F0g,r0,r2,r3,r7,r8,r9,an,hlt,t,u,encI,l2,l3]
     refine step_ret (V h G s.ok nt mk (by omega)) ?_
     rintro v P ⟨Q,R,vA,vO,D,aL,O,rfl,s1,s2,s3,t4,t5,t6,t7,t8⟩
     simp only [BS,LB,Nat.reduceLT,Nat.reduceEqDiff,F0g]
     refine Bu Y (s.gr Q) (Y.gr _ _ _ _ A Q) (i:=i) hlt ⟨R,rfl,?_,fun c C=>⟨?_,fun hF=>?_⟩⟩ ?_
     . have:=sl_nat s1
       rw [rowD_of t5]at this
       show ay P 1 _ R (nw B j.nodes (l.getD i 0).toNat)
       rw [M,x]
       exact this
     . exact Xa W (Xa s.n (t6 c (.inl C)))
     . have h1:=s.lt c hF
       have P:=t6 c (.inl C)
       omega
     . intro h' F' a s' _ _
       simp only [BS,LB,Nat.reduceLT,Nat.reduceEqDiff,r9,w]
       exact ih (i+1) _ _ (by omega) ⟨by omega,F',s',a,by simp [aa,r0],by simp [aa,r2,ac],by simp [aa,r3,ac],by simp [aa,r7],by simp [aa,r8],by simp [aa]⟩
   . simp only [BS,LB,Nat.reduceLT,r8,r9,an,hlt]
     have:i=l.length:=by omega
     subst this
     exact di (cL ⟨rfl,_,rfl,rfl,_,F,rfl,A⟩)
 . exact⟨by omega,F,s,A,by simp [aa,cw],by simp [aa,cw,ac],by simp [aa,cw,ac],by simp [aa],by simp [aa],by simp [aa]⟩
theorem zG {q:Hp} (ok:q.t.Sized q.n) {g:FuncId} {post:Array Value} {D:Nat->Prop} {n m:Nat} {R:Nat->List Int} (it:IterP zB g post.toList q D n (PRow m R)) (H:m<=q.n) (hn:n<1000):
 Ret zB 136 [.slice none 0 0,.func (.func g) #[] post] q fun r v=>Gr q v/\eS v m r n R:=by
 have S:=Si ok
 refine ab (n:=13) (rs:=[.tmp 4]) rfl Tryz.e136 rfl rfl rfl (lbt rfl) ?_
 simp only [BS,Nat.reduceLT]
 refine ag (da (by exact cd)) S ?_;clear S;intro h y S Y
 simp only [BS,Nat.reduceLT,Nat.reduceEqDiff,if_false]
 replace S:=S.nilG (k:=1)
 have g0:=S.gr
 refine jm S (g:=g) (a:=#[]) (b:=post) (by simp [bZ,aa,aG,bK]) rfl rfl ?_
 intro Z E z A af ai g2
 obtain⟨X,hX,A⟩: ∃X:gm,X=_/\St NoM q Z [(z,.loop X),(E,.dfr),(y,.row [.slice none 0 0] 1)] [(.slice none 0 0,1,[])]:=⟨_,rfl,A⟩
 have hJ:YldP zB z (fun k v F=> ∃(f:List Value) (p:Value),St NoM q v [(z,.loop X),(E,.dfr),(y,.row [p] 1)] [(p,1,f)]/\f.length=k/\k<=n/\(∀i w,f[i]? =some w->ay v 1 (encI .i64) w (R i)/\ ∀c,aq w c->m<=c/\c∉F)/\F=keys [(z,.loop X),(E,.dfr),(y,.row [p] 1)] [(p,1,f)]) n (PRow m R):=by
  refine⟨?_,?_,?_⟩
  . rintro i h F ⟨f,p,S,_,_,_,rfl⟩;exact⟨S.ok,fun b B=>S.key_lt B⟩
  . rintro i h F v ⟨f,p,S,a,b,c,rfl⟩ gg;exact⟨f,p,S.call gg,a,b,fun i w l=>⟨(c i w l).1.gr gg,(c i w l).2⟩,rfl⟩
  . rintro i x hR F hi ⟨w,rfl,sw,l⟩ ⟨f,p,S,a,b,c,rfl⟩
    subst hX
    obtain⟨K,N,O,rfl⟩:=sw.form
    have fw:Fl (.slice K N O):=cd
    refine jn (S.get m0) (by rw [Tryz.e136];rfl) rfl ?_
    have Q:=S
    replace S:=S.base
    simp only [BS,LB,Nat.reduceLT,Nat.reduceEqDiff]
    refine iN S (i:=0) rfl rfl rfl rfl rfl ?_
    clear S;intro h S
    simp only [LC]at S
    simp only [BS,LB,Nat.reduceLT,Nat.reduceEqDiff,F0T,S.ld (b:=y) (o:=0) m2 rfl]
    refine ag (bj (by exact Tryz.t39.1) (by exact XY) (by decide) (by rfl)) S ?_;clear S;intro h bs S ad;simp only [LC,aU,bA,ah,Nat.reduceMul,Nat.reduceAdd,Xp,Xl,Xn,Xt]at S
    simp only [BS,LB,Nat.reduceLT,Nat.reduceEqDiff]
    have I:aA h 1 (.slice (some ⟨bs,0,none⟩) 1 1)=some (1,[.slice K N O]):=by simp only [aA];rw [S.lds (b:=bs) (o:=0) (n:=1*1) m0 (lbt rfl)];rfl
    replace S:=S.drop1
    refine dT (S.grow (j:=0) (m:=1) (new:=[.slice K N O]) rfl Tryz.t39.1 XY (by decide) Tryz.t39.2.2.2.2.2 I rfl (by decide) (by simp [fw.2.1]) (by simp;omega)) ?_
    clear S I;rintro h s S
    simp only [LC]at S
    have fv:Fl s:=by
     rcases(S.gown _ m0).1 with⟨e,_⟩|⟨_,_,e,_⟩
     . rw [show s=_ from e];exact cd
     . rw [show s=_ from e];exact cd
    simp only [BS,LB,Nat.reduceLT,Nat.reduceEqDiff]
    refine aw (ar S (i:=2) rfl Tryz.t39.2.2.1 fv (Xd (lbt rfl)) ono) ?_
    clear S;rintro h ⟨S,_⟩
    simp only [LC]at S
    simp only [BS]
    refine fk S (i:=0) rfl ?_
    clear S;intro h S
    simp only [LC]at S
    refine⟨rfl,_,⟨f++[.slice K N O],s,Q.rebase S,by simp [a],by omega,fun j u G=>?_,rfl⟩,S.fr,S.key_new⟩
    have t:ay h 1 (encI .i64) u (R j)/\ ∀c,aq u c->m<=c/\c∉keys [(z,Ob.dfr),(E,.dfr),(y,.dfr)] [(p,1,f)]/\c<hR.n:=by
     by_cases hj:j<f.length
     . rw [Xs hj]at G
       obtain⟨P,C⟩:=c j u G
       exact⟨P.mo S.fr (fun x d J=>(C x d).2 J),fun x d=>⟨(C x d).1,(C x d).2,P.lt Q.ok d⟩⟩
     . rw [Xq (by omega)]at G
       have U:j-f.length=0:=by
        have:=(List.getElem?_eq_some_iff.1 G).1
        simp at this;omega
       rw [U]at G
       cases G
       have:j=f.length:=by omega
       subst this
       rw [a]
       exact⟨sw.mo S.fr (fun x d J=>(l x d).2 J),fun x d=>⟨(l x d).1,(l x d).2,sw.lt Q.ok d⟩⟩
    refine⟨t.1,fun x d=>⟨(t.2 x d).1,fun H=>?_⟩⟩
    rcases S.key_new x H with h1|h1
    . exact(t.2 x d).2.1 h1
    . have:=(t.2 x d).2.2;omega
 refine eJ (it z _ hJ Z _ ?_ ⟨[],_,A,rfl,Xj _,fun i w l=>by simp at l,rfl⟩) ?_
 . exact⟨A.ok,A.fr.n,fun b B _=>A.gr.get b B,fun b B h=>by have:=(A.key_own B).elim (fun h=>h) (fun h=>h.elim);omega,fun b B=>A.key_lt B⟩
 . rintro o rc v ⟨rfl,u,F,rfl,f,p,T,a,_,c,rfl⟩
   subst hX
   refine⟨_,T.get m0,Xx,?_⟩
   have V: ∀i w,f[i]? =some w->ay (v.put z .dead) 1 (encI .i64) w (R i)/\ ∀c,aq w c->m<=c/\c∉keys [(E,.dfr),(y,.row [p] 1)] [(p,1,f)]:=fun i w l=>by
    obtain⟨P,C⟩:=c i w l
    exact⟨P.mo ((Mo.refl (M:=(· =z)) T.ok).put (.inr rfl) .dead) (fun x d e=>(C x d).2 (by rw [e];exact m0)),fun x d=>⟨(C x d).1,fun H=>(C x d).2 (Xr _ H)⟩⟩
   replace T:=T.dead
   have S:=T
   show Run _ _ _ _ _ _ _ _
   simp only [BS,LB,Nat.reduceLT,Nat.reduceEqDiff,F0T,S.ld (b:=y) (o:=0) m1 rfl]
   refine fH (fW [E] _ (L:=[(y,_)]) T.base fun h3 W=>⟨rfl,_,rfl,?_⟩)
   refine⟨(T.fr.trans W.fr (fun c hc=>(T.key_own hc).symm):Mo NoM q h3).gr,f,?_,a,fun x d=>?_,fun i w l=>⟨(V i w l).1.mo W.fr (fun x d J=>((V i w l).2 x d).2 J),fun x d=>((V i w l).2 x d).1⟩⟩
   . exact(W.gown _ m0).1.sl (yg f).symm qf (by decide)
   . exact Xa H (((T.gblk m0 d).1).elim (fun h=>h) (fun h=>h.elim))
theorem xk{a:Hp}(c:a.t.Sized a.n){g:FuncId}{post:Array Value}{D:Nat->Prop}{n m:Nat}{R:Nat->List Int}(d:IterP zB g post.toList a D n (PRow m R))(e:m<=a.n)(f:n<1000):
 Ret zB 69 [.func (.func g) #[] post] a fun r b=>Gr a b/\eS b m r n R:=by
 have S:=Si c
 refine ab (n:=5) (rs:=[.tmp 2]) rfl Tryz.e69 rfl rfl rfl (lbt rfl) ?_
 simp only [BS,LB,Nat.reduceLT,Nat.reduceEqDiff]
 refine step_ret (zG S.ok d e f) ?_;intro v h ⟨g,L⟩;replace S:=S.call g;clear g
 simp only [BS,LB,ae,Nat.reduceLT,Nat.reduceEqDiff]
 exact⟨S.gr,L⟩
def Tryz.F0U:=aj t1<|aj t2<|aj t3<|aj t4<|aj t6<|aj Z0<|aj t38<|t154
def IterW(E:Env)(g:FuncId)(post:List Value)(a:Hp)(D W:Nat->Prop)(xs:List (List Value)):Prop:=
 ∀c J Z,(∀v h,¬Z (.pan v) h)->Yld E c J Z xs->(∀i h F d,J i h F->Mo W h d->J i d F)-> ∀h F,ItS a D h F->(∀b,W b->h.get b=a.get b)->(∀b∈F,¬W b)->J 0 h F->dQ E g ([]++[.func (.yield c) #[] #[]]++post) none h (YQ J Z xs.length)
theorem iter_w{E:Env}{g:FuncId}{post:List Value}{a:Hp}{D:Nat->Prop}{xs:List (List Value)}(H:rG E g [] post a D xs):IterW E g post a D NoM xs:=fun b J Z c Y _ h F s _ _ d=>H b J Z c Y h F s d
theorem natC_len(l:List Nat):(l.flatMap eO).length=l.length:=by rw [aI iq];omega
theorem gkey_blk{h:Hp}{p:GL}(g:ip h p){c:Nat}(a:aq p.1 c):fu p=some c:=by
 rcases g with⟨e,_⟩|⟨b,n,e,_⟩
 . rw [e]at a;exact a.elim
 . obtain⟨v,k,d⟩:=p
   simp only []at e a
   subst e
   exact congrArg some a
theorem za{d:Hp}(ok:d.t.Sized d.n){g:FuncId}{post:Array Value}{D W:Nat->Prop}{xs:List Nat}(it:IterW zB g post.toList d D W (xs.map fun(x:Nat)=>[.int .i64 x]))(K: ∀b,W b->b<d.n)(hn:xs.length<100000):
 Ret zB 227 [.slice none 0 0,.func (.func g) #[] post] d fun r p=>Mo W d p/\ip p (r,1,xs.flatMap eO)/\ ∀c,aq r c->d.n<=c:=by
 have S:=Si ok
 refine ab (n:=13) (rs:=[.tmp 4]) rfl Tryz.e227 rfl rfl rfl (lbt rfl) ?_
 simp only [BS,Nat.reduceLT]
 refine ag (da (by exact cd)) S ?_;clear S;intro h q S v
 simp only [BS,Nat.reduceLT,Nat.reduceEqDiff,if_false]
 replace S:=S.nilG (k:=1)
 have N:=S.gr
 replace S:=S.monoM (M:=W)
 have G:=S.fr
 refine jm S (g:=g) (a:=#[]) (b:=post) (by simp [bZ,aa,aG,bK]) rfl rfl ?_
 intro H w u s ad af O
 obtain⟨X,P,s⟩: ∃X:gm,X=_/\St W d H [(u,.loop X),(w,.dfr),(q,.row [.slice none 0 0] 1)] [(.slice none 0 0,1,[])]:=⟨_,rfl,s⟩
 have Q: ∀c,d.n<=c-> ¬W c:=fun c h I=>by have:=K c I;omega
 have hJ:Yld zB u (fun k p F=> ∃(f:Value),St W d p [(u,.loop X),(w,.dfr),(q,.row [f] 1)] [(f,1,(xs.take k).flatMap eO)]/\k<=xs.length/\(∀c∈F,d.n<=c)/\F=keys [(u,.loop X),(w,.dfr),(q,.row [f] 1)] [(f,1,(xs.take k).flatMap eO)]) (fun _ _=>False) (xs.map fun(x:Nat)=>[.int .i64 x]):=by
  refine⟨?_,?_,fun _ _ h=>h.elim,?_⟩
  . rintro i h F ⟨f,S,_,_,rfl⟩;exact⟨S.ok,fun b l=>S.key_lt l⟩
  . rintro i h F p ⟨f,S,a,b,rfl⟩ E;exact⟨f,S.call E,a,b,rfl⟩
  . rintro i x hR F z ⟨f,S,a,b,rfl⟩
    have A:i<xs.length:=by
     have:=(List.getElem?_eq_some_iff.1 z).1
     simpa using this
    rw [Xh,Xc A]at z
    cases z
    have tk:(xs.take (i+1)).flatMap eO=(xs.take i).flatMap eO++[.int .i64 (xs[i]:Nat)]:=by rw [List.take_add_one,Xc A,XE];rfl
    have tl:(xs.take i).length<=i:=by rw [List.length_take];omega
    subst P
    refine jn (S.get m0) (by rw [Tryz.e227];rfl) rfl ?_
    have R:=S
    replace S:=S.base
    simp only [BS,LB,Nat.reduceLT,Nat.reduceEqDiff]
    refine iN S (i:=0) rfl rfl rfl rfl rfl ?_
    clear S;intro h S
    simp only [LC]at S
    simp only [BS,LB,Nat.reduceLT,Nat.reduceEqDiff,F0U,S.ld (b:=q) (o:=0) m2 rfl]
    refine ag (bj (by exact Tryz.t38.1) (by exact XO) (by decide) (by rfl)) S ?_;clear S;intro h U S V;simp only [LC,aU,bA,ah,Nat.reduceMul,Nat.reduceAdd,Xp,Xl,Xn,Xt]at S
    simp only [BS,LB,Nat.reduceLT,Nat.reduceEqDiff]
    have B:aA h 1 (.slice (some ⟨U,0,none⟩) 1 1)=some (1,[.int .i64 (xs[i]:Nat)]):=by simp only [aA];rw [S.lds (b:=U) (o:=0) (n:=1*1) m0 (lbt rfl)];rfl
    replace S:=S.drop1
    refine dT (S.grow (j:=0) (m:=1) (new:=[.int .i64 (xs[i]:Nat)]) rfl Tryz.t38.1 XO (by decide) Tryz.t38.2.2.2.2.2 B rfl (by decide) rfl (by rw [natC_len];simp;omega)) ?_
    clear S B;rintro h C S
    simp only [LC]at S
    have fv:Fl C:=(S.gown _ m0).1.fl
    simp only [BS,LB,Nat.reduceLT,Nat.reduceEqDiff]
    refine aw (ar S (i:=2) rfl Tryz.t38.2.2.1 fv (Xd (lbt rfl)) ono) ?_
    clear S;rintro h ⟨S,_⟩
    simp only [LC]at S
    simp only [BS]
    refine fk S (i:=0) rfl ?_
    clear S;intro h S
    simp only [LC]at S
    rw [<-tk]at S
    have J:=R.rebase S
    refine .inl ⟨rfl,_,⟨C,J,by omega,fun c e=>?_,rfl⟩,S.fr,fun c e=>(S.key_own e).symm⟩
    rcases S.key_own e with Y|Y
    . have:=R.fr.n;omega
    . exact b c Y
 have t: ∀c∈keys [(u,Ob.loop X),(w,.dfr),(q,.row [.slice none 0 0] 1)] [(.slice none 0 0,1,[])],d.n<=c:=fun c e=>by
  have n2:=v
  have:=G.n
  simp [keys,fu]at e
  omega
 refine eJ (it u _ _ (fun _ _ h=>h) hJ ?_ H _ ?_ ?_ (fun c e=>Q c (t c e)) ⟨_,s,Xj _,t,rfl⟩) fun o rc p y=>lS y ?_
 . rintro i h F p ⟨f,S,a,b,rfl⟩ E
   exact⟨f,S.step E (fun c e=>.inl e) (fun c e I=>Q c (b c e) I),a,b,rfl⟩
 . have E:Mo W d H:=s.fr
   exact⟨s.ok,s.fr.n,fun b l _=>(N.trans O).get b l,fun b l h=>by have:=t b l;omega,fun b l=>s.key_lt l⟩
 . exact fun b l=>(N.trans O).get b (K b l)
 . rintro F ⟨f,T,a,b,rfl⟩
   rw [Xi,Xw]at T b
   subst P
   refine⟨_,T.get m0,Xx,?_⟩
   replace T:=T.dead
   have S:=T
   show Run _ _ _ _ _ _ _ _
   simp only [BS,LB,Nat.reduceLT,Nat.reduceEqDiff,F0U,S.ld (b:=q) (o:=0) m1 rfl]
   refine fH (fW [w] _ (L:=[(q,_)]) T.base fun h3 Z=>⟨rfl,_,rfl,?_⟩)
   refine⟨(T.fr.trans Z.fr (fun c e=>(T.key_own e).symm):Mo W d h3),(Z.gown _ m0).1,fun x z=>?_⟩
   refine b x ?_
   have:fu (f,1,xs.flatMap eO)=some x:=gkey_blk (T.gown _ m0).1 z
   exact kK m0 this
theorem BG{a:Hp}(e:a.t.Sized a.n){g:FuncId}{post:Array Value}{D W:Nat->Prop}{xs:List Nat}(i:IterW zB g post.toList a D W (xs.map fun(x:Nat)=>[.int .i64 x]))(j: ∀b,W b->b<a.n)(k:xs.length<100000):
 Ret zB 200 [.func (.func g) #[] post] a fun r d=>Mo W a d/\ip d (r,1,xs.flatMap eO)/\ ∀c,aq r c->a.n<=c:=by
 have S:=Si e
 refine ab (n:=5) (rs:=[.tmp 2]) rfl Tryz.e200 rfl rfl rfl (lbt rfl) ?_
 simp only [BS,LB,Nat.reduceLT,Nat.reduceEqDiff]
 refine step_ret (za S.ok i j k) ?_
 rintro r h ⟨f,q⟩
 simp only [BS,LB,ae,Nat.reduceLT,Nat.reduceEqDiff]
 exact⟨f,q⟩
def Tryz.F0h:=aj t1<|aj t2<|aj t3<|aj t4<|aj t5<|aj t6<|aj t23<|t351
theorem CH{c:Hp}(r:c.t.Sized c.n){v:Value}{a b:Int}(d:ay c 1 (encI .i64) v [a,b]):bG zB 246 [.func (.func 247) #[] #[],v] c (.int .i64 (wy (wy (wy a)+wy b))):=by
 have S:=Si r
 have l:=wy_bd a
 have y:=wy_bd b
 have z:=wy_bd (wy a)
 have s:am .i64 1=1:=rfl
 have t:am .i64 2=2:=rfl
 have u:am .i64 (wy a)=wy a:=by rw [wrap64]<;>omega
 have w:wy (wy a)=wy a:=wy_id l.1 l.2
 have x:am .i64 (wy a+wy b)=wy a+wy b:=by rw [wrap64]<;>omega
 refine ab (n:=22) (rs:=[.tmp 4]) rfl Tryz.e246 rfl rfl rfl (lbt rfl) ?_
 simp only [BS,LB,Nat.reduceLT,Nat.reduceEqDiff,Nat.reduceAdd,Xy,F0h,d.lenq]
 rw [dB]
 obtain⟨m,o,e,f⟩:=d.ix (kd:=.i64) (aH .i64) (i:=0) (by simp)
 replace e:iQ (some 1) v (.int .i64 0)=some (.pointer (some ⟨m,o,none⟩)):=e
 replace f:c.load m o 1=some [.int .i64 a]:=f
 simp only [BS,LB,Nat.reduceLT,Nat.reduceEqDiff,Int.reduceLT,F0h,e,f]
 refine al (tE S.ok) ?_;intro h g;replace S:=S.call g;clear g
 simp only [BS,LB,Nat.reduceLT,Nat.reduceEqDiff,u,Int.zero_add]
 refine al (tE S.ok) ?_;intro h g;replace S:=S.call g;clear g
 simp only [BS,LB,Nat.reduceLT,Nat.reduceEqDiff,s,w,Int.zero_add]
 rw [dB]
 obtain⟨p,q,j,k⟩:=(d.gr S.gr).ix (kd:=.i64) (aH .i64) (i:=1) (by simp)
 replace j:iQ (some 1) v (.int .i64 1)=some (.pointer (some ⟨p,q,none⟩)):=j
 replace k:h.load p q 1=some [.int .i64 b]:=k
 simp only [BS,LB,Nat.reduceLT,Nat.reduceEqDiff,Int.reduceLT,F0h,j,k]
 refine al (tE S.ok) ?_;intro h g;replace S:=S.call g;clear g
 simp only [BS,LB,Nat.reduceLT,Nat.reduceEqDiff,x]
 refine al (tE S.ok) ?_;intro h g;replace S:=S.call g;clear g
 simp only [BS,LB,Nat.reduceLT,Nat.reduceEqDiff,Int.reduceAdd,t]
 rw [dB]
 simp only [BS,LB,ae,Nat.reduceLT,Nat.reduceEqDiff,Int.reduceLT]
 exact S.gr
theorem add_ok{c:Hp}(f:c.t.Sized c.n){a b:Int}:bG zB 240 [.int .i64 a,.int .i64 b] c (.int .i64 (wy (wy (wy a)+wy b))):=by
 have S:=Si f
 refine ab (n:=9) (rs:=[.tmp 4]) rfl Tryz.e240 rfl rfl rfl (lbt rfl) ?_
 simp only [BS,LB,Nat.reduceLT,Nat.reduceEqDiff]
 refine ag (bj (by exact Tryz.t23.1) (by exact XZ) (by decide) (by rfl)) S ?_;clear S;intro h d S e;simp only [LC,aU,bA,ah,Nat.reduceMul,Nat.reduceAdd,Xp,Xl,Xn,Xt]at S
 simp only [BS,LB,Nat.reduceLT,Nat.reduceEqDiff]
 refine al (CH S.ok (a:=a) (b:=b) (.inr ⟨d,0,none,2,rfl,Xo _,S.lds (b:=d) (o:=0) (n:=2*1) m0 (lbt rfl)⟩)) ?_;intro h g;replace S:=S.call g;clear g
 simp only [BS,LB,ae,Nat.reduceLT,Nat.reduceEqDiff]
 exact S.gr
def Tryz.F1G:=aj t1<|aj t2<|aj t3<|aj t4<|aj t38<|aj t73<|Z5
def Tryz.F0i:=aj t1<|aj t2<|aj t3<|aj t4<|aj Z1<|aj t38<|aj t67<|aj t73<|aj Z4<|aj Z5<|aj t162<|Z3
structure iU(h:Hp)(nb:Nat)(p:Value)(N:Nat)(m:List Int)(c:Nat->Nat):Prop where
 at0:iA h nb p m
 len:m.length=N
 val: ∀v,v<N->m.getD v 0=(c v:Int)
theorem iU.gr{h a:Hp}{b N:Nat}{p:Value}{m:List Int}{c:Nat->Nat}(x:iU h b p N m c)(g:Gr h a):iU a b p N m c:=⟨x.at0.gr g,x.len,x.val⟩
theorem iU.keep{h a:Hp}{d N:Nat}{p:Value}{m:List Int}{c:Nat->Nat}(e:h.t.Sized h.n)(x:iU h d p N m c)(g:fq h a):iU a d p N m c:=by
 obtain⟨b,v,rfl,r,s,f,i⟩:=x.at0
 exact⟨⟨b,v,rfl,g.row e r,s.keep e g,f,i⟩,x.len,x.val⟩
theorem yJ{a:Hp}(f:a.t.Sized a.n){g N:Nat}{p:Value}{m:List Int}{c:Nat->Nat}(x:iU a g p N m c){v:Nat}(h:v<N):bG zB 198 [p,.int .i64 (v:Nat)] a (.int .i64 (c v:Nat)):=by
 have S:=Si f
 obtain⟨b,u,rfl,r,s,_,_⟩:=x.at0
 have j:=r.load1 (o:=0) rfl
 have w:=x.len
 have k: ¬(v:Int)<0:=by omega
 have l: ¬(m.length:Int)<=(v:Int):=by omega
 obtain⟨d,o,q,e⟩:=s.ix (kd:=.i64) (aH .i64) (i:=v) (by omega)
 have t:m[v]'(by omega)=(c v:Int):=by
  rw [<-x.val v h,zO,Xc (by omega)];rfl
 rw [t]at e
 replace e:a.load d o 1=some [.int .i64 (c v:Nat)]:=e
 refine ab (n:=27) (rs:=[.tmp 4]) rfl Tryz.e198 rfl rfl rfl (lbt rfl) ?_
 simp only [BS,LB,ae,Nat.reduceLT,Nat.reduceEqDiff,F1G,k,j,s.lenq,l,q,e]
 exact S.gr
theorem inside_ok{j:Hp}(B:j.t.Sized j.n){C D r N:Nat}{p:Value}{d:Gra}{m:List Int}{c:Nat->Nat}(l:Good d)(E:bW j C (ptrTo r) d)(x:iU j D p d.nodes m c){k a:Nat}(q:a<d.arcs.length):
 bG zB 150 [ptrTo r,p,.int .i64 (k:Nat),.int .i64 (a:Nat)] j (.bool (decide (c (d.arcs.getD a default).s=k/\c (d.arcs.getD a default).t=k))):=by
 have S:=Si B
 have J:Fl p:=by obtain⟨b,_,rfl,_⟩:=x.at0;exact cP
 have s:d.arcs[a]=d.arcs.getD a default:=by simp [zO,q]
 have F:d.arcs.getD a default∈d.arcs:=by rw [<-s];exact Xe q
 obtain⟨t,u,_⟩:=l.arcs _ F
 refine ab (n:=34) (rs:=[.tmp 8]) rfl Tryz.e150 rfl rfl rfl (lbt rfl) ?_
 simp only [BS,LB,Nat.reduceLT,Nat.reduceEqDiff]
 refine step_ret (qM S.ok E q) ?_
 rintro K h ⟨g4,rfl⟩
 replace S:=S.call g4
 rw [s]
 generalize d.arcs.getD a default=A at t u
 simp only [BS,LB,Nat.reduceLT,Nat.reduceEqDiff,F0i,cD]
 refine ag av S ?_;clear S;intro h v S w
 simp only [BS,LB,Nat.reduceLT,Nat.reduceEqDiff]
 refine aw (S.store (i:=0) rfl ?_ ?_ rfl rfl ?_ ono) ?_
 . exact(by exact Tryz.t90.2.1)
 . exact(by intro x e;cases e)
 . exact lbt rfl
 clear S;rintro h ⟨S,G⟩;clear G;simp only [LC,ah,lay,Xf,Xg,Nat.reduceAdd]at S
 simp only [BS,LB,Nat.reduceLT,Nat.reduceEqDiff,F0i,S.ld (b:=v) (o:=0) m0 rfl]
 refine al (yJ S.ok (x.gr S.gr) t) ?_
 intro L H;replace S:=S.call H
 by_cases y:c A.s=k
 . have f:(c A.s:Int)=(k:Int):=by omega
   simp only [BS,LB,Nat.reduceLT,Nat.reduceEqDiff,F0i,f,S.ld (b:=v) (o:=1) m0 rfl]
   refine al (yJ S.ok (x.gr S.gr) u) ?_
   intro M I;replace S:=S.call I
   by_cases z:c A.t=k
   . have g:(c A.t:Int)=(k:Int):=by omega
     simp only [BS,LB,ae,Nat.reduceLT,Nat.reduceEqDiff,g]
     exact⟨by rw [decide_eq_true ⟨y,z⟩],S.gr⟩
   . have g: ¬(c A.t:Int)=(k:Int):=by omega
     simp only [BS,LB,ae,Nat.reduceLT,Nat.reduceEqDiff,g]
     exact⟨by rw [decide_eq_false (fun h=>z h.2)],S.gr⟩
 . have f: ¬(c A.s:Int)=(k:Int):=by omega
   simp only [BS,LB,ae,Nat.reduceLT,Nat.reduceEqDiff,f]
   exact⟨by rw [decide_eq_false (fun h=>y h.1)],S.gr⟩
end Go.Ab
end
section
namespace Go.Ab
open Go.Proofs
set_option maxRecDepth 10000
def Tryz.F0V:=aj t1<|aj t2<|aj t3<|aj t4<|aj t5<|aj t6<|aj Z0<|aj t38<|t214
def Tryz.F02:=aj t1<|aj t2<|aj t3<|aj t4<|aj Z1<|aj t38<|aj t67<|aj t73<|aj Z4<|aj Z5<|aj t162<|Z3
def Tryz.F0j:=aj t1<|aj t3<|aj t4<|aj Z1<|aj t38<|aj t67<|aj t73<|aj Z5<|aj t162<|aj Z3<|t214
theorem pairN{x:Option Tch}:kr none x=true:=by cases x<;>rfl
theorem fq.grk{hq a h:Hp}(k:fq hq a)(n:hq.n<=a.n)(g:Gr a h):fq hq h:=fun b c=>(g.get b (Xb c n)).trans (k b c)
def HoldP(E:Env)(hq:Hp)(g:FuncId)(post:List Value)(N:Nat)(f:Nat->Bool):Prop:= ∀h,h.t.Sized h.n->fq hq h->hq.n<=h.n-> ∀v,v<N->bG E g ([.int .i64 (v:Nat)]++post) h (.bool (f v))
theorem indexI_ok{hq a:Hp}(b:a.t.Sized a.n)(t:fq hq a)(q:hq.n<=a.n){v:Value}{xs:List Nat}{N:Nat}{g:FuncId}{post:Array Value}{f:Nat->Bool}(m:ay a 1 eO v xs)(E:xs.length<=1000)(u: ∀x∈xs,x<N)(hf:HoldP zB hq g post.toList N f):
 Ret zB 187 [v,.func (.func g) #[] post] a fun r y=>Gr a y/\ ∃z:Int,r=.int .i64 z/\(0<=z↔xs.any f=true):=by
 have S:=Si b
 have F:=m.fl
 refine ab (n:=19) (rs:=[.tmp 4]) rfl Tryz.e187 rfl rfl rfl (lbt rfl) ?_
 simp only [BS,LB,Nat.reduceLT,Nat.reduceEqDiff,F0V,m.lenq]
 refine az (fun(i:Nat) d h=>i<=xs.length/\Gr a h/\(∀j,(l:j<xs.length)->j<i->f xs[j]=false)/\d 0=v/\d 1=.func (.func g) #[] post/\d 7=.int .i64 (xs.length:Nat)/\d 8=.int .i64 i) (fun i=>xs.length-i) ?_ 0 _ _ ?_
 . clear S
   intro i A d h ⟨hi,g1,hno,r0,r1,r7,r8⟩
   have w:am .i64 ((i:Int)+1)=((i+1:Nat):Int):=by rw [wrap64]<;>omega
   by_cases hlt:i<xs.length
   . obtain⟨c,o,B,p⟩:=(m.gr g1).ix (kd:=.i64) iq hlt
     replace p:h.load c o 1=some [.int .i64 (xs[i]:Nat)]:=p
     simp only [BS,LB,Nat.reduceLT,Nat.reduceEqDiff,F0V,r0,r1,r7,r8,an,hlt,B,p]
     refine al (hf _ g1.ok (t.grk q g1) (Xa q g1.n) xs[i] (u _ (Xe hlt))) ?_
     intro G s
     cases k:f xs[i]with
     | true=>
       simp only [BS,LB,ae,Nat.reduceLT,Nat.reduceEqDiff]
       refine⟨g1.trans s,_,rfl,⟨fun _=>List.any_eq_true.2 ⟨_,Xe hlt,k⟩,fun _=>by omega⟩⟩
     | false=>
       simp only [BS,LB,Nat.reduceLT,Nat.reduceEqDiff,r8,w]
       refine A (i+1) _ _ (by omega) ⟨by omega,g1.trans s,fun j l C=>?_,by simp [aa,r0],by simp [aa,r1],by simp [aa,r7],by simp [aa]⟩
       by_cases e:j=i
       . subst e;exact k
       . exact hno j l (by omega)
   . simp only [BS,LB,ae,Nat.reduceLT,Nat.reduceEqDiff,r7,r8,an,hlt]
     refine⟨g1,_,rfl,⟨fun h=>by omega,fun h=>?_⟩⟩
     obtain⟨x,D,k⟩:=List.any_eq_true.1 h
     obtain⟨j,l,e⟩:=List.getElem_of_mem D
     rw [<-e,hno j l (by omega)]at k
     cases k
 . exact⟨Xj _,Gr.refl b,fun j _ h=>by omega,by simp [aa,cw],by simp [aa,cw],by simp [aa],by simp [aa]⟩
theorem AN{hq a:Hp}(b:a.t.Sized a.n)(k:fq hq a)(l:hq.n<=a.n){v:Value}{xs:List Nat}{N:Nat}{g:FuncId}{post:Array Value}{f:Nat->Bool}(e:ay a 1 eO v xs)(m:xs.length<=1000)(o: ∀x∈xs,x<N)(hf:HoldP zB hq g post.toList N f):
 bG zB 135 [v,.func (.func g) #[] post] a (.bool (xs.any f)):=by
 have S:=Si b
 have p:=e.fl
 refine ab (n:=9) (rs:=[.tmp 4]) rfl Tryz.e135 rfl rfl rfl (lbt rfl) ?_
 simp only [BS,LB,Nat.reduceLT,Nat.reduceEqDiff]
 refine step_ret (indexI_ok b k l e m o hf) ?_
 rintro r h ⟨i,z,rfl,j⟩
 cases c:xs.any f with
 | true=>
   have d:=j.2 c
   simp only [BS,LB,ae,Nat.reduceLT,Nat.reduceEqDiff,d]
   exact i
 | false=>
   have d: ¬0<=z:=fun h=>by rw [j.1 h]at c;cases c
   simp only [BS,LB,ae,Nat.reduceLT,Nat.reduceEqDiff,d]
   exact i
section
variable{hq:Hp}{γ:Gra}{nb mb bp k:Nat}{p:Value}{m:List Int}{c:Nat->Nat}
def beyB(γ:Gra)(c:Nat->Nat)(k a:Nat):Bool:=!decide (c (γ.arcs.getD a default).s=k)
theorem beyond_ok(f:hq.t.Sized hq.n)(u:Good γ)(K:bW hq nb (ptrTo bp) γ)(x:iU hq mb p γ.nodes m c){w y z:Nat}(L:hq.load w 0 1=some [ptrTo bp])(B:hq.load y 0 1=some [p])(C:hq.load z 0 1=some [.int .i64 (k:Nat)]):
 HoldP zB hq 199 [ptrTo w,ptrTo y,ptrTo z] γ.arcs.length (beyB γ c k):=by
 intro h M g N a v
 have S:=Si M
 have D:γ.arcs[a]=γ.arcs.getD a default:=by simp [zO,v]
 have O:γ.arcs.getD a default∈γ.arcs:=by rw [<-D];exact Xe v
 obtain⟨E,P,_⟩:=u.arcs _ O
 refine ab (n:=24) (rs:=[.tmp 5]) rfl Tryz.e199 rfl rfl rfl (lbt rfl) ?_
 simp only [BS,LB,Nat.reduceLT,Nat.reduceEqDiff,F02,g.load f L]
 refine step_ret (qM S.ok (K.keep f g) v) ?_
 rintro T U ⟨g4,rfl⟩
 replace S:=S.call g4
 unfold beyB
 rw [D]
 generalize γ.arcs.getD a default=A at E P
 simp only [BS,LB,Nat.reduceLT,Nat.reduceEqDiff,F02,cD]
 refine ag av S ?_;clear S;intro h F S G
 simp only [BS,LB,Nat.reduceLT,Nat.reduceEqDiff]
 refine aw (S.store (i:=0) rfl ?_ ?_ rfl rfl ?_ ono) ?_
 . exact(by exact Tryz.t90.2.1)
 . exact(by intro x e;cases e)
 . exact lbt rfl
 clear S;rintro h ⟨S,Q⟩;clear Q;simp only [LC,ah,lay,Xf,Xg,Nat.reduceAdd]at S
 have l:=g.grk N S.gr
 obtain⟨b,V,rfl,r,s,_,_⟩:=(x.keep f l).at0
 have H:=r.load1 (o:=0) rfl
 have W:=x.len
 obtain⟨d,o,I,t⟩:=s.ix (kd:=.i64) (aH .i64) (i:=A.s) (by omega)
 have R:m[A.s]'(by omega)=(c A.s:Int):=by
  rw [<-x.val A.s E,zO,Xc (by omega)];rfl
 rw [R]at t
 simp only [encI]at t
 simp only [BS,LB,Nat.reduceLT,Nat.reduceEqDiff]
 refine au (ax rfl) (q:=0) (ps:=[]) (by kernel_rfl) ?_
 by_cases J:c A.s=k
 . have j:(c A.s:Int)=(k:Int):=by omega
   simp only [BS,LB,cls,ae,Nat.reduceLT,Nat.reduceEqDiff,Nat.reduceAdd,Nat.reducePow,Nat.reduceDiv,Nat.reduceMod,Nat.reduceLeDiff,F02,l.load f B,l.load f C,H,I,t,j,S.ld (b:=F) (o:=0) m0 rfl]
   exact⟨by rw [decide_eq_true J];rfl,S.gr⟩
 . have j: ¬(c A.s:Int)=(k:Int):=by omega
   simp only [BS,LB,cls,ae,Nat.reduceLT,Nat.reduceEqDiff,Nat.reduceAdd,Nat.reducePow,Nat.reduceDiv,Nat.reduceMod,Nat.reduceLeDiff,F02,l.load f B,l.load f C,H,I,t,j,S.ld (b:=F) (o:=0) m0 rfl]
   exact⟨by rw [decide_eq_false J];rfl,S.gr⟩
def borB(γ:Gra)(c:Nat->Nat)(k v:Nat):Bool:=decide (c v=k)&&(outs γ.arcs Arc.t γ.arcs.length v).any (beyB γ c k)
theorem Cm(f:hq.t.Sized hq.n)(j:Good γ)(D:bW hq nb (ptrTo bp) γ)(x:iU hq mb p γ.nodes m c){y z A E:Nat}(F:hq.load y 0 1=some [p])(G:hq.load z 0 1=some [.int .i64 (k:Nat)])(H:hq.load A 0 1=some [ptrTo bp])(l4:hq.load E 0 1=some [.func (.func 199) #[] #[ptrTo A,ptrTo y,ptrTo z]]):
 HoldP zB hq 202 [ptrTo y,ptrTo z,ptrTo A,ptrTo E] γ.nodes (borB γ c k):=by
 intro h l g I v J
 have S:=Si l
 obtain⟨b,vm,rfl,r,s,_,_⟩:=(x.keep f g).at0
 have K:=r.load1 (o:=0) rfl
 have hl:=x.len
 obtain⟨d,o,L,w⟩:=s.ix (kd:=.i64) (aH .i64) (i:=v) (by omega)
 have ev:m[v]'(by omega)=(c v:Int):=by
  rw [<-x.val v J,zO,Xc (by omega)];rfl
 rw [ev]at w
 replace w:h.load d o 1=some [.int .i64 (c v:Nat)]:=w
 have B:=g.load f F
 have C:=g.load f G
 have M:=g.load f H
 have N:=g.load f l4
 have O:=bJ l B
 have P:=bJ l C
 have Q:=bJ l M
 have R:=bJ l N
 have T:=r.lt l
 have U:=bJ l w
 unfold borB
 by_cases V:c v=k
 . have t:(c v:Int)=(k:Int):=by omega
   refine ab (n:=23) (rs:=[.tmp 6]) rfl Tryz.e202 rfl rfl rfl (lbt rfl) ?_
   simp only [BS,LB]
   refine au (ax rfl) (q:=0) (ps:=[(12,13)]) (by kernel_rfl) ?_
   simp only [BS,LB,cls,Nat.reduceLT,Nat.reduceEqDiff,Nat.reduceAdd,Nat.reducePow,Nat.reduceDiv,Nat.reduceMod,Nat.reduceLeDiff,F0j,B,C,M,K,L,w,t]
   refine ce (A8 S.ok (D.keep f g) (by have:=j.many;omega) J) ?_
   rintro vl h2 ⟨e,sl,_⟩
   have W:=aP e O
   have X:=aP e P
   have Y:=aP e Q
   have Z:=aP e R
   have ub:=aP e T
   have ud:=aP e U
   replace S:=S.call e
   simp only [BS,LB,cls,Nat.reduceLT,Nat.reduceEqDiff,Nat.reduceAdd,Nat.reducePow,Nat.reduceDiv,Nat.reduceMod,Nat.reduceLeDiff,F0j,e.load N]
   refine eZ (AN S.ok (g.grk I e) (Xa I e.n) sl (by have:=j.many;have:=qk γ.arcs Arc.t γ.arcs.length v;omega) (fun a ha=>(rR.1 ha).1) (post:=#[ptrTo A,ptrTo y,ptrTo z]) (beyond_ok f j D x H F G)) ?_
   intro h3 u
   have w1:=aP u (Xb O e.n)
   have w2:=aP u (Xb P e.n)
   have w3:=aP u (Xb Q e.n)
   have w4:=aP u (Xb R e.n)
   have wb:=aP u (Xb T e.n)
   have wd:=aP u (Xb U e.n)
   replace S:=S.call u
   simp only [BS,LB,cls,ae,Nat.reduceLT,Nat.reduceEqDiff,Nat.reduceAdd,Nat.reducePow,Nat.reduceDiv,Nat.reduceMod,Nat.reduceLeDiff]
   refine⟨by simp only [aX,bo,aS,bD,aV,ne_eq,not_false_eq_true,bC,bR,aZ,aW,bZ,cu,aT,Nat.reduceLT,Nat.reduceEqDiff,reduceIte,Xm,ac,aG,bK,aQ W,aQ X,aQ Y,aQ Z,aQ ub,aQ ud,aD W,aD X,aD Y,aD Z,aD ub,aD ud,aQ w1,aQ w2,aQ w3,aQ w4,aQ wb,aQ wd,aD w1,aD w2,aD w3,aD w4,aD wb,aD wd],?_⟩
   exact⟨by rw [decide_eq_true V,Bool.true_and],S.gr⟩
 . have t: ¬(c v:Int)=(k:Int):=by omega
   refine ab (n:=23) (rs:=[.tmp 6]) rfl Tryz.e202 rfl rfl rfl (lbt rfl) ?_
   simp only [BS,LB]
   refine au (ax rfl) (q:=0) (ps:=[(12,13)]) (by kernel_rfl) ?_
   simp only [BS,LB,cls,ae,Nat.reduceLT,Nat.reduceEqDiff,Nat.reduceAdd,Nat.reducePow,Nat.reduceDiv,Nat.reduceMod,Nat.reduceLeDiff,F0j,B,C,K,L,w,t]
   refine⟨by simp only [aX,bo,aS,bD,aV,ne_eq,not_false_eq_true,bC,bR,aZ,aW,bZ,cu,aT,Nat.reduceLT,Nat.reduceEqDiff,reduceIte,Xm,ac,aG,bK,yt,pairN],?_⟩
   exact⟨by rw [decide_eq_false V,Bool.false_and],S.gr⟩
end
end Go.Ab

end
section
namespace Go.Ab
open Go.Proofs
set_option maxRecDepth 10000
def Tryz.F0W:=aj t1<|aj t2<|aj t3<|aj t4<|aj t5<|aj t38<|aj t73<|aj Z5<|t214
def Tryz.F0k:=aj t1<|aj t2<|aj t3<|aj t4<|aj Z1<|aj t38<|aj t67<|aj t73<|aj Z5<|aj t154<|aj t162<|aj Z3<|t214
def Tryz.F1H:=aj t1<|aj t3<|aj t4<|aj Z1<|aj t67<|aj t162<|Z3
def Tryz.FR:=aj t1<|aj t2<|aj t3<|aj t4<|aj t23<|aj Z1<|aj t38<|aj t67<|aj Z4<|aj t162<|aj Z3<|Z20
def Tryz.F0X:=aj t1<|aj t2<|aj t3<|aj t23<|aj Z1<|aj t38<|aj t67<|aj t162<|aj Z3<|aj t214<|Z20
theorem cnodes_ok{a:Hp}(i:a.t.Sized a.n){p f:Value}(j:Fl p)(k:Fl f):Ret zB 201 [p,f] a fun v g=>Gr a g/\ ∃b c,v=.func (.func 228) #[] #[ptrTo b,ptrTo c]/\a.n<=b/\a.n<=c/\g.load b 0 1=some [p]/\g.load c 0 1=some [f]:=by
 have S:=Si i
 refine ab (n:=6) (rs:=[.tmp 4]) rfl Tryz.e201 rfl rfl rfl (lbt rfl) ?_
 simp only [BS,Nat.reduceLT]
 refine ag (da (by assumption)) S ?_;clear S;intro h b S d
 simp only [BS,Nat.reduceLT,Nat.reduceEqDiff,if_false]
 refine ag (da (by assumption)) S ?_;clear S;intro h c S e
 simp only [BS,LB,ae,Nat.reduceLT,Nat.reduceEqDiff]
 exact⟨S.gr,b,c,rfl,d,e,S.ld m1 rfl,S.ld m0 rfl⟩
theorem cnodes_it {hq d:Hp} (u:hq.t.Sized hq.n) (k:d.t.Sized d.n) (E:fq hq d) (y:hq.n<=d.n) {L N:Nat} {p:Value} {m:List Int} {c:Nat->Nat} (x:iU hq L p N m c) (V:N<=1000) {l q:Nat} {g:FuncId} {post:Array Value} {f:Nat->Bool} (hf:HoldP zB hq g post.toList N f)
 (M:d.load l 0 1=some [p]) (O:d.load q 0 1=some [.func (.func g) #[] post]):
 rG zB 228 [] [ptrTo l,ptrTo q] d (fun c=>c=l\/c=q\/c<hq.n) (((zM N).filter f).map fun(v:Nat)=>[.int .i64 (v:Nat)]):=by
 intro P J Z Q Y h F s e
 have G:=s.load k M (.inl rfl)
 obtain⟨b,W,rfl,r,H,_,_⟩:=(x.keep u (s.keep E y (fun c z=>.inr (.inr z)))).at0
 have I:=r.load1 (o:=0) rfl
 have X:=x.len
 have A:(m.length:Int)=(N:Int):=by omega
 refine enter (n:=25) (rs:=[]) rfl Tryz.e228 rfl rfl rfl (lbt rfl) ?_
 simp only [BS,LB,Nat.reduceLT,Nat.reduceEqDiff,F0W,G,I,H.lenq,A]
 refine az (fun(i:Nat) j h=>i<=N/\ ∃F,ItS d (fun c=>c=l\/c=q\/c<hq.n) h F/\J ((zM i).filter f).length h F/\j 0=.func (.yield P) #[] #[]/\j 1=ptrTo l/\j 2=ptrTo q/\j 11=.int .i64 (N:Nat)/\j 12=.int .i64 i) (fun i=>N-i) ?_ 0 _ _ ?_
 . clear G s e F r H I h
   intro i K j h ⟨hi,F,s,e,r0,r1,r2,r11,r12⟩
   have w:am .i64 ((i:Int)+1)=((i+1:Nat):Int):=by rw [wrap64]<;>omega
   by_cases hlt:i<N
   . have R:=s.load k O (.inr (.inl rfl))
     simp only [BS,LB,Nat.reduceLT,Nat.reduceEqDiff,F0W,r2,r11,r12,an,hlt,R]
     refine al (hf _ s.ok (s.keep E y (fun c z=>.inr (.inr z))) (Xa y s.n) i hlt) ?_
     intro h2 t
     cases B:f i with
     | true=>
       have S:(((zM N).filter f).map fun(v:Nat)=>[Value.int .i64 (v:Nat)])[((zM i).filter f).length]? =some [.int .i64 (i:Nat)]:=by
        rw [Xh,wE B _ hlt];rfl
       have C:((zM (i+1)).filter f).length=((zM i).filter f).length+1:=by rw [lj,if_pos B];simp
       simp only [BS,LB,Nat.reduceLT,Nat.reduceEqDiff,r0]
       refine gx Y (s.gr t) (Y.gr _ _ _ _ e t) (i:=((zM i).filter f).length) S ?_ ?_ ?_
       . intro D T a U _ _
         simp only [BS,LB,Nat.reduceLT,Nat.reduceEqDiff,r12,w]
         exact K (i+1) _ _ (by omega) ⟨by omega,T,U,by rw [C];exact a,by simp [aa,r0],by simp [aa,r1,ac],by simp [aa,r2,ac],by simp [aa,r11],by simp [aa]⟩
       . intro D a _
         simp only [BS,LB,Nat.reduceLT,Nat.reduceEqDiff]
         exact iE rfl ⟨rfl,.inr (.inl ⟨_,rfl,a⟩)⟩
       . intro v D a
         exact absurd a (Q v D)
     | false=>
       have C:(zM (i+1)).filter f=(zM i).filter f:=by rw [lj,if_neg (by rw [B];decide)];simp
       simp only [BS,LB,Nat.reduceLT,Nat.reduceEqDiff,r12,w]
       exact K (i+1) _ _ (by omega) ⟨by omega,F,s.gr t,by rw [C];exact Y.gr _ _ _ _ e t,by simp [aa,r0],by simp [aa,r1,ac],by simp [aa,r2,ac],by simp [aa,r11],by simp [aa]⟩
   . simp only [BS,LB,Nat.reduceLT,r11,r12,an,hlt]
     have:i=N:=by omega
     subst this
     exact di (cL ⟨rfl,_,rfl,rfl,.inl ⟨_,F,rfl,by simpa using e⟩⟩)
 . exact⟨Xj _,F,s,e,by simp [aa,cw],by simp [aa,cw,ac],by simp [aa,cw,ac],by simp [aa],by simp [aa]⟩
theorem border_ok{a:Hp}(A:a.t.Sized a.n){j:Gra}{U V F k:Nat}{p:Value}{m:List Int}{c:Nat->Nat}(l:Good j)(G:bW a U (ptrTo F) j)(x:iU a V p j.nodes m c):
 Ret zB 151 [p,ptrTo F,.int .i64 (k:Nat)] a fun r H=>Gr a H/\ay H 1 eO r ((zM j.nodes).filter (borB j c k))/\ ∀c,aq r c->a.n<=c:=by
 have S:=Si A
 have fp:Fl p:=by obtain⟨b,_,rfl,_⟩:=x.at0;exact cP
 obtain⟨bc,W,rfl,r,s,_,_⟩:=x.at0
 have X:=r.load1 (o:=0) rfl
 have Y:=x.len
 have Z:=l.n1
 have n2:=l.n2
 have B:(m.length:Int)=(j.nodes:Int):=by omega
 obtain⟨I,ov,sv,cv,ev⟩: ∃d o s c,W=.slice (some ⟨d,o,s⟩) m.length c:=by
  rcases s with⟨_,e⟩|⟨d,o,s,c,e,_⟩
  . subst e;simp at Y;omega
  . exact⟨d,o,s,c,e⟩
 subst ev
 have C:I<a.n:=s.lt A (b:=I) rfl
 refine ab (n:=29) (rs:=[.tmp 6]) rfl Tryz.e151 rfl rfl rfl (lbt rfl) ?_
 simp only [BS,Nat.reduceLT]
 refine ag (da (by exact cP)) S ?_;clear S;intro h t S J
 simp only [BS,Nat.reduceLT,Nat.reduceEqDiff,if_false]
 refine ag (da (by exact cP)) S ?_;clear S;intro h w S K
 simp only [BS,Nat.reduceLT,Nat.reduceEqDiff,if_false]
 refine ag (da (by exact cg)) S ?_;clear S;intro h L S M
 have z3:=(S.row (b:=t) m2).lt S.ok
 have z4:=(S.row (b:=w) m1).lt S.ok
 have zc:=Xb (r.lt A) S.gr.n
 have zd:=Xb C S.gr.n
 have D:=S.gr.load X
 have s':=s.gr S.gr
 simp only [BS]
 refine au (ax rfl) (q:=0) (ps:=[(8,13),(8,12),(8,9)]) (by kernel_rfl) ?_
 simp only [BS,LB,cls,Nat.reduceLT,Nat.reduceEqDiff,Nat.reduceAdd,Nat.reducePow,Nat.reduceDiv,Nat.reduceMod,Nat.reduceLeDiff,F0k,S.ld (b:=t) (o:=0) m2 rfl,S.ld (b:=w) (o:=0) m1 rfl]
 refine eZ (cK S.ok (G.gr S.gr)) ?_
 intro h1 u
 have N:=aP u z3
 have O:=aP u z4
 have P:=aP u zc
 have Q:=aP u zd
 have y:=u.load D
 replace S:=S.call u
 simp only [BS,LB,cls,Nat.reduceLT,Nat.reduceEqDiff,Nat.reduceAdd,Nat.reducePow,Nat.reduceDiv,Nat.reduceMod,Nat.reduceLeDiff,F0k,y,s'.lenq,B,S.ld (b:=t) (o:=0) m2 rfl,S.ld (b:=w) (o:=0) m1 rfl]
 refine⟨by simp only [aX,bo,aS,bD,aV,ne_eq,not_false_eq_true,bC,bR,aZ,aW,bZ,cu,aT,Nat.reduceLT,Nat.reduceEqDiff,reduceIte,Xm,ac,A2,aQ N,aQ O,aQ P,aD N,aD O,aD P,aQ Q,aD Q],?_⟩
 refine ag av S ?_;clear S;intro h R S T
 simp only [BS,LB,Nat.reduceLT,Nat.reduceEqDiff]
 refine aw (ar S (i:=0) rfl Tryz.t214.2.1 ic (Xd (lbt rfl)) ono) ?_
 clear S;rintro h2 ⟨S,_⟩
 simp only [LC]at S
 simp only [BS,LB,Nat.reduceLT,Nat.reduceEqDiff,F0k,S.ld (b:=t) (o:=0) m3 rfl]
 have E:=S.gr
 have z:=S.ok
 have l3:=S.ld (b:=t) (o:=0) m3 rfl
 have l4:=S.ld (b:=w) (o:=0) m2 rfl
 have l5:=S.ld (b:=L) (o:=0) m1 rfl
 have l7:=S.ld (b:=R) (o:=0) m0 rfl
 have hf:=Cm z l (G.gr E) (x.gr E) l3 l5 l4 l7
 refine step_ret (cnodes_ok S.ok cP ic) ?_
 rintro v h4 ⟨g,b1,b2,rfl,Z,ad,y1,y2⟩
 have it:=cnodes_it z g.ok g.keep g.n (x.gr E) (by omega) (g:=202) (post:=#[ptrTo t,ptrTo L,ptrTo w,ptrTo R]) hf y1 y2
 replace S:=S.call g
 simp only [BS,LB,Nat.reduceLT,Nat.reduceEqDiff]
 refine step_ret (BG S.ok (g:=228) (post:=#[ptrTo b1,ptrTo b2]) (iter_w it) (fun _ h=>h.elim) (by have:=xH (n:=j.nodes) (f:=borB j c k);omega)) ?_
 rintro r h5 ⟨f5,G5,d5⟩
 have g5:=f5.gr
 have k5:=S.fr.n
 replace S:=S.call g5
 simp only [BS,LB,ae,Nat.reduceLT,Nat.reduceEqDiff]
 exact⟨S.gr,G5.sl rfl iq (by decide),fun c hc=>by have:=d5 c hc;omega⟩
theorem CY{a:Hp}(e:a.t.Sized a.n){c:Gra}{f d b:Nat}(g:bW a f (ptrTo d) c)(k:b<c.nodes):bG zB 229 [ptrTo d,.int .i64 (b:Nat)] a (.bool true):=by
 have S:=Si e
 have h:(0:Int)<=(b:Int):=by omega
 have i:(b:Int)<(c.nodes:Int):=by omega
 refine ab (n:=17) (rs:=[.tmp 4]) rfl Tryz.e229 rfl rfl rfl (lbt rfl) ?_
 simp only [BS,LB,Nat.reduceLT,Nat.reduceEqDiff,F1H,h]
 refine al (cK S.ok g) ?_
 intro l j
 simp only [BS,LB,ae,Nat.reduceLT,Nat.reduceEqDiff,i]
 exact j
noncomputable def jU(c:Gra)(b a:Nat):Bool:=decide (dOf (seen c.arcs Arc.t Arc.s) b (c.arcs.getD a default).s<FAR/\dOf (seen c.arcs Arc.t Arc.s) b (c.arcs.getD a default).t<FAR/\dOf (seen c.arcs Arc.t Arc.s) b (c.arcs.getD a default).s=(c.arcs.getD a default).w+dOf (seen c.arcs Arc.t Arc.s) b (c.arcs.getD a default).t)
def HoldA(E:Env)(hq:Hp)(x:Nat)(g:FuncId)(post:List Value)(N:Nat)(f:Nat->Bool):Prop:= ∀h,h.t.Sized h.n->(∀b,b<hq.n->b≠x->h.get b=hq.get b)->hq.n<=h.n-> ∀v,v<N->bG E g ([.int .i64 (v:Nat)]++post) h (.bool (f v))
theorem lI{h a:Hp}{b o n:Nat}{l:List Value}(e:h.load b o n=some l)(g:a.get b=h.get b):a.load b o n=some l:=by
 unfold Hp.load at e⊢
 rw [g];exact e
theorem sl_get{a:Type}{h d:Hp}{k:Nat}{enc:a->List Value}{v:Value}{xs:List a}(s:ay h k enc v xs)(g: ∀c,aq v c->d.get c=h.get c):ay d k enc v xs:=by
 rcases s with s|⟨b,o,s,c,e,f,i⟩
 . exact .inl s
 . exact .inr ⟨b,o,s,c,e,f,lI i (g b (by rw [e];rfl))⟩
theorem tells1_ok{g hq:Hp}(E:g.t.Sized g.n)(j:hq.t.Sized hq.n)(Y:fq g hq)(N:g.n<=hq.n){x:Nat}(hx:g.n<=x){f:Gra}(F:Good f){Z O b r B:Nat}(hn:bW g Z (ptrTo O) f)(C:r≠x)(x5:B≠x)(P: ∀v,IsD (seen f.arcs Arc.t Arc.s) b v (dOf (seen f.arcs Arc.t Arc.s) b v)){D vA vO:Value}(Q:hq.load r 0 1=some [ptrTo O])(R:hq.load B 0 1=some [D])(T:ay hq 1 eO D ((zM f.nodes).map (dOf (seen f.arcs Arc.t Arc.s) b)))(xD: ∀c,aq D c->c≠x):
 HoldA zB hq x 239 [ptrTo r,ptrTo B] f.arcs.length (jU f b):=by
 intro h ok k nq a G
 have kN:fq g h:=fun c s=>(k c (Xb s N) (by omega)).trans (Y c s)
 have nN:g.n<=h.n:=Xa N nq
 have e2:=lI Q (k r (bJ j Q) C)
 have e5:=lI R (k B (bJ j R) x5)
 have t:ay h 1 eO D _:=sl_get T (fun c s=>k c (T.lt j s) (xD c s))
 have S:=Si ok
 have U:f.arcs[a]=f.arcs.getD a default:=by simp [zO,G]
 have hm:f.arcs.getD a default∈f.arcs:=by rw [<-U];exact Xe G
 obtain⟨hs,ht,hw⟩:=F.arcs _ hm
 unfold jU
 have H:=P (f.arcs.getD a default).s
 have I:=P (f.arcs.getD a default).t
 generalize hd:dOf (seen f.arcs Arc.t Arc.s) b=d at H I t
 refine ab (n:=35) (rs:=[.tmp 4]) rfl Tryz.e239 rfl rfl rfl (lbt rfl) ?_
 simp only [BS,LB,Nat.reduceLT,Nat.reduceEqDiff,FR,e2]
 refine step_ret (qM S.ok (hn.keep E kN) G) ?_
 rintro rv h4 ⟨g4,rfl⟩
 replace S:=S.call g4
 rw [U]
 generalize f.arcs.getD a default=A at hs ht hw H I
 simp only [BS,LB,Nat.reduceLT,Nat.reduceEqDiff,FR,cD]
 refine ag av S ?_;clear S;intro h u S V
 simp only [BS,LB,Nat.reduceLT,Nat.reduceEqDiff]
 refine aw (S.store (i:=0) rfl ?_ ?_ rfl rfl ?_ ono) ?_
 . exact(by exact Tryz.t90.2.1)
 . exact(by intro x e;cases e)
 . exact lbt rfl
 clear S;rintro h ⟨S,mo⟩;clear mo;simp only [LC,ah,lay,Xf,Xg,Nat.reduceAdd]at S
 have w:=t.gr S.gr
 have lD:((zM f.nodes).map d).length=f.nodes:=by simp
 obtain⟨c1,o1,x1,J⟩:=w.ix (kd:=.i64) iq (i:=A.t) (by omega)
 obtain⟨c2,o2,C,W⟩:=w.ix (kd:=.i64) iq (i:=A.s) (by omega)
 simp only [List.getElem_map,List.getElem_range,eO]at J W
 have K:=S.gr.load e5
 have z6:=(S.row (b:=u) m0).lt S.ok
 have z5:=bJ S.ok K
 have zc:=bJ S.ok J
 simp only [BS,LB,Nat.reduceLT,Nat.reduceEqDiff]
 refine au (ax rfl) (q:=0) (ps:=[]) (by kernel_rfl) ?_
 simp only [BS,LB,cls,Nat.reduceLT,Nat.reduceEqDiff,Nat.reduceAdd,Nat.reducePow,Nat.reduceDiv,Nat.reduceMod,Nat.reduceLeDiff,FR,K,x1,J,S.ld (b:=u) (o:=1) m0 rfl,S.ld (b:=u) (o:=2) m0 rfl]
 refine eZ (add_ok S.ok) ?_
 intro h7 p
 have v6:=aP p z6
 have v5:=aP p z5
 have vc:=aP p zc
 replace S:=S.call p
 simp only [BS,LB,cls,Nat.reduceLT,Nat.reduceEqDiff,Nat.reduceAdd,Nat.reducePow,Nat.reduceDiv,Nat.reduceMod,Nat.reduceLeDiff]
 have ad:=FAR_eq
 have b1:=H.le
 have r:=I.le
 have L:wy (wy (wy (d A.t:Nat))+wy (A.w:Nat))=(if d A.t+A.w<FAR then((d A.t+A.w:Nat):Int)else(FAR:Int)):=by
  unfold wy
  repeat' split
  all_goals omega
 rw [L]
 have y:=p.load K
 have z:=p.load W
 by_cases hf:d A.t+A.w<FAR
 . rw [if_pos hf]
   have w1:wy ((d A.t+A.w:Nat):Int)<72057594037927936:=by unfold wy;omega
   have M:decide (wy ((d A.t+A.w:Nat):Int)<72057594037927936)=true:=decide_eq_true w1
   refine al (yp S.ok) ?_
   intro h8 l;replace S:=S.call l
   rw [M]
   by_cases X:d A.s=A.w+d A.t
   . have m:((d A.t+A.w:Nat):Int)=(d A.s:Int):=by omega
     simp only [BS,LB,ae,Nat.reduceLT,Nat.reduceEqDiff,FR,l.load y,C,l.load z,m,S.ld (b:=u) (o:=0) m0 rfl]
     exact⟨by rw [decide_eq_true ⟨by omega,by omega,X⟩],S.gr⟩
   . have m: ¬((d A.t+A.w:Nat):Int)=(d A.s:Int):=by omega
     simp only [BS,LB,ae,Nat.reduceLT,Nat.reduceEqDiff,FR,l.load y,C,l.load z,m,S.ld (b:=u) (o:=0) m0 rfl]
     exact⟨by rw [decide_eq_false (fun h=>X h.2.2)],S.gr⟩
 . rw [if_neg hf]
   have M:decide (wy (FAR:Int)<72057594037927936)=false:=decide_eq_false (by unfold wy;omega)
   refine al (yp S.ok) ?_
   intro h8 l;replace S:=S.call l
   rw [M]
   simp only [BS,LB,ae,Nat.reduceLT,Nat.reduceEqDiff]
   exact⟨by rw [decide_eq_false (fun h=>by omega)],S.gr⟩
theorem tells_ok{d a:Hp}(p:a.t.Sized a.n)(F:d.t.Sized d.n)(u:Gr a d){x:Nat}(G:a.n<=x)(H:x<d.n){f:Gra}(k:Good f){I w b:Nat}(y:bW a I (ptrTo w) f)(J:b<f.nodes):
 Ret zB 232 [ptrTo w,.int .i64 (b:Nat)] d fun r z=>Gr d z/\ ∃g j,r=.func (.func 239) #[] #[ptrTo g,ptrTo j]/\d.n<=g/\d.n<=j/\HoldA zB z x 239 [ptrTo g,ptrTo j] f.arcs.length (jU f b):=by
 have S:=Si F
 refine ab (n:=10) (rs:=[.tmp 4]) rfl Tryz.e232 rfl rfl rfl (lbt rfl) ?_
 simp only [BS,Nat.reduceLT]
 refine ag (bU (by intro x e;cases e)) S ?_;clear S;intro h g S l;simp only [ah]at S
 simp only [BS,LB,Nat.reduceLT,Nat.reduceEqDiff,F0X,S.ld (b:=g) (o:=0) m0 rfl]
 refine step_ret (sa S.ok k (y.gr (u.trans S.gr)) J) ?_
 rintro r V ⟨K,W,vA,vO,D,X,O,rfl,q,L,M,_,A,N,_⟩
 have Y:=S.fr.n
 replace S:=S.call K
 have P:=q.fl
 have Q:=L.fl
 have R:=M.fl
 have B:D=dOf (seen f.arcs Arc.t Arc.s) b:=funext fun v=>((tD (A v)).1).symm
 have s: ∀v,IsD (seen f.arcs Arc.t Arc.s) b v (dOf (seen f.arcs Arc.t Arc.s) b v):=fun v=>by rw [<-B];exact A v
 rw [B]at q
 simp only [BS,F0X]
 have T:=S.row (b:=g) m0
 have Z:=S.fr.n
 have m:=S.gr
 have t:=S.ok
 clear S
 have S:=Si t
 refine ag av S ?_;clear S;intro h j S C
 simp only [BS,LB,Nat.reduceLT,Nat.reduceEqDiff]
 refine aw (S.store (i:=0) rfl Tryz.t218.2.1 (by intro x e;cases e) rfl (by simp only [ah,XI,XP,P.2.1,Q.2.1,R.2.1,Xm]) (lbt rfl) ono) ?_
 clear S;rintro h3 ⟨S,_⟩
 simp only [LC,ah,lay,Xf,Xg,Nat.reduceAdd]at S
 simp only [BS,LB,ae,Nat.reduceLT,Nat.reduceEqDiff]
 refine⟨m.trans S.gr,g,j,rfl,l,by omega,?_⟩
 have E:=u.trans (m.trans S.gr)
 exact tells1_ok p S.ok E.keep E.n G k y (by omega) (by omega) s (vA:=vA) (vO:=vO) ((T.gr S.gr).load1 (o:=0) rfl) (S.ld (b:=j) (o:=0) m0 rfl) (q.gr S.gr) (fun c U e=>by have:=N c (.inl U);omega)
def Tryz.F0Y:=aj t1<|aj t2<|aj t3<|aj t4<|t214
def Tryz.F0Z:=aj t1<|aj t2<|aj t3<|aj t4<|aj t9<|aj t154<|t228
def Tryz.F03:=aj t1<|aj t2<|aj t3<|aj t4<|aj t5<|aj t6<|aj Z0<|aj Z2<|aj t9<|aj t10<|aj Z1<|aj t38<|aj t67<|aj t154<|aj t162<|aj Z3<|aj t214<|t228
theorem marked_ok{a:Hp}(i:a.t.Sized a.n){n:Nat}{f:Value}(j:Fl f):Ret zB 231 [.int .i64 (n:Nat),f] a fun v g=>Gr a g/\ ∃b c,v=.func (.func 238) #[] #[ptrTo b,ptrTo c]/\a.n<=b/\a.n<=c/\g.load b 0 1=some [.int .i64 (n:Nat)]/\g.load c 0 1=some [f]:=by
 have S:=Si i
 refine ab (n:=6) (rs:=[.tmp 4]) rfl Tryz.e231 rfl rfl rfl (lbt rfl) ?_
 simp only [BS,Nat.reduceLT]
 refine ag (da (by exact cg)) S ?_;clear S;intro h b S d
 simp only [BS,Nat.reduceLT,Nat.reduceEqDiff,if_false]
 refine ag (da (by assumption)) S ?_;clear S;intro h c S e
 simp only [BS,LB,ae,Nat.reduceLT,Nat.reduceEqDiff]
 exact⟨S.gr,b,c,rfl,d,e,S.ld m1 rfl,S.ld m0 rfl⟩
theorem marked_it {hq b:Hp} (A:hq.t.Sized hq.n) (j:b.t.Sized b.n) (B:fq hq b) (u:hq.n<=b.n) {x:Nat} {N:Nat} (L:N<=1000) {k l:Nat} {g:FuncId} {post:Array Value} {f:Nat->Bool} (hf:HoldA zB hq x g post.toList N f)
 (C:b.load k 0 1=some [.int .i64 (N:Nat)]) (D:b.load l 0 1=some [.func (.func g) #[] post]):
 rG zB 238 [] [ptrTo k,ptrTo l] b (fun c=>c=k\/c=l\/(c<hq.n/\c≠x)) (((zM N).filter f).map fun(v:Nat)=>[.int .i64 (v:Nat)]):=by
 intro E J Z G Y h F s d
 have y:=s.load j C (.inl rfl)
 refine enter (n:=19) (rs:=[]) rfl Tryz.e238 rfl rfl rfl (lbt rfl) ?_
 simp only [BS,LB,Nat.reduceLT,F0Y,y]
 refine az (fun(i:Nat) e h=>i<=N/\ ∃F,ItS b (fun c=>c=k\/c=l\/(c<hq.n/\c≠x)) h F/\J ((zM i).filter f).length h F/\e 0=.func (.yield E) #[] #[]/\e 1=ptrTo k/\e 2=ptrTo l/\e 5=.int .i64 (N:Nat)/\e 6=.int .i64 i) (fun i=>N-i) ?_ 0 _ _ ?_
 . clear y s d F h
   intro i z e h ⟨hi,F,s,d,r0,r1,r2,r5,r6⟩
   have w:am .i64 ((i:Int)+1)=((i+1:Nat):Int):=by rw [wrap64]<;>omega
   by_cases hlt:i<N
   . have H:=s.load j D (.inr (.inl rfl))
     simp only [BS,LB,Nat.reduceLT,Nat.reduceEqDiff,F0Y,r2,r5,r6,an,hlt,H]
     refine al (hf _ s.ok (fun c o p=>(s.data c (Xb o u) (.inr (.inr ⟨o,p⟩))).trans (B c o)) (Xa u s.n) i hlt) ?_
     intro M m
     cases q:f i with
     | true=>
       have p:(((zM N).filter f).map fun(v:Nat)=>[Value.int .i64 (v:Nat)])[((zM i).filter f).length]? =some [.int .i64 (i:Nat)]:=by
        rw [Xh,wE q _ hlt];rfl
       have r:((zM (i+1)).filter f).length=((zM i).filter f).length+1:=by rw [lj,if_pos q];simp
       simp only [BS,LB,Nat.reduceLT,Nat.reduceEqDiff,r0]
       refine gx Y (s.gr m) (Y.gr _ _ _ _ d m) (i:=((zM i).filter f).length) p ?_ ?_ ?_
       . intro t I a K _ _
         simp only [BS,LB,Nat.reduceLT,Nat.reduceEqDiff,r6,w]
         exact z (i+1) _ _ (by omega) ⟨by omega,I,K,by rw [r];exact a,by simp [aa,r0],by simp [aa,r1,ac],by simp [aa,r2,ac],by simp [aa,r5],by simp [aa]⟩
       . intro t a _
         simp only [BS,LB,Nat.reduceLT,Nat.reduceEqDiff]
         exact iE rfl ⟨rfl,.inr (.inl ⟨_,rfl,a⟩)⟩
       . intro v t a
         exact absurd a (G v t)
     | false=>
       have r:(zM (i+1)).filter f=(zM i).filter f:=by rw [lj,if_neg (by rw [q];decide)];simp
       simp only [BS,LB,Nat.reduceLT,Nat.reduceEqDiff,r6,w]
       exact z (i+1) _ _ (by omega) ⟨by omega,F,s.gr m,by rw [r];exact Y.gr _ _ _ _ d m,by simp [aa,r0],by simp [aa,r1,ac],by simp [aa,r2,ac],by simp [aa,r5],by simp [aa]⟩
   . simp only [BS,LB,Nat.reduceLT,r5,r6,an,hlt]
     have:i=N:=by omega
     subst this
     exact di (cL ⟨rfl,_,rfl,rfl,.inl ⟨_,F,rfl,by simpa using d⟩⟩)
 . exact⟨Xj _,F,s,d,by simp [aa,cw],by simp [aa,cw,ac],by simp [aa,cw,ac],by simp [aa],by simp [aa]⟩
def fS(n:Nat)(f:Nat->Bool):List Value:=(zM n).map fun j=>.bool (f j)
theorem bolC_len{n:Nat}{f:Nat->Bool}:(fS n f).length=n:=by simp [fS]
theorem bolC_at{n j:Nat}{f:Nat->Bool}(h:j<n):(fS n f)[j]? =some (.bool (f j)):=mS (F:=fun j=>Value.bool (f j)) h
theorem bolC_set{n j:Nat}{f:Nat->Bool}:(fS n f).set j (.bool true)=fS n (fun u=>decide (u=j)||f u):=by
 have:=kA (N:=n) (k:=j) (F:=fun j=>Value.bool (f j)) (F':=fun u=>Value.bool (decide (u=j)||f u)) (fun i _ a=>by simp [a])
 unfold fS
 rw [<-this];simp
theorem pj{n:Nat}{f g:Nat->Bool}(h: ∀j,j<n->f j=g j):fS n f=fS n g:=by
 unfold fS
 refine XW fun j a=>?_
 rw [h j (List.mem_range.1 a)]
theorem putB_ok{l:Hp}(G:l.t.Sized l.n){d n:Nat}{f:Nat->Bool}(R:Row l d (fS n f) 1){g:FuncId}{post:Array Value}{D:Nat->Prop}{xs:List Nat}(N:rG zB g [] post.toList l D (xs.map fun(v:Nat)=>[.int .i64 (v:Nat)]))(H: ¬D d)(C: ∀x∈xs,x<n)(hl:xs.length<=1000):
 Ret zB 230 [.slice (some ⟨d,0,none⟩) n n,.func (.func g) #[] post,.bool true] l fun r w=>Mo (· =d) l w/\r=.slice (some ⟨d,0,none⟩) n n/\Row w d (fS n (fun u=>decide (u∈xs)||f u)) 1:=by
 have S:=St.init1 G (o:=.row (fS n f) 1) R
 have zl:=R.lt G
 refine ab (n:=15) (rs:=[.tmp 6]) rfl Tryz.e230 rfl rfl rfl (lbt rfl) ?_
 simp only [BS,Nat.reduceLT]
 refine ag (da (by exact cd)) S ?_;clear S;intro h p S I
 simp only [BS,Nat.reduceLT,Nat.reduceEqDiff,if_false]
 refine ag (da (by exact pS)) S ?_;clear S;intro h z S J
 simp only [BS,Nat.reduceLT,Nat.reduceEqDiff,if_false]
 have O:fS n f=fS n (fun u=>decide (u∈xs.take 0)||f u):=pj fun j _=>by simp
 refine jm S (g:=g) (a:=#[]) (b:=post) (by simp [bZ,aa,ac]) rfl rfl ?_
 intro K B A q P Q g2
 obtain⟨X,M,q⟩: ∃X:gm,X=_/\St (· =d) l K [(A,.loop X),(B,.dfr),(z,.row [.bool true] 1),(p,.row [.slice (some ⟨d,0,none⟩) n n] 1),(d,.row (fS n f) 1)] []:=⟨_,rfl,q⟩
 have V:Yld zB A (fun k w F=>St (· =d) l w [(A,.loop X),(B,.dfr),(z,.row [.bool true] 1),(p,.row [.slice (some ⟨d,0,none⟩) n n] 1),(d,.row (fS n (fun u=>decide (u∈xs.take k)||f u)) 1)] []/\k<=xs.length/\F=[A,B,z,p,d]) (fun _ _=>False) (xs.map fun(v:Nat)=>[.int .i64 (v:Nat)]):=by
  refine⟨?_,?_,fun _ _ h=>h.elim,?_⟩
  . rintro i h F ⟨S,_,rfl⟩;exact⟨S.ok,fun b m=>S.key_lt (by simpa [keys]using m)⟩
  . rintro i h F w ⟨S,a,rfl⟩ W;exact⟨S.call W,a,rfl⟩
  . rintro i x hR F E ⟨S,a,rfl⟩
    have s:i<xs.length:=by
     have:=(List.getElem?_eq_some_iff.1 E).1
     simpa using this
    rw [Xh,Xc s]at E
    cases E
    have t:=C _ (Xe s)
    have Y:fS n (fun u=>decide (u∈xs.take (i+1))||f u)=(fS n (fun u=>decide (u∈xs.take i)||f u)).set xs[i] (.bool true):=by
     rw [bolC_set]
     refine pj fun j _=>?_
     rw [Xk s]
     simp only [XD,XH]
     by_cases Z:j=xs[i]<;>by_cases e2:j∈xs.take i<;>simp [Z,e2]
    rw [Y]
    generalize xs[i]=x at t
    subst M
    refine jn (S.get m0) (by rw [Tryz.e230];rfl) rfl ?_
    have S0:=S
    replace S:=S.base
    simp only [BS,LB,Nat.reduceLT,Nat.reduceEqDiff]
    refine iN S (i:=0) rfl rfl rfl rfl rfl ?_
    clear S;intro h S
    simp only [LC]at S
    simp only [BS,LB,Nat.reduceLT,Nat.reduceEqDiff,F0Z,t,S.ld (b:=p) (o:=0) m3 rfl,S.ld (b:=z) (o:=0) m2 rfl]
    refine aw (ar S (i:=4) rfl Tryz.t4.2.2.1 pS (by rw [bolC_len];exact t) ono) ?_
    clear S;rintro h ⟨S,_⟩
    simp only [LC]at S
    simp only [BS]
    refine fk S (i:=0) rfl ?_
    clear S;intro h S
    simp only [LC]at S
    refine .inl ⟨rfl,_,⟨S0.rebase S,by omega,rfl⟩,?_,fun c hc=>.inl hc⟩
    have:=S.fr
    simp only [keys,XJ,List.map_nil,List.filterMap_nil,List.append_nil]at this
    exact this
 refine eJ (N A _ _ (fun _ _ h=>h) V K [A,B,z,p,d] ?_ ⟨by rw [<-O];exact q,Xj _,rfl⟩) fun o rc w y=>lS y ?_
 . have kn:=S.fr.n
   refine⟨q.ok,q.fr.n,fun b m hd=>q.fr.get b m (fun e=>H (e▸hd)),fun b m h=>?_,fun b m=>q.key_lt (by simpa [keys]using m)⟩
   simp only [XK,XC,or_false]at m
   rcases m with rfl|rfl|rfl|rfl|rfl
   . omega
   . omega
   . omega
   . omega
   . exact H h.2
 . rintro F ⟨T,_,rfl⟩
   rw [Xi,Xw]at T
   subst M
   refine⟨_,T.get m0,Xx,?_⟩
   replace T:=T.dead
   have S:=T
   show Run _ _ _ _ _ _ _ _
   simp only [BS,LB,Nat.reduceLT,Nat.reduceEqDiff,F0Z,S.ld (b:=p) (o:=0) m2 rfl]
   refine fH (fW [B] _ (L:=[(z,_),(p,_),(d,_)]) T.base fun h4 S4=>?_)
   refine⟨rfl,(rm (by decide)).2 (ib.2 ?_)⟩
   have U:=T.rebase S4
   exact⟨U.fr,rfl,U.row m2⟩
theorem anyT_ok {k:Hp} (M:k.t.Sized k.n) {d:Gra} (m:Good d) {N y b:Nat} {z:Value} {xs:List Nat} (A:bW k N (ptrTo y) d) (G:b<d.nodes) (B:ay k 1 eO z xs) (p:xs=[b]):
 Ret zB 203 [ptrTo y,z] k fun r H=>Gr k H/\ ∃f,r=.slice (some ⟨f,0,none⟩) d.arcs.length d.arcs.length/\Row H f (fS d.arcs.length (jU d b)) 1/\k.n<=f:=by
 have S:=Si M
 have I:=m.many
 have fL:=B.fl
 have hl:xs.length=1:=by rw [p];rfl
 refine ab (n:=32) (rs:=[.tmp 4]) rfl Tryz.e203 rfl rfl rfl (lbt rfl) ?_
 simp only [BS,LB,Nat.reduceLT,Nat.reduceEqDiff,F03]
 refine al (mi S.ok A) ?_
 intro h1 O;replace S:=S.call O
 simp only [BS,LB,Nat.reduceLT,Nat.reduceEqDiff]
 have C:=S.gr
 have q:=S.ok
 clear S
 have S:=Si q
 rename Hp=>hA
 refine ag (j8 (by exact Tryz.t228.1) (by exact Tryz.e4E) (by omega) (by omega)) S ?_;clear S;intro h f S s
 have P:aU [Value.bool false] d.arcs.length=fS d.arcs.length (fun a=>decide (0=1)&&jU d b a):=by
  rw [lE]
  unfold fS
  simp [List.map_const']
 rw [XL,P]at S
 simp only [BS,LB,Nat.reduceLT,Nat.reduceEqDiff,F03,XL,B.lenq]
 refine az (fun(i:Nat) l h=>i<=1/\St NoM hA h [(f,.row (fS d.arcs.length (fun a=>decide (i=1)&&jU d b a)) 1)] []/\l 0=ptrTo y/\l 5=.slice (some ⟨f,0,none⟩) d.arcs.length d.arcs.length/\l 13=z/\l 14=.int .i64 (xs.length:Nat)/\l 15=.int .i64 i) (fun i=>1-i) ?_ 0 _ _ ?_
 . clear S
   intro i Q l h ⟨hi,S,r0,r5,r13,r14,r15⟩
   have w:am .i64 ((i:Int)+1)=((i+1:Nat):Int):=by rw [wrap64]<;>omega
   have D:=C.trans S.gr
   by_cases hlt:i<xs.length
   . have J:i=0:=by omega
     obtain⟨c,o,R,t⟩:=(B.gr D).ix (kd:=.i64) iq hlt
     have T:xs[i]=b:=by subst p;subst J;rfl
     rw [T]at t
     replace t:h.load c o 1=some [.int .i64 (b:Nat)]:=t
     simp only [BS,LB,Nat.reduceLT,Nat.reduceEqDiff,F03,r0,r13,r14,r15,an,hlt,R,t]
     refine al (CY S.ok (A.gr D) G) ?_
     intro h2 U;replace S:=S.call U
     have hS:=S.gr
     have E:=(S.row (b:=f) m0).lt S.ok
     simp only [BS,LB,Nat.reduceLT,Nat.reduceEqDiff,F03,r0,r5]
     refine step_ret (tells_ok q S.ok S.gr (x:=f) s E m (A.gr C) G) ?_
     rintro v h3 ⟨K,V,W,rfl,n2,n5,hf⟩
     replace S:=S.call K
     have F:=S.ok
     simp only [BS,LB,Nat.reduceLT,Nat.reduceEqDiff]
     refine step_ret (marked_ok S.ok (n:=d.arcs.length) ic) ?_
     rintro v h4 ⟨g4,X,Y,rfl,n1,n3,Z,y3⟩
     have it:=marked_it F g4.ok g4.keep g4.n (x:=f) (by omega) (g:=239) (post:=#[ptrTo V,ptrTo W]) hf Z y3
     have kg:=K.n
     replace S:=S.call g4
     simp only [BS,LB,Nat.reduceLT,Nat.reduceEqDiff]
     refine step_ret (putB_ok S.ok (S.row (b:=f) m0) (g:=238) (post:=#[ptrTo X,ptrTo Y]) it (fun h=>?_) (fun x hx=>List.mem_range.1 (List.mem_filter.1 hx).1) (Xa xH (by omega))) ?_
     . rcases h with h|h|h
       . omega
       . omega
       . exact h.2 rfl
     . rintro v h5 ⟨f5,rfl,R5⟩
       have L:=S.call1 (i:=0) (o':=.row _ 1) rfl f5 R5
       simp only [XF]at L
       simp only [BS,LB,Nat.reduceLT,Nat.reduceEqDiff,r15,w]
       refine Q (i+1) _ _ (by omega) ⟨by omega,?_,by simp [aa,r0,ac],by simp [aa],by simp [aa,r13],by simp [aa,r14],by simp [aa]⟩
       have e:fS d.arcs.length (fun a=>decide (i+1=1)&&jU d b a)=fS d.arcs.length (fun u=>decide (u∈(zM d.arcs.length).filter (jU d b))||(decide (i=1)&&jU d b u)):=pj fun j hj=>by
        subst J
        simp [List.mem_filter,hj]
       rw [e]
       exact L
   . have i1:i=1:=by omega
     simp only [BS,LB,ae,Nat.reduceLT,Nat.reduceEqDiff,r5,r14,r15,an,hlt]
     refine⟨D,f,rfl,?_,by have:=C.n;omega⟩
     have e:fS d.arcs.length (jU d b)=fS d.arcs.length (fun a=>decide (i=1)&&jU d b a):=pj fun j _=>by rw [decide_eq_true i1,Bool.true_and]
     rw [e]
     exact S.row m0
 . exact⟨Xj _,S,by simp [aa,cw,ac],by simp [aa],by simp [aa],by simp [aa],by simp [aa]⟩
theorem arcsT_ok{c:Hp}(k:c.t.Sized c.n){a:Gra}(e:Good a){l g b:Nat}(m:bW c l (ptrTo g) a)(p:b<a.nodes):
 Ret zB 152 [ptrTo g,.int .i64 (b:Nat)] c fun r i=>Gr c i/\ ∃d,r=.slice (some ⟨d,0,none⟩) a.arcs.length a.arcs.length/\Row i d (fS a.arcs.length (jU a b)) 1/\c.n<=d:=by
 have S:=Si k
 refine ab (n:=9) (rs:=[.tmp 4]) rfl Tryz.e152 rfl rfl rfl (lbt rfl) ?_
 simp only [BS,LB,Nat.reduceLT,Nat.reduceEqDiff]
 refine ag (bj (by exact Tryz.t38.1) (by exact XO) (by decide) (by rfl)) S ?_;clear S;intro h f S j;simp only [LC,aU,bA,ah,Nat.reduceMul,Nat.reduceAdd,Xp,Xl,Xn,Xt]at S
 simp only [BS,LB,Nat.reduceLT,Nat.reduceEqDiff]
 have q:ay h 1 eO (.slice (some ⟨f,0,none⟩) 1 1) [b]:=.inr ⟨f,0,none,1,rfl,Xo _,S.lds (b:=f) (o:=0) (n:=1*1) m0 (lbt rfl)⟩
 have t:=S.fr.n
 refine step_ret (anyT_ok S.ok e (m.gr S.gr) p q rfl) ?_
 rintro r u ⟨s,d,rfl,R,v⟩
 replace S:=S.call s
 simp only [BS,LB,ae,Nat.reduceLT,Nat.reduceEqDiff]
 exact⟨S.gr,d,rfl,R,by omega⟩
end Go.Ab
end
section
namespace Go.Ab
open Go.Proofs
set_option maxRecDepth 10000
def Tryz.F10:=aj t1<|aj t2<|aj t3<|aj t4<|aj t5<|aj t6<|aj Z0<|aj Z1<|aj t67<|aj t162<|aj Z3<|t214
def Tryz.F1I:=aj t1<|aj t3<|aj t4<|aj Z1<|aj t38<|aj t67<|aj t73<|aj Z5<|aj t162<|Z3
def Tryz.F1J:=aj t1<|aj t3<|aj t4<|t228
def Tryz.F04:=aj t1<|aj t2<|aj t3<|aj t4<|aj t5<|aj t6<|aj Z0<|aj Z2<|aj Z1<|aj t38<|aj t67<|aj t73<|aj Z5<|aj t162<|aj Z3<|aj t214<|aj t225<|t228
def Own(B:Nat->Prop)(a h:Hp)(F:List Nat):Prop:=a.n<=h.n/\ ∀b,B b->b<a.n/\b∉F/\h.get b=a.get b
theorem Own.gr{B:Nat->Prop}{c h d:Hp}{F:List Nat}(o:Own B c h F)(g:Gr h d):Own B c d F:=
 ⟨Xa o.1 g.n,fun b a=>⟨(o.2 b a).1,(o.2 b a).2.1,(g.get b (Xb (o.2 b a).1 o.1)).trans (o.2 b a).2.2⟩⟩
theorem Own.mo{B:Nat->Prop}{a h c:Hp}{F F':List Nat}(o:Own B a h F)(m:Mo (· ∈F) h c)(f: ∀b∈F',b∈F\/h.n<=b):Own B a c F':=
 ⟨Xa o.1 m.n,fun b g=>by
  obtain⟨d,e,i⟩:=o.2 b g
  have hlt:=Xb d o.1
  exact⟨d,fun j=>(f b j).elim e (fun h=>by omega),(m.get b hlt e).trans i⟩⟩
section
variable{γ:Gra}{nb mb bp k:Nat}{p:Value}{m:List Int}{c:Nat->Nat}
theorem won_ok{d j:Hp}{D:Nat->Prop}(x:d.t.Sized d.n){M:Nat}{J:Nat->Hp->List Nat->Prop}{Z:Out->Hp->Prop}{xs:List (List Value)}(y:Good γ)(P: ∀v h,¬Z (.pan v) h)(Y:Yld zB M J Z xs){B:Nat->Prop}{b z:Nat}(A:B b)(Q:j.load b 0 1=some [.func (.yield M) #[] #[]])(R:D z)(S:d.load z 0 1=some [ptrTo bp])(l: ∀h F,ItS d D h F->bW h nb (ptrTo bp) γ)
 {g:FuncId} {post:Array Value} {f:Nat->Bool} (C: ∀h F,ItS d D h F->Own B j h F-> ∀a,a<γ.arcs.length->bG zB g ([.int .i64 (a:Nat)]++post.toList) h (.bool (f a))) {q:Nat} (T: ∀a,a<γ.arcs.length->f a=true->xs[q+((zM a).filter f).length]? =some [.int .i64 (a:Nat)]) {h:Hp} {F:List Nat} (s:ItS d D h F) (o:Own B j h F) (r:J q h F):
 Ret zB 148 [.func (.func g) #[] post,ptrTo z,ptrTo b] h fun v u=>(v=.bool true/\ ∃F',ItS d D u F'/\Own B j u F'/\J (q+((zM γ.arcs.length).filter f).length) u F')\/(v=.bool false/\Z (.ret (.bool false)) u):=by
 have N:=y.many
 have U:=s.load x S R
 refine ab (n:=21) (rs:=[.tmp 4]) rfl Tryz.e148 rfl rfl rfl (lbt rfl) ?_
 simp only [BS,LB,Nat.reduceLT,Nat.reduceEqDiff,F10,U]
 refine al (mi s.ok (l _ _ s)) ?_
 intro X E
 simp only [BS]
 refine az (fun(i:Nat) t h=>i<=γ.arcs.length/\ ∃F,ItS d D h F/\Own B j h F/\J (q+((zM i).filter f).length) h F/\t 0=.func (.func g) #[] post/\t 2=ptrTo b/\t 7=.int .i64 (γ.arcs.length:Nat)/\t 8=.int .i64 i) (fun i=>γ.arcs.length-i) ?_ 0 _ _ ?_
 . intro i O t h ⟨hi,F,s,o,r,r0,r2,r7,r8⟩
   have w:am .i64 ((i:Int)+1)=((i+1:Nat):Int):=by rw [wrap64]<;>omega
   by_cases hlt:i<γ.arcs.length
   . simp only [BS,LB,Nat.reduceLT,Nat.reduceEqDiff,r0,r7,r8,an,hlt]
     refine al (C _ _ s o i hlt) ?_
     intro h2 e
     have G:=lI Q ((o.gr e).2 b A).2.2
     cases H:f i with
     | true=>
       have I:((zM (i+1)).filter f).length=((zM i).filter f).length+1:=by rw [lj,if_pos H];simp
       simp only [BS,LB,Nat.reduceLT,Nat.reduceEqDiff,F10,r2,G]
       refine gx Y (s.gr e) (Y.gr _ _ _ _ r e) (i:=q+((zM i).filter f).length) (T i hlt H) ?_ ?_ ?_
       . intro K V a W m3 L
         simp only [BS,LB,Nat.reduceLT,Nat.reduceEqDiff,r8,w]
         exact O (i+1) _ _ (by omega) ⟨by omega,V,W,(o.gr e).mo m3 L,by rw [I];exact a,by simp [aa,r0],by simp [aa,r2,ac],by simp [aa,r7],by simp [aa]⟩
       . intro K a _
         simp only [BS,LB,ae,Nat.reduceLT,Nat.reduceEqDiff]
         exact .inr a
       . intro v K a
         exact absurd a (P v K)
     | false=>
       have I:(zM (i+1)).filter f=(zM i).filter f:=by rw [lj,if_neg (by rw [H];decide)];simp
       simp only [BS,LB,Nat.reduceLT,Nat.reduceEqDiff,r8,w]
       exact O (i+1) _ _ (by omega) ⟨by omega,F,s.gr e,o.gr e,by rw [I];exact Y.gr _ _ _ _ r e,by simp [aa,r0],by simp [aa,r2,ac],by simp [aa,r7],by simp [aa]⟩
   . have:i=γ.arcs.length:=by omega
     subst this
     simp only [BS,LB,ae,Nat.reduceLT,Nat.reduceEqDiff,r7,r8,an,hlt]
     exact .inl ⟨F,s,o,r⟩
 . exact⟨Xj _,F,s.gr E,o.gr E,Y.gr _ _ _ _ r E,by simp [aa,cw],by simp [aa,cw,ac],by simp [aa],by simp [aa]⟩
theorem worth_ok{a:Hp}(l:a.t.Sized a.n)(o:Fl p):Ret zB 86 [ptrTo bp,p,.int .i64 (k:Nat)] a fun v j=>Gr a j/\ ∃b d e,v=.func (.func 147) #[] #[ptrTo b,ptrTo d,ptrTo e]/\a.n<=b/\a.n<=d/\a.n<=e/\j.load b 0 1=some [ptrTo bp]/\j.load d 0 1=some [p]/\j.load e 0 1=some [.int .i64 (k:Nat)]:=by
 have S:=Si l
 refine ab (n:=8) (rs:=[.tmp 6]) rfl Tryz.e86 rfl rfl rfl (lbt rfl) ?_
 simp only [BS,Nat.reduceLT]
 refine ag (da (by exact cP)) S ?_;clear S;intro h b S f
 simp only [BS,Nat.reduceLT,Nat.reduceEqDiff,if_false]
 refine ag (da (by assumption)) S ?_;clear S;intro h d S g
 simp only [BS,Nat.reduceLT,Nat.reduceEqDiff,if_false]
 refine ag (da (by exact cg)) S ?_;clear S;intro h e S i
 simp only [BS,LB,ae,Nat.reduceLT,Nat.reduceEqDiff]
 exact⟨S.gr,b,d,e,rfl,f,g,i,S.ld m2 rfl,S.ld m1 rfl,S.ld m0 rfl⟩
def insB(γ:Gra)(c:Nat->Nat)(k a:Nat):Bool:=decide (c (γ.arcs.getD a default).s=k/\c (γ.arcs.getD a default).t=k)
theorem worth2_ok{h:Hp}(g:h.t.Sized h.n)(b:Good γ)(i:bW h nb (ptrTo bp) γ)(x:iU h mb p γ.nodes m c){d e f:Nat}(j:h.load d 0 1=some [ptrTo bp])(l:h.load e 0 1=some [p])(o:h.load f 0 1=some [.int .i64 (k:Nat)]){a:Nat}(q:a<γ.arcs.length):
 bG zB 149 ([.int .i64 (a:Nat)]++[ptrTo d,ptrTo e,ptrTo f]) h (.bool (insB γ c k a)):=by
 refine ab (n:=11) (rs:=[.tmp 5]) rfl Tryz.e149 rfl rfl rfl (lbt rfl) ?_
 simp only [BS,LB,Nat.reduceLT,Nat.reduceEqDiff,F1I,j,l,o]
 refine al (inside_ok (N:=0) g b i x q) ?_
 intro s r
 simp only [BS,LB,ae,Nat.reduceLT,Nat.reduceEqDiff]
 exact⟨rfl,r⟩
theorem worth3_ok{h:Hp}(g:h.t.Sized h.n){b d n:Nat}{f:Nat->Bool}(i:h.load b 0 1=some [.slice (some ⟨d,0,none⟩) n n])(R:Row h d (fS n f) 1){a:Nat}(e:a<n):
 bG zB 153 ([.int .i64 (a:Nat)]++[ptrTo b]) h (.bool (f a)):=by
 have S:=Si g
 have j:=R.load1 (bolC_at (f:=f) e)
 have l:(a:Int)<(n:Int):=by omega
 refine ab (n:=14) (rs:=[.tmp 3]) rfl Tryz.e153 rfl rfl rfl (lbt rfl) ?_
 simp only [BS,LB,ae,Nat.reduceLT,Nat.reduceEqDiff,F1J,i,l,e,j]
 exact S.gr
theorem flat_at{a β:Type}{f:a->List β}{l:List a}{j q:Nat}{x:β}(b:j<l.length)(h:(f l[j])[q]? =some x):(l.flatMap f)[((l.take j).flatMap f).length+q]? =some x:=by
 have e:l=l.take j++l[j]::l.drop (j+1):=by rw [<-XN b,List.take_append_drop]
 conv=>lhs;rw [e]
 rw [XE,XB,Xq (by simp)]
 have d:=(List.getElem?_eq_some_iff.1 h).1
 have g:(Xf j l++l[j]::Xg (j+1) l).take j=l.take j:=by rw [<-e]
 rw [g,XQ,Xs d]
 exact h
noncomputable def qj(γ:Gra)(b:Nat):List Nat:=(zM γ.arcs.length).filter (jU γ b)
noncomputable def eH(γ:Gra)(c:Nat->Nat)(k:Nat):List Nat:=(zM γ.arcs.length).filter (insB γ c k)++((zM γ.nodes).filter (borB γ c k)).flatMap (qj γ)
theorem worth1_it {hq z:Hp} (O:hq.t.Sized hq.n) (t:z.t.Sized z.n) (kq:fq hq z) (nq:hq.n<=z.n) (y:Good γ) (hn:bW hq nb (ptrTo bp) γ) (x:iU hq mb p γ.nodes m c) {A D E:Nat} (P:z.load A 0 1=some [ptrTo bp]) (e4:z.load D 0 1=some [p]) (e5:z.load E 0 1=some [.int .i64 (k:Nat)]):
 rG zB 147 [] [ptrTo A,ptrTo D,ptrTo E] z (fun c=>c=A\/c=D\/c=E\/c<hq.n) ((eH γ c k).map fun(a:Nat)=>[.int .i64 (a:Nat)]):=by
 intro lb J Z hz Y h F s Q
 have n2:=y.n2
 have fp:Fl p:=by obtain⟨b,_,rfl,_⟩:=x.at0;exact cP
 have kN: ∀h F,ItS z (fun c=>c=A\/c=D\/c=E\/c<hq.n) h F->fq hq h:=fun h F s=>s.keep kq nq (fun c hc=>.inr (.inr (.inr hc)))
 have u: ∀h F,ItS z (fun c=>c=A\/c=D\/c=E\/c<hq.n) h F->bW h nb (ptrTo bp) γ:=fun h F s=>hn.keep O (kN h F s)
 have G: ∀h F,ItS z (fun c=>c=A\/c=D\/c=E\/c<hq.n) h F->iU h mb p γ.nodes m c:=fun h F s=>x.keep O (kN h F s)
 have ad: ∀a,a<γ.arcs.length->insB γ c k a=true->((eH γ c k).map fun(a:Nat)=>[Value.int .i64 (a:Nat)])[0+((zM a).filter (insB γ c k)).length]? =some [.int .i64 (a:Nat)]:=fun a I q=>by
  have V:=wE q _ I
  unfold eH
  rw [Xl,Xh,Xs (List.getElem?_eq_some_iff.1 V).1,V];rfl
 have S:=Si s.ok
 refine enter (n:=31) (rs:=[]) rfl Tryz.e147 rfl rfl rfl (lbt rfl) ?_
 simp only [BS,LB,Nat.reduceLT]
 refine ag (da (by exact ic)) S ?_;clear S;intro h l S af
 have s1:=s.gr S.gr
 have j1:=Y.gr _ _ _ _ Q S.gr
 have zy:=(S.row (b:=l) m0).lt S.ok
 have ly:=S.ld (b:=l) (o:=0) m0 rfl
 have o1:Own (· =l) _ _ F:=⟨Xo _,fun b q=>⟨by subst q;exact zy,fun H=>by subst q;have:=s.lt _ H;omega,rfl⟩⟩
 simp only [BS,LB,Nat.reduceLT,Nat.reduceEqDiff]
 refine step_ret (won_ok t y hz Y (B:=(· =l)) rfl ly (.inl rfl) P u (g:=149) (post:=#[ptrTo A,ptrTo D,ptrTo E]) (f:=insB γ c k) (fun h F s _ a I=>worth2_ok s.ok y (u _ _ s) (G _ _ s) (s.load t P (.inl rfl)) (s.load t e4 (.inr (.inl rfl))) (s.load t e5 (.inr (.inr (.inl rfl)))) I) ad s1 o1 j1) ?_
 rintro v h2 (⟨rfl,F2,C,o2,j2⟩|⟨rfl,z2⟩)
 . simp only [BS,LB,Nat.reduceLT,Nat.reduceEqDiff,F04,C.load t P (.inl rfl),C.load t e4 (.inr (.inl rfl)),C.load t e5 (.inr (.inr (.inl rfl)))]
   refine step_ret (border_ok C.ok y (u _ _ C) (G _ _ C) (k:=k)) ?_
   rintro M R ⟨gB,W,nB⟩
   have sA:=C.gr gB
   have jA:=Y.gr _ _ _ _ j2 gB
   have X:=o2.gr gB
   have lB:R.load l 0 1=some [.func (.yield lb) #[] #[]]:=lI ly (X.2 l rfl).2.2
   have ai:l<R.n:=Xb zy X.1
   have oB:Own (fun c=>c=l\/aq M c) R R F2:=⟨Xo _,fun b q=>⟨q.elim (fun e=>by subst e;exact ai) (fun h=>W.lt sA.ok h),fun H=>q.elim (fun e=>(X.2 b e).2.1 H) (fun h=>by have:=nB b h;have:=C.lt b H;omega),rfl⟩⟩
   generalize hL:(zM γ.nodes).filter (borB γ c k)=L at W
   have ak: ∀b∈L,b<γ.nodes:=fun b q=>by rw [<-hL]at q;exact List.mem_range.1 (List.mem_filter.1 q).1
   have a0:L.length<=γ.nodes:=by rw [<-hL];exact xH
   simp only [BS,LB,Nat.reduceLT,Nat.reduceEqDiff,F04,W.lenq]
   refine az (fun(j:Nat) N h=>j<=L.length/\ ∃F,ItS z (fun c=>c=A\/c=D\/c=E\/c<hq.n) h F/\Own (fun c=>c=l\/aq M c) R h F/\J (((zM γ.arcs.length).filter (insB γ c k)).length+((L.take j).flatMap (qj γ)).length) h F/\N 1=ptrTo A/\N 5=.func (.func 148) #[] #[ptrTo A,ptrTo l]/\N 17=M/\N 18=.int .i64 (L.length:Nat)/\N 19=.int .i64 j) (fun j=>L.length-j) ?_ 0 _ _ ?_
   . clear S s1 j1 o1 C j2 o2 sA jA X oB
     intro j ih N h ⟨hj',F,s,o,Q,r1,r5,r17,r18,r19⟩
     have w:am .i64 ((j:Int)+1)=((j+1:Nat):Int):=by rw [wrap64]<;>omega
     by_cases hlt:j<L.length
     . have q:=ak _ (Xe hlt)
       have sl:ay h 1 eO M L:=sl_get W (fun c hc=>(o.2 c (.inr hc)).2.2)
       obtain⟨d,oo,x0,y0⟩:=sl.ix (kd:=.i64) iq hlt
       have T: ∀a,a<γ.arcs.length->jU γ L[j] a=true->((eH γ c k).map fun(a:Nat)=>[Value.int .i64 (a:Nat)])[((zM γ.arcs.length).filter (insB γ c k)).length+((L.take j).flatMap (qj γ)).length+((zM a).filter (jU γ L[j])).length]? =some [.int .i64 (a:Nat)]:=fun a I q=>by
        have V:(qj γ L[j])[((zM a).filter (jU γ L[j])).length]? =some a:=wE q _ I
        unfold eH
        rw [hL,Xh,Nat.add_assoc,Xq (by omega),XQ,flat_at hlt V];rfl
       have tk:((L.take (j+1)).flatMap (qj γ)).length=((L.take j).flatMap (qj γ)).length+((zM γ.arcs.length).filter (jU γ L[j])).length:=by
        rw [Xk hlt,XE,XG]
        simp [qj]
       generalize L[j]=b at q y0 T tk
       replace y0:h.load d oo 1=some [.int .i64 (b:Nat)]:=y0
       simp only [BS,LB,Nat.reduceLT,Nat.reduceEqDiff,F04,r1,r17,r18,r19,an,hlt,x0,y0,s.load t P (.inl rfl)]
       refine step_ret (arcsT_ok s.ok y (u _ _ s) q) ?_
       rintro r h4 ⟨g4,bl,rfl,R4,nl⟩
       have S:=Si g4.ok
       simp only [BS,F04]
       refine ag av S ?_;clear S;intro h U S aL
       simp only [BS,LB,Nat.reduceLT,Nat.reduceEqDiff]
       refine aw (ar S (i:=0) rfl Tryz.t228.2.2.1 cd (Xd (lbt rfl)) ono) ?_
       clear S;rintro h5 ⟨S,_⟩
       simp only [LC]at S
       have g5:=g4.trans S.gr
       have s5:=s.gr g5
       have j5:=Y.gr _ _ _ _ Q g5
       have K:=o.gr g5
       have R8:=S.row (b:=U) m0
       have Rl:=R4.gr S.gr
       have k4:=g4.n
       have oC:Own (fun c=>(c=l\/aq M c)\/c=U\/c=bl) h5 h5 F:=⟨Xo _,fun b q=>by
        rcases q with q|rfl|rfl
        . exact⟨Xb (K.2 b q).1 K.1,(K.2 b q).2.1,rfl⟩
        . exact⟨R8.lt S.ok,fun H=>by have:=s.lt _ H;omega,rfl⟩
        . exact⟨Rl.lt S.ok,fun H=>by have:=s.lt _ H;omega,rfl⟩⟩
       have l5:h5.load l 0 1=some [.func (.yield lb) #[] #[]]:=lI lB (K.2 l (.inl rfl)).2.2
       simp only [BS,LB,Nat.reduceLT,Nat.reduceEqDiff,r5]
       refine step_ret (won_ok t y hz Y (B:=fun c=>(c=l\/aq M c)\/c=U\/c=bl) (.inl (.inl rfl)) l5 (.inl rfl) P u (g:=153) (post:=#[ptrTo U]) (f:=jU γ b) (fun h F s o a I=>worth3_ok s.ok (lI (R8.load1 (o:=0) rfl) (o.2 U (.inr (.inl rfl))).2.2) (Row.of_get (o.2 bl (.inr (.inr rfl))).2.2 Rl) I) T s5 oC j5) ?_
       rintro v h6 (⟨rfl,F6,s6,o6,j6⟩|⟨rfl,z6⟩)
       . simp only [BS,LB,Nat.reduceLT,Nat.reduceEqDiff,r19,w]
         refine ih (j+1) _ _ (by omega) ⟨by omega,F6,s6,⟨Xa K.1 o6.1,fun b q=>⟨(K.2 b q).1,(o6.2 b (.inl q)).2.1,(o6.2 b (.inl q)).2.2.trans (K.2 b q).2.2⟩⟩,by rw [tk,<-Nat.add_assoc];exact j6,by simp [aa,r1,ac],by simp [aa,r5],by simp [aa,r17],by simp [aa,r18],by simp [aa]⟩
       . simp only [BS,LB,Nat.reduceLT,Nat.reduceEqDiff]
         exact iE rfl ⟨rfl,.inr (.inl ⟨_,rfl,z6⟩)⟩
     . have:j=L.length:=by omega
       subst this
       simp only [BS,LB,Nat.reduceLT,r18,r19,an,hlt]
       refine di (cL ⟨rfl,_,rfl,rfl,.inl ⟨_,F,rfl,?_⟩⟩)
       rw [Xw]at Q
       rw [Xi]
       unfold eH
       rw [XG,hL]
       exact Q
   . exact⟨Xj _,F2,sA,oB,by simpa using jA,by simp [aa,cw,ac],by simp [aa,ac],by simp [aa],by simp [aa],by simp [aa]⟩
 . simp only [BS,LB,Nat.reduceLT,Nat.reduceEqDiff]
   exact iE rfl ⟨rfl,.inr (.inl ⟨_,rfl,z2⟩)⟩
end
end Go.Ab

end
section
namespace Go.Ab
open Go.Proofs
set_option maxRecDepth 10000
def Tryz.Fw:=aj t1<|aj t2<|aj t3<|aj t4<|aj t5<|aj t6<|aj Z0<|aj Z2<|aj t9<|aj t10<|aj t11<|aj t22<|aj t26<|aj Z1<|aj t38<|aj t67<|aj t73<|aj t74<|aj Z5<|aj t154<|aj t162<|aj Z3<|Z8
def OkB(e:Gra)(c:Nat->Nat)(b k i:Nat)(B:Nat->Nat):Prop:= ∀d a,a/8<b->(bitB B b d a=true↔(d<k/\a∈eH e c d)\/(d=k/\a∈(eH e c k).take i))
theorem OkB.zero{d:Gra}{c:Nat->Nat}{b:Nat}:OkB d c b 0 0 (fun _=>0):=fun e a _=>by simp [bitB]
theorem OkB.next{f:Gra}{c:Nat->Nat}{b k:Nat}{B:Nat->Nat}(o:OkB f c b k (eH f c k).length B):OkB f c b (k+1) 0 B:=fun g a h=>by
 rw [o g a h,Xw]
 simp only [List.take_zero,XC,and_false,or_false]
 constructor
 . rintro(⟨i,d⟩|⟨rfl,d⟩)
   . exact⟨by omega,d⟩
   . exact⟨by omega,d⟩
 . rintro⟨i,d⟩
   by_cases e:g=k
   . subst e;exact .inr ⟨rfl,d⟩
   . exact .inl ⟨by omega,d⟩
theorem OkB.set{d:Gra}{c:Nat->Nat}{b k i:Nat}{B:Nat->Nat}(n:b=(d.arcs.length+7)/8)(o:OkB d c b k i B)(l:i<(eH d c k).length)(hlt:(eH d c k)[i]<d.arcs.length):OkB d c b k (i+1) (gy B (k*b+(eH d c k)[i]/8) (setB (B (k*b+(eH d c k)[i]/8)) ((eH d c k)[i]%8))):=fun j a m=>by
 rw [Ae (by omega) (by omega),Xk l]
 by_cases e:j=k/\a=(eH d c k)[i]
 . rw [if_pos e]
   obtain⟨rfl,e⟩:=e
   subst e
   exact⟨fun _=>.inr ⟨rfl,List.mem_append.2 (.inr (List.mem_singleton.2 rfl))⟩,fun _=>rfl⟩
 . rw [if_neg e,o j a m]
   simp only [XD,XH]
   constructor
   . rintro(h|⟨g,f⟩)
     . exact .inl h
     . exact .inr ⟨g,.inl f⟩
   . rintro(h|⟨g,f|f⟩)
     . exact .inl h
     . exact .inr ⟨g,f⟩
     . exact absurd ⟨g,f⟩ e
theorem yy{d:Gra}{c:Nat->Nat}{k a:Nat}(h:a∈eH d c k):a<d.arcs.length:=by
 unfold eH at h
 rcases List.mem_append.1 h with h|h
 . exact List.mem_range.1 (List.mem_filter.1 h).1
 . obtain⟨b,_,h⟩:=List.mem_flatMap.1 h
   exact List.mem_range.1 (List.mem_filter.1 h).1
theorem perm_db{c:Type}{x a b d:c}{l:List c}:List.Perm (x::([a,b]++(d::l))) ([d,x,a,b]++l):=by
 show List.Perm ([x,a,b]++d::l) (d::([x,a,b]++l))
 exact List.perm_middle
theorem yR{L:List (Nat×Ob)}{a:List Nat}:keys (L++dm a) []=L.map Prod.fst++a:=by
 simp [keys,dm,XM]
theorem ofB_ok {z:Hp} (ok:z.t.Sized z.n) {q:Gra} {nb mb bp cb:Nat} {m:List Int} {c:Nat->Nat} {M:Nat} (E:Good q) (hn:bW z nb (ptrTo bp) q) (x:iU z mb (ptrTo cb) q.nodes m c) (hM:gK m+1=(M:Int)) (U:M<=100):
 Ret zB 27 [ptrTo bp,ptrTo cb] z fun r P=>Gr z P/\ ∃t f B,r=ptrTo t/\z.n<=t/\z.n<=f/\t≠f/\ij P t f M q.arcs.length ((q.arcs.length+7)/8) B/\OkB q c ((q.arcs.length+7)/8) M 0 B:=by
 have S:=Si ok
 have n1:=E.n1
 have n2:=E.n2
 have ak:=E.many
 have xl:=x.len
 have co: ∀{h},Gr z h->lO h (ptrTo cb) m (M:Int):=fun g=>.inr ⟨⟨_,(x.gr g).at0⟩,by rw [hM]⟩
 refine ab (n:=33) (rs:=[.tmp 4]) rfl Tryz.e27 rfl rfl rfl (lbt rfl) ?_
 simp only [BS,LB,Nat.reduceLT,Nat.reduceEqDiff]
 refine al (A9 S.ok hn (co S.gr) n1 (by omega)) ?_
 intro h1 g1;replace S:=S.call g1
 simp only [BS,LB,Nat.reduceLT,Nat.reduceEqDiff,xl]
 refine al (tX S.ok (co S.gr)) ?_
 intro Q V;replace S:=S.call V
 simp only [BS,LB,Nat.reduceLT,Nat.reduceEqDiff]
 refine al (mi S.ok (hn.gr S.gr)) ?_
 intro h3 g3;replace S:=S.call g3
 simp only [BS,LB,Nat.reduceLT,Nat.reduceEqDiff]
 refine step_ret (A5 S.ok U (by omega)) ?_
 rintro r A ⟨W,t,f,rfl,nf,a1,I,Y⟩
 have k3:=S.gr.n
 have a2:=S.ok
 have gq:=S.gr.trans W
 have kN:=W.n
 have gS:=S.gr
 clear S
 have S:St (· =f) A A [(f,.row _ 1)] []:=St.init1 W.ok (o:=.row _ 1) Y.b
 have zf:=Y.b.lt W.ok
 have zp:=Y.r.lt W.ok
 simp only [BS,Fw]
 refine ag av S ?_;clear S;intro h u S aL
 simp only [BS,LB,Nat.reduceLT,Nat.reduceEqDiff]
 refine aw (ar S (i:=0) rfl ?_ ?_ ?_ ono) ?_
 . exact(by simp only [Fw])
 . exact(by exact cP)
 . exact Xd (lbt rfl)
 clear S;rintro h ⟨S,mo⟩;clear mo;simp only [LC,ah,lay,Xf,Xg,Nat.reduceAdd]at S
 simp only [BS,LB,Nat.reduceLT,Nat.reduceEqDiff]
 have gO: ∀{h:Hp} {L:List (Nat×Ob)} {G:List GL},St (· =f) A h L G->Gr z h:=fun S=>(gq.fr.trans S.fr (fun b e=>.inr (by subst e;omega)):Mo NoM _ _).gr
 have kO: ∀{h:Hp} {L:List (Nat×Ob)} {G:List GL},St (· =f) A h L G->ij A t f M q.arcs.length ((q.arcs.length+7)/8) (fun _=>0)->Row h t [.int .i64 M,.int .i64 q.arcs.length,.int .i64 ((q.arcs.length+7)/8:Nat),.slice (some ⟨f,0,none⟩) (M*((q.arcs.length+7)/8)) (M*((q.arcs.length+7)/8))] 1:=fun S b=>Row.of_get (S.fr.get t zp I) b.r
 have hr:=fun {h:Hp} {L:List (Nat×Ob)} {G:List GL} (S:St (· =f) A h L G)=>kO S Y
 refine al (tX S.ok (co (gO S))) ?_
 intro h4 g4;replace S:=S.call g4
 simp only [BS]
 generalize C:(q.arcs.length+7)/8=l at*
 refine qO (fun(k:Nat) R d h=>k<=M/\ ∃p B,d=p.map qN/\St (· =f) A h ([(u,.row [ptrTo t] 1),(f,.row (gc (M*l) B) 1)]++dm p) []/\(∀j,B j<256)/\OkB q c l k 0 B/\R 0=ptrTo bp/\R 1=ptrTo cb/\R 5=ptrTo u/\R 18=.int .i64 (M:Nat)/\R 19=.int .i64 k) (fun k=>M-k) ?_ 0 _ _ _ ?_
 . clear S g4
   rintro k ih R d h ⟨hk,p,B,rfl,S,hB,oB,r0,r1,r5,r18,r19⟩
   have w:am .i64 ((k:Int)+1)=((k+1:Nat):Int):=by rw [wrap64]<;>omega
   by_cases hlt:k<M
   . simp only [BS,LB,Nat.reduceLT,Nat.reduceEqDiff,Fw,r18,r19,an,hlt]
     refine ag av S ?_;clear S;intro h D S a0
     simp only [BS,LB,Nat.reduceLT,Nat.reduceEqDiff]
     refine aw (ar S (i:=0) rfl ?_ ?_ ?_ ono) ?_
     . exact(by simp only [Fw])
     . exact(by exact cg)
     . exact Xd (lbt rfl)
     clear S;rintro h ⟨S,mo⟩;clear mo;simp only [LC,ah,lay,Xf,Xg,Nat.reduceAdd]at S
     simp only [BS,LB,Nat.reduceLT,Nat.reduceEqDiff,Fw,r0,r1,S.ld (b:=D) (o:=0) m0 rfl]
     refine step_ret (worth_ok S.ok (k:=k) cP) ?_
     rintro v hW ⟨gW,w3,w4,w5,rfl,n3,n4,n5,e3,e4,e5⟩
     have kk: ∀b∈[D,u,f]++p,z.n<=b/\b<w3/\b<w4/\b<w5/\b<hW.n:=fun b s=>by
      have hm:b∈keys ([(D,Ob.row [.int .i64 (k:Nat)] 1),(u,.row [ptrTo t] 1),(f,.row (gc (M*l) B) 1)]++dm p) []:=by rw [yR];exact s
      have h1:=S.key_lt hm
      have Q:=S.key_own hm
      have h3:=gW.n
      have h4:z.n<=b:=Q.elim (fun h=>by omega) (fun h=>by subst h;omega)
      omega
     replace S:=S.call gW
     have a3:=gW.n
     have Z:=gO S
     have zN:=S.fr.n
     have it:=worth1_it ok S.ok Z.keep Z.n E hn x e3 e4 e5
     simp only [BS]
     refine jm S (g:=147) (a:=#[]) (b:=#[ptrTo w3,ptrTo w4,ptrTo w5]) (by simp [bZ,aa,ac]) rfl rfl ?_
     intro Q H J S' a4 a5 V
     obtain⟨X,hX,S'⟩: ∃X:gm,X=_/\St (· =f) A Q ([(J,.loop X),(H,.dfr),(D,.row [.int .i64 (k:Nat)] 1),(u,.row [ptrTo t] 1),(f,.row (gc (M*l) B) 1)]++dm p) []:=⟨_,rfl,S'⟩
     have hJ:Yld zB J (fun i P F=> ∃B,St (· =f) A P ([(J,.loop X),(H,.dfr),(D,.row [.int .i64 (k:Nat)] 1),(u,.row [ptrTo t] 1),(f,.row (gc (M*l) B) 1)]++dm p) []/\(∀j,B j<256)/\OkB q c l k i B/\F=[J,H,D,u,f]++p) (fun _ _=>False) ((eH q c k).map fun(a:Nat)=>[.int .i64 (a:Nat)]):=by
      refine⟨?_,?_,fun _ _ h=>h.elim,?_⟩
      . rintro i h F ⟨B,S,_,_,rfl⟩;exact⟨S.ok,fun b s=>S.key_lt (by rw [yR];exact s)⟩
      . rintro i h F P ⟨B,S,a,b,rfl⟩ gg;exact⟨B,S.call gg,a,b,rfl⟩
      . rintro i x hR F K ⟨B,S,hB,oB,rfl⟩
        have N:i<(eH q c k).length:=by
         have:=(List.getElem?_eq_some_iff.1 K).1
         simpa using this
        rw [Xh,Xc N]at K
        cases K
        have O:(eH q c k)[i]<q.arcs.length:=yy (Xe N)
        have ad:=oB.set C.symm N O
        generalize(eH q c k)[i]=a at O ad
        subst hX
        refine jn (S.get m0) (by rw [Tryz.e27];rfl) rfl ?_
        have S0:=S
        replace S:=S.base
        simp only [BS,LB,Nat.reduceLT,Nat.reduceEqDiff]
        refine iN S (i:=0) rfl rfl rfl rfl rfl ?_
        clear S;intro h S
        simp only [LC]at S
        simp only [BS,LB,Nat.reduceLT,Nat.reduceEqDiff,Fw,r5,S.ld (b:=D) (o:=0) m2 rfl,S.ld (b:=u) (o:=0) m3 rfl]
        have BA:ij h t f M q.arcs.length l B:=⟨hr (S0.rebase S),S.row (b:=f) m4,hB⟩
        refine step_ret (bSet_ok S.ok BA I hlt O U (by omega) C.symm) ?_
        rintro v h5 ⟨f5,rfl,B5⟩
        have S5:=S.call1 (i:=4) (o':=.row _ 1) rfl f5 B5.b
        simp only [XF,List.set_cons_succ]at S5
        clear S
        simp only [BS]
        refine fk S5 (i:=0) rfl ?_
        clear S5;intro h S
        simp only [LC]at S
        refine .inl ⟨rfl,_,⟨_,S0.rebase S,B5.lt,ad,rfl⟩,?_,fun c hc=>.inl hc⟩
        exact S.fr.mono fun b s=>by simpa [keys,dm,XM]using s
     refine eJ (it J _ _ (fun _ _ h=>h) hJ Q ([J,H,D,u,f]++p) ?_ ⟨B,S',hB,oB,rfl⟩) fun o rc P y=>lS y ?_
     . have kn:=V.n
       refine⟨S'.ok,V.n,fun b s hd=>V.get b s,fun b s h=>?_,fun b s=>S'.key_lt (by simpa [keys,dm,XM]using s)⟩
       simp only [XD,XK,XC,or_false]at s
       obtain⟨h1,Q⟩:=h
       have K:b=J\/b=H\/b∈[D,u,f]++p:=by
        rcases s with(s|s|s)|s
        . exact .inl s
        . exact .inr (.inl s)
        . exact .inr (.inr (List.mem_append.2 (.inl (by simpa using s))))
        . exact .inr (.inr (List.mem_append.2 (.inr s)))
       rcases K with rfl|rfl|K
       . omega
       . omega
       . have:=kk b K
         omega
     . rintro F ⟨B1,T,ai,af,rfl⟩
       rw [Xi]at af
       subst hX
       refine⟨_,T.get m0,Xx,?_⟩
       replace T:=T.dead
       show Run _ _ _ _ _ _ _ _
       have T1:St (· =f) A _ ([(H,.dfr),(D,.row [.int .i64 (k:Nat)] 1),(u,.row [ptrTo t] 1),(f,.row (gc (M*l) B1) 1)]++dm p) []:=T
       have T':St (· =f) A _ ([(u,.row [ptrTo t] 1),(f,.row (gc (M*l) B1) 1)]++(H,.dfr)::dm p) []:=(T1.permL perm_db).drop1
       simp only [BS,LB,Nat.reduceLT,Nat.reduceEqDiff,r19,w]
       exact ih (k+1) _ _ _ (by omega) ⟨by omega,H::p,B1,rfl,T',ai,af.next,by simp [aa,r0,ac],by simp [aa,r1,ac],by simp [aa,r5,ac],by simp [aa,r18],by simp [aa]⟩
   . have:k=M:=by omega
     subst this
     have gE:=gO S
     have S0:=S
     simp only [LC]at S
     simp only [BS,LB,Nat.reduceLT,Nat.reduceEqDiff,Fw,r5,r18,r19,an,hlt,S.ld (b:=u) (o:=0) m0 rfl]
     refine fH (fW p _ (L:=[(u,_),(f,_)]) (S0.permL XT) fun h4 S4=>?_)
     refine⟨rfl,(rm (by decide)).2 (ib.2 ?_)⟩
     refine⟨gO S4,t,f,B,?_,by omega,by omega,I,⟨hr S4,S4.row m1,hB⟩,oB⟩
     exact rfl
 . exact⟨Xj _,[],_,rfl,S,Y.lt,OkB.zero,by simp [aa,cw,ac],by simp [aa,cw,ac],by simp [aa,ac],by simp [aa],by simp [aa]⟩
def Tryz.F11:=aj t1<|aj t2<|aj t3<|aj t4<|aj t5<|t157
def Tryz.F1K:=aj t1<|aj t2<|aj t3<|aj t4<|aj t5<|aj t22<|aj t74<|aj t157<|aj t158<|Z8
theorem clr1_ok{a:Hp}(m:a.t.Sized a.n){c d j n i:Nat}{B:Nat->Nat}(R:Row a c (gc n B) 1)(g:j<n)(p:B j<256)(q:i<8)(s:a.load d 0 1=some [.bool false])(e:d≠c):
 Ret zB 88 [.pointer (some ⟨c,j,none⟩),.int .u8 ((2 ^i:Nat):Int),ptrTo d] a fun r k=>Mo (· =c) a k/\r=.bool true/\Row k c (gc n (gy B j (B j ^^^(B j&&& 2 ^i)))) 1:=by
 have S:=St.init1 m (o:=.row (gc n B) 1) R
 have l:=S.ld (b:=c) (o:=j) m0 (uj g)
 have t:=pow8 q
 refine ab (n:=19) (rs:=[.tmp 5]) rfl Tryz.e88 rfl rfl rfl (lbt rfl) ?_
 simp only [BS,LB,Nat.reduceLT,Nat.reduceEqDiff,F11,l,yf p t]
 refine aw (ar S (i:=0) rfl Tryz.t5.2.2.1 cg (by rw [mN];exact g) ono) ?_
 clear S l;rintro h ⟨S,u⟩
 simp only [LC]at S
 rw [u9]at S
 have f:=S.old s e
 simp only [BS,LB,ae,Nat.reduceLT,Nat.reduceEqDiff,F11,f]
 exact⟨S.fr,S.row m0⟩
def Tz(b a:Nat)(B:Nat->Nat):Prop:= ∀r i,b<=i->i/8<a->bitB B a r i=false
theorem bitB_clr{B:Nat->Nat}{a j k r i:Nat}(h:bitB B a r i=false):bitB (gy B j (B j ^^^(B j&&& 2 ^k))) a r i=false:=by
 unfold bitB gy at*
 split
 . rename_i e;rw [e]at h;rw [Nat.testBit_xor,Nat.testBit_and,h];rfl
 . exact h
theorem bSetZ_ok{y:Hp}(I:y.t.Sized y.n){A w l k d:Nat}{B:Nat->Nat}(m:ij y A w l k d B)(C:A≠w){r i:Nat}(O:r<l)(P:i<k)(s:l<=100)(t:k<=1000)(u:d=(k+7)/8)(x:Bool):
 Ret zB 28 [ptrTo A,.int .i64 (r:Nat),.int .i64 (i:Nat),.bool x] y fun v E=>Mo (· =w) y E/\ ∃Q,ij E A w l k d Q/\(Tz k d B->Tz k d Q):=by
 cases x with
 |true=>exact(bSet_ok I m C O P s t u).mono fun v E ⟨a,_,b⟩=>⟨a,_,b,fun z J K H F=>by
  rw [Ae (by omega) F,if_neg (fun e=>by omega)];exact z J K H F⟩
 |false=>
 obtain⟨Z,n2,n3,n4,T,n6,U⟩:=vK O P s t u
 have pl: ∀{h:Hp} {G:Nat},Gr y h->h.load G 0 1=some [.bool false]->G≠w->Ret zB 87 [ptrTo A,.int .i64 (r:Nat),.int .i64 (i:Nat),.func (.func 88) #[] #[ptrTo G]] h fun v E=>Mo (· =w) h E/\v=.bool true/\Row E w (gc (l*d) (gy B (r*d+i/8) (B (r*d+i/8) ^^^(B (r*d+i/8)&&& 2 ^(i%8))))) 1:=by
  intro h G g l7 h7
  have S:=Si g.ok
  have D:=m.gr g
  have c1: ¬(r:Int)<0:=by omega
  have c2: ¬(l:Int)<=(r:Int):=by omega
  have c3: ¬(i:Int)<0:=by omega
  have c4: ¬(k:Int)<=(i:Int):=by omega
  have l2:=D.r.load1 (o:=2) rfl
  have l3:=D.r.load1 (o:=3) rfl
  have zp:=D.r.lt g.ok
  refine ab (n:=46) (rs:=[.tmp 8]) rfl Tryz.e87 rfl rfl rfl (lbt rfl) ?_
  simp only [BS,LB,Nat.reduceLT,Nat.reduceEqDiff,c1]
  refine al (kY S.ok D.bits) ?_;intro H L;replace S:=S.call L
  simp only [BS,LB,Nat.reduceLT,Nat.reduceEqDiff,c2,c3]
  refine al (nL S.ok (D.gr L).bits) ?_;intro F V;replace S:=S.call V
  have p:=L.trans V
  have k2:=p.load l2
  have k3:=p.load l3
  simp only [BS,LB,Nat.reduceLT,Nat.reduceEqDiff,c4]
  refine au (ax rfl) (q:=0) (ps:=[]) (by kernel_rfl) ?_
  simp only [BS,LB,cls,Nat.reduceLT,Nat.reduceEqDiff,Nat.reduceAdd,Nat.reducePow,Nat.reduceDiv,Nat.reduceMod,Nat.reduceLeDiff,F1K,k2,k3,Z,n2,n3,n4,T,mL (n:=8) (by decide),iK (n:=8) (by decide),b_shl8 U]
  refine ce (clr1_ok S.ok (D.b.gr p) T (D.lt _) U (p.load l7) h7) ?_
  rintro v h3 ⟨W,rfl,R3⟩
  have vv:leaves F h3 A=true:=gp (W.get A (Xb zp p.n) C)
  simp only [BS,LB,cls,ae,Nat.reduceLT,Nat.reduceEqDiff,Nat.reduceAdd,Nat.reducePow,Nat.reduceDiv,Nat.reduceMod,Nat.reduceLeDiff]
  exact⟨(p.fr (M:=(· =w))).trans W (fun c N=>.inl N),R3⟩
 have S:=Si I
 have zb:=m.b.lt I
 refine ab (n:=14) (rs:=[.tmp 8]) rfl Tryz.e28 rfl rfl rfl (lbt rfl) ?_
 simp only [BS,Nat.reduceLT]
 refine ag (da (by exact pS)) S ?_;clear S;intro h G S X
 simp only [BS,LB,Nat.reduceLT,Nat.reduceEqDiff]
 have k7:=S.fr.n
 refine step_ret (pl S.gr (S.ld m0 rfl) (by omega)) ?_
 rintro v h ⟨f,rfl,R⟩
 simp only [BS,LB,Nat.reduceLT,Nat.reduceEqDiff]
 have Y:Mo (· =w) y h:=(S.gr.fr (M:=(· =w))).trans f (fun c N=>.inl N)
 refine⟨Y,_,⟨Y.has (o:=.row _ 1) m.r C,R,fun j=>?_⟩,fun z J K H F=>bitB_clr (z J K H F)⟩
 unfold gy
 split
 . exact Nat.xor_lt_two_pow (n:=8) (m.lt _) (Nat.lt_of_le_of_lt Nat.and_le_left (m.lt _))
 . exact m.lt _
def Tryz.F12:=aj t1<|aj t2<|aj t3<|aj t4<|aj t23<|aj Z1<|aj t38<|aj t39<|aj t67<|aj t72<|aj t136<|aj t138<|aj Z9<|aj t162<|Z3
def Tryz.F1L:=aj t1<|aj t2<|aj t3<|aj t4<|aj t23<|aj t38<|aj t39<|aj t72<|Z9
def Tryz.F1M:=aj t1<|aj t2<|aj t3<|aj t4<|aj t23<|aj t38<|aj t39<|aj t72<|Z9
def Tryz.F1N:=aj t1<|aj t2<|aj t3<|aj t23<|aj t38<|aj t39<|aj t72<|Z9
def Tryz.F1O:=aj t1<|aj t2<|aj t3<|aj t23<|aj t38<|aj t39<|aj t72<|Z9
def Tryz.FE:=aj t1<|aj t2<|aj t3<|aj t4<|aj t23<|aj t38<|aj t39<|aj t72<|aj Z9<|t248
noncomputable def toR(a:Gra)(l:List Int)(i:Nat):List Int:=nw (seen a.arcs Arc.t Arc.s) a.nodes (l.getD i 0).toNat
noncomputable def frR(a:Gra)(l:List Int)(i:Nat):List Int:=nw (seen a.arcs Arc.s Arc.t) a.nodes (l.getD i 0).toNat
theorem tabOf_ok{o:Hp}(A:o.t.Sized o.n){k:Gra}(t:Good k){B H:Value}{J:Nat}(u:bW o J B k){l:List Int}(p:ay o 1 (encI .i64) H l)(f:l.length<1000):
 Ret zB 22 [B,H] o fun r I=>Gr o I/\((¬gQ k.nodes l/\r=.pointer none)\/(gQ k.nodes l/\TabAt I o.n r k.nodes l (toR k l) (frR k l))):=by
 have S:=Si A
 obtain⟨O,rfl⟩: ∃b,B=ptrTo b:=by obtain⟨b,_,_,_,_,_,e,_⟩:=u.ex;exact⟨b,e⟩
 refine ab (n:=28) (rs:=[.tmp 4]) rfl Tryz.e22 rfl rfl rfl (lbt rfl) ?_
 simp only [BS,LB,Nat.reduceLT,Nat.reduceEqDiff,F12]
 refine al (cK S.ok (u.gr S.gr)) ?_;intro h g;replace S:=S.call g;clear g
 simp only [BS,LB,Nat.reduceLT,Nat.reduceEqDiff]
 refine al (may_ok S.ok (p.gr S.gr) (by omega)) ?_;intro h g;replace S:=S.call g;clear g
 by_cases j:gQ k.nodes l
 . have C:decide (gQ k.nodes l)=true:=decide_eq_true j
   simp only [BS,LB,Nat.reduceLT,Nat.reduceEqDiff,C]
   refine al (cK S.ok (u.gr S.gr)) ?_;intro h g;replace S:=S.call g;clear g
   simp only [BS,LB,Nat.reduceLT,Nat.reduceEqDiff]
   have K:=S.fr.n
   refine step_ret (g9 S.ok (aH .i64) (p.gr S.gr) (by omega)) ?_;intro v h ⟨g,d,hM⟩;replace S:=S.call g;clear g
   rename Value=>vM
   obtain⟨P,Q,R,rfl⟩:=d.form
   simp only [BS,LB,Nat.reduceLT,Nat.reduceEqDiff]
   refine step_ret (rows_ok S.ok cP p.fl ic) ?_;intro v h ⟨g,b1,b2,b3,e,q1,q2,q3,y1,y2,y3⟩;replace S:=S.call g;replace d:=d.gr g;clear g
   subst e
   simp only [BS,LB,Nat.reduceLT,Nat.reduceEqDiff]
   have z:=rows_it A S.ok S.gr.keep S.fr.n u (p.gr S.gr) (fun i w=>⟨(j.2 i w).1,(j.2 i w).2.1⟩) f (runTo t) (m:=o.n) S.fr.n y1 y2 y3
   refine step_ret (xk S.ok z S.fr.n f) ?_;intro v h ⟨g,q⟩;replace S:=S.call g;replace d:=d.gr g;clear g
   rename Value=>vT
   obtain⟨T,U,V,rfl⟩: ∃a n c,vT=.slice a n c:=by obtain⟨_,s,_⟩:=q;exact s.form
   clear z y1 y2 y3 q1 q2 q3
   simp only [BS,LB,Nat.reduceLT,Nat.reduceEqDiff]
   refine step_ret (rows_ok S.ok cP p.fl ic) ?_;intro v h ⟨g,b1,b2,b3,e,q1,q2,q3,y1,y2,y3⟩;replace S:=S.call g;replace d:=d.gr g;replace q:=q.gr g;clear g
   subst e
   simp only [BS,LB,Nat.reduceLT,Nat.reduceEqDiff]
   have z:=rows_it A S.ok S.gr.keep S.fr.n u (p.gr S.gr) (fun i w=>⟨(j.2 i w).1,(j.2 i w).2.1⟩) f (runFrom t) (m:=o.n) S.fr.n y1 y2 y3
   refine step_ret (xk S.ok z S.fr.n f) ?_;intro v h ⟨g,L2⟩;replace S:=S.call g;replace d:=d.gr g;replace q:=q.gr g;clear g
   rename Value=>vF
   obtain⟨W,X,Y,rfl⟩: ∃a n c,vF=.slice a n c:=by obtain⟨_,s,_⟩:=L2;exact s.form
   simp only [BS,LB,Nat.reduceLT,Nat.reduceEqDiff,Nat.reduceAdd,F12]
   have L:=S
   replace S:=S.base
   refine ag (bU (by intro x e;cases e)) S ?_;clear S;intro h b S M;simp only [ah]at S
   simp only [BS,LB,ae,Nat.reduceLT,Nat.reduceEqDiff]
   have D:=S.fr
   have y:=d.mo D (fun c _ j=>by cases j)
   have E:=q.mo D (fun c j=>by cases j)
   have F:=L2.mo D (fun c j=>by cases j)
   have G:=S.row (b:=b) m0
   replace S:=L.rebase S
   exact⟨S.gr,.inr ⟨j,⟨b,_,_,_,rfl,G,y,E,F,(S.own _ m0).1.elim (fun h=>h) (fun h=>h.elim),fun c N=>Xa K (hM c N)⟩⟩⟩
 . have C:decide (gQ k.nodes l)=false:=decide_eq_false j
   simp only [BS,LB,ae,Nat.reduceLT,Nat.reduceEqDiff,C]
   exact⟨S.gr,.inl j⟩
theorem uF{a:Hp}(c:a.t.Sized a.n){m N:Nat}{p:Value}{l:List Int}{R Q:Nat->List Int}(t:TabAt a m p N l R Q):bG zB 46 [p] a (.int .i64 N):=by
 have S:=Si c
 obtain⟨b,f,g,h,rfl,d,_⟩:=t.ex
 have e:=d.load1 (o:=0) rfl
 refine ab (n:=9) (rs:=[.tmp 2]) rfl Tryz.e46 rfl rfl rfl (lbt rfl) ?_
 simp only [BS,LB,ae,Nat.reduceLT,Nat.reduceEqDiff,F1L,e]
 exact S.gr
theorem qV{a:Hp}(f:a.t.Sized a.n){m N:Nat}{p:Value}{l:List Int}{R Q:Nat->List Int}(t:TabAt a m p N l R Q)(d:l.length<1000):Ret zB 33 [p] a fun r e=>Gr a e/\ay e 1 (encI .i64) r l/\ ∀c,aq r c->a.n<=c:=by
 have S:=Si f
 obtain⟨b,q,s,u,rfl,i,j,_⟩:=t.ex
 have k:=i.load1 (o:=1) rfl
 refine ab (n:=10) (rs:=[.tmp 2]) rfl Tryz.e33 rfl rfl rfl (lbt rfl) ?_
 simp only [BS,LB,Nat.reduceLT,Nat.reduceEqDiff,F1M,k]
 refine step_ret (g9 S.ok (aH .i64) j (by omega)) ?_;intro v h ⟨g,sl,hc⟩;replace S:=S.call g;clear g
 simp only [BS,LB,ae,Nat.reduceLT,Nat.reduceEqDiff]
 exact⟨S.gr,sl,hc⟩
def pI(N n:Nat)(R:Nat->List Int)(i v:Int):Int:=if 0<=i/\i<n/\0<=v/\v<N then(R i.toNat).getD v.toNat 0 else 72057594037927936
theorem tos_ok{a:Hp}(d:a.t.Sized a.n){m N:Nat}{p:Value}{l:List Int}{R Q:Nat->List Int}(t:TabAt a m p N l R Q):Ret zB 168 [p] a fun r c=>Gr a c/\eS c m r l.length R:=by
 have S:=Si d
 obtain⟨b,g,h,i,rfl,e,_,L,_⟩:=t.ex
 have f:=e.load1 (o:=2) rfl
 refine ab (n:=7) (rs:=[.tmp 2]) rfl Tryz.e168 rfl rfl rfl (lbt rfl) ?_
 simp only [BS,LB,ae,Nat.reduceLT,Nat.reduceEqDiff,F1N,f]
 exact⟨S.gr,L⟩
theorem froms_ok{a:Hp}(d:a.t.Sized a.n){m N:Nat}{p:Value}{l:List Int}{R Q:Nat->List Int}(t:TabAt a m p N l R Q):Ret zB 169 [p] a fun r c=>Gr a c/\eS c m r l.length Q:=by
 have S:=Si d
 obtain⟨b,g,h,i,rfl,e,_,_,L,_⟩:=t.ex
 have f:=e.load1 (o:=3) rfl
 refine ab (n:=7) (rs:=[.tmp 2]) rfl Tryz.e169 rfl rfl rfl (lbt rfl) ?_
 simp only [BS,LB,ae,Nat.reduceLT,Nat.reduceEqDiff,F1O,f]
 exact⟨S.gr,L⟩
theorem AP{a:Hp}(A:a.t.Sized a.n){m N:Nat}{p:Value}{l:List Int}{R Q W:Nat->List Int}(t:TabAt a m p N l R Q){g:FuncId}(B: ∀h,Gr a h->Ret zB g [p] h fun r u=>Gr h u/\eS u m r l.length W)(C: ∀i,i<l.length->(W i).length=N){i v:Int}:
 bG zB 167 [p,.func (.func g) #[p] #[],.int .i64 i,.int .i64 v] a (.int .i64 (pI N l.length W i v)):=by
 have S:=Si A
 obtain⟨b,J,K,M,rfl,x,f,_⟩:=t.ex
 have y:=x.load1 (o:=0) rfl
 have j:=x.load1 (o:=1) rfl
 unfold pI
 refine ab (n:=44) (rs:=[.tmp 8]) rfl Tryz.e167 rfl rfl rfl (lbt rfl) ?_
 by_cases d:i<0
 . rw [if_neg (by omega)]
   simp only [BS,LB,ae,Nat.reduceLT,Nat.reduceEqDiff,FE,d]
   exact S.gr
 . by_cases k:(l.length:Int)<=i
   . rw [if_neg (by omega)]
     simp only [BS,LB,ae,Nat.reduceLT,Nat.reduceEqDiff,FE,j,d,k,f.lenq]
     exact S.gr
   . by_cases s:v<0
     . rw [if_neg (by omega)]
       simp only [BS,LB,ae,Nat.reduceLT,Nat.reduceEqDiff,FE,j,d,k,s,f.lenq]
       exact S.gr
     . by_cases z:(N:Int)<=v
       . rw [if_neg (by omega)]
         simp only [BS,LB,ae,Nat.reduceLT,Nat.reduceEqDiff,FE,y,j,d,k,s,z,f.lenq]
         exact S.gr
       . rw [if_pos (by omega)]
         obtain⟨e,rfl⟩:=XR (show 0<=i by omega)
         obtain⟨q,rfl⟩:=XR (show 0<=v by omega)
         simp only [BS,LB,Nat.reduceLT,Nat.reduceEqDiff,FE,y,j,d,k,s,z,f.lenq]
         refine step_ret (B _ S.gr) ?_;intro v h ⟨g,L⟩;replace S:=S.call g;clear g
         obtain⟨w,⟨c,o,D,E⟩,sw,_⟩:=L.row (i:=e) (by omega)
         have F:=C e (by omega)
         obtain⟨O,P,G,H⟩:=sw.ix (kd:=.i64) (aH .i64) (i:=q) (by omega)
         have I:(W e).getD q 0=(W e)[q]:=by simp [zO,show q<(W e).length by omega]
         simp only [BS,LB,ae,Nat.reduceLT,Nat.reduceEqDiff,FE,D,E,G,H,encI,XL,I]
         exact S.gr
theorem tabTo_ok{a:Hp}(b:a.t.Sized a.n){m N:Nat}{p:Value}{l:List Int}{R Q:Nat->List Int}(t:TabAt a m p N l R Q)(c: ∀i,i<l.length->(R i).length=N){i v:Int}:bG zB 115 [p,.int .i64 i,.int .i64 v] a (.int .i64 (pI N l.length R i v)):=by
 have S:=Si b
 refine ab (n:=13) (rs:=[.tmp 6]) rfl Tryz.e115 rfl rfl rfl (lbt rfl) ?_
 simp only [BS,LB,Nat.reduceLT,Nat.reduceEqDiff]
 refine al (AP S.ok t (fun h g=>tos_ok g.ok (t.gr g)) c) ?_;intro h g;replace S:=S.call g;clear g
 simp only [BS,LB,ae,Nat.reduceLT,Nat.reduceEqDiff]
 exact S.gr
theorem B8{a:Hp}(b:a.t.Sized a.n){m N:Nat}{p:Value}{l:List Int}{R Q:Nat->List Int}(t:TabAt a m p N l R Q)(c: ∀i,i<l.length->(Q i).length=N){i v:Int}:bG zB 116 [p,.int .i64 i,.int .i64 v] a (.int .i64 (pI N l.length Q i v)):=by
 have S:=Si b
 refine ab (n:=13) (rs:=[.tmp 6]) rfl Tryz.e116 rfl rfl rfl (lbt rfl) ?_
 simp only [BS,LB,Nat.reduceLT,Nat.reduceEqDiff]
 refine al (AP S.ok t (fun h g=>froms_ok g.ok (t.gr g)) c) ?_;intro h g;replace S:=S.call g;clear g
 simp only [BS,LB,ae,Nat.reduceLT,Nat.reduceEqDiff]
 exact S.gr
def Tryz.F1P:=aj t1<|aj t2<|aj t3<|aj t4<|t23
def Tryz.F13:=aj t1<|aj t2<|aj t3<|aj t4<|aj t5<|aj t6<|aj t23<|t39
def Sep(a:List Value):Prop:= ∀(i j:Nat) (w u:Value) (c:Nat),a[i]? =some w->a[j]? =some u->i≠j->aq w c-> ¬aq u c
theorem u5{b:Type}{l:List b}{x u:b}{j:Nat}(h:(l++[x])[j]? =some u):l[j]? =some u\/(j=l.length/\u=x):=by
 by_cases c:j<l.length
 . rw [Xs c]at h;exact .inl h
 . rw [Xq (by omega)]at h
   have a:j-l.length=0:=by
    have:=(List.getElem?_eq_some_iff.1 h).1
    simp at this;omega
   rw [a]at h
   cases h
   exact .inr ⟨by omega,rfl⟩
theorem Sep.push{f:List Value}{y:Value}(s:Sep f)(h: ∀(j:Nat) u,f[j]? =some u-> ∀c,aq u c-> ¬aq y c):Sep (f++[y]):=by
 intro i j w u c a b g d e
 rcases u5 a with a|⟨k,l⟩<;>rcases u5 b with b|⟨m,n⟩
 . exact s i j w u c a b g d e
 . rw [n]at e;exact h i w a c d e
 . rw [l]at d;exact h j u b c e d
 . exact g (k.trans m.symm)
def WrI(h:Hp)(w:Value)(l:List Int):Prop:=ay h 1 (encI .i64) w l/\(l≠ []-> ∃b,w=.slice (some ⟨b,0,some 1⟩) l.length l.length/\Row h b (ints l) 1)
theorem WrI.mo{M:Nat->Prop}{h a:Hp}{w:Value}{l:List Int}(r:WrI h w l)(g:Mo M h a)(c: ∀b,aq w b-> ¬M b):WrI a w l:=
 ⟨r.1.mo g c,fun d=>by obtain⟨b,e,k⟩:=r.2 d;exact⟨b,e,g.has (o:=.row _ 1) k (c b (by rw [e];rfl))⟩⟩
theorem WrI.gr{h a:Hp}{w:Value}{l:List Int}(r:WrI h w l)(g:Gr h a):WrI a w l:=r.mo (M:=NoM) g.fr (fun _ _ h=>h)
theorem BO{a:Hp}(p:a.t.Sized a.n){v:Value}{xs:List Int}(q:ay a 1 (encI .i64) v xs)(u:xs.length<1000000):Ret zB 132 [v] a fun r d=>Gr a d/\WrI d r xs/\ ∀c,aq r c->a.n<=c:=by
 have S:=Si p
 by_cases j:xs=[]
 . obtain⟨r,d,w,g,x,k⟩:=rB p q u
   exact⟨r,d,w,g,⟨x,fun h=>absurd j h⟩,k⟩
 rcases q with⟨rfl,rfl⟩|⟨b,o,s,c,rfl,y,z⟩
 . exact absurd rfl j
 . refine ab (n:=8) (rs:=[.tmp 2]) rfl Tryz.e132 rfl rfl rfl (lbt rfl) ?_
   simp only [BS,LB,Nat.reduceLT,Nat.reduceEqDiff,F1P]
   refine ag (bj (by exact Tryz.t23.1) (by exact XZ) (by decide) (by rfl)) S ?_;clear S;intro h B S t;simp only [LC,aU,bA,ah,Nat.reduceMul,Nat.reduceAdd,Xp,Xl,Xn,Xt]at S
   simp only [BS,LB,Nat.reduceLT,Nat.reduceEqDiff]
   have l:ay h 1 (encI .i64) (.slice (some ⟨b,o,s⟩) xs.length c) xs:=.inr ⟨b,o,s,c,rfl,y,S.old z (fun h=>h)⟩
   refine dT (S.clone (n:=0) (vs:=[]) Tryz.t23.1 XZ (by decide) Tryz.t23.2.2.2.2.2 l.src (aI (aH .i64) xs).symm rfl (by decide) (by rw [aI (aH .i64)];simp;omega) (S.row m0)) ?_
   rintro d v (⟨e,_⟩|⟨f,rfl,m⟩)
   . exact absurd (List.length_eq_zero_iff.1 e) j
   simp only [BS,LB,ae,Nat.reduceLT,Nat.reduceEqDiff]
   have i:Row d f (ints xs) 1:=m.row m0
   have A:a.n<=f:=(m.own _ m0).1.elim (fun h=>h) (fun h=>h.elim)
   refine⟨m.gr,⟨.inr ⟨f,0,some 1,xs.length,rfl,Xo _,?_⟩,fun _=>⟨f,rfl,i⟩⟩,fun c k=>?_⟩
   . rw [i.load (by rw [bQ];omega),Xz,Xn,<-bQ xs,Xw];rfl
   . obtain rfl:f=c:=k
     exact A
def LLD(h:Hp)(m k:Nat)(v:Value)(n:Nat)(R:Nat->List Int):Prop:=
 ∃a:List Value,ay h 1 encV v a/\a.length=n/\(∀c,aq v c->m<=c/\c<k)/\(∀(i:Nat) w,a[i]? =some w->WrI h w (R i)/\ ∀c,aq w c->m<=c/\c<k/\ ¬aq v c)/\Sep a
theorem LLD.ll{h:Hp}{m k n:Nat}{v:Value}{R:Nat->List Int}(r:LLD h m k v n R):eS h m v n R:=by
 obtain⟨g,a,b,c,d,_⟩:=r
 exact⟨g,a,b,fun x e=>(c x e).1,fun i w f=>⟨(d i w f).1.1,fun x e=>((d i w f).2 x e).1⟩⟩
theorem LLD.mo{M:Nat->Prop}{h o:Hp}{m k n:Nat}{v:Value}{R:Nat->List Int}(r:LLD h m k v n R)(g:Mo M h o)(p: ∀b,M b->b<m\/k<=b):LLD o m k v n R:=by
 obtain⟨s,a,b,c,d,e⟩:=r
 exact⟨s,a.mo g (fun x f j=>by have:=c x f;have:=p x j;omega),b,c,fun i w l=>⟨(d i w l).1.mo g (fun x f j=>by have q:=(d i w l).2 x f;have t:=q.1;have u:=q.2.1;have:=p x j;omega),(d i w l).2⟩,e⟩
theorem LLD.gr{h a:Hp}{m k n:Nat}{v:Value}{R:Nat->List Int}(r:LLD h m k v n R)(g:Gr h a):LLD a m k v n R:=r.mo (M:=NoM) g.fr (fun _ h=>h.elim)
theorem LLD.form{h:Hp}{m k n:Nat}{v:Value}{R:Nat->List Int}(r:LLD h m k v n R): ∃a n c,v=.slice a n c:=by
 obtain⟨_,s,_⟩:=r
 rcases s with⟨rfl,_⟩|⟨b,o,s,c,rfl,_⟩<;>exact⟨_,_,_,rfl⟩
theorem mem_gkey{M:Nat->Prop}{f h:Hp}{v:Value}{a:List Value}{k:Nat}(S:St M f h [] [(v,k,a)]){c:Nat}(d:aq v c):c∈keys [] [(v,k,a)]:=by
 have g:fu (v,k,a)=some c:=by
  rcases(S.gown (v,k,a) (List.mem_singleton.2 rfl)).1 with⟨e,_⟩|⟨b,n,e,_⟩
  . rw [show v=_ from e]at d;exact d.elim
  . have i:v=.slice (some ⟨b,0,some k⟩) n n:=e
    rw [i]at d⊢
    exact congrArg some d
 exact List.mem_filterMap.2 ⟨_,List.mem_singleton.2 rfl,g⟩
theorem qy {p:Hp} (Z:p.t.Sized p.n) {v:Value} {m n:Nat} {R:Nat->List Int} (O:eS p m v n R) (hn:n<1000) (hR: ∀i,i<n->(R i).length<1000000):
 Ret zB 73 [v] p fun r H=>Gr p H/\LLD H p.n H.n r n R:=by
 have S:=Si Z
 refine ab (n:=18) (rs:=[.tmp 2]) rfl Tryz.e73 rfl rfl rfl (lbt rfl) ?_
 simp only [BS,LB,Nat.reduceLT,Nat.reduceEqDiff,F13,O.lenq]
 replace S:=S.nilG (k:=1)
 refine az (fun(i:Nat) D h=>i<=n/\ ∃(f:List Value) (t:Value),St NoM p h [] [(t,1,f)]/\f.length=i/\(∀j w,f[j]? =some w->WrI h w (R j)/\ ∀c,aq w c->p.n<=c/\c∉keys [] [(t,1,f)])/\Sep f/\D 2=t/\D 5=v/\D 6=.int .i64 n/\D 7=.int .i64 i) (fun i=>n-i) ?_ 0 _ _ ?_
 . clear S
   intro i ih D h ⟨hi,f,t,S,z,hc,hd,r2,r5,r6,r7⟩
   have ad:Fl t:=by
    rcases(S.gown _ m0).1 with⟨e,_⟩|⟨_,_,e,_⟩
    . rw [show t=_ from e];exact cd
    . rw [show t=_ from e];exact cd
   by_cases hlt:i<n
   . obtain⟨x,⟨q,o,E,I⟩,P,_⟩:=(O.gr S.gr).row hlt
     have fx:=P.fl
     have w:am .i64 ((i:Int)+1)=((i+1:Nat):Int):=by rw [wrap64]<;>omega
     simp only [BS,LB,Nat.reduceLT,Nat.reduceEqDiff,F13,r2,r5,r6,r7,an,hlt,E,I]
     have J:=S
     refine step_ret (BO S.ok P (hR i hlt)) ?_
     rintro y Q ⟨g,K,L⟩
     have G:=S.call g
     obtain⟨A,B,C,rfl⟩:=K.1.form
     have fy:Fl (.slice A B C):=cd
     have l: ∀(j:Nat) u,(f++[.slice A B C])[j]? =some u->WrI Q u (R j)/\ ∀c,aq u c->p.n<=c/\c∉keys [] [(t,1,f)]/\c<Q.n:=fun j u d=>by
      rcases u5 d with d|⟨rfl,rfl⟩
      . obtain⟨T,U⟩:=hc j u d
        exact⟨T.gr g,fun c a=>⟨(U c a).1,(U c a).2,(T.gr g).1.lt G.ok a⟩⟩
      . rw [z]
        exact⟨K,fun c a=>⟨Xa J.fr.n (L c a),fun M=>by have:=J.key_lt M;have:=L c a;omega,K.1.lt G.ok a⟩⟩
     have N:=hd.push (y:=.slice A B C) fun j u d c a hy=>by
      have:=(hc j u d).1.1.lt J.ok a
      have:=L c hy
      omega
     replace S:=G.base
     simp only [BS,LB,Nat.reduceLT,Nat.reduceEqDiff]
     refine ag (bj (by exact Tryz.t39.1) (by exact XY) (by decide) (by rfl)) S ?_;clear S;intro h V S W;simp only [LC,aU,bA,ah,Nat.reduceMul,Nat.reduceAdd,Xp,Xl,Xn,Xt]at S
     simp only [BS,LB,Nat.reduceLT,Nat.reduceEqDiff]
     have F:aA h 1 (.slice (some ⟨V,0,none⟩) 1 1)=some (1,[.slice A B C]):=by simp only [aA];rw [S.lds (b:=V) (o:=0) (n:=1*1) m0 (lbt rfl)];rfl
     replace S:=S.drop1
     refine dT (S.grow (j:=0) (m:=1) (new:=[.slice A B C]) rfl Tryz.t39.1 XY (by decide) Tryz.t39.2.2.2.2.2 F rfl (by decide) (by simp [fy.2.1]) (by simp;omega)) ?_
     clear S F;rintro h s S
     simp only [LC]at S
     have fv:Fl s:=by
      rcases(S.gown _ m0).1 with⟨e,_⟩|⟨_,_,e,_⟩
      . rw [show s=_ from e];exact cd
      . rw [show s=_ from e];exact cd
     simp only [BS,LB,Nat.reduceLT,Nat.reduceEqDiff,r7,w]
     refine ih (i+1) _ _ (by omega) ⟨by omega,f++[.slice A B C],s,G.rebase S,by simp [z],fun j u d=>⟨(l j u d).1.mo S.fr (fun c a=>((l j u d).2 c a).2.1),fun c a=>⟨((l j u d).2 c a).1,fun M=>?_⟩⟩,N,by simp [aa],by simp [aa,r5],by simp [aa,r6],by simp [aa]⟩
     rcases S.key_new c M with X|X
     . exact((l j u d).2 c a).2.1 X
     . have:=((l j u d).2 c a).2.2;omega
   . simp only [BS,LB,ae,Nat.reduceLT,Nat.reduceEqDiff,r2,r6,r7,an,hlt]
     have Y:=(S.gown _ m0).1.sl (yg f).symm qf (by decide)
     refine⟨S.gr,f,Y,by omega,fun c a=>⟨((S.gblk m0 a).1).elim (fun h=>h) (fun h=>h.elim),Y.lt S.ok a⟩,fun j u d=>⟨(hc j u d).1,fun c a=>⟨((hc j u d).2 c a).1,(hc j u d).1.1.lt S.ok a,fun hv=>((hc j u d).2 c a).2 ?_⟩⟩,hd⟩
     exact mem_gkey S hv
 . exact⟨Xj _,[],_,S,rfl,fun j w z=>by simp at z,fun i j w u c z=>by simp at z,by simp [aa],by simp [aa,aG],by simp [aa],by simp [aa]⟩
end Go.Ab
end

/- Nets, cells, flags: what the functions do (part 3). -/
import Derived.Test.YtoifagpcndmlgaaGreatDoorNetB
open Go.Ab.Tryz
open Go.Ab.Tryz renaming abEnv->zB,e5E->X4,e23E->Ya
open Nat renaming lt_of_succ_le->zM,shiftRight_eq_div_pow->Xb,le_trans->Xc,mul_one->Xh,zero_le->Xn,xor_lt_two_pow->Xr,div_div_eq_div_mul->Xu,mul_le_mul_right->Xx,zero_mul->XD,zero_add->XE,mod_two_eq_zero_or_one->XJ,mul_comm->XM,one_mul->XP,le_refl->XQ,ble_eq_true_of_le->XT,mul_assoc->XX,mod_eq_of_lt->X2,xor_zero->Yb,pow_succ->Yc
open List renaming length_append->zO,drop_left'->Xa,take_left'->Xd,flatMap_cons->Xe,range->Xf,mem_of_getElem?->Xg,take_succ_eq_append_getElem->Xi,append_assoc->Xj,drop_zero->Xk,take_of_length_le->Xm,getD_eq_getElem?_getD->Xo,getElem?_eq_getElem->Xp,length_cons->Xq,append_nil->Xs,take_length->Xt,mem_cons_of_mem->Xw,drop_drop->Xy,take->XA,drop->XB,flatMap_eq_foldl->XC,replicate->XF,getElem_mem->XG,map_cons->XI,flatMap_append->XK,length_map->XL,take_zero->XN,length_range->XO,length_take->XR,flatMap_nil->XS,take_append_of_le_length->XV,getElem?_append_right->XW,getElem?_map->XY,getElem?_append_left->XZ,mem_append_right->X3,all_cons->X5,mem_cons->X6,map_eq_flatMap->X7,all_nil->X8,map_map->X9
open Int renaming cast_ofNat_Int->Xl
open Option renaming map_some->Xv,map_none->XU
open Bool renaming and_true->Xz
open Prod renaming snd->XH
set_option maxHeartbeats 4000000
set_option linter.defProp false
set_option linter.unusedVariables false
set_option linter.unusedSimpArgs false
section
namespace Go.Ab
open Go.Proofs
set_option maxRecDepth 10000
def Tryz.F7:=aj t1<|aj t2<|aj t3<|aj t4<|aj t5<|aj t6<|aj Z1<|aj Z4<|aj t9<|aj t10<|aj t11<|aj t12<|aj Z7<|aj Z13<|aj t15<|aj t16<|aj t17<|aj t23<|aj t29<|aj Z0<|aj t42<|aj Z3<|aj t51<|aj t76<|aj t92<|aj Z2<|aj t101<|aj t102<|aj t161<|aj t167<|aj t176<|aj Z17<|aj t230<|aj t248<|aj t280<|aj t281<|aj t286<|aj r286<|aj t291<|aj Z9<|aj Z14<|aj Z16<|aj t356<|aj t358<|aj t360<|aj t361<|aj t362<|aj t363<|Z15
def seen(A:List Arc)(fs ft:Arc->Nat):List Arc:=A.map fun a=>⟨fs a,ft a,a.w⟩
def NextF(E:Env)(g:FuncId)(a:Gra)(b:Value)(fs:Arc->Nat):Prop:= ∀(h:Hp) (e:Nat),h.t.Sized h.n->bF h e b a-> ∀v,v<a.nodes->Ret E g [b,.int .i64 (v:Nat)] h fun r d=>Gr h d/\au d 1 d7 r (outs a.arcs fs a.arcs.length v)/\ ∀c,ao r c->h.n<=c
def dW(l:List Nat):List Value:=l.flatMap d7
theorem jX(l:List Nat):dW l=l.map fun(x:Nat)=>Value.int .i64 x:=by
 unfold dW;rw [XC,X7,XC];rfl
theorem yo(l:List Int):ints l=l.map fun x=>Value.int .i64 x:=by
 unfold ints;rw [XC,X7,XC];rfl
theorem oY(l:List Nat):(dW l).length=l.length:=by rw [jX,XL]
theorem nats_app(l:List Nat)(x:Nat):dW (l++[x])=dW l++dW [x]:=by rw [jX,jX,jX,List.map_append]
theorem seen_at{A:List Arc}{fs ft:Arc->Nat}{i:Nat}(a:i<A.length):(seen A fs ft).getD i default=⟨fs (A.getD i default),ft (A.getD i default),(A.getD i default).w⟩/\(seen A fs ft).getD i default∈seen A fs ft:=by
 have e:(seen A fs ft).getD i default=⟨fs (A.getD i default),ft (A.getD i default),(A.getD i default).w⟩:=by
  unfold seen;simp [Xo,a]
 refine⟨e,?_⟩
 rw [Xo,Xp (by unfold seen;simpa using a)]
 exact XG _
theorem seen_mem{A:List Arc}{fs ft:Arc->Nat}{a:Arc}(c:a∈seen A fs ft): ∃i,i<A.length/\(seen A fs ft).getD i default=a:=by
 obtain⟨i,b,e⟩:=List.mem_iff_getElem.1 c
 exact⟨i,by unfold seen at b;simpa using b,by simp [Xo,b,e]⟩
def tU(a:Hp)(m:Nat)(r:Value)(B:List Arc)(s N:Nat):Prop:= ∃b d e D f O,r=.agg ⟨[b,d,e]⟩/\au a 1 d7 b ((Xf N).map D)/\au a 1 (encI .i64) d f/\au a 1 d7 e O/\f.length=N/\(∀v,IsD B s v (D v))/\(∀c,ao b c\/ao d c\/ao e c->m<=c)/\O.Nodup/\ ∀v∈O,v<N
theorem sF{a:Hp}(e:a.t.Sized a.n){F:List Nat}{p:Value}{N:Nat}{K:Nat->Option Int}(H:dC a F p N K)(f:N<=1000):Ret zB 201 [p] a fun r c=> ∃(v:Nat) (k:Int) (b:Bool),r=.tuple #[.int .i64 (v:Nat),.int .i64 k,.bool b]/\Mo (· ∈F) a c/\dC c F p N (if b=true then d9 K v none else K)/\(b=true->K v=some k/\ ∀u k',K u=some k'->k<=k')/\(b=false-> ∀v,K v=none):=by
 refine oV (AE e H f) ?_
 rintro r c (⟨rfl,d,g⟩|⟨v,k,rfl,d,i,j,l⟩)
 . exact⟨0,0,false,rfl,g.fr,H.gr g,fun h=>(by cases h),fun _=>d⟩
 . exact⟨v,k,true,rfl,j,l,fun _=>⟨d,fun u k' h=>by have:=i u k' h;omega⟩,fun h=>(by cases h)⟩
def FloodI(t:Hp)(B:List Arc)(s N m g i j k n o w:Nat)(z A:FuncId)(O:List Nat)(ρ:Nat->Value)(d:List Deferred)(h:Hp):Prop:=
 ∃ (e:List Nat) (D:Nat->Nat) (K:Nat->Option Int) (F:List Nat) (p:List (Value×Value×Nat)) (c:Nat) (f:Int->Option Value) (q:List Int) (l:Value) (r:Nat) (v:Nat) (a:Int) (b:Bool),d=e.map pD/\
   St NoM t h ([(r,Ob.row [.int .i64 a] 1),(m,.row [ptrTo g] 1),(g,.row [ptrTo o,.slice (some ⟨k,0,none⟩) N N,.slice (some ⟨j,0,none⟩) N N,l,.map (some i)] 1),(i,.map p c),(j,.row (ints q) 1),(k,.row (dW ((Xf N).map D)) 1),(n,.row [.slice none 0 0,.slice none 0 0,.slice none 0 0] 1)]++cR e) [(l,1,dW O)]/\
   (∀x∈F,t.n<=x/\x∉keys ([(r,Ob.row [.int .i64 a] 1),(m,.row [ptrTo g] 1),(g,.row [ptrTo o,.slice (some ⟨k,0,none⟩) N N,.slice (some ⟨j,0,none⟩) N N,l,.map (some i)] 1),(i,.map p c),(j,.row (ints q) 1),(k,.row (dW ((Xf N).map D)) 1),(n,.row [.slice none 0 0,.slice none 0 0,.slice none 0 0] 1)]++cR e) [(l,1,dW O)])/\
   q.length=N/\dy p c f/\ClF O f/\Dj B s N O D K (fun _=>False)/\dC h F (ptrTo o) N (if b=true then d9 K v none else K)/\(b=true->K v=some a/\ ∀u y,K u=some y->a<=y)/\(b=false-> ∀v,K v=none)/\
   ρ 0=ptrTo w/\ρ 2=.func (.func z) #[ptrTo w] #[]/\ρ 3=.func (.func A) #[] #[]/\ρ 8=ptrTo n/\ρ 9=ptrTo m/\ρ 10=.int .i64 v/\ρ 11=ptrTo r/\ρ 12=.bool b
theorem yD {h0:Hp} (ok:h0.t.Sized h0.n) {l:Gra} (a0:Good l) {pn:Value} {nb:Nat} (hn:bF h0 nb pn l) {s:Nat} (hs:s<l.nodes) {gN gE:FuncId} {fs ft:Arc->Nat} (hN:NextF zB gN l pn fs) (hE:KeyF zB gE ft) (bm: ∀a∈l.arcs,ft a<l.nodes):
 Ret zB 150 [pn,.int .i64 s,.func (.func gN) #[pn] #[],.func (.func gE) #[] #[]] h0 fun r h'=>Gr h0 h'/\tU h' h0.n r (seen l.arcs fs ft) s l.nodes:=by
 have n1:=a0.n1
 have n2:=a0.n2
 have S:=Si ok
 have c1: ¬((s:Int)<0):=by omega
 have c2: ¬((l.nodes:Int)<=(s:Int)):=by omega
 obtain⟨bp,b6⟩: ∃b,pn=ptrTo b:=by obtain⟨b,_,_,_,_,_,e,_⟩:=hn.ex;exact⟨b,e⟩
 subst b6
 refine ac (n:=117) (rs:=[.cell 8 228]) rfl Tryz.e150 rfl rfl rfl (lbt rfl) ?_
 simp only [BS,F7]
 refine ag aw S ?_;clear S;intro h W S cs
 simp only [BS,LB,Nat.reduceLT,Nat.reduceEqDiff,F7,c1]
 refine al (dI S.ok (hn.gr S.gr)) ?_;intro h g;replace S:=S.call g;clear g
 simp only [BS,LB,Nat.reduceLT,Nat.reduceEqDiff,c2]
 refine al (dI S.ok (hn.gr S.gr)) ?_;intro h g;replace S:=S.call g;clear g
 simp only [BS,LB,Nat.reduceLT,Nat.reduceEqDiff]
 have nF:=S.fr.n
 have kF:=fun {c} (t:c∈_)=>S.key_lt (b:=c) t
 refine step_ret (AF S.ok) ?_;intro v h ⟨g,Fh,H,hFn⟩;replace S:=S.call g;clear g
 rename Value=>p
 have dF: ∀c∈Fh,c∉keys [(W,Ob.row [.slice none 0 0,.slice none 0 0,.slice none 0 0] 1)] []:=fun c t w=>by have:=kF w;have:=hFn c t;omega
 have lF:=H.lt S.ok
 have Y:=S
 have gF: ∀c∈Fh,h0.n<=c\/NoM c:=fun c t=>.inl (Xc nF (hFn c t))
 replace S:=S.base
 simp only [BS,LB]
 refine ag (bj (by exact Tryz.t23.1) (by exact Tryz.e2E) (by decide) (by rfl)) S ?_;clear S;intro h bn S a7;simp only [LC,aR,bo,ah,Nat.reduceMul,Nat.reduceAdd,XD,XE,Xh,XP]at S
 simp only [BS,LB,Nat.reduceLT,Nat.reduceEqDiff]
 refine al (dI S.ok (hn.gr (Y.rebase S).gr)) ?_;intro h g;replace S:=S.call g;clear g
 simp only [BS,LB,Nat.reduceLT,Nat.reduceEqDiff]
 have kl:=fun {c} (t:c∈_)=>S.key_lt (b:=c) t
 have kn:=S.fr.n
 refine step_ret (rep64_ok S.ok (x:=72057594037927936) (.inr ⟨bn,0,none,1,rfl,XQ _,S.lds (b:=bn) (o:=0) (n:=1*1) m0 (lbt rfl)⟩) n1 (by omega)) ?_;intro v h ⟨g,bd,ed,nd,Rd⟩;replace S:=S.call g;clear g
 subst ed
 replace S:=S.drop1
 replace S:=S.push (b:=bd) (o:=.row _ 1) (.inl (Xc kn nd)) Rd (fun w=>by have:=kl (Xw _ w);omega)
 simp only [BS,LB]
 refine ag (bj (by exact Tryz.t42.1) (by exact Tryz.e3E) (by decide) (by rfl)) S ?_;clear S;intro h bq S a8;simp only [LC,aR,bo,ah,Nat.reduceMul,Nat.reduceAdd,XD,XE,Xh,XP]at S
 simp only [BS,LB,Nat.reduceLT,Nat.reduceEqDiff]
 refine al (dI S.ok (hn.gr (Y.rebase S).gr)) ?_;intro h g;replace S:=S.call g;clear g
 simp only [BS,LB,Nat.reduceLT,Nat.reduceEqDiff]
 have bt:=fun {c} (t:c∈_)=>S.key_lt (b:=c) t
 have a1:=S.fr.n
 refine step_ret (repI_ok S.ok (x:= -1) (.inr ⟨bq,0,none,1,rfl,XQ _,S.lds (b:=bq) (o:=0) (n:=1*1) m0 (lbt rfl)⟩) n1 (by omega)) ?_;intro v h ⟨g,ba,ea,na,Ra⟩;replace S:=S.call g;clear g
 subst ea
 replace S:=S.drop1
 replace S:=S.push (b:=ba) (o:=.row _ 1) (.inl (Xc a1 na)) Ra (fun w=>by have:=bt (Xw _ w);omega)
 have pp: ∃b,p=ptrTo b:=by obtain⟨b,_,_,e,_⟩:=H.ex;exact⟨b,e⟩
 obtain⟨bP,rfl⟩:=pp
 simp only [BS,LB,Nat.reduceLT,Nat.reduceEqDiff,Nat.reduceAdd,F7]
 refine ag rM S ?_;clear S;intro h G S cv
 simp only [BS,LB,Nat.reduceLT,Nat.reduceEqDiff,Nat.reduceAdd,Nat.reduceLeDiff,F7]
 refine ag (bR (by intro x e;cases e)) S ?_;clear S;intro h C S cx;simp only [ah]at S
 simp only [BS,F7]
 refine ag aw S ?_;clear S;intro h I S cz
 simp only [BS,LB,Nat.reduceLT,Nat.reduceEqDiff]
 refine ax (av S (i:=0) rfl ?_ ?_ ?_ ono) ?_
 . exact(by simp only [F7])
 . exact(by exact dh)
 . exact zM (lbt rfl)
 clear S;rintro h ⟨S,mo⟩;clear mo;simp only [LC,ah,lay,XA,XB,Nat.reduceAdd]at S
 simp only [BS,LB,Nat.reduceLT,Nat.reduceEqDiff,F7,S.ld (b:=I) (o:=0) m0 rfl,S.ld (b:=C) (o:=0) m1 rfl]
 have d8: ∀c∈Fh,c≠W:=fun c t e=>dF c t (by rw [e];simp [keys])
 have cX:=Xc kn nd
 have cY:=Xc a1 na
 clear kl bt kF kn nd a1 na Ra Rd
 have HA:=H.mo S.fr dF
 have bu: ∀c∈Fh,c≠I/\c≠C/\c≠G/\c≠ba/\c≠bd/\c≠W:=fun c t=>by have:=lF c t;have:=d8 c t;omega
 replace S:=Y.rebase S
 clear Y dF lF d8 H a7 a8
 have T:=S.baseF Fh
 have nh:=S.fr.n
 have bb: ∀L,(∀c∈keys L [],c=I\/c=C\/c=G\/c=ba\/c=bd\/c=W)-> ∀c∈Fh,c∉keys L []:=fun L hL c t w=>by
  have:=bu c t
  have:=hL c w
  omega
 have ps:Ret zB 200 [ptrTo bP,.int .i64 (s:Nat),.int .i64 0] h _:=sI S.ok HA hs (by omega) rfl
 refine step_ret ps ?_
 rintro r Q ⟨f1,F1,H1,J⟩
 replace S:=S.rebaseF gF (T.stepF f1 (fun c t=>⟨.inl (.inr t),bb _ (fun c t=>by simpa [keys]using t) c t⟩))
 have P: ∀c∈F1,h0.n<=c/\c∉keys [(I,Ob.row [ptrTo C] 1),(C,.row [ptrTo bP,.slice (some ⟨bd,0,none⟩) l.nodes l.nodes,.slice (some ⟨ba,0,none⟩) l.nodes l.nodes,.slice none 0 0,.map (some G)] 1),(G,.map [] 0),(ba,.row (XF l.nodes (.int .i64 (-1))) 1),(bd,.row (XF l.nodes (.int .i64 72057594037927936)) 1),(W,.row [.slice none 0 0,.slice none 0 0,.slice none 0 0] 1)] []:=fun c t=>by
  rcases J c t with h2|h2
  . exact⟨(gF c h2).elim (fun h=>h) (fun h=>h.elim),bb _ (fun c t=>by simpa [keys]using t) c h2⟩
  . refine⟨Xc nh h2,fun w=>?_⟩
    have:=T.key_lt (b:=c) (by simpa [keys]using w)
    omega
 clear T bb bu hFn gF nF J HA f1
 replace S:=S.nilG (k:=1)
 have dj:=dj_init (B:=seen l.arcs fs ft) hs
 have bv:=H1.lt S.ok
 have S1:=S
 replace S:=S.baseF F1
 simp only [BS,LB,Nat.reduceLT,Nat.reduceEqDiff,F7,S.ld (b:=I) (o:=0) m0 rfl,S.ld (b:=C) (o:=0) m1 rfl]
 refine step_ret (sF S.ok H1 (by omega)) ?_
 rintro r h2 ⟨v,k,b,rfl,f2,H2,a2,a3⟩
 replace S:=S.stepF f2 (fun c t=>⟨.inl (.inr t),fun w=>(P c t).2 (by simpa [keys,eK]using w)⟩)
 simp only [BS,LB,Nat.reduceLT,Nat.reduceEqDiff,F7]
 have S2:=S
 replace S:=S.base
 refine ag aw S ?_;clear S;intro h bk S cA
 simp only [BS,LB,Nat.reduceLT,Nat.reduceEqDiff]
 refine ax (av S (i:=0) rfl ?_ ?_ ?_ ono) ?_
 . exact(by simp only [F7])
 . exact(by exact bZ)
 . exact zM (lbt rfl)
 clear S;rintro h ⟨S,mo⟩;clear mo;simp only [LC,ah,lay,XA,XB,Nat.reduceAdd]at S
 simp only [BS,LB,Nat.reduceLT,Nat.reduceEqDiff]
 have H3:=H2.mo S.fr (fun c t w=>(P c t).2 (by simpa [keys,eK]using w))
 refine pk (FloodI h0 (seen l.arcs fs ft) s l.nodes I C G ba bd W bP bp gN gE) (fun O=>l.nodes-O.length) ?_ [] _ _ _ ?_
 . clear S S1 S2 H3 a2 a3 H2 f2 H1 dj P bv ps
   intro O ih ρ d hS ⟨dbs,D,K,F,es,c,f,aL,vO,bk,v,key,b,hd,Y,Z,lA,MI,CF,dj,H,a2,a3,r0,r2,r3,r8,r9,r10,r11,r12⟩
   simp only [List.cons_append,List.nil_append]at Y Z
   have S:=Y.base
   cases b with
   | false=>
     simp only [BS,LB,Nat.reduceLT,Nat.reduceEqDiff,F7,r8,r9,r12,S.ld (b:=I) (o:=0) m1 rfl,S.lds (b:=C) (o:=1) (n:=3) m2 (lbt rfl)]
     have be:Fl vO:=by
      rcases(Y.gown _ m0).1 with⟨e,_⟩|⟨_,_,e,_⟩
      . rw [show vO=_ from e];exact bU
      . rw [show vO=_ from e];exact bU
     refine ax (S.store (i:=6) rfl Tryz.t228.2.1 (by intro x e;cases e) rfl (by simp only [ah,List.drop_succ_cons,Xk,List.take_succ_cons,XN,X5,X8,be.2.1,Xz];rfl) (lbt rfl) ono) ?_
     clear S;rintro h ⟨S,_⟩
     simp only [LC,ah,lay,XA,XB,Nat.reduceAdd]at S
     simp only [BS]
     replace S:=(Y.rebase S).permL (L':=cR dbs++[(bk,_),(I,_),(C,_),(G,_),(ba,_),(bd,_),(W,_)]) List.perm_append_comm
     subst hd
     refine gP (ku dbs _ S fun h' S'=>?_)
     have lT:=S'.lds (b:=W) (o:=0) (n:=3) m6 (lbt rfl)
     refine⟨rfl,_,sb (by decide) (by simp only [bK,r8,ab,Nat.reduceEqDiff,reduceIte];exact fD Tryz.t228.1 Tryz.t228.2.1 lT),S'.gr,?_⟩
     refine⟨_,_,_,D,aL,O,rfl,?_,?_,?_,lA,dj.done (a3 rfl) n2,?_,dj.nd,dj.lt⟩
     . refine .inr ⟨bd,0,none,l.nodes,by rw [XL,XO],by rw [XL,XO];exact XQ _,?_⟩
       have:=(S'.row (b:=bd) m5).load (o:=0) (n:=((Xf l.nodes).map D).length*1) (by rw [oY];omega)
       rw [this,Xk,Xm (by rw [oY];omega)];rfl
     . refine .inr ⟨ba,0,none,l.nodes,by rw [lA],by rw [lA];exact XQ _,?_⟩
       have:=(S'.row (b:=ba) m4).load (o:=0) (n:=aL.length*1) (by rw [bD];omega)
       rw [this,Xk,Xm (by rw [bD];omega)];rfl
     . exact(S'.gown _ m0).1.sl rfl fU (by decide)
     . rintro c (h|h|h)
       . have h:bd=c:=h
         subst h;exact((S'.own _ m5).1).elim (fun h=>h) (fun h=>h.elim)
       . have h:ba=c:=h
         subst h;exact((S'.own _ m4).1).elim (fun h=>h) (fun h=>h.elim)
       . exact((S'.gblk m0 h).1).elim (fun h=>h) (fun h=>h.elim)
   | true =>
     simp only [if_true]at H
     obtain⟨hk,bw⟩:=a2 rfl
     obtain⟨_,n,rfl,_,_⟩:=dj.i3 v key hk
     obtain⟨b7,cb,bf,c0⟩:=dj.pop hk bw
     have lk:=sg (x:=(v:Int)) Tryz.t167.1 Tryz.t3.1 (z:=.int .i64 0) (by kernel_rfl) (show hS.get G=some (.map es c)from(S.own _ m3).2) MI
     rw [CF v,if_neg cb,Option.getD_none]at lk
     have w1:am .i64 1=1:=rfl
     simp only [BS,LB,Nat.reduceLT,Nat.reduceEqDiff,Int.reduceAdd,F7,r9,r10,r12,lk,w1,S.ld (b:=I) (o:=0) m1 rfl,S.ld (b:=C) (o:=4) m2 rfl]
     refine ax (S.mputI (i:=3) rfl Tryz.t167.1 Tryz.t3.1 MI _) ?_
     clear S;rintro h ⟨_,R,c',bx,S⟩
     simp only [LC]at S
     simp only [BS]
     refine ar (ay rfl) (q:=0) (ps:=[]) (by kernel_rfl) ?_
     simp only [BS,LB,cls,Nat.reduceLT,Nat.reduceEqDiff,Nat.reduceAdd,Nat.reducePow,Nat.reduceDiv,Nat.reduceMod,Nat.reduceLeDiff,F7,r9,r10,r11,bf,S.ld (b:=I) (o:=0) m1 rfl,S.ld (b:=C) (o:=1) m2 rfl,S.ld (b:=bk) (o:=0) m0 rfl]
     refine ep (av S (i:=5) rfl Tryz.t2.2.2.1 bZ (by rw [oY,XL,XO];exact bf) ono) ?_
     clear S;rintro h ⟨S,_⟩
     simp only [LC]at S
     have eD:(dW ((Xf l.nodes).map D)).set v (.int .i64 (n:Nat))=dW ((Xf l.nodes).map fun u=>if u=v then n else D u):=by
      rw [jX,jX,X9,X9]
      have:=jq (N:=l.nodes) (k:=v) (F:=(fun(x:Nat)=>Value.int .i64 x)∘D) (F':=(fun(x:Nat)=>Value.int .i64 x)∘fun u=>if u=v then n else D u) (fun u _ hu=>by simp [hu])
      rw [<-this];simp
     rw [eD]at S
     simp only [BS,LB,Nat.reduceAdd]
     refine ar (ay rfl) (q:=128) (ps:=[(0,8)]) (by kernel_rfl) ?_
     simp only [BS,LB,cls,Nat.reduceLT,Nat.reduceEqDiff,Nat.reduceAdd,Nat.reducePow,Nat.reduceDiv,Nat.reduceMod,Nat.reduceLeDiff,F7,r9,r10,S.ld (b:=I) (o:=0) m1 rfl,S.ld (b:=C) (o:=3) m2 rfl]
     refine fe (bj (by exact Tryz.t42.1) (by exact Tryz.e3E) (by decide) (by rfl)) S ?_;clear S;intro h bs S cI cN;simp only [LC,aR,bo,ah,Nat.reduceMul,Nat.reduceAdd,XD,XE,Xh,XP]at S
     simp only [BS,LB,cls,Nat.reduceLT,Nat.reduceEqDiff,Nat.reduceAdd,Nat.reducePow,Nat.reduceDiv,Nat.reduceMod,Nat.reduceLeDiff]
     have bA:aI h 1 (.slice (some ⟨bs,0,none⟩) 1 1)=some (1,dW [v]):=by simp only [aI];rw [S.lds (b:=bs) (o:=0) (n:=1*1) m0 (lbt rfl)];rfl
     replace S:=S.drop1
     refine kJ (S.grow (j:=0) (m:=1) (new:=dW [v]) rfl Tryz.t42.1 Tryz.e3E (by decide) Tryz.t42.2.2.2.2.2 bA rfl (by decide) rfl (by rw [oY,oY];have:=dj.len;simp;omega)) ?_
     clear S bA;rintro h A S
     simp only [LC,<-nats_app]at S
     have be:Fl A:=by
      rcases(S.gown _ m0).1 with⟨e,_⟩|⟨_,_,e,_⟩
      . rw [show A=_ from e];exact bU
      . rw [show A=_ from e];exact bU
     simp only [BS,LB,cls,Nat.reduceLT,Nat.reduceEqDiff,Nat.reduceAdd,Nat.reducePow,Nat.reduceDiv,Nat.reduceMod,Nat.reduceLeDiff,F7]
     refine ep (av S (i:=2) rfl Tryz.t42.2.2.1 be (zM (lbt rfl)) ono) ?_
     clear S;rintro h ⟨S,_⟩
     simp only [LC]at S
     simp only [BS,LB,Nat.reduceLT,Nat.reduceEqDiff,Nat.reduceAdd,r0,r2,r10]
     have pv:vO=.slice none 0 0\/ ∃c n,vO=.slice (some ⟨c,0,some 1⟩) n n/\c≠I:=by
      rcases(Y.gown _ m0).1 with⟨e,_⟩|⟨c,n,e,_⟩
      . exact .inl e
      . refine .inr ⟨c,n,e,fun h=>?_⟩
        exact(Y.gblk (c:=c) m0 (by rw [show vO=_ from e];rfl)).2 (by subst h;exact List.mem_map_of_mem (f:=Prod.fst) m1)
     refine⟨?_,?_⟩
     . clear ih
       rcases pv with rfl|⟨cO,nO,rfl,bB⟩
       . simp only [bQ,bW,bE,cd,bM,ne_eq,not_false_eq_true,ce,cB,bO,bN,cy,dr,bK,Nat.reduceLT,Nat.reduceEqDiff,reduceIte,Xz,r9,ab,yd,noteSl,pair_x,entry_nl,qs]
       . simp only [bQ,bW,bE,cd,bM,ne_eq,not_false_eq_true,ce,cB,bO,bN,cy,dr,bK,Nat.reduceLT,Nat.reduceEqDiff,reduceIte,Xz,r9,ab,yd,noteSl,kB bB,kB bB.symm]
     have kO: ∀c∈keys ((bk,Ob.row [.int .i64 (n:Nat)] 1)::(I,.row [ptrTo C] 1)::(C,.row [ptrTo bP,.slice (some ⟨bd,0,none⟩) l.nodes l.nodes,.slice (some ⟨ba,0,none⟩) l.nodes l.nodes,vO,.map (some G)] 1)::(G,.map es c)::(ba,.row (ints aL) 1)::(bd,.row (dW ((Xf l.nodes).map D)) 1)::(W,.row [.slice none 0 0,.slice none 0 0,.slice none 0 0] 1)::cR dbs) [(vO,1,dW O)],c<hS.n:=fun c t=>Y.key_lt t
     have kS:=fun {c} t=>S.key_lt (b:=c) t
     have c3:=(Y.rebase S).gr.n
     refine step_ret (hN _ nb S.ok (hn.gr (Y.rebase S).gr) v bf) ?_
     rintro vl h ⟨g,sl,bL⟩
     have kn:=S.fr.n
     have gn:=g.n
     replace S:=S.call g;clear g
     simp only [BS,LB,Nat.reduceLT,Nat.reduceEqDiff,r3]
     have a1:=S.fr.n
     have c4:=fun {c} t=>sl.lt S.ok (b:=c) t
     refine step_ret (arcs_ok' S.ok dh sl.fl gD) ?_;intro v h ⟨g,b1,b2,b3,e,q1,q2,q3,y1,y2,y3⟩;replace S:=S.call g;replace sl:=sl.gr g;clear g
     subst e
     simp only [BS]
     have hH:=H.mo S.fr (fun c t w=>(Z c t).2 w)
     have bT:=H.lt Y.ok
     refine jv S (g:=231) (a:=#[]) (b:=#[ptrTo b1,ptrTo b2,ptrTo b3]) (by simp [cy,aa,ab]) rfl rfl ?_
     intro h2 db lb S' c5 c7 g2
     have R1:=Y.rebase S'
     obtain⟨X,hX,R1⟩: ∃X:fG,X=_/\St NoM h0 h2 ((lb,.loop X)::(db,.dfr)::(bk,Ob.row [.int .i64 (n:Nat)] 1)::(I,.row [ptrTo C] 1)::(C,.row [ptrTo bP,.slice (some ⟨bd,0,none⟩) l.nodes l.nodes,.slice (some ⟨ba,0,none⟩) l.nodes l.nodes,A,.map (some G)] 1)::(G,.map R c')::(ba,.row (ints aL) 1)::(bd,.row (dW ((Xf l.nodes).map fun u=>if u=v then n else D u)) 1)::(W,.row [.slice none 0 0,.slice none 0 0,.slice none 0 0] 1)::cR dbs) [(A,1,dW (O++[v]))]:=⟨_,rfl,R1⟩
     have bX:ClF (O++[v]) (dK f (v:Int) (some (.int .i64 1))):=fun u=>by
      unfold dK
      by_cases e:u=v
      . subst e;simp
      . have e': ¬((u:Int)=(v:Int)):=by omega
        rw [if_neg e',CF u]
        simp [e]
     have hJ :Yld zB lb (fun k h' F'=> ∃K' Fh E,St NoM h0 h' ((lb,.loop X)::(db,.dfr)::(bk,Ob.row [.int .i64 (n:Nat)] 1)::(I,.row [ptrTo C] 1)::(C,.row [ptrTo bP,.slice (some ⟨bd,0,none⟩) l.nodes l.nodes,.slice (some ⟨ba,0,none⟩) l.nodes l.nodes,A,.map (some G)] 1)::(G,.map R c')::(ba,.row (ints E) 1)::(bd,.row (dW ((Xf l.nodes).map fun u=>if u=v then n else D u)) 1)::(W,.row [.slice none 0 0,.slice none 0 0,.slice none 0 0] 1)::cR dbs) [(A,1,dW (O++[v]))]/\
      dC h' Fh (ptrTo bP) l.nodes K'/\(∀c∈Fh,h0.n<=c/\c∉keys ((lb,.loop X)::(db,.dfr)::(bk,Ob.row [.int .i64 (n:Nat)] 1)::(I,.row [ptrTo C] 1)::(C,.row [ptrTo bP,.slice (some ⟨bd,0,none⟩) l.nodes l.nodes,.slice (some ⟨ba,0,none⟩) l.nodes l.nodes,A,.map (some G)] 1)::(G,.map R c')::(ba,.row (ints E) 1)::(bd,.row (dW ((Xf l.nodes).map fun u=>if u=v then n else D u)) 1)::(W,.row [.slice none 0 0,.slice none 0 0,.slice none 0 0] 1)::cR dbs) [(A,1,dW (O++[v]))])/\
      E.length=l.nodes/\Dj (seen l.arcs fs ft) s l.nodes (O++[v]) (fun u=>if u=v then n else D u) K' (fun a=> ∃id∈(outs l.arcs fs l.arcs.length v).drop k,(seen l.arcs fs ft).getD id default=a)/\
      F'=keys ((lb,.loop X)::(db,.dfr)::(bk,Ob.row [.int .i64 (n:Nat)] 1)::(I,.row [ptrTo C] 1)::(C,.row [ptrTo bP,.slice (some ⟨bd,0,none⟩) l.nodes l.nodes,.slice (some ⟨ba,0,none⟩) l.nodes l.nodes,A,.map (some G)] 1)::(G,.map R c')::(ba,.row (ints E) 1)::(bd,.row (dW ((Xf l.nodes).map fun u=>if u=v then n else D u)) 1)::(W,.row [.slice none 0 0,.slice none 0 0,.slice none 0 0] 1)::cR dbs) [(A,1,dW (O++[v]))]++Fh) (fun _ _=>False) (oe l.arcs ft (outs l.arcs fs l.arcs.length v)):=by
      clear ih S' R1 y1 y2 y3 hH S g2 H Z sl
      refine⟨?_,?_,fun _ _ h=>h.elim,?_⟩
      . rintro k h F' ⟨K',Fh,E,S,H,Z,_,_,rfl⟩
        exact⟨S.ok,fun b hb=>(List.mem_append.1 hb).elim (fun hb=>S.key_lt hb) (fun hb=>H.lt S.ok b hb)⟩
      . rintro k h F' h' ⟨K',Fh,E,S,H,q⟩ g
        exact⟨K',Fh,E,S.call g,H.gr g,q⟩
      . rintro k x h F' hx ⟨K',Fh,E,S,H,Z,bh,U,rfl⟩
        have bi:k<(outs l.arcs fs l.arcs.length v).length:=by
         have:=(List.getElem?_eq_some_iff.1 hx).1
         simpa [oe]using this
        unfold oe at hx
        rw [XY,Xp bi]at hx
        cases hx
        have w:=qm.1 (XG bi)
        rw [List.drop_eq_getElem_cons bi]at U
        generalize(outs l.arcs fs l.arcs.length v)[k]=id at w U
        obtain⟨ad,bl⟩:=w
        subst hX
        refine jx (S.get m0) (by rw [Tryz.e150];rfl) rfl ?_
        have S1:=S
        replace S:=S.base
        simp only [BS,LB,Nat.reduceLT,Nat.reduceEqDiff,F7]
        refine ag aw S ?_;clear S;intro h bY S cc
        simp only [BS,LB,Nat.reduceLT,Nat.reduceEqDiff,Xl,cw]
        refine ax (S.store (i:=0) rfl ?_ ?_ rfl rfl ?_ ono) ?_
        . exact(by exact Tryz.t46.2.1)
        . exact(by intro x e;cases e)
        . exact lbt rfl
        clear S;rintro h ⟨S,mo⟩;clear mo;simp only [LC,ah,lay,XA,XB,Nat.reduceAdd]at S
        simp only [BS]
        refine iK S (i:=1) rfl rfl rfl rfl rfl ?_
        clear S;intro h S
        simp only [LC]at S
        have af:l.arcs.getD id default∈l.arcs:=by rw [Xo,Xp ad];exact XG ad
        have c8:=a0.arcs _ af
        have c9:O.length*WMAX<=12*WMAX:=Xx _ (Xc dj.len n2)
        have cQ:=WMAX_eq
        have wn:am .i64 ((n:Int)+((l.arcs.getD id default).w:Int))=((n+(l.arcs.getD id default).w:Nat):Int):=by rw [wrap64]<;>omega
        simp only [BS,LB,Nat.reduceLT,Nat.reduceEqDiff,F7,r9,r11,wn,S.ld (b:=I) (o:=0) m4 rfl,S.ld (b:=bY) (o:=1) m0 rfl,S.ld (b:=bY) (o:=2) m0 rfl,S.ld (b:=bk) (o:=0) m3 rfl]
        have hH:=H.mo S.fr (fun c t w=>(Z c t).2 w)
        have b0:=H.lt S1.ok
        have d3:C≠ba:=fun e=>by
         have ap:=S1.apart
         subst e
         simp only [keys,XI,List.cons_append,List.nodup_cons,X6]at ap
         exact ap.2.2.2.2.1 (.inr (.inl trivial))
        replace S:=S.mono (M':=fun c=>c∈keys _ _\/c∈Fh) (fun _ h=>.inl h)
        refine step_ret (reach_ok S.ok (arc:=id) (far:=n+(l.arcs.getD id default).w) (S.row m5) hH (by omega) (S.own _ m6).2 bx bX (S.row m7) bh (bm _ af) (fun h=>(Z ba h).2 (by simp [keys])) (fun h=>(Z C h).2 (by simp [keys])) d3) ?_
        rintro r h ⟨f1,F2,cf,H2,ai,ch,cl,dd⟩
        have kq:=fun {c} t=>S.key_lt (b:=c) t
        have qn:=S.fr.n
        have S2:=S.callF (i:=7) (Fh:=Fh) rfl f1 (fun c t=>⟨.inl (.inr t),fun w=>by
         rcases List.mem_cons.1 w with e|w
         . have:=b0 c t;omega
         . exact(Z c t).2 w⟩) (o':=.row _ 1) ch
        simp only [List.set_cons_zero,List.set_cons_succ]at S2
        clear S
        simp only [BS]
        have S:=S2.base
        refine eZ S (i:=1) rfl ?_
        clear S;intro h S
        simp only [LC]at S
        have H3:=H2.mo S.fr (fun c t w=>by
         rcases ai c t with Q|Q
         . rcases List.mem_cons.1 w with e|w
           . have:=b0 c Q;omega
           . exact(Z c Q).2 w
         . have:=kq w;omega)
        have S3:=S2.rebase S
        refine .inl ⟨rfl,_,⟨_,F2,cf,S1.rebaseF (fun c t=>.inl (Z c t).1) S3.drop1,H3,fun c t=>?_,cl,?_,rfl⟩,S3.fr.mono (fun c t=>List.mem_append.2 t),fun c t=>?_⟩
        . rcases ai c t with Q|Q
          . exact Z c Q
          . refine⟨Xc S1.fr.n (Xc qn Q),fun w=>?_⟩
            have:=kq (Xw _ w)
            omega
        . obtain⟨e1,e2⟩:=seen_at (fs:=fs) (ft:=ft) ad
          have:=U.relaxed (ex':=fun a=> ∃cm∈(outs l.arcs fs l.arcs.length v).drop (k+1),(seen l.arcs fs ft).getD cm default=a) e2 (by rw [e1];show fs _∈_;rw [bl];simp) (by rw [e1];exact bm _ af) (by rw [e1];simp only [bl,if_true];rw [zO,List.length_singleton,Nat.succ_mul];omega) (fun b hb hx=>by
           by_cases eb:b=(seen l.arcs fs ft).getD id default
           . exact .inr eb
           . left
             rintro⟨i,hi,rfl⟩
             rcases List.mem_cons.1 hi with e|hi
             . subst e;exact eb rfl
             . exact hx ⟨i,hi,rfl⟩)
          simp only [e1,bl,if_true]at this
          exact this
        . rcases List.mem_append.1 t with t|t
          . exact .inl (List.mem_append_left _ t)
          . rcases ai c t with Q|Q
            . exact .inl (X3 _ Q)
            . exact .inr (Xc qn Q)
     have ak:=(Y.rebase S).gr
     have cT:=oU l.arcs fs l.arcs.length v
     have de:=a0.many
     refine gL (iter_useN (arcs_it (hq:=h0) ok S.ok ak.keep ak.n hn sl (fun id ad=>(qm.1 ad).1) (by omega) hE y1 y2 y3) (fun _ _ h=>h) hJ (h:=h2) (F:=keys ((lb,.loop X)::(db,.dfr)::(bk,Ob.row [.int .i64 (n:Nat)] 1)::(I,.row [ptrTo C] 1)::(C,.row [ptrTo bP,.slice (some ⟨bd,0,none⟩) l.nodes l.nodes,.slice (some ⟨ba,0,none⟩) l.nodes l.nodes,A,.map (some G)] 1)::(G,.map R c')::(ba,.row (ints aL) 1)::(bd,.row (dW ((Xf l.nodes).map fun u=>if u=v then n else D u)) 1)::(W,.row [.slice none 0 0,.slice none 0 0,.slice none 0 0] 1)::cR dbs) [(A,1,dW (O++[v]))]++F) g2.fr (fun b hb hlt=>?_)
      ⟨d9 K v none,F,aL,R1,hH.gr g2,fun c t=>⟨(Z c t).1,fun w=>?_⟩,lA,b7.exm (fun a ha hs=>?_),rfl⟩) fun o rc h' y=>kC y ?_
     . rcases List.mem_append.1 hb with V|V
       . have k2:=(R1.key_own V).elim (fun h=>h) (fun h=>h.elim)
         rcases List.mem_cons.1 V with e|V
         . simp only []at e;omega
         . rcases List.mem_cons.1 V with e|V
           . simp only []at e;omega
           . have k1:=kS V
             rintro(h|h|h|h|h)
             . omega
             . omega
             . omega
             . have:=bL b h;omega
             . omega
       . have k1:=bT b V
         have k2:=(Z b V).1
         rintro(h|h|h|h|h)
         . omega
         . omega
         . omega
         . have:=bL b h;omega
         . omega
     . have k1:=bT c t
       have dn:=S.fr.n
       rcases List.mem_cons.1 w with e|w
       . simp only []at e;omega
       . rcases List.mem_cons.1 w with e|w
         . simp only []at e;omega
         . rcases S.key_own w with Q|Q
           . omega
           . exact(Z c t).2 Q
     . obtain⟨i,hi,e⟩:=seen_mem ha
       refine⟨i,?_,e⟩
       rw [Xk]
       refine qm.2 ⟨hi,?_⟩
       have:=(seen_at (fs:=fs) (ft:=ft) hi).1
       rw [e]at this
       rw [this]at hs
       exact hs
     . rintro Fx ⟨K',a4,E,T,H',J,bh,U,rfl⟩
       clear hJ R1 y1 y2 y3 hH S' S
       rw [show(oe l.arcs ft (outs l.arcs fs l.arcs.length v)).length=(outs l.arcs fs l.arcs.length v).length by simp [oe],List.drop_length]at U
       replace U:=U.exm (ex':=fun _=>False) (fun a _ h=>by obtain⟨i,hi,_⟩:=h;cases hi)
       subst hX
       refine⟨_,T.get m0,Nat.zero_ne_one,?_⟩
       have ai: ∀c∈a4,c≠lb:=fun c t e=>(J c t).2 (by rw [e];exact m0)
       have H2:=H'.mo ((Mo.refl (M:=(· =lb)) T.ok).put (.inr rfl) .dead) ai
       replace T:=T.dead
       replace J:=fun c t=>And.intro (J c t).1 (fun w=>(J c t).2 (Xw _ w))
       have S:=T.base
       show Run _ _ _ _ _ _ _ _
       simp only [BS,Nat.reduceLT,Nat.reduceEqDiff,if_false,F7,r11,S.ld (b:=bk) (o:=0) m1 rfl]
       refine ag aw S ?_;clear S;intro h a5 S cn
       simp only [BS,LB,Nat.reduceLT,Nat.reduceEqDiff,r11]
       refine ax (av S (i:=0) rfl ?_ ?_ ?_ ono) ?_
       . exact(by simp only [F7])
       . exact(by exact bZ)
       . exact zM (lbt rfl)
       clear S;rintro h ⟨S,mo⟩;clear mo;simp only [LC,ah,lay,XA,XB,Nat.reduceAdd]at S
       simp only [BS,LB,Nat.reduceLT,Nat.reduceEqDiff,F7,r9,S.ld (b:=I) (o:=0) m3 rfl,S.ld (b:=C) (o:=0) m4 rfl]
       have H3:=H2.mo S.fr (fun c t w=>(J c t).2 w)
       have cp:=H2.lt T.ok
       have a6: ∀c∈a4,h0.n<=c/\c∉keys ([(a5,Ob.row [.int .i64 (n:Nat)] 1),(I,.row [ptrTo C] 1),(C,.row [ptrTo bP,.slice (some ⟨bd,0,none⟩) l.nodes l.nodes,.slice (some ⟨ba,0,none⟩) l.nodes l.nodes,A,.map (some G)] 1),(G,.map R c'),(ba,.row (ints E) 1),(bd,.row (dW ((Xf l.nodes).map fun u=>if u=v then n else D u)) 1),(W,.row [.slice none 0 0,.slice none 0 0,.slice none 0 0] 1)]++cR (db::dbs)) [(A,1,dW (O++[v]))]:=fun c t=>by
        refine⟨(J c t).1,fun w=>?_⟩
        have Q:=(J c t).2
        have h2:=cp c t
        simp [keys,cR]at w
        rcases w with h|h|h|h|h|h|h|h|h|h
        . omega
        all_goals exact Q (by simp [keys,cR,h])
       replace S:=(T.rebase S).sub (L':=(a5,Ob.row [.int .i64 (n:Nat)] 1)::(db,.dfr)::(I,.row [ptrTo C] 1)::(C,.row [ptrTo bP,.slice (some ⟨bd,0,none⟩) l.nodes l.nodes,.slice (some ⟨ba,0,none⟩) l.nodes l.nodes,A,.map (some G)] 1)::(G,.map R c')::(ba,.row (ints E) 1)::(bd,.row (dW ((Xf l.nodes).map fun u=>if u=v then n else D u)) 1)::(W,.row [.slice none 0 0,.slice none 0 0,.slice none 0 0] 1)::cR dbs) (G':=[(A,1,dW (O++[v]))]) (.cons_cons _ (.cons_cons _ (List.sublist_cons_self _ _))) (List.Sublist.refl _)
       replace S:=S.permL (L':=[(a5,Ob.row [.int .i64 (n:Nat)] 1),(I,.row [ptrTo C] 1),(C,.row [ptrTo bP,.slice (some ⟨bd,0,none⟩) l.nodes l.nodes,.slice (some ⟨ba,0,none⟩) l.nodes l.nodes,A,.map (some G)] 1),(G,.map R c'),(ba,.row (ints E) 1),(bd,.row (dW ((Xf l.nodes).map fun u=>if u=v then n else D u)) 1),(W,.row [.slice none 0 0,.slice none 0 0,.slice none 0 0] 1)]++cR (db::dbs)) (.cons _ (by
        show(List.append [_,_,_,_,_,_] ((db,Ob.dfr)::cR dbs)).Perm _
        exact List.perm_middle))
       clear T H' H2 J
       have T:=S.baseF a4
       refine step_ret (sF S.ok H3 (by omega)) ?_
       rintro rr h3 ⟨v3,k3,cr,rfl,f3,H4,b4,b5⟩
       replace S:=S.rebaseF (fun c t=>.inl (a6 c t).1) (T.stepF f3 (fun c t=>⟨.inl (.inr t),(a6 c t).2⟩))
       simp only [BS,LB,Nat.reduceLT,Nat.reduceEqDiff,r11]
       clear T
       have T:=S
       replace S:=S.base
       simp only [LC]at S
       refine ax (av S (i:=0) rfl ?_ ?_ ?_ ono) ?_
       . exact(by simp only [F7])
       . exact(by exact bZ)
       . exact zM (lbt rfl)
       clear S;rintro h ⟨S,mo⟩;clear mo;simp only [LC,ah,lay,XA,XB,Nat.reduceAdd]at S
       simp only [BS,LB,Nat.reduceLT,Nat.reduceEqDiff]
       have H5:=H4.mo S.fr (fun c t w=>(a6 c t).2 w)
       replace S:=T.rebase S
       subst hd
       have ds:(O++[v]).length=O.length+1:=by simp
       have cW:=U.len
       refine ih (O++[v]) _ _ _ (by omega) ⟨db::dbs,_,K',a4,R,c',_,E,A,a5,v3,k3,cr,rfl,S,a6,bh,bx,bX,U,H5,b4,b5,?_⟩
       refine⟨by simp [aa,r0,ab],by simp [aa,r2,ab],by simp [aa,r3,ab],by simp [aa,r8,ab],by simp [aa,r9,ab],by simp [aa],by simp [aa,ab],by simp [aa]⟩
 . have e1:dW ((Xf l.nodes).map fun _=>FAR)=XF l.nodes (.int .i64 72057594037927936):=by
    rw [jX,List.map_const',XO,List.map_replicate];rfl
   have e2:ints (XF l.nodes (-1))=XF l.nodes (.int .i64 (-1)):=by
    rw [yo,List.map_replicate]
   have S3:=S1.rebaseF (fun c t=>.inl (P c t).1) (S2.rebase S)
   have nn:=S2.fr.n
   refine⟨[],fun _=>FAR,d9 (fun _=>none) s (some 0),F1,[],0,fun _=>none,XF l.nodes (-1),.slice none 0 0,bk,v,k,b,rfl,?_,?_,by simp,tD,fun u=>by simp,dj,H3,a2,a3,?_⟩
   . rw [e1,e2];exact S3
   . rw [e1,e2]
     intro c t
     refine⟨(P c t).1,fun w=>?_⟩
     have Q:=(P c t).2
     have h2:=bv c t
     simp [keys,eK,cR]at w Q
     omega
   . refine⟨by simp [aa,ab,aB,aY],by simp [aa,ab,aB,aY],by simp [aa,ab,aB,aY],by simp [aa,ab,aB,aY],by simp [aa,ab,aB,aY],by simp [aa,ab,aB,aY],by simp [aa,ab,aB,aY],by simp [aa,ab,aB,aY]⟩
def Tryz.F0X:=aj t1<|aj t2<|aj t3<|Z3
def Tryz.F0Y:=aj t1<|aj t2<|aj t3<|Z3
def Tryz.F0Z:=aj t1<|aj t2<|aj t3<|aj t23<|aj t29<|aj Z0<|aj t42<|aj t92<|aj Z2<|aj t176<|aj Z17<|t230
def Tryz.F10:=aj t1<|aj t2<|aj t3<|aj t23<|aj t29<|aj Z0<|aj t42<|aj t92<|aj Z2<|aj t176<|aj Z17<|t230
theorem fromKey:KeyF zB 154 Arc.t:=by
 intro f a c
 have S:=Si c
 refine ac (n:=5) (rs:=[.tmp 2]) rfl Tryz.e154 rfl rfl rfl (lbt rfl) ?_
 simp only [BS,Nat.reduceLT,cw]
 refine ag (bR (by intro x e;cases e)) S ?_;clear S;intro h b S d;simp only [ah]at S
 simp only [BS,LB,ae,Nat.reduceLT,Nat.reduceEqDiff,F0X,S.ld (b:=b) (o:=1) m0 rfl]
 exact S.gr
theorem toKey:KeyF zB 152 Arc.s:=by
 intro f a c
 have S:=Si c
 refine ac (n:=5) (rs:=[.tmp 2]) rfl Tryz.e152 rfl rfl rfl (lbt rfl) ?_
 simp only [BS,Nat.reduceLT,cw]
 refine ag (bR (by intro x e;cases e)) S ?_;clear S;intro h b S d;simp only [ah]at S
 simp only [BS,LB,ae,Nat.reduceLT,Nat.reduceEqDiff,F0Y,S.ld (b:=b) (o:=0) m0 rfl]
 exact S.gr
theorem fromNext{b:Gra}(a:Good b){c:Value}:NextF zB 153 b c Arc.s:=fun h g d e v f=>netOut_ok d e (by have:=a.many;omega) f
theorem toNext{b:Gra}(a:Good b){c:Value}:NextF zB 151 b c Arc.t:=fun h g d e v f=>xY d e (by have:=a.many;omega) f
theorem re{j:Hp}(E:j.t.Sized j.n){k:Gra}(f:Good k){q:Value}{F:Nat}(G:bF j F q k){s:Nat}(H:s<k.nodes):
 Ret zB 87 [q,.int .i64 s] j fun r t=>Gr j t/\tU t j.n r (seen k.arcs Arc.s Arc.t) s k.nodes:=by
 have S:=Si E
 refine ac (n:=10) (rs:=[.cell 4 228]) rfl Tryz.e87 rfl rfl rfl (lbt rfl) ?_
 simp only [BS,F0Z]
 refine ag aw S ?_;clear S;intro h l S u
 simp only [BS,LB,Nat.reduceLT,Nat.reduceEqDiff]
 have I:=S.fr.n
 have J:=(S.row (b:=l) m0).lt S.ok
 refine step_ret (yD S.ok f (G.gr S.gr) H (fromNext f) fromKey (fun a K=>(f.arcs a K).2.1)) ?_;intro v h ⟨g,T⟩;replace S:=S.call g;clear g
 obtain⟨w,y,z,D,L,O,rfl,A,B,C,t4,t5,t6,t7,t8⟩:=T
 have M:=A.fl
 have N:=B.fl
 have P:=C.fl
 have m: ∀c,ao w c\/ao y c\/ao z c->c≠l:=fun c d e=>by have:=t6 c d;omega
 simp only [BS,LB,Nat.reduceLT,Nat.reduceEqDiff]
 refine ax (S.store (i:=0) rfl Tryz.t228.2.1 (by intro x e;cases e) rfl (by simp only [ah,X5,X8,M.2.1,N.2.1,P.2.1,Xz]) (lbt rfl) ono) ?_
 clear S;rintro h ⟨S,p⟩
 simp only [LC,ah,lay,XA,XB,Nat.reduceAdd]at S
 simp only [BS,ae]
 refine(lO (by decide) (by simp only [bK,ab,Nat.reduceEqDiff,reduceIte];exact fD Tryz.t228.1 Tryz.t228.2.1 (S.lds (b:=l) (o:=0) (n:=3) m0 (lbt rfl)))).2 (jB.2 ?_)
 exact⟨S.gr,w,y,z,D,L,O,rfl,A.mo p (fun c d=>m c (.inl d)),B.mo p (fun c d=>m c (.inr (.inl d))),C.mo p (fun c d=>m c (.inr (.inr d))),t4,t5,fun c d=>Xc I (t6 c d),t7,t8⟩
theorem qt{j:Hp}(E:j.t.Sized j.n){k:Gra}(f:Good k){q:Value}{F:Nat}(G:bF j F q k){s:Nat}(H:s<k.nodes):
 Ret zB 86 [q,.int .i64 s] j fun r t=>Gr j t/\tU t j.n r (seen k.arcs Arc.t Arc.s) s k.nodes:=by
 have S:=Si E
 refine ac (n:=10) (rs:=[.cell 4 228]) rfl Tryz.e86 rfl rfl rfl (lbt rfl) ?_
 simp only [BS,F10]
 refine ag aw S ?_;clear S;intro h l S u
 simp only [BS,LB,Nat.reduceLT,Nat.reduceEqDiff]
 have I:=S.fr.n
 have J:=(S.row (b:=l) m0).lt S.ok
 refine step_ret (yD S.ok f (G.gr S.gr) H (toNext f) toKey (fun a K=>(f.arcs a K).1)) ?_;intro v h ⟨g,T⟩;replace S:=S.call g;clear g
 obtain⟨w,y,z,D,L,O,rfl,A,B,C,t4,t5,t6,t7,t8⟩:=T
 have M:=A.fl
 have N:=B.fl
 have P:=C.fl
 have m: ∀c,ao w c\/ao y c\/ao z c->c≠l:=fun c d e=>by have:=t6 c d;omega
 simp only [BS,LB,Nat.reduceLT,Nat.reduceEqDiff]
 refine ax (S.store (i:=0) rfl Tryz.t228.2.1 (by intro x e;cases e) rfl (by simp only [ah,X5,X8,M.2.1,N.2.1,P.2.1,Xz]) (lbt rfl) ono) ?_
 clear S;rintro h ⟨S,p⟩
 simp only [LC,ah,lay,XA,XB,Nat.reduceAdd]at S
 simp only [BS,ae]
 refine(lO (by decide) (by simp only [bK,ab,Nat.reduceEqDiff,reduceIte];exact fD Tryz.t228.1 Tryz.t228.2.1 (S.lds (b:=l) (o:=0) (n:=3) m0 (lbt rfl)))).2 (jB.2 ?_)
 exact⟨S.gr,w,y,z,D,L,O,rfl,A.mo p (fun c d=>m c (.inl d)),B.mo p (fun c d=>m c (.inr (.inl d))),C.mo p (fun c d=>m c (.inr (.inr d))),t4,t5,fun c d=>Xc I (t6 c d),t7,t8⟩
def Tryz.F11:=aj t1<|t2
def wy(x:Int):Int:=min (max x 0) 72057594037927936
theorem zV{a:Hp}(d:a.t.Sized a.n){b c:Nat}{x:Int}(e:a.load b 0 1=some [.int .i64 0])(f:a.load c 0 1=some [.int .i64 72057594037927936]):bC zB 252 [.int .i64 x,ptrTo b,ptrTo c] a (.int .i64 (wy x)):=by
 have S:=Si d
 refine ac (n:=10) (rs:=[.tmp 4]) rfl Tryz.e252 rfl rfl rfl (lbt rfl) ?_
 simp only [BS,LB,ae,Nat.reduceLT,Nat.reduceEqDiff,F11,e,f]
 exact⟨rfl,S.gr⟩
theorem A0{a:Hp}(g:a.t.Sized a.n):Ret zB 249 [.int .i64 0,.int .i64 72057594037927936] a fun v h=>Gr a h/\ ∃b c,v=.func (.func 252) #[] #[ptrTo b,ptrTo c]/\h.load b 0 1=some [.int .i64 0]/\h.load c 0 1=some [.int .i64 72057594037927936]:=by
 have S:=Si g
 refine ac (n:=6) (rs:=[.tmp 4]) rfl Tryz.e249 rfl rfl rfl (lbt rfl) ?_
 simp only [BS,Nat.reduceLT]
 refine ag (bR (by intro x e;cases e)) S ?_;clear S;intro h b S d;simp only [ah]at S
 simp only [BS,Nat.reduceLT,Nat.reduceEqDiff,if_false]
 refine ag (bR (by intro x e;cases e)) S ?_;clear S;intro h c S f;simp only [ah]at S
 simp only [BS,LB,ae,Nat.reduceLT,Nat.reduceEqDiff]
 exact⟨S.gr,b,c,rfl,S.ld m1 rfl,S.ld m0 rfl⟩
theorem qZ{a:Hp}(b:a.t.Sized a.n){x:Int}:bC zB 244 [.int .i64 x] a (.int .i64 (wy x)):=by
 have S:=Si b
 refine ac (n:=6) (rs:=[.tmp 2]) rfl Tryz.e244 rfl rfl rfl (lbt rfl) ?_
 simp only [BS,LB]
 refine step_ret (A0 S.ok) ?_;intro v h ⟨g,b1,b2,e,e1,e2⟩;replace S:=S.call g;clear g
 subst e
 simp only [BS,LB,Nat.reduceLT,Nat.reduceEqDiff]
 refine al (zV S.ok e1 e2) ?_;intro h g;replace S:=S.call g;clear g
 simp only [BS,LB,ae,Nat.reduceLT,Nat.reduceEqDiff]
 exact S.gr
theorem wX{a:Hp}(b:a.t.Sized a.n){x:Int}:bC zB 238 [.int .i64 x] a (.bool (decide (wy x<72057594037927936))):=by
 have S:=Si b
 refine ac (n:=6) (rs:=[.tmp 2]) rfl Tryz.e238 rfl rfl rfl (lbt rfl) ?_
 simp only [BS,LB,Nat.reduceLT,Nat.reduceEqDiff]
 refine al (qZ S.ok) ?_;intro h g;replace S:=S.call g;clear g
 simp only [BS,LB,ae,Nat.reduceLT,Nat.reduceEqDiff]
 exact S.gr
theorem wy_bd(x:Int):0<=wy x/\wy x<=72057594037927936:=by unfold wy;omega
theorem wy_id{x:Int}(a:0<=x)(b:x<=72057594037927936):wy x=x:=by unfold wy;omega
end Go.Ab
end
section
namespace Go.Ab
structure YldP(E:Env)(lb:Nat)(J:Nat->Hp->List Nat->Prop)(n:Nat)(P:Nat->Hp->List Nat->List Value->Prop):Prop where
 lt: ∀i h F,J i h F->h.t.Sized h.n/\ ∀b∈F,b<h.n
 gr: ∀i h F h',J i h F->Gr h h'->J i h' F
 round: ∀i x h F,i<n->P i h F x->J i h F->jW E lb x h fun o h'=>o=.ret (.bool true)/\ ∃F',J (i+1) h' F'/\Mo (· ∈F) h h'/\ ∀b∈F',b∈F\/h.n<=b
def IterP(E:Env)(g:FuncId)(post:List Value)(b:Hp)(D:Nat->Prop)(n:Nat)(P:Nat->Hp->List Nat->List Value->Prop):Prop:=
 ∀a J,YldP E a J n P-> ∀h F,ItS b D h F->J 0 h F->fh E g (.func (.yield a) #[] #[]::post) none h fun o c d=>c=none/\ ∃u e,o=.ret u/\J n d e
theorem zT{E:Env}{cx:Cx}{o:Oper}{l:Loc}{K:Ex->Loc->Hp->Prop}{e h:Hp}{D:Nat->Prop}{f i n:Nat}{J:Nat->Hp->List Nat->Prop}{P:Nat->Hp->List Nat->List Value->Prop}{x:List Value}{F:List Nat}
 (Y:YldP E f J n P) (s:ItS e D h F) (g:J i h F) (j:i<n) (k:P i h F x)
 (m: ∀d F',J (i+1) d F'->ItS e D d F'->Mo (· ∈F) h d->(∀b∈F',b∈F\/h.n<=b)->K .normal (l.put o.dst (.bool true)) d):eO E cx o l K (some (.yield f x,h)):=by
 refine uo (Y.round i x h F j k g) ?_
 rintro q d ⟨rfl,F',a,b,c⟩
 exact m d F' a (s.mo b c (Y.lt _ _ _ a).2) b c
def encV(w:Value):List Value:=[w]
theorem oN(w:Value):(encV w).length=1:=rfl
theorem wU(l:List Value):l.flatMap encV=l:=by
 induction l with
 |nil=>rfl
 |cons x l a=>rw [Xe,a];rfl
def eR(h:Hp)(m:Nat)(v:Value)(n:Nat)(R:Nat->List Int):Prop:=
 ∃a:List Value,au h 1 encV v a/\a.length=n/\(∀c,ao v c->m<=c)/\ ∀i w,a[i]? =some w->au h 1 (encI .i64) w (R i)/\ ∀c,ao w c->m<=c
theorem eR.mo{M:Nat->Prop}{h k:Hp}{m n:Nat}{v:Value}{R:Nat->List Int}(r:eR h m v n R)(g:Mo M h k)(l: ∀b,M b->b<m):eR k m v n R:=by
 obtain⟨o,a,b,c,d⟩:=r
 exact⟨o,a.mo g (fun x e f=>by have:=c x e;have:=l x f;omega),b,c,fun i w j=>⟨(d i w j).1.mo g (fun x e f=>by have:=(d i w j).2 x e;have:=l x f;omega),(d i w j).2⟩⟩
theorem eR.gr{h a:Hp}{m n:Nat}{v:Value}{R:Nat->List Int}(r:eR h m v n R)(g:Gr h a):eR a m v n R:=r.mo (M:=NoM) g.fr (fun _ h=>h.elim)
theorem eR.low{h:Hp}{m f n:Nat}{v:Value}{R:Nat->List Int}(r:eR h m v n R)(g:f<=m):eR h f v n R:=by
 obtain⟨k,a,b,c,d⟩:=r
 exact⟨k,a,b,fun x e=>Xc g (c x e),fun i w j=>⟨(d i w j).1,fun x e=>Xc g ((d i w j).2 x e)⟩⟩
theorem eR.row{h:Hp}{m n:Nat}{v:Value}{R:Nat->List Int}(r:eR h m v n R){i:Nat}(k:i<n): ∃w,(∃c o,ig (some 1) v (.int .i64 (i:Nat))=some (.pointer (some ⟨c,o,none⟩))/\h.load c o 1=some [w])/\au h 1 (encI .i64) w (R i)/\ ∀c,ao w c->m<=c:=by
 obtain⟨e,a,b,c,d⟩:=r
 obtain⟨q,o,g,j⟩:=a.ix (kd:=.i64) oN (i:=i) (by omega)
 have f:e[i]? =some e[i]:=Xp (by omega)
 exact⟨e[i],⟨q,o,g,j⟩,(d i _ f).1,(d i _ f).2⟩
theorem flat_nat(l:List Nat):l.flatMap d7=(l.map fun(x:Nat)=>(x:Int)).flatMap (encI .i64):=by
 induction l with
 |nil=>rfl
 |cons x l a=>rw [Xe,XI,Xe,a];rfl
theorem sl_nat{h:Hp}{v:Value}{l:List Nat}(s:au h 1 d7 v l):au h 1 (encI .i64) v (l.map fun(x:Nat)=>(x:Int)):=by
 rcases s with⟨rfl,rfl⟩|⟨b,o,s,c,rfl,d,a⟩
 . exact .inl ⟨rfl,rfl⟩
 . refine .inr ⟨b,o,s,c,by grind,by grind,?_⟩
   rw [XL,a,flat_nat]
def gm(N:Nat)(l:List Int):Prop:=l.length<=16/\ ∀i,i<l.length->0<=l.getD i 0/\l.getD i 0<N/\l.getD i 0∉l.take i
theorem gm.push{N:Nat}{l:List Int}(h:gm N l)(d:l.length<16){x:Int}(f:0<=x)(g:x<N)(j:x∉l):gm N (l++[x]):=by
 refine⟨by simp;omega,fun i b=>?_⟩
 simp at b
 by_cases e:i=l.length
 . grind
 . have a:i<l.length:=by omega
   have c:(l++[x]).getD i 0=l.getD i 0:=by grind
   rw [c,XV (by omega)]
   exact h.2 i a
theorem mayL_nil(N:Nat):gm N []:=⟨by simp,fun i a=>by simp at a⟩
structure TabAt(h:Hp)(m:Nat)(p:Value)(N:Nat)(marks:List Int)(R Q:Nat->List Int):Prop where
 ex: ∃b vM vT vF,p=ptrTo b/\Row h b [.int .i64 N,vM,vT,vF] 1/\au h 1 (encI .i64) vM marks/\eR h m vT marks.length R/\eR h m vF marks.length Q/\m<=b/\ ∀c,ao vM c->m<=c
theorem TabAt.mo{M:Nat->Prop}{h c:Hp}{m N:Nat}{p:Value}{a:List Int}{R Q:Nat->List Int}(t:TabAt h m p N a R Q)(g:Mo M h c)(d: ∀b,M b->b<m):TabAt c m p N a R Q:=by
 obtain⟨b,f,i,j,e,k,l,n,q,r,s⟩:=t.ex
 exact⟨b,f,i,j,e,g.has (o:=.row _ 1) k (fun h=>by grind),l.mo g (fun x u v=>by grind),n.mo g d,q.mo g d,r,s⟩
theorem TabAt.gr{h b:Hp}{m N:Nat}{p:Value}{a:List Int}{R Q:Nat->List Int}(t:TabAt h m p N a R Q)(g:Gr h b):TabAt b m p N a R Q:=t.mo (M:=NoM) g.fr (fun _ h=>h.elim)
theorem eR.lenq{h c:Hp}{m n:Nat}{v:Value}{R:Nat->List Int}{e:TypeId}(r:eR c m v n R):lq (some (.slice e)) h v=some (.val (.int .i64 n),h):=by
 have⟨d,a,b,_⟩:=r
 rw [<-b];exact a.lenq
end Go.Ab

end
section
namespace Go.Ab
open Go.Proofs
set_option maxRecDepth 10000
def Tryz.FM:=aj t1<|aj t2<|aj t3<|aj t4<|t167
def Tryz.F0o:=aj t1<|aj t2<|aj t3<|aj t4<|aj t5<|aj t6<|aj Z1<|aj t42<|t168
def Tryz.FN:=aj t1<|aj t2<|aj t3<|aj t4<|aj t42<|aj t167<|t168
theorem may1_ok{b:Hp}(C:b.t.Sized b.n){q s d c N k:Nat}{x:Int}{t:List (Value×Value×Nat)}{f:Int->Option Value}(u:b.load q 0 1=some [.map (some d)])(D:b.load s 0 1=some [.int .i64 N])(v:b.get d=some (.map t c))(y:dy t c f)(hf:(f x).getD (.int .i64 0)=.int .i64 k)(I:k<=1)(E:q≠d)(F:s≠d):
 Ret zB 94 [.int .i64 x,ptrTo q,ptrTo s] b fun r A=>Mo (· =d) b A/\r=.bool (decide (x<0\/(N:Int)<=x\/k=1))/\ ∃es' c',A.get d=some (.map es' c')/\dy es' c' (dK f x (some (.int .i64 (k+1:Nat)))):=by
 have S:=St.init1 C (o:=.map t c) v
 have B:=sg (x:=x) Tryz.t167.1 Tryz.t3.1 (z:=.int .i64 0) (by kernel_rfl) v y
 rw [hf]at B
 have w:am .i64 ((k:Int)+1)=((k+1:Nat):Int):=by rw [wrap64]<;>omega
 refine ac (n:=22) (rs:=[.tmp 4]) rfl Tryz.e94 rfl rfl rfl (lbt rfl) ?_
 simp only [BS,LB,Nat.reduceLT,Nat.reduceEqDiff,FM,u,B,w]
 refine ax (S.mputI (i:=0) rfl Tryz.t167.1 Tryz.t3.1 y _) ?_
 clear S;rintro h ⟨_,es',c',a,S⟩
 simp only [LC]at S
 have l:=S.old u E
 have e:=S.old D F
 have m:h.get d=some (.map es' c'):=(S.own _ m0).2
 have g:=sg (x:=x) Tryz.t167.1 Tryz.t3.1 (z:=.int .i64 0) (by kernel_rfl) m a
 rw [show dK f x (some (.int .i64 ((k+1:Nat):Int))) x=some (.int .i64 ((k+1:Nat):Int)) by unfold dK;rw [if_pos rfl],Option.getD_some]at g
 by_cases j:x<0
 . simp only [BS,LB,ae,Nat.reduceLT,Nat.reduceEqDiff,j]
   exact⟨S.fr,by simp [j],es',c',m,a⟩
 . by_cases p:(N:Int)<=x
   . simp only [BS,LB,ae,Nat.reduceLT,Nat.reduceEqDiff,FM,e,j,p]
     exact⟨S.fr,by simp [p],es',c',m,a⟩
   . by_cases G:k=1
     . subst G
       simp only [BS,LB,ae,Nat.reduceLT,Nat.reduceEqDiff,Nat.reduceAdd,Int.reduceLT,Xl,FM,l,e,j,p,g]
       exact⟨S.fr,by simp,es',c',m,a⟩
     . have H:k=0:=by omega
       subst H
       simp only [BS,LB,ae,Nat.reduceLT,Nat.reduceEqDiff,Int.reduceLT,Xl,FM,l,e,j,p,g]
       exact⟨S.fr,by simp [j,p],es',c',m,a⟩
def OkAt(N:Nat)(l:List Int)(i:Nat):Prop:=0<=l.getD i 0/\l.getD i 0<N/\l.getD i 0∉l.take i
theorem mayIdx_ok {a:Hp} (X:a.t.Sized a.n) {u y d N:Nat} {v:Value} {l:List Int} (C:au a 1 (encI .i64) v l) (hl:l.length<=1000) (Y:a.load u 0 1=some [.map (some d)]) (D:a.load y 0 1=some [.int .i64 N]) (M:a.get d=some (.map [] 0)) (O:u≠d) (P:y≠d):
 Ret zB 155 [v,.func (.func 94) #[] #[ptrTo u,ptrTo y]] a fun r Q=>Mo (· =d) a Q/\ ∃z,r=.int .i64 z/\(0<=z↔ ¬ ∀i,i<l.length->OkAt N l i):=by
 have E: ∀c,ao v c-> ¬c=d:=by
  rintro c R rfl
  rcases C with⟨rfl,_⟩|⟨b,o,s,S,rfl,_,Z⟩
  . exact R.elim
  . have:b=c:=R
    subst this
    simp [Hp.load,M]at Z
 refine ac (n:=19) (rs:=[.tmp 4]) rfl Tryz.e155 rfl rfl rfl (lbt rfl) ?_
 simp only [BS,LB,Nat.reduceLT,Nat.reduceEqDiff,F0o,C.lenq]
 refine aD (fun(i:Nat) m h=>i<=l.length/\Mo (· =d) a h/\(∃F c f,h.get d=some (.map F c)/\dy F c f/\ ∀x,f x=if x∈l.take i then some (.int .i64 1)else none)/\(∀j,j<i->OkAt N l j)/\m 0=v/\m 1=.func (.func 94) #[] #[ptrTo u,ptrTo y]/\m 7=.int .i64 l.length/\m 8=.int .i64 i) (fun i=>l.length-i) ?_ 0 _ _ ?_
 . intro i ih m h ⟨hi,mo,⟨F,c,f,hg,MI,hf⟩,hok,r0,r1,r7,r8⟩
   by_cases hlt:i<l.length
   . obtain ⟨q,o,p,G⟩:=(C.mo mo E).ix (kd:=.i64) (aM .i64) hlt
     have w:am .i64 ((i:Int)+1)=((i+1:Nat):Int):=by rw [wrap64]<;>omega
     have T: ∀{b:Nat} {x},b≠d->a.load b 0 1=some x->h.load b 0 1=some x:=fun H e=>by
      have:=mo.get _ (ct mo.ok0 e) H
      unfold Hp.load at e⊢
      rw [this];exact e
     have I:l.getD i 0=l[i]:=by simp [Xo,hlt]
     simp only [BS,LB,Nat.reduceLT,Nat.reduceEqDiff,F0o,r0,r1,r7,r8,aq,hlt,p,G,encI]
     refine step_ret (may1_ok mo.ok (x:=l[i]) (N:=N) (k:=if l[i]∈l.take i then 1 else 0) (T O Y) (T P D) hg MI (by rw [hf];split<;>rfl) (by split<;>omega) O P) ?_
     rintro r Q ⟨f1,rfl,J,S,K,L⟩
     have t:=mo.trans f1 (fun _ h=>.inl h)
     by_cases g:OkAt N l i
     . have e:decide (l[i]<0\/(N:Int)<=l[i]\/(if l[i]∈l.take i then 1 else 0)=1)=false:=by
        obtain⟨w1,w2,U⟩:=g
        rw [I]at w1 w2 U
        rw [if_neg U]
        simp;omega
       rw [e]
       have A:l[i]∉l.take i:=by have:=g.2.2;rwa [I]at this
       simp only [BS,LB,Nat.reduceLT,Nat.reduceEqDiff,r8,w]
       refine ih (i+1) _ _ (by omega) ⟨by omega,t,⟨J,S,_,K,L,fun x=>?_⟩,fun j V=>?_,by simp [aa,r0],by simp [aa,r1,ab],by simp [aa,r7],by simp [aa]⟩
       . have W:=Xi hlt
         rw [if_neg A]
         unfold dK
         by_cases B:x=l[i]
         . rw [if_pos B,if_pos (by rw [W];exact X3 _ (List.mem_singleton.2 B))];rfl
         . rw [if_neg B,hf]
           have:x∈l.take (i+1)↔x∈l.take i:=by rw [W,List.mem_append,List.mem_singleton];exact⟨fun h=>h.resolve_right B,.inl⟩
           simp only [this]
       . by_cases D:j=i
         . subst D;exact g
         . exact hok j (by omega)
     . have e:decide (l[i]<0\/(N:Int)<=l[i]\/(if l[i]∈l.take i then 1 else 0)=1)=true:=by
        unfold OkAt at g
        rw [I]at g
        simp only [decide_eq_true_eq]
        by_cases A:l[i]∈l.take i
        . rw [if_pos A];exact .inr (.inr rfl)
        . by_cases a1:l[i]<0
          . exact .inl a1
          . by_cases a2:(N:Int)<=l[i]
            . exact .inr (.inl a2)
            . exact absurd ⟨by omega,by omega,A⟩ g
       rw [e]
       simp only [BS,LB,ae,Nat.reduceLT,Nat.reduceEqDiff]
       exact⟨t,_,rfl,by simp only [Int.natCast_nonneg,true_iff];exact fun h=>g (h i hlt)⟩
   . simp only [BS,LB,ae,Nat.reduceLT,Nat.reduceEqDiff,r7,r8,aq,hlt]
     exact⟨mo,_,rfl,⟨fun h=>by omega,fun h=>absurd (fun j V=>hok j (by omega)) h⟩⟩
 . exact⟨Xn _,Mo.refl X,⟨[],0,fun _=>none,M,tD,fun x=>by simp⟩,fun j V=>by omega,by simp [aa,aB],by simp [aa,aB,aY,ab],by simp [aa],by simp [aa]⟩
noncomputable instance mayDec(N:Nat)(l:List Int):Decidable (gm N l):=Classical.propDecidable _
theorem mayCf_ok{a:Hp}(m:a.t.Sized a.n){e f b N:Nat}{v:Value}{l:List Int}(o:au a 1 (encI .i64) v l)(p:l.length<=1000)(q:a.load e 0 1=some [.map (some b)])(s:a.load f 0 1=some [.int .i64 N])(t:a.get b=some (.map [] 0))(u:e≠b)(w:f≠b)(d:Decidable (∀i,i<l.length->OkAt N l i)):
 Ret zB 95 [v,.func (.func 94) #[] #[ptrTo e,ptrTo f]] a fun r x=>Mo (· =b) a x/\r=.bool (!decide (∀i,i<l.length->OkAt N l i)):=by
 refine ac (n:=9) (rs:=[.tmp 4]) rfl Tryz.e95 rfl rfl rfl (lbt rfl) ?_
 simp only [BS,LB,Nat.reduceLT,Nat.reduceEqDiff]
 refine step_ret (mayIdx_ok m o p q s t u w) ?_
 rintro r h ⟨j,z,rfl,k⟩
 by_cases c: ∀i,i<l.length->OkAt N l i
 . have g: ¬(0<=z):=fun h=>k.1 h c
   simp only [BS,LB,ae,Nat.reduceLT,Nat.reduceEqDiff,g]
   exact⟨j,by rw [decide_eq_true c];rfl⟩
 . have g:0<=z:=k.2 c
   simp only [BS,LB,ae,Nat.reduceLT,Nat.reduceEqDiff,g]
   exact⟨j,by rw [decide_eq_false c];rfl⟩
theorem may_ok{a:Hp}(t:a.t.Sized a.n){v:Value}{l:List Int}{N:Nat}(j:au a 1 (encI .i64) v l)(u:l.length<=1000):bC zB 41 [.int .i64 N,v] a (.bool (decide (gm N l))):=by
 have S:=Si t
 refine ac (n:=18) (rs:=[.tmp 4]) rfl Tryz.e41 rfl rfl rfl (lbt rfl) ?_
 simp only [BS,Nat.reduceLT]
 refine ag (bR (by intro x e;cases e)) S ?_;clear S;intro h w S q;simp only [ah]at S
 simp only [BS]
 refine ag rM S ?_;clear S;intro h B S f
 simp only [BS,FN]
 refine ag aw S ?_;clear S;intro h y S s
 simp only [BS,LB,Nat.reduceLT,Nat.reduceEqDiff]
 refine ax (av S (i:=0) rfl ?_ ?_ ?_ ono) ?_
 . exact(by simp only [FN])
 . exact(by exact fl_map)
 . exact zM (lbt rfl)
 clear S;rintro h ⟨S,k⟩;clear k;simp only [LC,ah,lay,XA,XB,Nat.reduceAdd]at S
 by_cases g:l.length<=16
 . have m:(l.length:Int)<=16:=by omega
   simp only [BS,LB,Nat.reduceLT,Nat.reduceEqDiff,FN,j.lenq,m]
   have p:=S.apart
   simp only [keys,XI,List.map_nil,List.filterMap_nil,Xs,List.nodup_cons,X6,List.not_mem_nil,or_false,not_or]at p
   have d:Decidable (∀i,i<l.length->OkAt N l i):=Classical.propDecidable _
   refine step_ret (mayCf_ok S.ok (j.gr S.gr) u (S.ld (b:=y) (o:=0) m0 rfl) (S.ld (b:=w) (o:=0) m2 rfl) (S.own _ m1).2 p.1.1 (fun e=>p.2.1 e.symm) d) ?_
   rintro r h ⟨k,rfl⟩
   have z:Gr a h:=(S.fr.trans k (fun c A=>.inr (by subst A;exact f)):Mo NoM a h).gr
   simp only [BS,LB,ae,Nat.reduceLT,Nat.reduceEqDiff]
   refine⟨?_,z⟩
   congr 1
   by_cases c: ∀i,i<l.length->OkAt N l i
   . have:gm N l:=⟨g,c⟩
     rw [decide_eq_true c,decide_eq_true this];rfl
   . have: ¬gm N l:=fun h=>c h.2
     rw [decide_eq_false c,decide_eq_false this];rfl
 . have m: ¬(l.length:Int)<=16:=by omega
   simp only [BS,LB,ae,Nat.reduceLT,Nat.reduceEqDiff,FN,j.lenq,m]
   exact⟨by have: ¬gm N l:=fun h=>g h.1;simp [this],S.gr⟩
def Tryz.FY:=aj t1<|aj t2<|aj t3<|aj t4<|aj t23<|aj t29<|aj Z0<|aj t42<|aj t92<|aj Z2<|aj t100<|aj t159<|Z17
def Tryz.F0p:=aj t1<|aj t2<|aj t3<|aj t4<|aj t6<|aj Z1<|aj t23<|aj t39<|t157
open Classical in
noncomputable def dOf(B:List Arc)(s v:Nat):Nat:=if h: ∃x,IsD B s v x then h.choose else 0
theorem ui{B:List Arc}{s v x:Nat}(h:IsD B s v x):dOf B s v=x/\IsD B s v (dOf B s v):=by
 have a: ∃x,IsD B s v x:=⟨x,h⟩
 have e:dOf B s v=a.choose:=by unfold dOf;rw [dif_pos a]
 rw [e]
 exact⟨a.choose_spec.uniq h,a.choose_spec⟩
noncomputable def rowD(B:List Arc)(N s:Nat):List Int:=(Xf N).map fun v=>((dOf B s v:Nat):Int)
theorem rowD_of{B:List Arc}{N s:Nat}{D:Nat->Nat}(h: ∀v,IsD B s v (D v)):((Xf N).map D).map (fun(x:Nat)=>(x:Int))=rowD B N s:=by
 unfold rowD
 rw [X9]
 refine List.map_congr_left fun v _=>?_
 show((D v:Nat):Int)=_
 rw [(ui (h v)).1]
def RunF(E:Env)(g:FuncId)(a:Gra)(b:Value)(B:List Arc):Prop:= ∀(h:Hp) (d:Nat),h.t.Sized h.n->bF h d b a-> ∀s,s<a.nodes->Ret E g [b,.int .i64 (s:Nat)] h fun r c=>Gr h c/\tU c h.n r B s a.nodes
theorem runTo{a:Gra}(b:Good a){c:Value}:RunF zB 86 a c (seen a.arcs Arc.t Arc.s):=fun h g d e s f=>qt d b e f
theorem runFrom{a:Gra}(b:Good a){c:Value}:RunF zB 87 a c (seen a.arcs Arc.s Arc.t):=fun h g d e s f=>re d b e f
def PRow(m:Nat)(R:Nat->List Int)(i:Nat)(h:Hp)(F:List Nat)(x:List Value):Prop:= ∃w,x=[w]/\au h 1 (encI .i64) w (R i)/\ ∀c,ao w c->m<=c/\c∉F
theorem rows_ok{a:Hp}(l:a.t.Sized a.n){p j k:Value}(m:Fl p)(o:Fl j)(q:Fl k):Ret zB 85 [p,j,k] a fun v i=>Gr a i/\ ∃b c d,v=.func (.func 149) #[] #[ptrTo b,ptrTo c,ptrTo d]/\a.n<=b/\a.n<=c/\a.n<=d/\i.load b 0 1=some [j]/\i.load c 0 1=some [k]/\i.load d 0 1=some [p]:=by
 have S:=Si l
 refine ac (n:=8) (rs:=[.tmp 6]) rfl Tryz.e85 rfl rfl rfl (lbt rfl) ?_
 simp only [BS,Nat.reduceLT]
 refine ag (cL (by assumption)) S ?_;clear S;intro h d S e
 simp only [BS,Nat.reduceLT,Nat.reduceEqDiff,if_false]
 refine ag (cL (by assumption)) S ?_;clear S;intro h b S f
 simp only [BS,Nat.reduceLT,Nat.reduceEqDiff,if_false]
 refine ag (cL (by assumption)) S ?_;clear S;intro h c S g
 simp only [BS,LB,ae,Nat.reduceLT,Nat.reduceEqDiff]
 exact⟨S.gr,b,c,d,rfl,f,g,e,S.ld m1 rfl,S.ld m0 rfl,S.ld m2 rfl⟩
theorem rows_it{hq d:Hp}(E:hq.t.Sized hq.n)(e:d.t.Sized d.n)(S:ey hq d)(T:hq.n<=d.n){y p:Value}{j:Gra}{G z q r m:Nat}(U:bF hq G y j){l:List Int}(I:au d 1 (encI .i64) p l)(H: ∀i,i<l.length->0<=l.getD i 0/\l.getD i 0<j.nodes)(K:l.length<1000){g:FuncId}{B:List Arc}(V:RunF zB g j y B)(W:m<=d.n)
 (X:d.load z 0 1=some [p]) (Z:d.load q 0 1=some [.func (.func g) #[] #[]]) (e3:d.load r 0 1=some [y]):
 IterP zB 149 [ptrTo z,ptrTo q,ptrTo r] d (fun c=>c=z\/c=q\/c=r\/ao p c\/c<hq.n) l.length (PRow m fun i=>rowD B j.nodes (l.getD i 0).toNat):=by
 intro lb J Y h F s A
 refine enter (n:=22) (rs:=[]) rfl Tryz.e149 rfl rfl rfl (lbt rfl) ?_
 have L:=s.load e X (.inl rfl)
 simp only [BS,LB,Nat.reduceLT,FY,L,I.lenq]
 refine aD (fun(i:Nat) f h=>i<=l.length/\ ∃F,ItS d (fun c=>c=z\/c=q\/c=r\/ao p c\/c<hq.n) h F/\J i h F/\f 0=.func (.yield lb) #[] #[]/\f 2=ptrTo q/\f 3=ptrTo r/\f 7=p/\f 8=.int .i64 l.length/\f 9=.int .i64 i) (fun i=>l.length-i) ?_ 0 _ _ ?_
 . clear L
   intro i ih f h ⟨hi,F,s,A,r0,r2,r3,r7,r8,r9⟩
   by_cases hlt:i<l.length
   . obtain⟨c,o,t,u⟩:=(s.sl e I (fun b h=>.inr (.inr (.inr (.inl h))))).ix (kd:=.i64) (aM .i64) hlt
     have l2:=s.load e Z (.inr (.inl rfl))
     have l3:=s.load e e3 (.inr (.inr (.inl rfl)))
     have nt:bF h G y j:=U.keep E (s.keep S T (fun c C=>.inr (.inr (.inr (.inr C)))))
     have w:am .i64 ((i:Int)+1)=((i+1:Nat):Int):=by rw [wrap64]<;>omega
     have M:l.getD i 0=l[i]:=by simp [Xo,hlt]
     have N:=H i hlt
     rw [M]at N
     obtain⟨mk,x⟩: ∃k:Nat,l[i]=k:=⟨l[i].toNat,by omega⟩
     rw [x]at u N
     simp only [BS,LB,Nat.reduceLT,Nat.reduceEqDiff,FY,r0,r2,r3,r7,r8,r9,aq,hlt,t,u,encI,l2,l3]
     refine step_ret (V h G s.ok nt mk (by omega)) ?_
     rintro v P ⟨Q,R,vA,vO,D,aL,O,rfl,s1,s2,s3,t4,t5,t6,t7,t8⟩
     simp only [BS,LB,Nat.reduceLT,Nat.reduceEqDiff,FY]
     refine zT Y (s.gr Q) (Y.gr _ _ _ _ A Q) (i:=i) hlt ⟨R,rfl,?_,fun c C=>⟨?_,fun hF=>?_⟩⟩ ?_
     . have:=sl_nat s1
       rw [rowD_of t5]at this
       show au P 1 _ R (rowD B j.nodes (l.getD i 0).toNat)
       rw [M,x]
       exact this
     . exact Xc W (Xc s.n (t6 c (.inl C)))
     . have h1:=s.lt c hF
       have P:=t6 c (.inl C)
       omega
     . intro h' F' a s' _ _
       simp only [BS,LB,Nat.reduceLT,Nat.reduceEqDiff,r9,w]
       exact ih (i+1) _ _ (by omega) ⟨by omega,F',s',a,by simp [aa,r0],by simp [aa,r2,ab],by simp [aa,r3,ab],by simp [aa,r7],by simp [aa,r8],by simp [aa]⟩
   . simp only [BS,LB,Nat.reduceLT,r8,r9,aq,hlt]
     have:i=l.length:=by omega
     subst this
     exact dZ (dV ⟨rfl,_,rfl,rfl,_,F,rfl,A⟩)
 . exact⟨by omega,F,s,A,by simp [aa,cD],by simp [aa,cD,ab],by simp [aa,cD,ab],by simp [aa],by simp [aa],by simp [aa]⟩
theorem y7 {q:Hp} (ok:q.t.Sized q.n) {g:FuncId} {post:Array Value} {D:Nat->Prop} {n m:Nat} {R:Nat->List Int} (it:IterP zB g post.toList q D n (PRow m R)) (H:m<=q.n) (hn:n<1000):
 Ret zB 148 [.slice none 0 0,.func (.func g) #[] post] q fun r v=>Gr q v/\eR v m r n R:=by
 have S:=Si ok
 refine ac (n:=13) (rs:=[.tmp 4]) rfl Tryz.e148 rfl rfl rfl (lbt rfl) ?_
 simp only [BS,Nat.reduceLT]
 refine ag (cL (by exact bU)) S ?_;clear S;intro h y S Y
 simp only [BS,Nat.reduceLT,Nat.reduceEqDiff,if_false]
 replace S:=S.nilG (k:=1)
 have g0:=S.gr
 refine jv S (g:=g) (a:=#[]) (b:=post) (by simp [cy,aa,aB,aY]) rfl rfl ?_
 intro Z E z A af ai g2
 obtain⟨X,hX,A⟩: ∃X:fG,X=_/\St NoM q Z [(z,.loop X),(E,.dfr),(y,.row [.slice none 0 0] 1)] [(.slice none 0 0,1,[])]:=⟨_,rfl,A⟩
 have hJ:YldP zB z (fun k v F=> ∃(f:List Value) (p:Value),St NoM q v [(z,.loop X),(E,.dfr),(y,.row [p] 1)] [(p,1,f)]/\f.length=k/\k<=n/\(∀i w,f[i]? =some w->au v 1 (encI .i64) w (R i)/\ ∀c,ao w c->m<=c/\c∉F)/\F=keys [(z,.loop X),(E,.dfr),(y,.row [p] 1)] [(p,1,f)]) n (PRow m R):=by
  refine⟨?_,?_,?_⟩
  . rintro i h F ⟨f,p,S,_,_,_,rfl⟩;exact⟨S.ok,fun b B=>S.key_lt B⟩
  . rintro i h F v ⟨f,p,S,a,b,c,rfl⟩ gg;exact⟨f,p,S.call gg,a,b,fun i w l=>⟨(c i w l).1.gr gg,(c i w l).2⟩,rfl⟩
  . rintro i x hR F hi ⟨w,rfl,sw,l⟩ ⟨f,p,S,a,b,c,rfl⟩
    subst hX
    obtain⟨K,N,O,rfl⟩:=sw.form
    have fw:Fl (.slice K N O):=bU
    refine jx (S.get m0) (by rw [Tryz.e148];rfl) rfl ?_
    have Q:=S
    replace S:=S.base
    simp only [BS,LB,Nat.reduceLT,Nat.reduceEqDiff]
    refine iK S (i:=0) rfl rfl rfl rfl rfl ?_
    clear S;intro h S
    simp only [LC]at S
    simp only [BS,LB,Nat.reduceLT,Nat.reduceEqDiff,F0p,S.ld (b:=y) (o:=0) m2 rfl]
    refine ag (bj (by exact Tryz.t39.1) (by exact Ya) (by decide) (by rfl)) S ?_;clear S;intro h bs S ad;simp only [LC,aR,bo,ah,Nat.reduceMul,Nat.reduceAdd,XD,XE,Xh,XP]at S
    simp only [BS,LB,Nat.reduceLT,Nat.reduceEqDiff]
    have I:aI h 1 (.slice (some ⟨bs,0,none⟩) 1 1)=some (1,[.slice K N O]):=by simp only [aI];rw [S.lds (b:=bs) (o:=0) (n:=1*1) m0 (lbt rfl)];rfl
    replace S:=S.drop1
    refine dX (S.grow (j:=0) (m:=1) (new:=[.slice K N O]) rfl Tryz.t39.1 Ya (by decide) Tryz.t39.2.2.2.2.2 I rfl (by decide) (by simp [fw.2.1]) (by simp;omega)) ?_
    clear S I;rintro h s S
    simp only [LC]at S
    have fv:Fl s:=by
     rcases(S.gown _ m0).1 with⟨e,_⟩|⟨_,_,e,_⟩
     . rw [show s=_ from e];exact bU
     . rw [show s=_ from e];exact bU
    simp only [BS,LB,Nat.reduceLT,Nat.reduceEqDiff]
    refine ax (av S (i:=2) rfl Tryz.t39.2.2.1 fv (zM (lbt rfl)) ono) ?_
    clear S;rintro h ⟨S,_⟩
    simp only [LC]at S
    simp only [BS]
    refine eZ S (i:=0) rfl ?_
    clear S;intro h S
    simp only [LC]at S
    refine⟨rfl,_,⟨f++[.slice K N O],s,Q.rebase S,by simp [a],by omega,fun j u G=>?_,rfl⟩,S.fr,S.key_new⟩
    have t:au h 1 (encI .i64) u (R j)/\ ∀c,ao u c->m<=c/\c∉keys [(z,Ob.dfr),(E,.dfr),(y,.dfr)] [(p,1,f)]/\c<hR.n:=by
     by_cases hj:j<f.length
     . rw [XZ hj]at G
       obtain⟨P,C⟩:=c j u G
       exact⟨P.mo S.fr (fun x d J=>(C x d).2 J),fun x d=>⟨(C x d).1,(C x d).2,P.lt Q.ok d⟩⟩
     . rw [XW (by omega)]at G
       have U:j-f.length=0:=by
        have:=(List.getElem?_eq_some_iff.1 G).1
        simp at this;omega
       rw [U]at G
       cases G
       have:j=f.length:=by omega
       subst this
       rw [a]
       exact⟨sw.mo S.fr (fun x d J=>(l x d).2 J),fun x d=>⟨(l x d).1,(l x d).2,sw.lt Q.ok d⟩⟩
    refine⟨t.1,fun x d=>⟨(t.2 x d).1,fun H=>?_⟩⟩
    rcases S.key_new x H with h1|h1
    . exact(t.2 x d).2.1 h1
    . have:=(t.2 x d).2.2;omega
 refine gL (it z _ hJ Z _ ?_ ⟨[],_,A,rfl,Xn _,fun i w l=>by simp at l,rfl⟩) ?_
 . exact⟨A.ok,A.fr.n,fun b B _=>A.gr.get b B,fun b B h=>by have:=(A.key_own B).elim (fun h=>h) (fun h=>h.elim);omega,fun b B=>A.key_lt B⟩
 . rintro o rc v ⟨rfl,u,F,rfl,f,p,T,a,_,c,rfl⟩
   subst hX
   refine⟨_,T.get m0,Nat.zero_ne_one,?_⟩
   have V: ∀i w,f[i]? =some w->au (v.put z .dead) 1 (encI .i64) w (R i)/\ ∀c,ao w c->m<=c/\c∉keys [(E,.dfr),(y,.row [p] 1)] [(p,1,f)]:=fun i w l=>by
    obtain⟨P,C⟩:=c i w l
    exact⟨P.mo ((Mo.refl (M:=(· =z)) T.ok).put (.inr rfl) .dead) (fun x d e=>(C x d).2 (by rw [e];exact m0)),fun x d=>⟨(C x d).1,fun H=>(C x d).2 (Xw _ H)⟩⟩
   replace T:=T.dead
   have S:=T
   show Run _ _ _ _ _ _ _ _
   simp only [BS,LB,Nat.reduceLT,Nat.reduceEqDiff,F0p,S.ld (b:=y) (o:=0) m1 rfl]
   refine gP (ku [E] _ (L:=[(y,_)]) T.base fun h3 W=>⟨rfl,_,rfl,?_⟩)
   refine⟨(T.fr.trans W.fr (fun c hc=>(T.key_own hc).symm):Mo NoM q h3).gr,f,?_,a,fun x d=>?_,fun i w l=>⟨(V i w l).1.mo W.fr (fun x d J=>((V i w l).2 x d).2 J),fun x d=>((V i w l).2 x d).1⟩⟩
   . exact(W.gown _ m0).1.sl (wU f).symm oN (by decide)
   . exact Xc H (((T.gblk m0 d).1).elim (fun h=>h) (fun h=>h.elim))
theorem u5{a:Hp}(c:a.t.Sized a.n){g:FuncId}{post:Array Value}{D:Nat->Prop}{n m:Nat}{R:Nat->List Int}(d:IterP zB g post.toList a D n (PRow m R))(e:m<=a.n)(f:n<1000):
 Ret zB 84 [.func (.func g) #[] post] a fun r b=>Gr a b/\eR b m r n R:=by
 have S:=Si c
 refine ac (n:=5) (rs:=[.tmp 2]) rfl Tryz.e84 rfl rfl rfl (lbt rfl) ?_
 simp only [BS,LB,Nat.reduceLT,Nat.reduceEqDiff]
 refine step_ret (y7 S.ok d e f) ?_;intro v h ⟨g,L⟩;replace S:=S.call g;clear g
 simp only [BS,LB,ae,Nat.reduceLT,Nat.reduceEqDiff]
 exact⟨S.gr,L⟩
def Tryz.F0q:=aj t1<|aj t2<|aj t3<|aj t4<|aj t23<|aj t29<|aj t30<|aj Z0<|aj t39<|aj t42<|aj t92<|aj Z2<|aj Z8<|aj t157<|t159
def Tryz.F12:=aj t1<|aj t2<|aj t3<|aj t4<|aj t23<|aj t30<|aj t39<|aj t42<|Z8
def Tryz.F13:=aj t1<|aj t2<|aj t3<|aj t4<|aj t23<|aj t30<|aj t39<|aj t42<|Z8
noncomputable def toR(a:Gra)(l:List Int)(i:Nat):List Int:=rowD (seen a.arcs Arc.t Arc.s) a.nodes (l.getD i 0).toNat
noncomputable def frR(a:Gra)(l:List Int)(i:Nat):List Int:=rowD (seen a.arcs Arc.s Arc.t) a.nodes (l.getD i 0).toNat
theorem tabOf_ok{o:Hp}(A:o.t.Sized o.n){k:Gra}(t:Good k){B H:Value}{J:Nat}(u:bF o J B k){l:List Int}(p:au o 1 (encI .i64) H l)(f:l.length<1000):
 Ret zB 30 [B,H] o fun r I=>Gr o I/\((¬gm k.nodes l/\r=.pointer none)\/(gm k.nodes l/\TabAt I o.n r k.nodes l (toR k l) (frR k l))):=by
 have S:=Si A
 obtain⟨O,rfl⟩: ∃b,B=ptrTo b:=by obtain⟨b,_,_,_,_,_,e,_⟩:=u.ex;exact⟨b,e⟩
 refine ac (n:=28) (rs:=[.tmp 4]) rfl Tryz.e30 rfl rfl rfl (lbt rfl) ?_
 simp only [BS,LB,Nat.reduceLT,Nat.reduceEqDiff,F0q]
 refine al (dI S.ok (u.gr S.gr)) ?_;intro h g;replace S:=S.call g;clear g
 simp only [BS,LB,Nat.reduceLT,Nat.reduceEqDiff]
 refine al (may_ok S.ok (p.gr S.gr) (by omega)) ?_;intro h g;replace S:=S.call g;clear g
 by_cases j:gm k.nodes l
 . have C:decide (gm k.nodes l)=true:=decide_eq_true j
   simp only [BS,LB,Nat.reduceLT,Nat.reduceEqDiff,C]
   refine al (dI S.ok (u.gr S.gr)) ?_;intro h g;replace S:=S.call g;clear g
   simp only [BS,LB,Nat.reduceLT,Nat.reduceEqDiff]
   have K:=S.fr.n
   refine step_ret (fK S.ok (aM .i64) (p.gr S.gr) (by omega)) ?_;intro v h ⟨g,d,hM⟩;replace S:=S.call g;clear g
   rename Value=>vM
   obtain⟨P,Q,R,rfl⟩:=d.form
   simp only [BS,LB,Nat.reduceLT,Nat.reduceEqDiff]
   refine step_ret (rows_ok S.ok dh p.fl gD) ?_;intro v h ⟨g,b1,b2,b3,e,q1,q2,q3,y1,y2,y3⟩;replace S:=S.call g;replace d:=d.gr g;clear g
   subst e
   simp only [BS,LB,Nat.reduceLT,Nat.reduceEqDiff]
   have z:=rows_it A S.ok S.gr.keep S.fr.n u (p.gr S.gr) (fun i w=>⟨(j.2 i w).1,(j.2 i w).2.1⟩) f (runTo t) (m:=o.n) S.fr.n y1 y2 y3
   refine step_ret (u5 S.ok z S.fr.n f) ?_;intro v h ⟨g,q⟩;replace S:=S.call g;replace d:=d.gr g;clear g
   rename Value=>vT
   obtain⟨T,U,V,rfl⟩: ∃a n c,vT=.slice a n c:=by obtain⟨_,s,_⟩:=q;exact s.form
   clear z y1 y2 y3 q1 q2 q3
   simp only [BS,LB,Nat.reduceLT,Nat.reduceEqDiff]
   refine step_ret (rows_ok S.ok dh p.fl gD) ?_;intro v h ⟨g,b1,b2,b3,e,q1,q2,q3,y1,y2,y3⟩;replace S:=S.call g;replace d:=d.gr g;replace q:=q.gr g;clear g
   subst e
   simp only [BS,LB,Nat.reduceLT,Nat.reduceEqDiff]
   have z:=rows_it A S.ok S.gr.keep S.fr.n u (p.gr S.gr) (fun i w=>⟨(j.2 i w).1,(j.2 i w).2.1⟩) f (runFrom t) (m:=o.n) S.fr.n y1 y2 y3
   refine step_ret (u5 S.ok z S.fr.n f) ?_;intro v h ⟨g,L2⟩;replace S:=S.call g;replace d:=d.gr g;replace q:=q.gr g;clear g
   rename Value=>vF
   obtain⟨W,X,Y,rfl⟩: ∃a n c,vF=.slice a n c:=by obtain⟨_,s,_⟩:=L2;exact s.form
   simp only [BS,LB,Nat.reduceLT,Nat.reduceEqDiff,Nat.reduceAdd,F0q]
   have L:=S
   replace S:=S.base
   refine ag (bR (by intro x e;cases e)) S ?_;clear S;intro h b S M;simp only [ah]at S
   simp only [BS,LB,ae,Nat.reduceLT,Nat.reduceEqDiff]
   have D:=S.fr
   have y:=d.mo D (fun c _ j=>by cases j)
   have E:=q.mo D (fun c j=>by cases j)
   have F:=L2.mo D (fun c j=>by cases j)
   have G:=S.row (b:=b) m0
   replace S:=L.rebase S
   exact⟨S.gr,.inr ⟨j,⟨b,_,_,_,rfl,G,y,E,F,(S.own _ m0).1.elim (fun h=>h) (fun h=>h.elim),fun c N=>Xc K (hM c N)⟩⟩⟩
 . have C:decide (gm k.nodes l)=false:=decide_eq_false j
   simp only [BS,LB,ae,Nat.reduceLT,Nat.reduceEqDiff,C]
   exact⟨S.gr,.inl j⟩
theorem sG{a:Hp}(c:a.t.Sized a.n){m N:Nat}{p:Value}{l:List Int}{R Q:Nat->List Int}(t:TabAt a m p N l R Q):bC zB 60 [p] a (.int .i64 N):=by
 have S:=Si c
 obtain⟨b,f,g,h,rfl,d,_⟩:=t.ex
 have e:=d.load1 (o:=0) rfl
 refine ac (n:=9) (rs:=[.tmp 2]) rfl Tryz.e60 rfl rfl rfl (lbt rfl) ?_
 simp only [BS,LB,ae,Nat.reduceLT,Nat.reduceEqDiff,F12,e]
 exact S.gr
theorem jP{a:Hp}(f:a.t.Sized a.n){m N:Nat}{p:Value}{l:List Int}{R Q:Nat->List Int}(t:TabAt a m p N l R Q)(d:l.length<1000):Ret zB 12 [p] a fun r e=>Gr a e/\au e 1 (encI .i64) r l/\ ∀c,ao r c->a.n<=c:=by
 have S:=Si f
 obtain⟨b,q,s,u,rfl,i,j,_⟩:=t.ex
 have k:=i.load1 (o:=1) rfl
 refine ac (n:=10) (rs:=[.tmp 2]) rfl Tryz.e12 rfl rfl rfl (lbt rfl) ?_
 simp only [BS,LB,Nat.reduceLT,Nat.reduceEqDiff,F13,k]
 refine step_ret (fK S.ok (aM .i64) j (by omega)) ?_;intro v h ⟨g,sl,hc⟩;replace S:=S.call g;clear g
 simp only [BS,LB,ae,Nat.reduceLT,Nat.reduceEqDiff]
 exact⟨S.gr,sl,hc⟩
def Tryz.F14:=aj t1<|aj t2<|aj t3<|aj t4<|t23
def Tryz.F0r:=aj t1<|aj t2<|aj t3<|aj t4<|aj t5<|aj t6<|aj t23<|t39
def Sep(a:List Value):Prop:= ∀(i j:Nat) (w u:Value) (c:Nat),a[i]? =some w->a[j]? =some u->i≠j->ao w c-> ¬ao u c
theorem sZ{b:Type}{l:List b}{x u:b}{j:Nat}(h:(l++[x])[j]? =some u):l[j]? =some u\/(j=l.length/\u=x):=by
 by_cases c:j<l.length
 . rw [XZ c]at h;exact .inl h
 . rw [XW (by omega)]at h
   have a:j-l.length=0:=by
    have:=(List.getElem?_eq_some_iff.1 h).1
    simp at this;omega
   rw [a]at h
   cases h
   exact .inr ⟨by omega,rfl⟩
theorem Sep.push{f:List Value}{y:Value}(s:Sep f)(h: ∀(j:Nat) u,f[j]? =some u-> ∀c,ao u c-> ¬ao y c):Sep (f++[y]):=by
 intro i j w u c a b g d e
 rcases sZ a with a|⟨k,l⟩<;>rcases sZ b with b|⟨e3,m⟩
 . exact s i j w u c a b g d e
 . rw [m]at e;exact h i w a c d e
 . rw [l]at d;exact h j u b c e d
 . exact g (k.trans e3.symm)
def WrI(h:Hp)(w:Value)(l:List Int):Prop:=au h 1 (encI .i64) w l/\(l≠ []-> ∃b,w=.slice (some ⟨b,0,some 1⟩) l.length l.length/\Row h b (ints l) 1)
theorem WrI.mo{M:Nat->Prop}{h a:Hp}{w:Value}{l:List Int}(r:WrI h w l)(g:Mo M h a)(c: ∀b,ao w b-> ¬M b):WrI a w l:=
 ⟨r.1.mo g c,fun d=>by obtain⟨b,e,k⟩:=r.2 d;exact⟨b,e,g.has (o:=.row _ 1) k (c b (by rw [e];rfl))⟩⟩
theorem WrI.gr{h a:Hp}{w:Value}{l:List Int}(r:WrI h w l)(g:Gr h a):WrI a w l:=r.mo (M:=NoM) g.fr (fun _ _ h=>h)
theorem zt{a:Hp}(p:a.t.Sized a.n){v:Value}{xs:List Int}(q:au a 1 (encI .i64) v xs)(u:xs.length<1000000):Ret zB 90 [v] a fun r d=>Gr a d/\WrI d r xs/\ ∀c,ao r c->a.n<=c:=by
 have S:=Si p
 by_cases j:xs=[]
 . obtain⟨r,d,w,g,x,k⟩:=qL p q u
   exact⟨r,d,w,g,⟨x,fun h=>absurd j h⟩,k⟩
 rcases q with⟨rfl,rfl⟩|⟨b,o,s,c,rfl,y,z⟩
 . exact absurd rfl j
 . refine ac (n:=8) (rs:=[.tmp 2]) rfl Tryz.e90 rfl rfl rfl (lbt rfl) ?_
   simp only [BS,LB,Nat.reduceLT,Nat.reduceEqDiff,F14]
   refine ag (bj (by exact Tryz.t23.1) (by exact Tryz.e2E) (by decide) (by rfl)) S ?_;clear S;intro h B S t;simp only [LC,aR,bo,ah,Nat.reduceMul,Nat.reduceAdd,XD,XE,Xh,XP]at S
   simp only [BS,LB,Nat.reduceLT,Nat.reduceEqDiff]
   have l:au h 1 (encI .i64) (.slice (some ⟨b,o,s⟩) xs.length c) xs:=.inr ⟨b,o,s,c,rfl,y,S.old z (fun h=>h)⟩
   refine dX (S.clone (n:=0) (vs:=[]) Tryz.t23.1 Tryz.e2E (by decide) Tryz.t23.2.2.2.2.2 l.src (aW (aM .i64) xs).symm rfl (by decide) (by rw [aW (aM .i64)];simp;omega) (S.row m0)) ?_
   rintro d v (⟨e,_⟩|⟨f,rfl,m⟩)
   . exact absurd (List.length_eq_zero_iff.1 e) j
   simp only [BS,LB,ae,Nat.reduceLT,Nat.reduceEqDiff]
   have i:Row d f (ints xs) 1:=m.row m0
   have A:a.n<=f:=(m.own _ m0).1.elim (fun h=>h) (fun h=>h.elim)
   refine⟨m.gr,⟨.inr ⟨f,0,some 1,xs.length,rfl,XQ _,?_⟩,fun _=>⟨f,rfl,i⟩⟩,fun c k=>?_⟩
   . rw [i.load (by rw [bD];omega),Xk,Xh,<-bD xs,Xt];rfl
   . obtain rfl:f=c:=k
     exact A
def LLD(h:Hp)(m k:Nat)(v:Value)(n:Nat)(R:Nat->List Int):Prop:=
 ∃a:List Value,au h 1 encV v a/\a.length=n/\(∀c,ao v c->m<=c/\c<k)/\(∀(i:Nat) w,a[i]? =some w->WrI h w (R i)/\ ∀c,ao w c->m<=c/\c<k/\ ¬ao v c)/\Sep a
theorem LLD.ll{h:Hp}{m k n:Nat}{v:Value}{R:Nat->List Int}(r:LLD h m k v n R):eR h m v n R:=by
 obtain⟨g,a,b,c,d,_⟩:=r
 exact⟨g,a,b,fun x e=>(c x e).1,fun i w f=>⟨(d i w f).1.1,fun x e=>((d i w f).2 x e).1⟩⟩
theorem LLD.mo{M:Nat->Prop}{h o:Hp}{m k n:Nat}{v:Value}{R:Nat->List Int}(r:LLD h m k v n R)(g:Mo M h o)(p: ∀b,M b->b<m\/k<=b):LLD o m k v n R:=by
 obtain⟨s,a,b,c,d,e⟩:=r
 exact⟨s,a.mo g (fun x f j=>by have:=c x f;have:=p x j;omega),b,c,fun i w l=>⟨(d i w l).1.mo g (fun x f j=>by have q:=(d i w l).2 x f;have t:=q.1;have u:=q.2.1;have:=p x j;omega),(d i w l).2⟩,e⟩
theorem LLD.gr{h a:Hp}{m k n:Nat}{v:Value}{R:Nat->List Int}(r:LLD h m k v n R)(g:Gr h a):LLD a m k v n R:=r.mo (M:=NoM) g.fr (fun _ h=>h.elim)
theorem LLD.form{h:Hp}{m k n:Nat}{v:Value}{R:Nat->List Int}(r:LLD h m k v n R): ∃a n c,v=.slice a n c:=by
 obtain⟨_,s,_⟩:=r
 rcases s with⟨rfl,_⟩|⟨b,o,s,c,rfl,_⟩<;>exact⟨_,_,_,rfl⟩
theorem mem_gkey{M:Nat->Prop}{f h:Hp}{v:Value}{a:List Value}{k:Nat}(S:St M f h [] [(v,k,a)]){c:Nat}(d:ao v c):c∈keys [] [(v,k,a)]:=by
 have g:eK (v,k,a)=some c:=by
  rcases(S.gown (v,k,a) (List.mem_singleton.2 rfl)).1 with⟨e,_⟩|⟨b,n,e,_⟩
  . rw [show v=_ from e]at d;exact d.elim
  . have i:v=.slice (some ⟨b,0,some k⟩) n n:=e
    rw [i]at d⊢
    exact congrArg some d
 exact List.mem_filterMap.2 ⟨_,List.mem_singleton.2 rfl,g⟩
theorem pO {p:Hp} (Z:p.t.Sized p.n) {v:Value} {m n:Nat} {R:Nat->List Int} (O:eR p m v n R) (hn:n<1000) (hR: ∀i,i<n->(R i).length<1000000):
 Ret zB 34 [v] p fun r H=>Gr p H/\LLD H p.n H.n r n R:=by
 have S:=Si Z
 refine ac (n:=18) (rs:=[.tmp 2]) rfl Tryz.e34 rfl rfl rfl (lbt rfl) ?_
 simp only [BS,LB,Nat.reduceLT,Nat.reduceEqDiff,F0r,O.lenq]
 replace S:=S.nilG (k:=1)
 refine aD (fun(i:Nat) D h=>i<=n/\ ∃(f:List Value) (t:Value),St NoM p h [] [(t,1,f)]/\f.length=i/\(∀j w,f[j]? =some w->WrI h w (R j)/\ ∀c,ao w c->p.n<=c/\c∉keys [] [(t,1,f)])/\Sep f/\D 2=t/\D 5=v/\D 6=.int .i64 n/\D 7=.int .i64 i) (fun i=>n-i) ?_ 0 _ _ ?_
 . clear S
   intro i ih D h ⟨hi,f,t,S,z,hc,hd,r2,r5,r6,r7⟩
   have ad:Fl t:=by
    rcases(S.gown _ m0).1 with⟨e,_⟩|⟨_,_,e,_⟩
    . rw [show t=_ from e];exact bU
    . rw [show t=_ from e];exact bU
   by_cases hlt:i<n
   . obtain⟨x,⟨q,o,E,I⟩,P,_⟩:=(O.gr S.gr).row hlt
     have fx:=P.fl
     have w:am .i64 ((i:Int)+1)=((i+1:Nat):Int):=by rw [wrap64]<;>omega
     simp only [BS,LB,Nat.reduceLT,Nat.reduceEqDiff,F0r,r2,r5,r6,r7,aq,hlt,E,I]
     have J:=S
     refine step_ret (zt S.ok P (hR i hlt)) ?_
     rintro y Q ⟨g,K,L⟩
     have G:=S.call g
     obtain⟨A,B,C,rfl⟩:=K.1.form
     have fy:Fl (.slice A B C):=bU
     have l: ∀(j:Nat) u,(f++[.slice A B C])[j]? =some u->WrI Q u (R j)/\ ∀c,ao u c->p.n<=c/\c∉keys [] [(t,1,f)]/\c<Q.n:=fun j u d=>by
      rcases sZ d with d|⟨rfl,rfl⟩
      . obtain⟨T,U⟩:=hc j u d
        exact⟨T.gr g,fun c a=>⟨(U c a).1,(U c a).2,(T.gr g).1.lt G.ok a⟩⟩
      . rw [z]
        exact⟨K,fun c a=>⟨Xc J.fr.n (L c a),fun M=>by have:=J.key_lt M;have:=L c a;omega,K.1.lt G.ok a⟩⟩
     have N:=hd.push (y:=.slice A B C) fun j u d c a hy=>by
      have:=(hc j u d).1.1.lt J.ok a
      have:=L c hy
      omega
     replace S:=G.base
     simp only [BS,LB,Nat.reduceLT,Nat.reduceEqDiff]
     refine ag (bj (by exact Tryz.t39.1) (by exact Ya) (by decide) (by rfl)) S ?_;clear S;intro h V S W;simp only [LC,aR,bo,ah,Nat.reduceMul,Nat.reduceAdd,XD,XE,Xh,XP]at S
     simp only [BS,LB,Nat.reduceLT,Nat.reduceEqDiff]
     have F:aI h 1 (.slice (some ⟨V,0,none⟩) 1 1)=some (1,[.slice A B C]):=by simp only [aI];rw [S.lds (b:=V) (o:=0) (n:=1*1) m0 (lbt rfl)];rfl
     replace S:=S.drop1
     refine dX (S.grow (j:=0) (m:=1) (new:=[.slice A B C]) rfl Tryz.t39.1 Ya (by decide) Tryz.t39.2.2.2.2.2 F rfl (by decide) (by simp [fy.2.1]) (by simp;omega)) ?_
     clear S F;rintro h s S
     simp only [LC]at S
     have fv:Fl s:=by
      rcases(S.gown _ m0).1 with⟨e,_⟩|⟨_,_,e,_⟩
      . rw [show s=_ from e];exact bU
      . rw [show s=_ from e];exact bU
     simp only [BS,LB,Nat.reduceLT,Nat.reduceEqDiff,r7,w]
     refine ih (i+1) _ _ (by omega) ⟨by omega,f++[.slice A B C],s,G.rebase S,by simp [z],fun j u d=>⟨(l j u d).1.mo S.fr (fun c a=>((l j u d).2 c a).2.1),fun c a=>⟨((l j u d).2 c a).1,fun M=>?_⟩⟩,N,by simp [aa],by simp [aa,r5],by simp [aa,r6],by simp [aa]⟩
     rcases S.key_new c M with X|X
     . exact((l j u d).2 c a).2.1 X
     . have:=((l j u d).2 c a).2.2;omega
   . simp only [BS,LB,ae,Nat.reduceLT,Nat.reduceEqDiff,r2,r6,r7,aq,hlt]
     have Y:=(S.gown _ m0).1.sl (wU f).symm oN (by decide)
     refine⟨S.gr,f,Y,by omega,fun c a=>⟨((S.gblk m0 a).1).elim (fun h=>h) (fun h=>h.elim),Y.lt S.ok a⟩,fun j u d=>⟨(hc j u d).1,fun c a=>⟨((hc j u d).2 c a).1,(hc j u d).1.1.lt S.ok a,fun hv=>((hc j u d).2 c a).2 ?_⟩⟩,hd⟩
     exact mem_gkey S hv
 . exact⟨Xn _,[],_,S,rfl,fun j w z=>by simp at z,fun i j w u c z=>by simp at z,by simp [aa],by simp [aa,aB],by simp [aa],by simp [aa]⟩
def Tryz.F0s:=aj t1<|aj t2<|aj t3<|aj t4<|aj t5<|aj t6<|aj Z1<|aj t23<|t99
def Tryz.F15:=aj t1<|aj t2<|aj t3<|aj t4<|aj t23<|t99
def Tryz.F0t:=aj t1<|aj t2<|aj t3<|aj t4<|aj t5<|aj t6<|aj Z1<|aj t23<|aj t39<|t100
def Tryz.F16:=aj t1<|aj t2<|aj t3<|aj t4<|aj t23<|aj t39<|aj t42<|t100
def Tryz.FA:=aj t1<|aj t2<|aj t3<|aj t4<|aj t5<|aj t23<|aj t30<|aj t39<|aj t42<|aj Z8<|aj t100<|t102
def eg(N:Nat)(l:List Int):Prop:=l.length=N/\ ∀x∈l,0<=x/\x<=72057594037927936
theorem mk11_ok{a:Hp}(b:a.t.Sized a.n){x:Int}(e:0<=x/\x<=72057594037927936):bC zB 38 [.int .i64 x] a (.bool false):=by
 have S:=Si b
 have c: ¬x<0:=by omega
 have d: ¬72057594037927936<x:=by omega
 refine ac (n:=9) (rs:=[.tmp 2]) rfl Tryz.e38 rfl rfl rfl (lbt rfl) ?_
 simp only [BS,LB,ae,Nat.reduceLT,Nat.reduceEqDiff,c,d]
 exact S.gr
theorem mkIdx_ok{a:Hp}(e:a.t.Sized a.n){v:Value}{l:List Int}(f:au a 1 (encI .i64) v l)(m:l.length<=1000000)(j: ∀x∈l,0<=x/\x<=72057594037927936):bC zB 92 [v,.func (.func 38) #[] #[]] a (.int .i64 (-1)):=by
 have S:=Si e
 refine ac (n:=19) (rs:=[.tmp 4]) rfl Tryz.e92 rfl rfl rfl (lbt rfl) ?_
 simp only [BS,LB,Nat.reduceLT,Nat.reduceEqDiff,F0s,f.lenq]
 refine aD (fun(i:Nat) b h=>i<=l.length/\Gr a h/\b 0=v/\b 1=.func (.func 38) #[] #[]/\b 7=.int .i64 l.length/\b 8=.int .i64 i) (fun i=>l.length-i) ?_ 0 _ _ ?_
 . clear S
   intro i k b h ⟨hi,S,r0,r1,r7,r8⟩
   by_cases hlt:i<l.length
   . obtain⟨q,o,c,d⟩:=(f.gr S).ix (kd:=.i64) (aM .i64) hlt
     have w:am .i64 ((i:Int)+1)=((i+1:Nat):Int):=by rw [wrap64]<;>omega
     simp only [BS,LB,Nat.reduceLT,Nat.reduceEqDiff,F0s,r0,r1,r7,r8,aq,hlt,c,d,encI]
     refine al (mk11_ok S.ok (j _ (XG hlt))) ?_
     intro p g
     simp only [BS,LB,Nat.reduceLT,Nat.reduceEqDiff,r8,w]
     exact k (i+1) _ _ (by omega) ⟨by omega,S.trans g,by simp [aa,r0],by simp [aa,r1],by simp [aa,r7],by simp [aa]⟩
   . simp only [BS,LB,ae,Nat.reduceLT,Nat.reduceEqDiff,r7,r8,aq,hlt]
     exact S
 . exact⟨Xn _,Gr.refl e,by simp [aa,aB],by simp [aa,aB,aY],by simp [aa],by simp [aa]⟩
theorem mkCf_ok{a:Hp}(b:a.t.Sized a.n){v:Value}{l:List Int}(c:au a 1 (encI .i64) v l)(d:l.length<=1000000)(e: ∀x∈l,0<=x/\x<=72057594037927936):bC zB 37 [v,.func (.func 38) #[] #[]] a (.bool false):=by
 have S:=Si b
 refine ac (n:=9) (rs:=[.tmp 4]) rfl Tryz.e37 rfl rfl rfl (lbt rfl) ?_
 simp only [BS,LB,Nat.reduceLT,Nat.reduceEqDiff]
 refine al (mkIdx_ok S.ok c d e) ?_;intro h g;replace S:=S.call g;clear g
 simp only [BS,LB,ae,Nat.reduceLT,Nat.reduceEqDiff,Int.reduceLE]
 exact S.gr
theorem mk1_ok{a:Hp}(f:a.t.Sized a.n){b N:Nat}{v:Value}{l:List Int}(i:a.load b 0 1=some [.int .i64 N])(c:au a 1 (encI .i64) v l)(d:eg N l)(j:N<=1000000):bC zB 36 [v,ptrTo b] a (.bool false):=by
 have S:=Si f
 have e:=d.1
 subst e
 refine ac (n:=12) (rs:=[.tmp 3]) rfl Tryz.e36 rfl rfl rfl (lbt rfl) ?_
 simp only [BS,LB,Nat.reduceLT,Nat.reduceEqDiff,F15,c.lenq,i]
 refine al (mkCf_ok S.ok c j d.2) ?_;intro h g;replace S:=S.call g;clear g
 simp only [BS,LB,ae,Nat.reduceLT,Nat.reduceEqDiff]
 exact S.gr
theorem mkIdxR_ok{a:Hp}(f:a.t.Sized a.n){b N m n:Nat}{v:Value}{R:Nat->List Int}(l:a.load b 0 1=some [.int .i64 N])(j:eR a m v n R)(t:n<=1000000)(p: ∀i,i<n->eg N (R i))(r:N<=1000000):bC zB 93 [v,.func (.func 36) #[] #[ptrTo b]] a (.int .i64 (-1)):=by
 have S:=Si f
 refine ac (n:=19) (rs:=[.tmp 4]) rfl Tryz.e93 rfl rfl rfl (lbt rfl) ?_
 simp only [BS,LB,Nat.reduceLT,Nat.reduceEqDiff,F0t,j.lenq]
 refine aD (fun(i:Nat) c h=>i<=n/\Gr a h/\c 0=v/\c 1=.func (.func 36) #[] #[ptrTo b]/\c 7=.int .i64 n/\c 8=.int .i64 i) (fun i=>n-i) ?_ 0 _ _ ?_
 . clear S
   intro i s c h ⟨hi,S,r0,r1,r7,r8⟩
   by_cases hlt:i<n
   . obtain⟨x,⟨q,o,d,e⟩,k,_⟩:=(j.gr S).row hlt
     have u:=k.fl
     have w:am .i64 ((i:Int)+1)=((i+1:Nat):Int):=by rw [wrap64]<;>omega
     simp only [BS,LB,Nat.reduceLT,Nat.reduceEqDiff,F0t,r0,r1,r7,r8,aq,hlt,d,e]
     refine al (mk1_ok S.ok (S.load l) k (p i hlt) r) ?_
     intro y g
     simp only [BS,LB,Nat.reduceLT,Nat.reduceEqDiff,r8,w]
     exact s (i+1) _ _ (by omega) ⟨by omega,S.trans g,by simp [aa,r0],by simp [aa,r1,ab],by simp [aa,r7],by simp [aa]⟩
   . simp only [BS,LB,ae,Nat.reduceLT,Nat.reduceEqDiff,r7,r8,aq,hlt]
     exact S
 . exact⟨Xn _,Gr.refl f,by simp [aa,aB],by simp [aa,aB,aY,ab],by simp [aa],by simp [aa]⟩
theorem mkCfR_ok{a:Hp}(c:a.t.Sized a.n){b N m n:Nat}{v:Value}{R:Nat->List Int}(d:a.load b 0 1=some [.int .i64 N])(e:eR a m v n R)(f:n<=1000000)(j: ∀i,i<n->eg N (R i))(k:N<=1000000):bC zB 40 [v,.func (.func 36) #[] #[ptrTo b]] a (.bool false):=by
 have S:=Si c
 refine ac (n:=9) (rs:=[.tmp 4]) rfl Tryz.e40 rfl rfl rfl (lbt rfl) ?_
 simp only [BS,LB,Nat.reduceLT,Nat.reduceEqDiff]
 refine al (mkIdxR_ok S.ok d e f j k) ?_;intro h g;replace S:=S.call g;clear g
 simp only [BS,LB,ae,Nat.reduceLT,Nat.reduceEqDiff,Int.reduceLE]
 exact S.gr
theorem mk2_ok{a:Hp}(o:a.t.Sized a.n){b d e N m n:Nat}{v f:Value}{l:List Int}{R:Nat->List Int}(p:a.load d 0 1=some [f])(q:a.load e 0 1=some [.func (.func 36) #[] #[ptrTo b]])(j:au a 1 (encI .i64) f l)(r:a.load b 0 1=some [.int .i64 N])(k:eR a m v n R)(s:n<=1000000)(c:l.length=n)(t: ∀i,i<n->eg N (R i))(u:N<=1000000):bC zB 39 [v,ptrTo d,ptrTo e] a (.bool false):=by
 have S:=Si o
 have w:=j.fl
 subst c
 refine ac (n:=15) (rs:=[.tmp 4]) rfl Tryz.e39 rfl rfl rfl (lbt rfl) ?_
 simp only [BS,LB,Nat.reduceLT,Nat.reduceEqDiff,F16,k.lenq,j.lenq,p,q]
 refine al (mkCfR_ok S.ok r k s t u) ?_;intro h g;replace S:=S.call g;clear g
 simp only [BS,LB,ae,Nat.reduceLT,Nat.reduceEqDiff]
 exact S.gr
theorem make_ok{k:Hp}(ok:k.t.Sized k.n){N mT mF:Nat}{U V W:Value}{l:List Int}{R Q:Nat->List Int}(t:au k 1 (encI .i64) U l)(X:eR k mT V l.length R)(Y:eR k mF W l.length Q)(n1:1<=N)(hN:N<=100)(Z:gm N l)(hR: ∀i,i<l.length->eg N (R i))(hQ: ∀i,i<l.length->eg N (Q i)):
 Ret zB 13 [.int .i64 N,U,V,W] k fun r h'=>Gr k h'/\TabAt h' k.n r N l R Q:=by
 have S:=Si ok
 have ad:=Z.1
 have m:l.length<1000:=by omega
 have c1: ¬(N:Int)<1:=by omega
 have cm:decide (gm N l)=true:=decide_eq_true Z
 have fM:=t.fl
 obtain⟨ma,mn,mc,rfl⟩:=t.form
 refine ac (n:=40) (rs:=[.tmp 8]) rfl Tryz.e13 rfl rfl rfl (lbt rfl) ?_
 simp only [BS,Nat.reduceLT]
 refine ag (bR (by intro x e;cases e)) S ?_;clear S;intro h d S af;simp only [ah]at S
 simp only [BS,Nat.reduceLT,Nat.reduceEqDiff,if_false]
 refine ag (bR (by intro x e;cases e)) S ?_;clear S;intro h f S ai;simp only [ah]at S
 simp only [BS,LB,Nat.reduceLT,Nat.reduceEqDiff,FA]
 refine ag aw S ?_;clear S;intro h B S ak
 simp only [BS,LB,Nat.reduceLT,Nat.reduceEqDiff]
 refine ax (av S (i:=0) rfl ?_ ?_ ?_ ono) ?_
 . exact(by simp only [FA])
 . exact(by exact gD)
 . exact zM (lbt rfl)
 clear S;rintro h ⟨S,mo⟩;clear mo;simp only [LC,ah,lay,XA,XB,Nat.reduceAdd]at S
 have p:=S.ld (b:=d) (o:=0) m2 rfl
 have s:=S.ld (b:=f) (o:=0) m1 rfl
 have z:=S.ld (b:=B) (o:=0) m0 rfl
 simp only [BS,LB,Nat.reduceLT,Nat.reduceEqDiff,FA,p,s,c1]
 refine al (may_ok S.ok (t.gr S.gr) (by omega)) ?_;intro h g;replace S:=S.call g;clear g
 rw [cm]
 simp only [BS,LB,Nat.reduceLT,Nat.reduceEqDiff]
 have p:=S.ld (b:=d) (o:=0) m2 rfl
 have s:=S.ld (b:=f) (o:=0) m1 rfl
 have z:=S.ld (b:=B) (o:=0) m0 rfl
 refine al (mk2_ok S.ok s z (t.gr S.gr) p (X.gr S.gr) (by omega) rfl hR (by omega)) ?_;intro h g;replace S:=S.call g;clear g
 simp only [BS,LB,Nat.reduceLT,Nat.reduceEqDiff]
 have p:=S.ld (b:=d) (o:=0) m2 rfl
 have s:=S.ld (b:=f) (o:=0) m1 rfl
 have z:=S.ld (b:=B) (o:=0) m0 rfl
 refine al (mk2_ok S.ok s z (t.gr S.gr) p (Y.gr S.gr) (by omega) rfl hQ (by omega)) ?_;intro h g;replace S:=S.call g;clear g
 have p:=S.ld (b:=d) (o:=0) m2 rfl
 have s:=S.ld (b:=f) (o:=0) m1 rfl
 simp only [BS,LB,Nat.reduceLT,Nat.reduceEqDiff]
 refine ar (ay rfl) (q:=256) (ps:=[(0,6),(0,4),(0,2)]) (by kernel_rfl) ?_
 simp only [BS,LB,cls,Nat.reduceLT,Nat.reduceEqDiff,Nat.reduceAdd,Nat.reducePow,Nat.reduceDiv,Nat.reduceMod,Nat.reduceLeDiff,FA,p,s]
 refine c6 (fK S.ok (aM .i64) (t.gr S.gr) (by omega)) ?_
 rintro v h ⟨g,a,nM⟩
 have e41:leaves _ _ d=true:=aK g ((S.row (b:=d) m2).lt S.ok)
 have C:leaves _ _ f=true:=aK g ((S.row (b:=f) m1).lt S.ok)
 have k1:=S.fr.n
 have D:=fun c (j:c∈keys _ _)=>S.key_lt j
 replace S:=S.call g;clear g
 obtain⟨va,vn,vc,rfl⟩:=a.form
 simp only [BS,LB,cls,Nat.reduceLT,Nat.reduceEqDiff,Nat.reduceAdd,Nat.reducePow,Nat.reduceDiv,Nat.reduceMod,Nat.reduceLeDiff]
 refine c6 (pO S.ok (X.gr S.gr) m (fun i E=>by have:=(hR i E).1;omega)) ?_
 rintro v h ⟨g,A⟩
 have e42:leaves _ _ d=true:=aK g ((S.row (b:=d) m2).lt S.ok)
 have F:leaves _ _ f=true:=aK g ((S.row (b:=f) m1).lt S.ok)
 have k2:=S.fr.n
 have G:=fun c (j:c∈keys _ _)=>S.key_lt j
 replace S:=S.call g;replace a:=a.gr g;clear g
 obtain⟨ta,tn,tc,rfl⟩:=A.form
 simp only [BS,LB,cls,Nat.reduceLT,Nat.reduceEqDiff,Nat.reduceAdd,Nat.reducePow,Nat.reduceDiv,Nat.reduceMod,Nat.reduceLeDiff]
 refine c6 (pO S.ok (Y.gr S.gr) m (fun i E=>by have:=(hQ i E).1;omega)) ?_
 rintro v h ⟨g,L2⟩
 have H:leaves _ _ d=true:=aK g ((S.row (b:=d) m2).lt S.ok)
 have e53:leaves _ _ f=true:=aK g ((S.row (b:=f) m1).lt S.ok)
 have k3:=S.fr.n
 have I:=fun c (j:c∈keys _ _)=>S.key_lt j
 replace S:=S.call g;replace a:=a.gr g;replace A:=A.gr g;clear g
 obtain⟨fa,fn,fc,rfl⟩:=L2.form
 simp only [BS,LB,cls,Nat.reduceLT,Nat.reduceEqDiff,Nat.reduceAdd,Nat.reducePow,Nat.reduceDiv,Nat.reduceMod,Nat.reduceLeDiff,FA]
 have u:=S
 replace S:=S.base
 have q4:=(u.row (b:=d) m2).lt u.ok
 have q5:=(u.row (b:=f) m1).lt u.ok
 refine fe (bR (by intro x e;cases e)) S ?_;clear S;intro h b S aL J;simp only [ah]at S
 have K:d≠b:=by omega
 have L:f≠b:=by omega
 simp only [BS,LB,cls,ae,Nat.reduceLT,Nat.reduceEqDiff,Nat.reduceAdd,Nat.reducePow,Nat.reduceDiv,Nat.reduceMod,Nat.reduceLeDiff]
 refine⟨by simp only [bQ,bW,bE,cd,bM,ne_eq,not_false_eq_true,ce,cB,bO,bN,cy,dr,bK,Nat.reduceLT,Nat.reduceEqDiff,reduceIte,Xz,ab,aQ e41,aQ e42,aQ H,aQ C,aQ F,aQ e53,kB K,kB L,<-J],?_⟩
 have M:=S.fr
 have w:=a.mo M (fun c j y=>by have:=nM c j;have:=D c y;omega)
 have O:=A.mo M (fun c y=>.inl (G c y))
 have P:=L2.mo M (fun c y=>.inl (I c y))
 have T:=S.row (b:=b) m0
 replace S:=u.rebase S
 exact⟨S.gr,⟨b,_,_,_,rfl,T,w,O.ll.low k2,P.ll.low k3,(S.own _ m0).1.elim (fun h=>h) (fun h=>h.elim),fun c j=>Xc k1 (nM c j)⟩⟩
def Tryz.FZ:=aj t1<|aj t2<|aj t3<|aj t4<|aj t23<|aj t30<|aj t39<|aj t42<|Z8
theorem qu{a:Hp}(x:a.t.Sized a.n){m N:Nat}{p:Value}{l:List Int}{R Q:Nat->List Int}(t:TabAt a m p N l R Q)(s:l.length<1000)(y: ∀i,i<l.length->(R i).length<1000000)(z: ∀i,i<l.length->(Q i).length<1000000):
 Ret zB 11 [p] a fun r c=>Gr a c/\ ∃f j k,r=.tuple #[f,j]/\LLD c a.n k f l.length R/\LLD c k c.n j l.length Q/\a.n<=k/\k<=c.n:=by
 have S:=Si x
 obtain⟨b,G,f,j,rfl,d,_,A,B,_⟩:=t.ex
 have C:=d.load1 (o:=2) rfl
 refine ac (n:=16) (rs:=[.tmp 2,.tmp 3]) rfl Tryz.e11 rfl rfl rfl (lbt rfl) ?_
 simp only [BS,LB,Nat.reduceLT,Nat.reduceEqDiff,FZ]
 refine ar (ay rfl) (q:=0) (ps:=[(4,8)]) (by kernel_rfl) ?_
 simp only [BS,LB,cls,Nat.reduceLT,Nat.reduceEqDiff,Nat.reduceAdd,Nat.reducePow,Nat.reduceDiv,Nat.reduceMod,Nat.reduceLeDiff,FZ,C]
 refine c6 (pO S.ok (A.gr S.gr) s y) ?_
 rintro v h ⟨g,e⟩
 have H:=S.fr.n
 have u:leaves _ _ b=true:=aK g (d.lt S.ok)
 replace S:=S.call g;replace d:=d.gr g;clear g
 obtain⟨I,J,K,rfl⟩:=e.form
 have D:=d.load1 (o:=3) rfl
 simp only [BS,LB,cls,Nat.reduceLT,Nat.reduceEqDiff,Nat.reduceAdd,Nat.reducePow,Nat.reduceDiv,Nat.reduceMod,Nat.reduceLeDiff,FZ,D]
 refine c6 (pO S.ok (B.gr S.gr) s z) ?_
 rintro v h ⟨g,w⟩
 have E:=S.fr.n
 have F:=S.ok
 replace S:=S.call g;replace e:=e.gr g
 obtain⟨L,M,O,rfl⟩:=w.form
 simp only [BS,LB,cls,ae,Nat.reduceLT,Nat.reduceEqDiff,Nat.reduceAdd,Nat.reducePow,Nat.reduceDiv,Nat.reduceMod,Nat.reduceLeDiff]
 refine⟨by simp only [bQ,bW,bE,cd,bM,ne_eq,not_false_eq_true,ce,cB,bO,bN,cy,dr,bK,Nat.reduceLT,Nat.reduceEqDiff,reduceIte,Xz,ab,aQ u,bJ u],?_⟩
 exact⟨S.gr,_,_,_,rfl,e,w,E,g.n⟩
theorem LLD.at{h:Hp}{m k n:Nat}{v:Value}{R:Nat->List Int}(r:LLD h m k v n R){i:Nat}(K:i<n)(z:R i≠ []):
 ∃ c,(∃q o,ig (some 1) v (.int .i64 (i:Nat))=some (.pointer (some ⟨q,o,none⟩))/\h.load q o 1=some [.slice (some ⟨c,0,some 1⟩) (R i).length (R i).length])/\Row h c (ints (R i)) 1/\m<=c/\c<k/\
   ∀p l',Mo (· =c) h p->l'.length=(R i).length->Row p c (ints l') 1->LLD p m k v n (fun t=>if t=i then l' else R t):=by
 obtain⟨s,a,b,c,d,e⟩:=r
 obtain⟨q,o,I,A⟩:=a.ix (kd:=.i64) oN (i:=i) (by omega)
 have B:s[i]? =some s[i]:=Xp (by omega)
 obtain⟨⟨L,J⟩,C⟩:=d i _ B
 obtain⟨l,D,E⟩:=J z
 have f:ao s[i] l:=by rw [D];rfl
 refine⟨l,⟨q,o,I,by rw [<-D];exact A⟩,E,(C l f).1,(C l f).2.1,fun p l' H u g=>⟨s,a.mo H (fun x F e=>by subst e;exact(C _ f).2.2 F),b,c,fun j w y=>?_,e⟩⟩
 refine⟨?_,(d j w y).2⟩
 show WrI p w (if j=i then l' else R j)
 by_cases G:j=i
 . subst G
   rw [if_pos rfl]
   rw [B]at y
   cases y
   rw [D]
   refine⟨.inr ⟨l,0,some 1,(R j).length,by rw [u],by omega,?_⟩,fun _=>⟨l,by rw [u],g⟩⟩
   rw [g.load (by rw [bD];omega),Xk,Xh,<-bD l',Xt];rfl
 . rw [if_neg G]
   exact(d j w y).1.mo H (fun x F A=>by subst A;exact e j i w s[i] _ y B G F f)
theorem yV{B:List Arc}{N s:Nat}(h: ∀v,dOf B s v<=FAR){x:Int}(a:x∈rowD B N s):0<=x/\x<=72057594037927936:=by
 unfold rowD at a
 obtain⟨v,_,rfl⟩:=List.mem_map.1 a
 have:=h v
 unfold FAR at this
 omega
end Go.Ab
end
section
namespace Go.Ab
def jL(r:Nat):Nat:=(r>>>1) ^^^(if r%2=1 then 3988292384 else 0)
def di:Nat->Nat->Nat
 |0,r=>r
 |k+1,r=>di k (jL r)
theorem crcN_succ(k r:Nat):di (k+1) r=jL (di k r):=by
 induction k generalizing r with
 |zero=>rfl
 |succ k a=>exact a (jL r)
theorem crcN_add(j k r:Nat):di (j+k) r=di j (di k r):=by
 induction k generalizing r with
 |zero=>rfl
 |succ k a=>exact a (jL r)
theorem crcS_xor(a b:Nat):jL (a ^^^b)=jL a ^^^jL b:=by
 unfold jL
 rw [Nat.shiftRight_xor_distrib,show(a ^^^b)%2=(a%2) ^^^(b%2)from Nat.xor_mod_two_pow (n:=1)]
 rcases XJ a with c|c<;>rcases XJ b with d|d<;>
  simp only [c,d,Nat.xor_self,Yb,Nat.zero_xor,if_true,if_false,Nat.reduceEqDiff,reduceIte]
 . ac_rfl
 . ac_rfl
 . rw [show a>>>1 ^^^3988292384 ^^^(b>>>1 ^^^3988292384)=a>>>1 ^^^b>>>1 ^^^(3988292384 ^^^3988292384) by ac_rfl,Nat.xor_self,Yb]
theorem crcN_xor(k a b:Nat):di k (a ^^^b)=di k a ^^^di k b:=by
 induction k generalizing a b with
 |zero=>rfl
 |succ k c=>show di k _=di k _ ^^^di k _;rw [crcS_xor,c]
theorem crcN_pow(k x:Nat):di k (2 ^k*x)=x:=by
 induction k generalizing x with
 |zero=>show 2 ^0*x=x;omega
 | succ k a=>
   have:jL (2 ^(k+1)*x)=2 ^k*x:=by
    unfold jL
    have e:2 ^(k+1)*x=2*(2 ^k*x):=by rw [Yc,XM _ 2,XX]
    rw [e,if_neg (by omega),Yb,Xb];omega
   show di k (jL _)=x
   rw [this,a]
theorem split_pow(k r:Nat):r=(2 ^k*(r/2 ^k)) ^^^(r%2 ^k):=by
 refine Nat.eq_of_testBit_eq fun i=>?_
 rw [Nat.testBit_xor,Nat.testBit_two_pow_mul,Nat.testBit_mod_two_pow,Nat.testBit_div_two_pow]
 by_cases h:k<=i
 . simp [h,Nat.not_lt.2 h,Nat.sub_add_cancel h]
 . simp [h,Nat.lt_of_not_le h]
theorem uU(k r:Nat):di k r=(r>>>k) ^^^di k (r%2 ^k):=by
 have:=crcN_xor k (2 ^k*(r/2 ^k)) (r%2 ^k)
 rw [<-split_pow,crcN_pow,<-Xb]at this
 exact this
theorem crcS_lt{r:Nat}(h:r<4294967296):jL r<4294967296:=by
 unfold jL
 refine Xr (n:=32) ?_ ?_
 . rw [Xb];omega
 . split<;>decide
theorem vC{k r:Nat}(h:r<4294967296):di k r<4294967296:=by
 induction k generalizing r with
 |zero=>exact h
 |succ k a=>exact a (crcS_lt h)
theorem xor_zero{a b:Nat}(h:a ^^^b=0):a=b:=by
 have:=congrArg (· ^^^b) h
 simpa [Nat.xor_assoc]using this
def crcB(r b:Nat):Nat:=di 8 (r ^^^b)
def crcL(r:Nat)(l:List UInt8):Nat:=l.foldl (fun r b=>crcB r b.toNat) r
def crc(l:List UInt8):Nat:=4294967295 ^^^crcL 4294967295 l
theorem u8_lt(b:UInt8):b.toNat<256:=b.toNat_lt
theorem crcB_lt{r:Nat}{b:UInt8}(h:r<4294967296):crcB r b.toNat<4294967296:=
 vC (Xr (n:=32) h (Nat.lt_trans (u8_lt b) (by decide)))
theorem vt{l:List UInt8}{r:Nat}(h:r<4294967296):crcL r l<4294967296:=by
 induction l generalizing r with
 |nil=>exact h
 |cons b l a=>exact a (crcB_lt h)
theorem ug(l:List UInt8):crc l<4294967296:=Xr (n:=32) (by decide) (vt (by decide))
theorem zu(r:Nat)(l m:List UInt8):crcL r (l++m)=crcL (crcL r l) m:=List.foldl_append
theorem zZ(r b:Nat):crcB r b=(((r ^^^b)>>>4) ^^^di 4 ((r ^^^b)%16))>>>4 ^^^di 4 ((((r ^^^b)>>>4) ^^^di 4 ((r ^^^b)%16))%16):=by
 unfold crcB
 rw [show(8:Nat)=4+4 from rfl,crcN_add,uU 4 (di 4 _),uU 4 (r ^^^b)]
end Go.Ab

end
section
namespace Go.Ab
abbrev Bs:=List UInt8
def aJ:Nat->Nat->Bs
 |0,_=>[]
 |k+1,n=>UInt8.ofNat n::aJ k (n/256)
def ja:Bs->Nat
 | []=>0
 |b::l=>b.toNat+256*ja l
theorem aF(k n:Nat):(aJ k n).length=k:=by
 induction k generalizing n with
 |zero=>rfl
 |succ k a=>simp [aJ,a]
theorem getN_putN(k n:Nat):ja (aJ k n)=n%256 ^k:=by
 induction k generalizing n with
 |zero=>simp [aJ,ja,Nat.mod_one]
 | succ k a=>
   have e:(UInt8.ofNat n).toNat=n%256:=by simp
   rw [aJ,ja,e,a,show 256 ^(k+1)=256*256 ^k by rw [Yc,XM],Nat.mod_mul]
theorem eS{k n:Nat}(h:n<256 ^k):ja (aJ k n)=n:=by rw [getN_putN,X2 h]
theorem putN_at{k n i:Nat}(h:i<k):(aJ k n)[i]? =some (UInt8.ofNat (n/256 ^i)):=by
 induction k generalizing n i with
 |zero=>omega
 | succ k a=>
   cases i with
   |zero=>simp [aJ]
   | succ i=>
     show(aJ k (n/256))[i]? =_
     rw [a (by omega),Xu,show 256 ^(i+1)=256*256 ^i by rw [Yc,XM]]
def jQ:Bs:=[77,73,76,69,49,1]
abbrev Sec:=Nat×Bs
def jw(x:Sec):Bs:=aJ 1 x.1++(aJ 8 x.2.length++aJ 4 (crc x.2))
def dL(l:List Sec):Bs:=jQ++(aJ 1 l.length++l.flatMap jw)
def ki(l:List Sec):Bs:=dL l++(aJ 4 (crc (dL l))++l.flatMap XH)
abbrev Ent:=Nat×Nat×Nat
def entD(s:Bs):Ent:=(ja (s.take 1),ja ((s.drop 1).take 8),ja ((s.drop 9).take 4))
def entsD:Nat->Bs->List Ent
 |0,_=>[]
 |k+1,s=>entD s::entsD k (s.drop 13)
def bodsD:List Ent->Bs->Option (List Sec)
 | [],_=>some []
 |(k,n,c)::a,s=>if crc (s.take n)=c then(bodsD a (s.drop n)).map ((k,s.take n):: ·)else none
def mg(s:Bs):Nat:=ja ((s.drop 6).take 1)
def headOk(s:Bs):Prop:=s.take 6=jQ/\7<=s.length/\mg s<=16/\11+13*mg s<=s.length/\ja ((s.drop (7+13*mg s)).take 4)=crc (s.take (7+13*mg s))/\
 ((entsD (mg s) (s.drop 7)).map (·.2.1)).sum=s.length-(11+13*mg s)
noncomputable instance (s:Bs):Decidable (headOk s):=Classical.propDecidable _
noncomputable def decF(s:Bs):Except Bool (List Sec):=
 if headOk s then match bodsD (entsD (mg s) (s.drop 7)) (s.drop (11+13*mg s))with
  |some l=>.ok l
  |none=>.error true
 else .error false
theorem yY(x:Sec):(jw x).length=13:=by simp [jw,aF]
theorem xh(l:List Sec):(l.flatMap jw).length=13*l.length:=by
 induction l with
 |nil=>rfl
 |cons x l a=>rw [Xe,zO,yY,a,Xq];omega
theorem pL(l:List Sec):(dL l).length=7+13*l.length:=by
 simp only [dL,zO,aF,xh,jQ,Xq,List.length_nil];omega
def secOk(x:Sec):Prop:=x.1<256/\x.2.length<18446744073709551616
theorem entD_entB{x:Sec}(h:secOk x)(r:Bs):entD (jw x++r)=(x.1,x.2.length,crc x.2):=by
 have c:=ug x.2
 have b:(jw x++r).take 1=aJ 1 x.1:=by
  unfold jw;rw [Xj,XV (by rw [aF];omega),Xm (by rw [aF];omega)]
 have a:(jw x++r).drop 1=aJ 8 x.2.length++(aJ 4 (crc x.2)++r):=by
  unfold jw;rw [Xj,Xj,Xa (aF 1 _)]
 have e3:(jw x++r).drop 9=aJ 4 (crc x.2)++r:=by
  rw [show(9:Nat)=1+8 from rfl,<-Xy,a,Xa (aF 8 _)]
 unfold entD
 rw [b,a,e3,Xd (aF 8 _),Xd (aF 4 _),eS (by have:=h.1;omega),eS (by have:=h.2;omega),eS (by omega)]
theorem sT{l:List Sec}(h: ∀x∈l,secOk x)(r:Bs):entsD l.length (l.flatMap jw++r)=l.map fun x=>(x.1,x.2.length,crc x.2):=by
 induction l with
 |nil=>rfl
 | cons x l a=>
   rw [Xe,Xj,Xq,entsD,entD_entB (h x (by simp)),Xa (yY x),a (fun y b=>h y (by simp [b])),XI]
theorem bodsD_all(l:List Sec):bodsD (l.map fun x=>(x.1,x.2.length,crc x.2)) (l.flatMap XH)=some l:=by
 induction l with
 |nil=>rfl
 | cons x l a=>
   rw [XI,Xe,bodsD,List.take_left,List.drop_left,if_pos rfl,a]
   rfl
theorem longs_sum(l:List Sec):((l.map fun x=>(x.1,x.2.length,crc x.2)).map (·.2.1)).sum=(l.flatMap XH).length:=by
 induction l with
 |nil=>rfl
 |cons x l a=>simp only [XI,List.sum_cons,Xe,zO]at a⊢;rw [a]
theorem zJ(l:List Sec)(c:l.length<=16)(r:Bs):(dL l++r).take 6=jQ/\mg (dL l++r)=l.length/\(dL l++r).take (7+13*l.length)=dL l/\(dL l++r).drop (7+13*l.length)=r/\(dL l++r).drop 7=l.flatMap jw++r:=by
 have a:dL l++r=jQ++(aJ 1 l.length++(l.flatMap jw++r)):=by unfold dL;simp only [Xj]
 have b:(dL l++r).drop 6=aJ 1 l.length++(l.flatMap jw++r):=by rw [a];exact Xa rfl
 refine⟨by rw [a];exact Xd rfl,?_,Xd (pL l),Xa (pL l),?_⟩
 . unfold mg
   rw [b,Xd (aF 1 _),eS (by omega)]
 . rw [show(7:Nat)=6+1 from rfl,<-Xy,b,Xa (aF 1 _)]
theorem xc{l:List Sec}(f:l.length<=16)(h: ∀x∈l,secOk x):decF (ki l)=.ok l:=by
 have c:=ug (dL l)
 unfold ki
 obtain⟨g,b,i,d,e⟩:=zJ l f (aJ 4 (crc (dL l))++l.flatMap XH)
 have j:(dL l++(aJ 4 (crc (dL l))++l.flatMap XH)).drop (11+13*l.length)=l.flatMap XH:=by
  rw [show 11+13*l.length=7+13*l.length+4 by omega,<-Xy,d,Xa (aF 4 _)]
 have a:(dL l++(aJ 4 (crc (dL l))++l.flatMap XH)).length=11+13*l.length+(l.flatMap XH).length:=by
  rw [zO,zO,pL,aF];omega
 have k:headOk (dL l++(aJ 4 (crc (dL l))++l.flatMap XH)):=by
  refine⟨g,by omega,by omega,by omega,?_,?_⟩
  . rw [b,i,d,Xd (aF 4 _),eS (by omega)]
  . rw [b,e,sT h,longs_sum,a];omega
 unfold decF
 rw [if_pos k,b,e,j,sT h,bodsD_all]
end Go.Ab

end
section
namespace Go.Ab
def u64(x:Int):Nat:=(x%18446744073709551616).toNat
def i64(n:Nat):Int:=if n<9223372036854775808 then n else n-18446744073709551616
theorem i64_u64{x:Int}(h: -9223372036854775808<=x/\x<=9223372036854775807):i64 (u64 x)=x:=by
 unfold i64 u64;omega
theorem u64_lt(x:Int):u64 x<256 ^8:=by unfold u64;omega
def put8(x:Int):Bs:=aJ 8 (u64 x)
def get8(s:Bs):Int:=i64 (ja s)
theorem lE(x:Int):(put8 x).length=8:=aF 8 _
theorem qT{x:Int}(h: -9223372036854775808<=x/\x<=9223372036854775807):get8 (put8 x)=x:=by
 unfold get8 put8;rw [eS (u64_lt x),i64_u64 h]
def gM{a:Type}(f:Bs->a)(w:Nat):Nat->Bs->List a
 |0,_=>[]
 |k+1,s=>f (s.take w)::gM f w k (s.drop w)
theorem pq{a:Type}{f:Bs->a}{p:a->Bs}{w:Nat}(b: ∀x,(p x).length=w)(l:List a)(h: ∀x∈l,f (p x)=x)(r:Bs):gM f w l.length (l.flatMap p++r)=l:=by
 induction l with
 |nil=>rfl
 | cons x l c=>
   rw [Xe,Xj,Xq,gM,Xd (b x),Xa (b x),h x (by simp),c (fun y d=>h y (by simp [d]))]
theorem dp{a:Type}{p:a->Bs}{w:Nat}(b: ∀x,(p x).length=w)(l:List a):(l.flatMap p).length=w*l.length:=by
 induction l with
 |nil=>rfl
 |cons x l c=>rw [Xe,zO,b,c,Xq,Nat.mul_succ];omega
def xyB(p:Int×Int):Bs:=put8 p.1++put8 p.2
def xyG(s:Bs):Int×Int:=(get8 (s.take 8),get8 ((s.drop 8).take 8))
def iL(a:Arc):Bs:=aJ 4 a.s++(aJ 4 a.t++aJ 4 a.w)
def arcG(s:Bs):Arc:=⟨ja (s.take 4),ja ((s.drop 4).take 4),ja ((s.drop 8).take 4)⟩
theorem oE(p:Int×Int):(xyB p).length=16:=by simp [xyB,lE]
theorem qj(a:Arc):(iL a).length=12:=by simp [iL,aF]
def I64(x:Int):Prop:= -9223372036854775808<=x/\x<=9223372036854775807
theorem xyG_xyB{p:Int×Int}(b:I64 p.1)(c:I64 p.2):xyG (xyB p)=p:=by
 have a:=lE p.1
 have d:=lE p.2
 unfold xyG xyB
 rw [Xd a,Xa a,Xm (by omega),qT b,qT c]
theorem arcG_arcB{a:Arc}(c:a.s<4294967296)(d:a.t<4294967296)(e:a.w<4294967296):arcG (iL a)=a:=by
 have f:(iL a).take 4=aJ 4 a.s:=by unfold iL;exact Xd (aF 4 _)
 have b:(iL a).drop 4=aJ 4 a.t++aJ 4 a.w:=by unfold iL;exact Xa (aF 4 _)
 have e3:(iL a).drop 8=aJ 4 a.w:=by rw [show(8:Nat)=4+4 from rfl,<-Xy,b];exact Xa (aF 4 _)
 unfold arcG
 rw [f,b,e3,Xd (aF 4 _),Xm (by rw [aF];omega),eS c,eS d,eS e]
def ie(a:Gra):Bs:=aJ 4 a.nodes++(aJ 4 a.arcs.length++((a.X.zip a.Y).flatMap xyB++a.arcs.flatMap iL))
def mS(s:Bs):Nat:=ja (s.take 4)
def arcsD(s:Bs):Nat:=ja ((s.drop 4).take 4)
def graG(s:Bs):Gra:=⟨mS s,(gM xyG 16 (mS s) (s.drop 8)).map Prod.fst,(gM xyG 16 (mS s) (s.drop 8)).map XH,gM arcG 12 (arcsD s) (s.drop (8+16*mS s))⟩
structure RightG(γ:Gra):Prop where
 n1:1<=γ.nodes
 cX: ∀x∈γ.X,-2147483648<=x/\x<=2147483647
 cY: ∀x∈γ.Y,-2147483648<=x/\x<=2147483647
 arcs: ∀a∈γ.arcs,a.s<γ.nodes/\a.t<γ.nodes/\a.w<=2147483647
structure BodyG(s:Bs):Prop where
 l8:8<=s.length
 n2:mS s<=16777216
 m2:arcsD s<=67108864
 len:s.length=8+16*mS s+12*arcsD s
theorem graG_graB{b:Gra}(n:b.X.length=b.nodes)(o:b.Y.length=b.nodes)(h:RightG b)(q:b.nodes<=16777216)(r:b.arcs.length<=67108864):BodyG (ie b)/\graG (ie b)=b:=by
 have c:(b.X.zip b.Y).length=b.nodes:=by rw [List.length_zip];omega
 have i:(ie b).take 4=aJ 4 b.nodes:=by unfold ie;exact Xd (aF 4 _)
 have e:(ie b).drop 4=aJ 4 b.arcs.length++((b.X.zip b.Y).flatMap xyB++b.arcs.flatMap iL):=by unfold ie;exact Xa (aF 4 _)
 have f:(ie b).drop 8=(b.X.zip b.Y).flatMap xyB++b.arcs.flatMap iL:=by rw [show(8:Nat)=4+4 from rfl,<-Xy,e];exact Xa (aF 4 _)
 have j:mS (ie b)=b.nodes:=by unfold mS;rw [i,eS (by omega)]
 have k:arcsD (ie b)=b.arcs.length:=by unfold arcsD;rw [e,Xd (aF 4 _),eS (by omega)]
 have el:(ie b).length=8+16*b.nodes+12*b.arcs.length:=by
  simp only [ie,zO,aF,dp oE,dp qj,c];omega
 have l:(ie b).drop (8+16*b.nodes)=b.arcs.flatMap iL:=by
  rw [<-Xy,f];exact Xa (by rw [dp oE,c])
 refine⟨⟨by omega,by omega,by omega,by omega⟩,?_⟩
 have m:gM xyG 16 b.nodes ((b.X.zip b.Y).flatMap xyB++b.arcs.flatMap iL)=b.X.zip b.Y:=by
  have:=pq oE (b.X.zip b.Y) (fun p g=>xyG_xyB (by have:=h.cX p.1 (List.of_mem_zip g).1;unfold I64;omega) (by have:=h.cY p.2 (List.of_mem_zip g).2;unfold I64;omega)) (b.arcs.flatMap iL)
  rw [c]at this;exact this
 have d:gM arcG 12 b.arcs.length (b.arcs.flatMap iL)=b.arcs:=by
  have:=pq qj b.arcs (fun a d=>by
   have:=h.arcs a d
   have:=h.n1
   exact arcG_arcB (by omega) (by omega) (by omega)) []
  rw [Xs]at this;exact this
 unfold graG
 rw [j,k,f,l,m,d,List.map_fst_zip (by omega),List.map_snd_zip (by omega)]
end Go.Ab

end
section
namespace Go.Ab
structure Tab where
 l:List Int
 to:List (List Int)
 fr:List (List Int)
structure Img where
 g:Gra
 T:Option Tab
 C:Option (List Int×Bs)
theorem xe{a:Type}{p:a->Bs}{w:Nat}(l:List a)(b: ∀x∈l,(p x).length=w):(l.flatMap p).length=w*l.length:=by
 induction l with
 |nil=>rfl
 |cons x l c=>rw [Xe,zO,b x (by simp),c (fun y d=>b y (by simp [d])),Xq,Nat.mul_succ];omega
theorem AO{a:Type}{f:Bs->a}{p:a->Bs}{w:Nat}(l:List a)(c: ∀x∈l,(p x).length=w)(h: ∀x∈l,f (p x)=x)(r:Bs):gM f w l.length (l.flatMap p++r)=l:=by
 induction l with
 |nil=>rfl
 | cons x l d=>
   have e:=c x (by simp)
   rw [Xe,Xj,Xq,gM,Xd e,Xa e,h x (by simp),d (fun y b=>c y (by simp [b])) (fun y b=>h y (by simp [b]))]
def mix:List (List Int)->List (List Int)->List (List Int)
 |a::l,b::m=>a::b::mix l m
 |_,_=>[]
def evens:List (List Int)->List (List Int)
 |a::_::l=>a::evens l
 |l=>l
def odds:List (List Int)->List (List Int)
 |_::b::l=>b::odds l
 |_=>[]
theorem rG{l m:List (List Int)}(h:l.length=m.length):(mix l m).length=2*l.length:=by
 induction l generalizing m with
 |nil=>cases m<;>rfl
 | cons a l c=>
   cases m with
   |nil=>cases h
   |cons b m=>simp only [mix,Xq];rw [c (by simpa using h)];omega
theorem evens_mix{l m:List (List Int)}(h:l.length=m.length):evens (mix l m)=l/\odds (mix l m)=m:=by
 induction l generalizing m with
 | nil=>cases m with
   |nil=>exact⟨rfl,rfl⟩
   |cons _ _=>cases h
 | cons a l c=>
   cases m with
   |nil=>cases h
   |cons b m=>obtain⟨d,e⟩:=c (m:=m) (by simpa using h);exact⟨by simp only [mix,evens,d],by simp only [mix,odds,e]⟩
theorem vu{l m:List (List Int)}{x:List Int}(h:x∈mix l m):x∈l\/x∈m:=by
 induction l generalizing m with
 |nil=>cases m<;>cases h
 | cons a l c=>
   cases m with
   |nil=>cases h
   | cons b m=>
     simp only [mix,X6]at h⊢
     rcases h with h|h|h
     . exact .inl (.inl h)
     . exact .inr (.inl h)
     . exact(c h).imp .inr .inr
def lW(v:Int):Bs:=aJ 4 v.toNat
def markG(s:Bs):Int:=(ja s:Int)
theorem mW(v:Int):(lW v).length=4:=aF 4 _
def nv(r:List Int):Bs:=r.flatMap put8
def jN(T:Tab):Bs:=aJ 1 T.l.length++(T.l.flatMap lW++(mix T.to T.fr).flatMap nv)
def rU(s:Bs):Nat:=ja (s.take 1)
def rowsD(N:Nat)(s:Bs):List (List Int):=gM (gM get8 8 N) (8*N) (2*rU s) (s.drop (1+4*rU s))
def tabG(N:Nat)(s:Bs):Tab:=⟨gM markG 4 (rU s) (s.drop 1),evens (rowsD N s),odds (rowsD N s)⟩
structure TabL(N:Nat)(T:Tab):Prop where
 l1:1<=T.l.length
 l2:T.l.length<=16
 to:T.to.length=T.l.length
 fr:T.fr.length=T.l.length
 rTo: ∀r∈T.to,r.length=N/\ ∀x∈r,0<=x/\x<=72057594037927936
 rFr: ∀r∈T.fr,r.length=N/\ ∀x∈r,0<=x/\x<=72057594037927936
 rl: ∀x∈T.l,0<=x/\x<4294967296
theorem tC{N:Nat}{r:List Int}(h:r.length=N):(nv r).length=8*N:=by unfold nv;rw [dp lE,h]
theorem tabB_len{N:Nat}{T:Tab}(h:TabL N T):(jN T).length=1+T.l.length*(4+16*N):=by
 have c: ∀r∈mix T.to T.fr,r.length=N:=fun r a=>(vu a).elim (fun b=>(h.rTo r b).1) (fun b=>(h.rFr r b).1)
 have:=h.to
 have:=h.fr
 unfold jN
 rw [zO,zO,aF,dp mW,xe _ (fun r a=>tC (c r a)),rG (by omega),h.to,Nat.mul_add,Nat.mul_left_comm (8*N),XM (8*N),<-XX,XM T.l.length 4,show T.l.length*(16*N)=2*T.l.length*(8*N) by rw [show 16*N=2*(8*N) by omega,<-XX,XM T.l.length 2],<-XX]
theorem xf{N:Nat}{T:Tab}(h:TabL N T):rU (jN T)=T.l.length/\tabG N (jN T)=T:=by
 have g: ∀r∈mix T.to T.fr,r.length=N/\ ∀x∈r,0<=x/\x<=72057594037927936:=fun r a=>(vu a).elim (fun c=>h.rTo r c) (fun c=>h.rFr r c)
 have d:=h.to
 have k:=h.fr
 have n:=h.l2
 have i:rU (jN T)=T.l.length:=by unfold rU jN;rw [Xd (aF 1 _),eS (by omega)]
 have j:(jN T).drop 1=T.l.flatMap lW++(mix T.to T.fr).flatMap nv:=by unfold jN;exact Xa (aF 1 _)
 have o:(jN T).drop (1+4*T.l.length)=(mix T.to T.fr).flatMap nv:=by rw [<-Xy,j];exact Xa (by rw [dp mW])
 have q:gM markG 4 T.l.length (T.l.flatMap lW++(mix T.to T.fr).flatMap nv)=T.l:=pq mW T.l (fun x e=>by
  have:=h.rl x e
  unfold markG lW
  rw [eS (by omega)];omega) _
 have s:gM (gM get8 8 N) (8*N) (2*T.l.length) ((mix T.to T.fr).flatMap nv)=mix T.to T.fr:=by
  have:=AO (f:=gM get8 8 N) (p:=nv) (w:=8*N) (mix T.to T.fr) (fun r a=>tC (g r a).1) (fun r a=>by
   have b:=g r a
   have:=pq (f:=get8) lE r (fun x e=>qT (by have:=b.2 x e;omega)) []
   rw [Xs,b.1]at this
   exact this) []
  rw [Xs,rG (by omega),d]at this
  exact this
 refine⟨i,?_⟩
 obtain⟨m1,m2⟩:=evens_mix (l:=T.to) (m:=T.fr) (by omega)
 unfold tabG rowsD
 rw [i,j,o,q,s,m1,m2]
def kL(m:List Int):Bs:=m.map fun c=>UInt8.ofNat c.toNat
def aU(I:Img):List Sec:=(1,ie I.g)::((match I.T with|some T=>[(2,jN T)]|none=>[])++(match I.C with|some (m,f)=>[(3,kL m),(4,f)]|none=>[]))
end Go.Ab

end
section
namespace Go.Ab
theorem hf_u{k:IntKind}(h:sgn k=false):hf k=pw k:=by cases k<;>first|rfl|cases h
theorem wrapN{k:IntKind}(h:sgn k=false)(n:Nat):am k (n:Int)=((n%pw k:Nat):Int):=by
 show am k (.ofNat n)=_
 simp only [am,hf_u h,h]
 cases a:Nat.blt n (pw k)with
 |true=>rw [Nat.blt_eq]at a;rw [cond_true,X2 a];rfl
 |false=>rfl
theorem cV{k:IntKind}(h:sgn k=false){n:Nat}(a:n<pw k):am k (n:Int)=(n:Int):=by rw [wrapN h,X2 a]
section
variable{E:Env}{t:TypeId}{p q:Operand}{x y:Nat}{k k':IntKind}
theorem bitsU(op:BinOp)(a:x<pw k)(b:y<pw k):gu op k (x:Int) (y:Int)=match op with
 | .and=>some (am k ((x&&& y:Nat):Int))
 | .or=>some (am k ((x|||y:Nat):Int))
 | .xor=>some (am k ((x ^^^y:Nat):Int))
 | .andNot=>some (am k ((x ^^^(x&&& y):Nat):Int))
 |_=>none:=by
 show gu op k (.ofNat x) (.ofNat y)=_
 have c:Nat.blt x (pw k)=true:=by rw [Nat.blt_eq];exact a
 have d:Nat.blt y (pw k)=true:=by rw [Nat.blt_eq];exact b
 unfold gu
 simp only [c,d,Bool.and_self,cond_true]
 cases op<;>rfl
theorem pw_two(k:IntKind):pw k=2 ^bitsOf k:=by cases k<;>rfl
theorem rD(h:sgn k=false)(a:x<pw k)(b:y<pw k):aO E .and t p q (.int k (x:Int)) (.int k (y:Int))=some (.int k ((x&&& y:Nat):Int)):=by
 show(bif hZ k k then(gu .and k (x:Int) (y:Int)).map (Value.int k ·)else none)=_
 rw [bitsU .and a b,dQ]
 simp only [cV h (Nat.lt_of_le_of_lt Nat.and_le_left a)];rfl
theorem b_orN(h:sgn k=false)(a:x<pw k)(b:y<pw k):aO E .or t p q (.int k (x:Int)) (.int k (y:Int))=some (.int k ((x|||y:Nat):Int)):=by
 show(bif hZ k k then(gu .or k (x:Int) (y:Int)).map (Value.int k ·)else none)=_
 have:x|||y<pw k:=by rw [pw_two]at a b⊢;exact Nat.or_lt_two_pow a b
 rw [bitsU .or a b,dQ]
 simp only [cV h this];rfl
theorem uj(h:sgn k=false)(a:x<pw k)(b:y<pw k):aO E .xor t p q (.int k (x:Int)) (.int k (y:Int))=some (.int k ((x ^^^y:Nat):Int)):=by
 show(bif hZ k k then(gu .xor k (x:Int) (y:Int)).map (Value.int k ·)else none)=_
 have:x ^^^y<pw k:=by rw [pw_two]at a b⊢;exact Xr a b
 rw [bitsU .xor a b,dQ]
 simp only [cV h this];rfl
theorem b_shrN(a:y<=bitsOf k):aO E .shr t p q (.int k (x:Int)) (.int k' (y:Int))=some (.int k ((x>>>y:Nat):Int)):=by
 show(oK .shr k (.ofNat x) (.ofNat y)).map (Value.int k ·)=_
 simp only [oK,eV,XT a,cond_true,shrI,Xv]
 rw [Xb];rfl
theorem u_xorU(h:sgn k=false)(a:x<pw k):unP .xor (.int k (x:Int))=some (.int k (((pw k-1) ^^^x:Nat):Int)):=by
 have c:0<pw k:=by cases k<;>decide
 have:(pw k-1) ^^^x<pw k:=by
  have b:pw k-1<pw k:=by omega
  rw [pw_two]at a b⊢;exact Xr b a
 simp only [unP,h,cond_false]
 rw [show(Int.ofNat (pw k-1))=((pw k-1:Nat):Int)from rfl,bitsU .xor (by omega) a]
 simp only [cV h this];rfl
end
def sv(l:Bs):Value:=.string (ec l)
theorem jf(l:Bs):az (ec l)=l:=rfl
theorem xL(l:Bs):(ec l).size=l.length:=rfl
theorem fl_sv{l:Bs}:Fl (sv l):=fl_str
def aT(l:Bs):List Value:=l.map fun b=>.int .u8 (b.toNat:Int)
theorem d6(l:Bs):(aT l).length=l.length:=by simp [aT]
theorem jS(l m:Bs):aT (l++m)=aT l++aT m:=by simp [aT]
theorem mZ(l:Bs):(aT l).all ik=true:=by simp [aT,ik]
theorem yj(l:Bs):bytesOf (aT l)=some l:=by
 induction l with
 |nil=>rfl
 | cons b l a=>
   show(match bytesOf (aT l)with|none=>none|some r=>some (UInt8.ofNat b.toNat::r))=_
   rw [a]
   simp only [UInt8.ofNat_toNat]
section
variable{E:Env}{t e:TypeId}{p q:Operand}{h:Hp}{l m:Bs}
theorem lenq_sv:lq (some .string) h (sv l)=some (.val (.int .i64 (l.length:Int)),h):=rfl
theorem sS(l m:Bs):dS l m=decide (l=m):=by
 induction l generalizing m with
 |nil=>cases m<;>simp [dS]
 | cons a l c=>
   cases m with
   |nil=>simp [dS]
   |cons b m=>simp only [dS,c,List.cons.injEq];by_cases h:a=b<;>simp [h,UInt8.toNat_inj]
theorem b_add_sv(a:l.length+m.length<=1099511627776):aO E .add t p q (sv l) (sv m)=some (sv (l++m)):=by
 simp only [sv,aO,xL,XT a,cond_true,jf]
theorem qF:aO E .neq t p q (sv l) (sv m)=some (.bool (!decide (l=m))):=by simp only [sv,aO,jf,sS]
theorem lI{k:IntKind}{i n:Nat}(h:i<n):ic (.int k (i:Int)) n=some i:=fo h
theorem index_sv(b:E.und t=some .string){k:IntKind}{i:Nat}(a:i<l.length):jn E t (sv l) (.int k (i:Int))=some (.int .u8 (l[i].toNat:Int)):=by
 simp only [sv,jn,b,xL,fo a,jf,Xp a];rfl
theorem bound_nat{k:IntKind}{n y:Nat}(a:n<=y):eG (.int k (n:Int)) y=some n:=by
 show(match eV (.ofNat n)with|some n=>bif Nat.ble n y then some n else none|none=>none)=_
 simp only [eV,XT a,cond_true]
theorem src_sv:aI h 1 (sv l)=some (l.length,aT l):=rfl
def BySl(h:Hp)(v:Value)(l:Bs):Prop:=au h 1 (fun(b:UInt8)=>[Value.int .u8 (b.toNat:Int)]) v l
theorem byF(l:Bs):l.flatMap (fun(b:UInt8)=>[Value.int .u8 (b.toNat:Int)])=aT l:=by
 induction l with
 |nil=>rfl
 |cons b l a=>rw [Xe,a];rfl
theorem yP{v:Value}(s:BySl h v l):strOf h v=some (sv l):=by
 rcases s with⟨rfl,rfl⟩|⟨b,o,s,c,rfl,d,a⟩
 . rfl
 . rw [Xh,byF]at a
   simp only [strOf,a,yj];rfl
end
theorem ph{E:Env}{t e:TypeId}{n b many:Nat}{k:IntKind}(a:E.und t=some (.array n e))(c:E.sz e=some 1)(h:many<=n):eQ E t (.pointer (some ⟨b,0,none⟩)) none (some (.int k (many:Int))) none=some (.slice (some ⟨b,0,none⟩) many n):=by
 simp only [eQ,a,c,eI,bound_nat h,Nat.sub_zero,XD,Nat.add_zero]
 cases Nat.beq n 0<;>rfl
theorem mN{E:Env}{t:TypeId}{p q:Operand}{k k':IntKind}{x:Nat}(h:8<=bitsOf k):aO E .shr t p q (.int k (x:Int)) (.int k' 8)=some (.int k ((x>>>8:Nat):Int)):=b_shrN (y:=8) h
theorem b_shr4{E:Env}{t:TypeId}{p q:Operand}{k k':IntKind}{x:Nat}(h:4<=bitsOf k):aO E .shr t p q (.int k (x:Int)) (.int k' 4)=some (.int k ((x>>>4:Nat):Int)):=b_shrN (y:=4) h
def jZ(n i:Nat):List Value:=(Xf 8).map fun j=>.int .u8 ((if j<i then n/256 ^j%256 else 0:Nat):Int)
theorem jt(n i:Nat):(jZ n i).length=8:=by simp [jZ]
theorem qI{n i:Nat}:(jZ n i).set i (.int .u8 ((n/256 ^i%256:Nat):Int))=jZ n (i+1):=by
 unfold jZ
 have:=jq (N:=8) (k:=i) (F:=fun j=>Value.int .u8 ((if j<i then n/256 ^j%256 else 0:Nat):Int)) (F':=fun j=>Value.int .u8 ((if j<i+1 then n/256 ^j%256 else 0:Nat):Int)) (fun j _ a=>by
  by_cases h:j<i
  . rw [if_pos h,if_pos (by omega)]
  . rw [if_neg h,if_neg (by omega)])
 rw [<-this,if_pos (by omega)]
theorem pA{n many:Nat}(h:many<=8):(jZ n 8).take many=aT (aJ many n):=by
 refine List.ext_getElem? fun j=>?_
 unfold jZ aT
 rw [List.getElem?_take,XY,XY]
 by_cases a:j<many
 . rw [if_pos a,List.getElem?_range (by omega),putN_at a,Xv,Xv,if_pos (by omega)]
   simp
 . rw [if_neg a,List.getElem?_eq_none (l:=aJ many n) (by rw [aF];omega)];rfl
theorem set_self{a:Type}{l:List a}{i:Nat}{x:a}(h:l[i]? =some x):l.set i x=l:=by
 refine List.ext_getElem? fun j=>?_
 rw [List.getElem?_set]
 split
 . rename_i e;subst e
   have:=(List.getElem?_eq_some_iff.1 h).1
   rw [if_pos this,h]
 . rfl
theorem dl{a:Type}{l:List a}{i:Nat}{x y:a}(h:l[i]? =some y):(l.set i x)[i]? =some x:=by
 rw [List.getElem?_set,if_pos rfl,if_pos (List.getElem?_eq_some_iff.1 h).1]
theorem set_set{a:Type}{l:List a}{i:Nat}{x y:a}:(l.set i x).set i y=l.set i y:=List.set_set ..
theorem wrap_u64(x:Int):am .u64 x=(u64 x:Int):=by
 cases x with
 |ofNat m=>exact(wrapN rfl m).trans (by unfold u64;rw [show Int.ofNat m=(m:Int)from rfl];simp only [pw];omega)
 |negSucc m=>show((pw .u64-1-m%pw .u64:Nat):Int)=_;unfold u64;simp only [pw];omega
end Go.Ab

end
section
namespace Go.Ab
open Go.Proofs
set_option maxRecDepth 10000
def Tryz.Fo:=aj t1<|aj t2<|aj t3<|aj t4<|aj t5<|aj t6<|aj Z1<|aj Z4<|aj t9<|aj t10<|aj t11<|aj t12<|aj Z7<|aj t22<|aj t90<|aj t120<|aj Z10<|aj t264<|t265
def Tryz.Fp:=aj t1<|aj t2<|aj t3<|aj t4<|aj t5<|aj t6<|aj Z1<|aj Z4<|aj t9<|aj t10<|aj t11<|aj t12<|aj Z7<|aj t22<|aj t76<|aj t90<|aj t120<|aj Z10<|aj t196<|aj t264<|t265
def Tryz.FD:=aj t1<|aj t2<|aj t3<|aj t4<|aj t5<|aj t6<|aj Z1<|aj Z4<|aj t9<|aj t10<|aj t11<|aj t12<|aj Z7<|aj t22<|aj t90<|aj t120<|aj Z10<|aj t194<|aj t264<|t265
def Tryz.Fq:=aj t1<|aj t2<|aj t3<|aj t4<|aj t5<|aj t6<|aj Z1<|aj Z4<|aj t9<|aj t10<|aj t11<|aj t12<|aj Z7<|aj t22<|aj t23<|aj t90<|aj t120<|aj Z10<|aj t264<|t265
def Tryz.F0u:=aj t1<|aj t4<|aj t5<|aj t9<|aj t22<|aj t120<|Z10
def Tryz.F17:=aj t1<|aj t2<|aj t3<|aj t4<|aj t5<|aj t9<|aj t22<|aj t120<|Z10
def Tryz.F18:=aj t1<|aj t5<|aj t22<|aj t120<|Z10
theorem St.bsl{M:Nat->Prop}{e h:Hp}{L:List (Nat×Ob)}{G:List GL}{a:Nat}{kd:IntKind}{xs:List Int}(S:St M e h ((a,.row (xs.flatMap (encI kd)) 1)::L) G):St M e h L G/\au h 1 (encI kd) (.slice (some ⟨a,0,none⟩) xs.length xs.length) xs/\ ∀c,ao (.slice (some ⟨a,0,none⟩) xs.length xs.length) c->c∉keys L G:=by
 refine⟨S.drop1,.inr ⟨a,0,none,xs.length,rfl,XQ _,?_⟩,fun c d f=>?_⟩
 . have:=S.lds (b:=a) (o:=0) (n:=xs.length*1) m0 (by rw [aW (aM kd)];omega)
   rw [Xk,Xm (by rw [aW (aM kd)];omega)]at this
   exact this
 . have d:a=c:=d
   subst d
   exact(List.nodup_cons.1 S.apart).1 f
theorem put8_ok{M:Nat->Prop}{H hq:Hp}{L:List (Nat×Ob)}{G:List GL}(S:St M H hq L G){i j e:Nat}{v f:Value}{l:Bs}{xs:List Int}{many:Nat}(y:L[i]? =some (e,.row [v] 1))(z:G[j]? =some (v,1,aT l))(I:au hq 1 (encI .u8) f xs)
 (P: ∀c,ao f c->c∉keys L G) (A:many<=8) (hl:l.length+8*xs.length<=1000000):
 Ret zB 114 [ptrTo e,.int .i64 (many:Nat),f] hq fun r g=> ∃v',St M H g (L.set i (e,.row [v'] 1)) (G.set j (v',1,aT (l++xs.flatMap fun x=>aJ many (u64 x)))):=by
 have Q:=S
 have ok:=S.ok
 replace S:=S.base
 refine ac (n:=42) (rs:=[]) rfl Tryz.e114 rfl rfl rfl (lbt rfl) ?_
 simp only [BS,LB,Nat.reduceLT,Nat.reduceEqDiff,Fo,I.lenq]
 refine aD (fun(k:Nat) d g=>k<=xs.length/\ ∃v',St (· ∈keys L G) hq g (L.set i (e,.row [v'] 1)) (G.set j (v',1,aT (l++(xs.take k).flatMap fun x=>aJ many (u64 x))))/\d 0=ptrTo e/\d 1=.int .i64 (many:Nat)/\d 13=f/\d 14=.int .i64 xs.length/\d 15=.int .i64 k) (fun k=>xs.length-k) ?_ 0 _ _ ?_
 . clear S
   intro k R d h1 ⟨hk,v',S,r0,r1,r13,r14,r15⟩
   have B:=I.mo S.fr P
   by_cases hlt:k<xs.length
   . obtain⟨c,o,p,C⟩:=B.ix (kd:=.i64) (aM .u8) hlt
     have w:am .i64 ((k:Int)+1)=((k+1:Nat):Int):=by rw [wrap64]<;>omega
     have T:xs.take (k+1)=xs.take k++[xs[k]]:=Xi hlt
     simp only [BS,LB,Nat.reduceLT,Nat.reduceEqDiff,Fo,r13,r14,r15,aq,hlt,p,C,encI]
     refine ag aw S ?_;clear S;intro h s S J
     have U:[Value.int .u8 0,.int .u8 0,.int .u8 0,.int .u8 0,.int .u8 0,.int .u8 0,.int .u8 0,.int .u8 0]=jZ (u64 xs[k]) 0:=rfl
     rw [U]at S
     simp only [BS,LB,cE,aN,cM,Nat.reduceLT,Nat.reduceEqDiff,Fo,wrap_u64]
     refine aD (fun(a:Nat) d g=>a<=8/\St (· ∈keys L G) hq g ((s,.row (jZ (u64 xs[k]) a) 1)::L.set i (e,.row [v'] 1)) (G.set j (v',1,aT (l++(xs.take k).flatMap fun x=>aJ many (u64 x))))/\d 0=ptrTo e/\d 1=.int .i64 (many:Nat)/\d 13=f/\d 14=.int .i64 xs.length/\d 15=.int .i64 k/\d 8=ptrTo s/\d 9=.int .u64 ((u64 xs[k]/256 ^a:Nat):Int)/\d 21=.int .i64 a) (fun a=>8-a) ?_ 0 _ _ ?_
     . clear S r0 r1 r13 r14 r15
       intro a D d K ⟨ha,S,r0,r1,r13,r14,r15,r8,r9,r21⟩
       have V:am .i64 ((a:Int)+1)=((a+1:Nat):Int):=by rw [wrap64]<;>omega
       by_cases t:a<8
       . have u:(a:Int)<8:=by omega
         have N:=wrapN (k:=.u8) rfl (u64 xs[k]/256 ^a)
         simp only [pw]at N
         have W:(u64 xs[k]/256 ^a)>>>8=u64 xs[k]/256 ^(a+1):=by rw [Xb,Xu];rfl
         simp only [BS,LB,cE,aN,cM,Nat.reduceLT,Nat.reduceEqDiff,Fo,r8,r9,r21,u,N,lI (n:=8) t,mN (k:=.u64) (by decide)]
         refine ax (av S (i:=0) rfl Tryz.t5.2.2.1 bZ (by rw [jt];exact t) ono) ?_
         clear S;rintro K ⟨S,_⟩
         simp only [LC,qI]at S
         simp only [BS,LB,Nat.reduceLT,Nat.reduceEqDiff,r9,r21,mN (k:=.u64) (by decide),W,V]
         exact D (a+1) _ _ (by omega) ⟨by omega,S,by simp [aa,r0],by simp [aa,r1],by simp [aa,r13],by simp [aa,r14],by simp [aa,r15],by simp [aa,r8,ab],by simp [aa],by simp [aa]⟩
       . have X:a=8:=by omega
         subst X
         have Y:=(S.row (b:=e) (.tail _ (Xg (dl y)))).load1 (o:=0) rfl
         have O:=S.lds (b:=s) (o:=0) (n:=many) m0 (by rw [jt];omega)
         rw [Xk,pA A]at O
         have E:aI K 1 (.slice (some ⟨s,0,none⟩) many 8)=some (many,aT (aJ many (u64 xs[k]))):=by simp only [aI];rw [Xh,O]
         have F:=ph (n:=8) (b:=s) (many:=many) (k:=.i64) Tryz.t264.1 Tryz.t5.2.2.1 A
         simp only [BS,LB,Nat.reduceLT,Nat.reduceEqDiff,Int.reduceLT,Xl,r15,r21]
         refine ar (ay rfl) (q:=0) (ps:=[]) (by kernel_rfl) ?_
         simp only [BS,LB,cls,Nat.reduceLT,Nat.reduceEqDiff,Nat.reduceAdd,Nat.reducePow,Nat.reduceDiv,Nat.reduceMod,Nat.reduceLeDiff,Xv,XU,Fo,r0,r1,r8,Y,F]
         refine kJ (S.grow (j:=j) (m:=many) (new:=aT (aJ many (u64 xs[k]))) (dl z) Tryz.t22.1 X4 (by decide) Tryz.t22.2.2.2.2.2 E (by rw [d6,aF,Xh]) (by decide) (mZ _) (by
          have Z:(xs.take k).length=k:=by rw [XR];omega
          have l2:many*k<=8*k:=Xx _ A
          rw [d6,d6,aF,zO,dp (fun x=>aF many _),Z];omega)) ?_
         clear S;rintro h3 v2 S
         have fv:=(S.gown _ (Xg (dl (dl z)))).1.fl
         have tl:aT (l++(xs.take k).flatMap fun x=>aJ many (u64 x))++aT (aJ many (u64 xs[k]))=aT (l++(xs.take (k+1)).flatMap fun x=>aJ many (u64 x)):=by
          rw [<-jS,T,XK,Xj];simp
         rw [set_set,tl]at S
         simp only [BS,LB,cls,Nat.reduceLT,Nat.reduceEqDiff,Nat.reduceAdd,Nat.reducePow,Nat.reduceDiv,Nat.reduceMod,Nat.reduceLeDiff,Fo]
         refine ep (av S (i:=i+1) (dl y) Tryz.t22.2.2.1 fv (zM (lbt rfl)) ono) ?_
         clear S;rintro h4 ⟨S,_⟩
         simp only [LC,set_set]at S
         simp only [BS,LB,Nat.reduceLT,Nat.reduceEqDiff,Nat.reduceAdd,r15,w]
         exact R (k+1) _ _ (by omega) ⟨by omega,v2,S.drop1,by simp [aa,r0],by simp [aa,r1],by simp [aa,r13],by simp [aa,r14],by simp [aa]⟩
     . exact⟨Xn _,S,by simp [aa,r0],by simp [aa,r1],by simp [aa,r13],by simp [aa,r14],by simp [aa,r15],by simp [aa,ab],by simp [aa],by simp [aa]⟩
   . have:k=xs.length:=by omega
     subst this
     rw [Xt]at S
     simp only [BS,LB,Nat.reduceLT,r14,r15,aq,hlt]
     exact⟨v',Q.rebase S⟩
 . exact⟨Xn _,v,by rw [set_self y];simp only [XN,XS,Xs];rw [set_self z];exact S,by simp [aa,aB,ab],by simp [aa,aB,aY],by simp [aa,aB,aY],by simp [aa],by simp [aa]⟩
theorem put32_ok{M:Nat->Prop}{H hq:Hp}{L:List (Nat×Ob)}{G:List GL}(S:St M H hq L G){i j e:Nat}{v f:Value}{l:Bs}{xs:List Int}{many:Nat}(y:L[i]? =some (e,.row [v] 1))(z:G[j]? =some (v,1,aT l))(I:au hq 1 (encI .u32) f xs)
 (P: ∀c,ao f c->c∉keys L G) (A:many<=8) (hl:l.length+8*xs.length<=1000000):
 Ret zB 116 [ptrTo e,.int .i64 (many:Nat),f] hq fun r g=> ∃v',St M H g (L.set i (e,.row [v'] 1)) (G.set j (v',1,aT (l++xs.flatMap fun x=>aJ many (u64 x)))):=by
 have Q:=S
 have ok:=S.ok
 replace S:=S.base
 refine ac (n:=42) (rs:=[]) rfl Tryz.e116 rfl rfl rfl (lbt rfl) ?_
 simp only [BS,LB,Nat.reduceLT,Nat.reduceEqDiff,Fp,I.lenq]
 refine aD (fun(k:Nat) d g=>k<=xs.length/\ ∃v',St (· ∈keys L G) hq g (L.set i (e,.row [v'] 1)) (G.set j (v',1,aT (l++(xs.take k).flatMap fun x=>aJ many (u64 x))))/\d 0=ptrTo e/\d 1=.int .i64 (many:Nat)/\d 13=f/\d 14=.int .i64 xs.length/\d 15=.int .i64 k) (fun k=>xs.length-k) ?_ 0 _ _ ?_
 . clear S
   intro k R d h1 ⟨hk,v',S,r0,r1,r13,r14,r15⟩
   have B:=I.mo S.fr P
   by_cases hlt:k<xs.length
   . obtain⟨c,o,p,C⟩:=B.ix (kd:=.i64) (aM .u32) hlt
     have w:am .i64 ((k:Int)+1)=((k+1:Nat):Int):=by rw [wrap64]<;>omega
     have T:xs.take (k+1)=xs.take k++[xs[k]]:=Xi hlt
     simp only [BS,LB,Nat.reduceLT,Nat.reduceEqDiff,Fp,r13,r14,r15,aq,hlt,p,C,encI]
     refine ag aw S ?_;clear S;intro h s S J
     have U:[Value.int .u8 0,.int .u8 0,.int .u8 0,.int .u8 0,.int .u8 0,.int .u8 0,.int .u8 0,.int .u8 0]=jZ (u64 xs[k]) 0:=rfl
     rw [U]at S
     simp only [BS,LB,cE,aN,cM,Nat.reduceLT,Nat.reduceEqDiff,Fp,wrap_u64]
     refine aD (fun(a:Nat) d g=>a<=8/\St (· ∈keys L G) hq g ((s,.row (jZ (u64 xs[k]) a) 1)::L.set i (e,.row [v'] 1)) (G.set j (v',1,aT (l++(xs.take k).flatMap fun x=>aJ many (u64 x))))/\d 0=ptrTo e/\d 1=.int .i64 (many:Nat)/\d 13=f/\d 14=.int .i64 xs.length/\d 15=.int .i64 k/\d 8=ptrTo s/\d 9=.int .u64 ((u64 xs[k]/256 ^a:Nat):Int)/\d 21=.int .i64 a) (fun a=>8-a) ?_ 0 _ _ ?_
     . clear S r0 r1 r13 r14 r15
       intro a D d K ⟨ha,S,r0,r1,r13,r14,r15,r8,r9,r21⟩
       have V:am .i64 ((a:Int)+1)=((a+1:Nat):Int):=by rw [wrap64]<;>omega
       by_cases t:a<8
       . have u:(a:Int)<8:=by omega
         have N:=wrapN (k:=.u8) rfl (u64 xs[k]/256 ^a)
         simp only [pw]at N
         have W:(u64 xs[k]/256 ^a)>>>8=u64 xs[k]/256 ^(a+1):=by rw [Xb,Xu];rfl
         simp only [BS,LB,cE,aN,cM,Nat.reduceLT,Nat.reduceEqDiff,Fp,r8,r9,r21,u,N,lI (n:=8) t,mN (k:=.u64) (by decide)]
         refine ax (av S (i:=0) rfl Tryz.t5.2.2.1 bZ (by rw [jt];exact t) ono) ?_
         clear S;rintro K ⟨S,_⟩
         simp only [LC,qI]at S
         simp only [BS,LB,Nat.reduceLT,Nat.reduceEqDiff,r9,r21,mN (k:=.u64) (by decide),W,V]
         exact D (a+1) _ _ (by omega) ⟨by omega,S,by simp [aa,r0],by simp [aa,r1],by simp [aa,r13],by simp [aa,r14],by simp [aa,r15],by simp [aa,r8,ab],by simp [aa],by simp [aa]⟩
       . have X:a=8:=by omega
         subst X
         have Y:=(S.row (b:=e) (.tail _ (Xg (dl y)))).load1 (o:=0) rfl
         have O:=S.lds (b:=s) (o:=0) (n:=many) m0 (by rw [jt];omega)
         rw [Xk,pA A]at O
         have E:aI K 1 (.slice (some ⟨s,0,none⟩) many 8)=some (many,aT (aJ many (u64 xs[k]))):=by simp only [aI];rw [Xh,O]
         have F:=ph (n:=8) (b:=s) (many:=many) (k:=.i64) Tryz.t264.1 Tryz.t5.2.2.1 A
         simp only [BS,LB,Nat.reduceLT,Nat.reduceEqDiff,Int.reduceLT,Xl,r15,r21]
         refine ar (ay rfl) (q:=0) (ps:=[]) (by kernel_rfl) ?_
         simp only [BS,LB,cls,Nat.reduceLT,Nat.reduceEqDiff,Nat.reduceAdd,Nat.reducePow,Nat.reduceDiv,Nat.reduceMod,Nat.reduceLeDiff,Xv,XU,Fp,r0,r1,r8,Y,F]
         refine kJ (S.grow (j:=j) (m:=many) (new:=aT (aJ many (u64 xs[k]))) (dl z) Tryz.t22.1 X4 (by decide) Tryz.t22.2.2.2.2.2 E (by rw [d6,aF,Xh]) (by decide) (mZ _) (by
          have Z:(xs.take k).length=k:=by rw [XR];omega
          have l2:many*k<=8*k:=Xx _ A
          rw [d6,d6,aF,zO,dp (fun x=>aF many _),Z];omega)) ?_
         clear S;rintro h3 v2 S
         have fv:=(S.gown _ (Xg (dl (dl z)))).1.fl
         have tl:aT (l++(xs.take k).flatMap fun x=>aJ many (u64 x))++aT (aJ many (u64 xs[k]))=aT (l++(xs.take (k+1)).flatMap fun x=>aJ many (u64 x)):=by
          rw [<-jS,T,XK,Xj];simp
         rw [set_set,tl]at S
         simp only [BS,LB,cls,Nat.reduceLT,Nat.reduceEqDiff,Nat.reduceAdd,Nat.reducePow,Nat.reduceDiv,Nat.reduceMod,Nat.reduceLeDiff,Fp]
         refine ep (av S (i:=i+1) (dl y) Tryz.t22.2.2.1 fv (zM (lbt rfl)) ono) ?_
         clear S;rintro h4 ⟨S,_⟩
         simp only [LC,set_set]at S
         simp only [BS,LB,Nat.reduceLT,Nat.reduceEqDiff,Nat.reduceAdd,r15,w]
         exact R (k+1) _ _ (by omega) ⟨by omega,v2,S.drop1,by simp [aa,r0],by simp [aa,r1],by simp [aa,r13],by simp [aa,r14],by simp [aa]⟩
     . exact⟨Xn _,S,by simp [aa,r0],by simp [aa,r1],by simp [aa,r13],by simp [aa,r14],by simp [aa,r15],by simp [aa,ab],by simp [aa],by simp [aa]⟩
   . have:k=xs.length:=by omega
     subst this
     rw [Xt]at S
     simp only [BS,LB,Nat.reduceLT,r14,r15,aq,hlt]
     exact⟨v',Q.rebase S⟩
 . exact⟨Xn _,v,by rw [set_self y];simp only [XN,XS,Xs];rw [set_self z];exact S,by simp [aa,aB,ab],by simp [aa,aB,aY],by simp [aa,aB,aY],by simp [aa],by simp [aa]⟩
theorem put64_ok{M:Nat->Prop}{H hq:Hp}{L:List (Nat×Ob)}{G:List GL}(S:St M H hq L G){i j e:Nat}{v f:Value}{l:Bs}{xs:List Int}{many:Nat}(y:L[i]? =some (e,.row [v] 1))(z:G[j]? =some (v,1,aT l))(I:au hq 1 (encI .u64) f xs)
 (P: ∀c,ao f c->c∉keys L G) (A:many<=8) (Q: ∀x∈xs,((u64 x:Nat):Int)=x) (hl:l.length+8*xs.length<=1000000):
 Ret zB 115 [ptrTo e,.int .i64 (many:Nat),f] hq fun r g=> ∃v',St M H g (L.set i (e,.row [v'] 1)) (G.set j (v',1,aT (l++xs.flatMap fun x=>aJ many (u64 x)))):=by
 have R:=S
 have ok:=S.ok
 replace S:=S.base
 refine ac (n:=41) (rs:=[]) rfl Tryz.e115 rfl rfl rfl (lbt rfl) ?_
 simp only [BS,LB,Nat.reduceLT,Nat.reduceEqDiff,FD,I.lenq]
 refine aD (fun(k:Nat) d g=>k<=xs.length/\ ∃v',St (· ∈keys L G) hq g (L.set i (e,.row [v'] 1)) (G.set j (v',1,aT (l++(xs.take k).flatMap fun x=>aJ many (u64 x))))/\d 0=ptrTo e/\d 1=.int .i64 (many:Nat)/\d 13=f/\d 14=.int .i64 xs.length/\d 15=.int .i64 k) (fun k=>xs.length-k) ?_ 0 _ _ ?_
 . clear S
   intro k T d h1 ⟨hk,v',S,r0,r1,r13,r14,r15⟩
   have B:=I.mo S.fr P
   by_cases hlt:k<xs.length
   . obtain⟨c,o,p,C⟩:=B.ix (kd:=.i64) (aM .u64) hlt
     have w:am .i64 ((k:Int)+1)=((k+1:Nat):Int):=by rw [wrap64]<;>omega
     have U:xs.take (k+1)=xs.take k++[xs[k]]:=Xi hlt
     simp only [BS,LB,Nat.reduceLT,Nat.reduceEqDiff,FD,r13,r14,r15,aq,hlt,p,C,encI]
     refine ag aw S ?_;clear S;intro h s S J
     have V:[Value.int .u8 0,.int .u8 0,.int .u8 0,.int .u8 0,.int .u8 0,.int .u8 0,.int .u8 0,.int .u8 0]=jZ (u64 xs[k]) 0:=rfl
     rw [V]at S
     simp only [BS,LB,Nat.reduceLT,Nat.reduceEqDiff]
     refine aD (fun(a:Nat) d g=>a<=8/\St (· ∈keys L G) hq g ((s,.row (jZ (u64 xs[k]) a) 1)::L.set i (e,.row [v'] 1)) (G.set j (v',1,aT (l++(xs.take k).flatMap fun x=>aJ many (u64 x))))/\d 0=ptrTo e/\d 1=.int .i64 (many:Nat)/\d 13=f/\d 14=.int .i64 xs.length/\d 15=.int .i64 k/\d 8=ptrTo s/\d 9=.int .u64 ((u64 xs[k]/256 ^a:Nat):Int)/\d 20=.int .i64 a) (fun a=>8-a) ?_ 0 _ _ ?_
     . clear S r0 r1 r13 r14 r15
       intro a D d K ⟨ha,S,r0,r1,r13,r14,r15,r8,r9,r21⟩
       have W:am .i64 ((a:Int)+1)=((a+1:Nat):Int):=by rw [wrap64]<;>omega
       by_cases t:a<8
       . have u:(a:Int)<8:=by omega
         have N:=wrapN (k:=.u8) rfl (u64 xs[k]/256 ^a)
         simp only [pw]at N
         have X:(u64 xs[k]/256 ^a)>>>8=u64 xs[k]/256 ^(a+1):=by rw [Xb,Xu];rfl
         simp only [BS,LB,cE,aN,cM,Nat.reduceLT,Nat.reduceEqDiff,FD,r8,r9,r21,u,N,lI (n:=8) t,mN (k:=.u64) (by decide)]
         refine ax (av S (i:=0) rfl Tryz.t5.2.2.1 bZ (by rw [jt];exact t) ono) ?_
         clear S;rintro K ⟨S,_⟩
         simp only [LC,qI]at S
         simp only [BS,LB,Nat.reduceLT,Nat.reduceEqDiff,r9,r21,mN (k:=.u64) (by decide),X,W]
         exact D (a+1) _ _ (by omega) ⟨by omega,S,by simp [aa,r0],by simp [aa,r1],by simp [aa,r13],by simp [aa,r14],by simp [aa,r15],by simp [aa,r8,ab],by simp [aa],by simp [aa]⟩
       . have Y:a=8:=by omega
         subst Y
         have Z:=(S.row (b:=e) (.tail _ (Xg (dl y)))).load1 (o:=0) rfl
         have O:=S.lds (b:=s) (o:=0) (n:=many) m0 (by rw [jt];omega)
         rw [Xk,pA A]at O
         have E:aI K 1 (.slice (some ⟨s,0,none⟩) many 8)=some (many,aT (aJ many (u64 xs[k]))):=by simp only [aI];rw [Xh,O]
         have F:=ph (n:=8) (b:=s) (many:=many) (k:=.i64) Tryz.t264.1 Tryz.t5.2.2.1 A
         simp only [BS,LB,Nat.reduceLT,Nat.reduceEqDiff,Int.reduceLT,Xl,r15,r21]
         refine ar (ay rfl) (q:=0) (ps:=[]) (by kernel_rfl) ?_
         simp only [BS,LB,cls,Nat.reduceLT,Nat.reduceEqDiff,Nat.reduceAdd,Nat.reducePow,Nat.reduceDiv,Nat.reduceMod,Nat.reduceLeDiff,Xv,XU,FD,r0,r1,r8,Z,F]
         refine kJ (S.grow (j:=j) (m:=many) (new:=aT (aJ many (u64 xs[k]))) (dl z) Tryz.t22.1 X4 (by decide) Tryz.t22.2.2.2.2.2 E (by rw [d6,aF,Xh]) (by decide) (mZ _) (by
          have l1:(xs.take k).length=k:=by rw [XR];omega
          have l2:many*k<=8*k:=Xx _ A
          rw [d6,d6,aF,zO,dp (fun x=>aF many _),l1];omega)) ?_
         clear S;rintro h3 v2 S
         have fv:=(S.gown _ (Xg (dl (dl z)))).1.fl
         have tl:aT (l++(xs.take k).flatMap fun x=>aJ many (u64 x))++aT (aJ many (u64 xs[k]))=aT (l++(xs.take (k+1)).flatMap fun x=>aJ many (u64 x)):=by
          rw [<-jS,U,XK,Xj];simp
         rw [set_set,tl]at S
         simp only [BS,LB,cls,Nat.reduceLT,Nat.reduceEqDiff,Nat.reduceAdd,Nat.reducePow,Nat.reduceDiv,Nat.reduceMod,Nat.reduceLeDiff,FD]
         refine ep (av S (i:=i+1) (dl y) Tryz.t22.2.2.1 fv (zM (lbt rfl)) ono) ?_
         clear S;rintro h4 ⟨S,_⟩
         simp only [LC,set_set]at S
         simp only [BS,LB,Nat.reduceLT,Nat.reduceEqDiff,Nat.reduceAdd,r15,w]
         exact T (k+1) _ _ (by omega) ⟨by omega,v2,S.drop1,by simp [aa,r0],by simp [aa,r1],by simp [aa,r13],by simp [aa,r14],by simp [aa]⟩
     . exact⟨Xn _,S,by simp [aa,r0],by simp [aa,r1],by simp [aa,r13],by simp [aa,r14],by simp [aa,r15],by simp [aa,ab],by simp [aa,Q _ (XG hlt)],by simp [aa]⟩
   . have:k=xs.length:=by omega
     subst this
     rw [Xt]at S
     simp only [BS,LB,Nat.reduceLT,r14,r15,aq,hlt]
     exact⟨v',R.rebase S⟩
 . exact⟨Xn _,v,by rw [set_self y];simp only [XN,XS,Xs];rw [set_self z];exact S,by simp [aa,aB,ab],by simp [aa,aB,aY],by simp [aa,aB,aY],by simp [aa],by simp [aa]⟩
theorem putI_ok{M:Nat->Prop}{H hq:Hp}{L:List (Nat×Ob)}{G:List GL}(S:St M H hq L G){i j e:Nat}{v f:Value}{l:Bs}{xs:List Int}{many:Nat}(y:L[i]? =some (e,.row [v] 1))(z:G[j]? =some (v,1,aT l))(I:au hq 1 (encI .i64) f xs)
 (P: ∀c,ao f c->c∉keys L G) (A:many<=8) (hl:l.length+8*xs.length<=1000000):
 Ret zB 211 [ptrTo e,.int .i64 (many:Nat),f] hq fun r g=> ∃v',St M H g (L.set i (e,.row [v'] 1)) (G.set j (v',1,aT (l++xs.flatMap fun x=>aJ many (u64 x)))):=by
 have Q:=S
 have ok:=S.ok
 replace S:=S.base
 refine ac (n:=42) (rs:=[]) rfl Tryz.e211 rfl rfl rfl (lbt rfl) ?_
 simp only [BS,LB,Nat.reduceLT,Nat.reduceEqDiff,Fq,I.lenq]
 refine aD (fun(k:Nat) d g=>k<=xs.length/\ ∃v',St (· ∈keys L G) hq g (L.set i (e,.row [v'] 1)) (G.set j (v',1,aT (l++(xs.take k).flatMap fun x=>aJ many (u64 x))))/\d 0=ptrTo e/\d 1=.int .i64 (many:Nat)/\d 13=f/\d 14=.int .i64 xs.length/\d 15=.int .i64 k) (fun k=>xs.length-k) ?_ 0 _ _ ?_
 . clear S
   intro k R d h1 ⟨hk,v',S,r0,r1,r13,r14,r15⟩
   have B:=I.mo S.fr P
   by_cases hlt:k<xs.length
   . obtain⟨c,o,p,C⟩:=B.ix (kd:=.i64) (aM .i64) hlt
     have w:am .i64 ((k:Int)+1)=((k+1:Nat):Int):=by rw [wrap64]<;>omega
     have T:xs.take (k+1)=xs.take k++[xs[k]]:=Xi hlt
     simp only [BS,LB,Nat.reduceLT,Nat.reduceEqDiff,Fq,r13,r14,r15,aq,hlt,p,C,encI]
     refine ag aw S ?_;clear S;intro h s S J
     have U:[Value.int .u8 0,.int .u8 0,.int .u8 0,.int .u8 0,.int .u8 0,.int .u8 0,.int .u8 0,.int .u8 0]=jZ (u64 xs[k]) 0:=rfl
     rw [U]at S
     simp only [BS,LB,cE,aN,cM,Nat.reduceLT,Nat.reduceEqDiff,Fq,wrap_u64]
     refine aD (fun(a:Nat) d g=>a<=8/\St (· ∈keys L G) hq g ((s,.row (jZ (u64 xs[k]) a) 1)::L.set i (e,.row [v'] 1)) (G.set j (v',1,aT (l++(xs.take k).flatMap fun x=>aJ many (u64 x))))/\d 0=ptrTo e/\d 1=.int .i64 (many:Nat)/\d 13=f/\d 14=.int .i64 xs.length/\d 15=.int .i64 k/\d 8=ptrTo s/\d 9=.int .u64 ((u64 xs[k]/256 ^a:Nat):Int)/\d 21=.int .i64 a) (fun a=>8-a) ?_ 0 _ _ ?_
     . clear S r0 r1 r13 r14 r15
       intro a D d K ⟨ha,S,r0,r1,r13,r14,r15,r8,r9,r21⟩
       have V:am .i64 ((a:Int)+1)=((a+1:Nat):Int):=by rw [wrap64]<;>omega
       by_cases t:a<8
       . have u:(a:Int)<8:=by omega
         have N:=wrapN (k:=.u8) rfl (u64 xs[k]/256 ^a)
         simp only [pw]at N
         have W:(u64 xs[k]/256 ^a)>>>8=u64 xs[k]/256 ^(a+1):=by rw [Xb,Xu];rfl
         simp only [BS,LB,cE,aN,cM,Nat.reduceLT,Nat.reduceEqDiff,Fq,r8,r9,r21,u,N,lI (n:=8) t,mN (k:=.u64) (by decide)]
         refine ax (av S (i:=0) rfl Tryz.t5.2.2.1 bZ (by rw [jt];exact t) ono) ?_
         clear S;rintro K ⟨S,_⟩
         simp only [LC,qI]at S
         simp only [BS,LB,Nat.reduceLT,Nat.reduceEqDiff,r9,r21,mN (k:=.u64) (by decide),W,V]
         exact D (a+1) _ _ (by omega) ⟨by omega,S,by simp [aa,r0],by simp [aa,r1],by simp [aa,r13],by simp [aa,r14],by simp [aa,r15],by simp [aa,r8,ab],by simp [aa],by simp [aa]⟩
       . have X:a=8:=by omega
         subst X
         have Y:=(S.row (b:=e) (.tail _ (Xg (dl y)))).load1 (o:=0) rfl
         have O:=S.lds (b:=s) (o:=0) (n:=many) m0 (by rw [jt];omega)
         rw [Xk,pA A]at O
         have E:aI K 1 (.slice (some ⟨s,0,none⟩) many 8)=some (many,aT (aJ many (u64 xs[k]))):=by simp only [aI];rw [Xh,O]
         have F:=ph (n:=8) (b:=s) (many:=many) (k:=.i64) Tryz.t264.1 Tryz.t5.2.2.1 A
         simp only [BS,LB,Nat.reduceLT,Nat.reduceEqDiff,Int.reduceLT,Xl,r15,r21]
         refine ar (ay rfl) (q:=0) (ps:=[]) (by kernel_rfl) ?_
         simp only [BS,LB,cls,Nat.reduceLT,Nat.reduceEqDiff,Nat.reduceAdd,Nat.reducePow,Nat.reduceDiv,Nat.reduceMod,Nat.reduceLeDiff,Xv,XU,Fq,r0,r1,r8,Y,F]
         refine kJ (S.grow (j:=j) (m:=many) (new:=aT (aJ many (u64 xs[k]))) (dl z) Tryz.t22.1 X4 (by decide) Tryz.t22.2.2.2.2.2 E (by rw [d6,aF,Xh]) (by decide) (mZ _) (by
          have Z:(xs.take k).length=k:=by rw [XR];omega
          have l2:many*k<=8*k:=Xx _ A
          rw [d6,d6,aF,zO,dp (fun x=>aF many _),Z];omega)) ?_
         clear S;rintro h3 v2 S
         have fv:=(S.gown _ (Xg (dl (dl z)))).1.fl
         have tl:aT (l++(xs.take k).flatMap fun x=>aJ many (u64 x))++aT (aJ many (u64 xs[k]))=aT (l++(xs.take (k+1)).flatMap fun x=>aJ many (u64 x)):=by
          rw [<-jS,T,XK,Xj];simp
         rw [set_set,tl]at S
         simp only [BS,LB,cls,Nat.reduceLT,Nat.reduceEqDiff,Nat.reduceAdd,Nat.reducePow,Nat.reduceDiv,Nat.reduceMod,Nat.reduceLeDiff,Fq]
         refine ep (av S (i:=i+1) (dl y) Tryz.t22.2.2.1 fv (zM (lbt rfl)) ono) ?_
         clear S;rintro h4 ⟨S,_⟩
         simp only [LC,set_set]at S
         simp only [BS,LB,Nat.reduceLT,Nat.reduceEqDiff,Nat.reduceAdd,r15,w]
         exact R (k+1) _ _ (by omega) ⟨by omega,v2,S.drop1,by simp [aa,r0],by simp [aa,r1],by simp [aa,r13],by simp [aa,r14],by simp [aa]⟩
     . exact⟨Xn _,S,by simp [aa,r0],by simp [aa,r1],by simp [aa,r13],by simp [aa,r14],by simp [aa,r15],by simp [aa,ab],by simp [aa],by simp [aa]⟩
   . have:k=xs.length:=by omega
     subst this
     rw [Xt]at S
     simp only [BS,LB,Nat.reduceLT,r14,r15,aq,hlt]
     exact⟨v',Q.rebase S⟩
 . exact⟨Xn _,v,by rw [set_self y];simp only [XN,XS,Xs];rw [set_self z];exact S,by simp [aa,aB,ab],by simp [aa,aB,aY],by simp [aa,aB,aY],by simp [aa],by simp [aa]⟩
theorem uB{M:Nat->Prop}{d hq:Hp}{L:List (Nat×Ob)}{G:List GL}(S:St M d hq L G){i j a:Nat}{v b:Value}{l:Bs}{xs:List Int}(e:L[i]? =some (a,.row [v] 1))(f:G[j]? =some (v,1,aT l))(g:au hq 1 (encI .u8) b xs)
 (k: ∀c,ao b c->c∉keys L G) (m:l.length+8*xs.length<=1000000):
 Ret zB 55 [ptrTo a,b] hq fun r o=> ∃v',St M d o (L.set i (a,.row [v'] 1)) (G.set j (v',1,aT (l++xs.flatMap fun x=>aJ 1 (u64 x)))):=by
 refine ac (n:=7) (rs:=[]) rfl Tryz.e55 rfl rfl rfl (lbt rfl) ?_
 simp only [BS,LB,Nat.reduceLT,Nat.reduceEqDiff]
 refine step_ret (put8_ok (many:=1) S e f g k (by decide) m) ?_
 rintro r h ⟨v',p⟩
 simp only [BS]
 exact⟨v',p⟩
theorem p9{M:Nat->Prop}{d hq:Hp}{L:List (Nat×Ob)}{G:List GL}(S:St M d hq L G){i j a:Nat}{v b:Value}{l:Bs}{xs:List Int}(e:L[i]? =some (a,.row [v] 1))(f:G[j]? =some (v,1,aT l))(g:au hq 1 (encI .u32) b xs)
 (k: ∀c,ao b c->c∉keys L G) (m:l.length+8*xs.length<=1000000):
 Ret zB 57 [ptrTo a,b] hq fun r o=> ∃v',St M d o (L.set i (a,.row [v'] 1)) (G.set j (v',1,aT (l++xs.flatMap fun x=>aJ 4 (u64 x)))):=by
 refine ac (n:=7) (rs:=[]) rfl Tryz.e57 rfl rfl rfl (lbt rfl) ?_
 simp only [BS,LB,Nat.reduceLT,Nat.reduceEqDiff]
 refine step_ret (put32_ok (many:=4) S e f g k (by decide) m) ?_
 rintro r h ⟨v',p⟩
 simp only [BS]
 exact⟨v',p⟩
theorem wU64_ok{M:Nat->Prop}{d hq:Hp}{L:List (Nat×Ob)}{G:List GL}(S:St M d hq L G){i j a:Nat}{v b:Value}{l:Bs}{xs:List Int}(e:L[i]? =some (a,.row [v] 1))(f:G[j]? =some (v,1,aT l))(g:au hq 1 (encI .u64) b xs)
 (k: ∀c,ao b c->c∉keys L G) (m: ∀x∈xs,((u64 x:Nat):Int)=x) (o:l.length+8*xs.length<=1000000):
 Ret zB 56 [ptrTo a,b] hq fun r p=> ∃v',St M d p (L.set i (a,.row [v'] 1)) (G.set j (v',1,aT (l++xs.flatMap fun x=>aJ 8 (u64 x)))):=by
 refine ac (n:=7) (rs:=[]) rfl Tryz.e56 rfl rfl rfl (lbt rfl) ?_
 simp only [BS,LB,Nat.reduceLT,Nat.reduceEqDiff]
 refine step_ret (put64_ok (many:=8) S e f g k (by decide) m o) ?_
 rintro r h ⟨v',q⟩
 simp only [BS]
 exact⟨v',q⟩
theorem vg{M:Nat->Prop}{d hq:Hp}{L:List (Nat×Ob)}{G:List GL}(S:St M d hq L G){i j a:Nat}{v b:Value}{l:Bs}{xs:List Int}(e:L[i]? =some (a,.row [v] 1))(f:G[j]? =some (v,1,aT l))(g:au hq 1 (encI .i64) b xs)
 (k: ∀c,ao b c->c∉keys L G) (m:l.length+8*xs.length<=1000000):
 Ret zB 169 [ptrTo a,b] hq fun r o=> ∃v',St M d o (L.set i (a,.row [v'] 1)) (G.set j (v',1,aT (l++xs.flatMap fun x=>aJ 8 (u64 x)))):=by
 refine ac (n:=7) (rs:=[]) rfl Tryz.e169 rfl rfl rfl (lbt rfl) ?_
 simp only [BS,LB,Nat.reduceLT,Nat.reduceEqDiff]
 refine step_ret (putI_ok (many:=8) S e f g k (by decide) m) ?_
 rintro r h ⟨v',p⟩
 simp only [BS]
 exact⟨v',p⟩
theorem yT{M:Nat->Prop}{c hq:Hp}{L:List (Nat×Ob)}{G:List GL}(S:St M c hq L G){i j a:Nat}{v:Value}{l m:Bs}(d:L[i]? =some (a,.row [v] 1))(e:G[j]? =some (v,1,aT l))(q:l.length+m.length<=1000000):
 Ret zB 54 [ptrTo a,sv m] hq fun r f=> ∃v',St M c f (L.set i (a,.row [v'] 1)) (G.set j (v',1,aT (l++m))):=by
 have s:=S.ok
 have g:=(S.row (b:=a) (Xg d)).load1 (o:=0) rfl
 refine ac (n:=15) (rs:=[]) rfl Tryz.e54 rfl rfl rfl (lbt rfl) ?_
 simp only [BS,LB,Nat.reduceLT,Nat.reduceEqDiff,F0u,g]
 refine dX (S.grow (j:=j) (m:=m.length) (new:=aT m) e Tryz.t22.1 X4 (by decide) Tryz.t9.2.2.2.2 src_sv (by rw [d6,Xh]) (by decide) (mZ _) (by rw [d6,d6];omega)) ?_
 clear S;rintro h k S
 have p:=(S.gown _ (Xg (dl e))).1.fl
 rw [<-jS]at S
 simp only [BS,LB,Nat.reduceLT,Nat.reduceEqDiff,F0u]
 refine ax (av S (i:=i) d Tryz.t22.2.2.1 p (zM (lbt rfl)) ono) ?_
 clear S;rintro h ⟨S,_⟩
 simp only [LC]at S
 simp only [BS]
 exact⟨k,S⟩
theorem by_of{h:Hp}{v:Value}{l:Bs}(g:iq h (v,1,aT l)):BySl h v l:=g.sl (byF l).symm (fun _=>rfl) (by decide)
theorem jJ{a:Hp}(c:a.t.Sized a.n){b:Nat}{v:Value}{l:Bs}(d:a.load b 0 1=some [v])(g:iq a (v,1,aT l)):bC zB 59 [ptrTo b] a (sv l):=by
 have S:=Si c
 refine ac (n:=10) (rs:=[.tmp 2]) rfl Tryz.e59 rfl rfl rfl (lbt rfl) ?_
 simp only [BS,LB,cE,aN,ae,Nat.reduceLT,Nat.reduceEqDiff,F17,d,yP (by_of g)]
 exact S.gr
theorem mX{M:Nat->Prop}{b hq:Hp}{L:List (Nat×Ob)}{G:List GL}(S:St M b hq L G):Ret zB 53 [] hq fun r d=> ∃a,r=ptrTo a/\St M b d ((a,.row [.slice none 0 0] 1)::L) ((.slice none 0 0,1,aT [])::G):=by
 have f:=S.ok
 refine ac (n:=3) (rs:=[.tmp 0]) rfl Tryz.e53 rfl rfl rfl (lbt rfl) ?_
 simp only [BS,LB,Nat.reduceLT,Nat.reduceEqDiff,F18]
 refine ag (bR (by intro x e;cases e)) S ?_;clear S;intro h a S c;simp only [ah]at S
 simp only [BS,LB,ae,Nat.reduceLT,Nat.reduceEqDiff]
 exact⟨a,rfl,S.nilG⟩

def Tryz.FO:=aj t1<|aj t2<|aj t3<|aj t4<|aj t5<|aj t6<|aj Z1<|aj Z4<|aj t9<|aj t10<|aj t11<|aj t76<|aj t265<|t318
def Tryz.F19:=aj t1<|aj t2<|aj t76<|aj t115<|t318
def Tryz.FE:=aj t1<|aj t2<|aj t3<|aj t4<|aj t5<|aj t6<|aj Z1<|aj Z4<|aj t9<|aj t76<|aj t265<|t318
def io(i:Nat):List Value:=(Xf 16).map fun j=>.int .u32 ((if j<i then di 4 j else 0:Nat):Int)
theorem iG(i:Nat):(io i).length=16:=by simp [io]
theorem halfC_set{i:Nat}:(io i).set i (.int .u32 ((di 4 i:Nat):Int))=io (i+1):=by
 unfold io
 have:=jq (N:=16) (k:=i) (F:=fun j=>Value.int .u32 ((if j<i then di 4 j else 0:Nat):Int)) (F':=fun j=>Value.int .u32 ((if j<i+1 then di 4 j else 0:Nat):Int)) (fun j _ a=>by
  by_cases h:j<i
  . rw [if_pos h,if_pos (by omega)]
  . rw [if_neg h,if_neg (by omega)])
 rw [<-this,if_pos (by omega)]
theorem halfC_at{j:Nat}(h:j<16):(io 16)[j]? =some (.int .u32 ((di 4 j:Nat):Int)):=by
 unfold io
 rw [lU (F:=fun j=>Value.int .u32 ((if j<16 then di 4 j else 0:Nat):Int)) h,if_pos h]
theorem step_and{r:Nat}(h:r<4294967296): ∃m:Nat,m<4294967296/\unP .neg (.int .u32 ((r&&& 1:Nat):Int))=some (.int .u32 (m:Int))/\(r>>>1) ^^^(3988292384&&& m)=jL r:=by
 have e:r&&& 1=r%2:=Nat.and_one_is_mod r
 rcases XJ r with a|a
 . refine⟨0,by decide,by rw [e,a];rfl,?_⟩
   unfold jL;rw [a];simp
 . refine⟨4294967295,by decide,by rw [e,a];rfl,?_⟩
   unfold jL;rw [a];rfl
theorem b_and1{E:Env}{t:TypeId}{p q:Operand}{x:Nat}(h:x<4294967296):aO E .and t p q (.int .u32 (x:Int)) (.int .u32 1)=some (.int .u32 ((x&&& 1:Nat):Int)):=rD (k:=.u32) (y:=1) rfl h (by decide)
theorem b_andT{E:Env}{t:TypeId}{p q:Operand}{x:Nat}(h:x<4294967296):aO E .and t p q (.int .u32 3988292384) (.int .u32 (x:Int))=some (.int .u32 ((3988292384&&& x:Nat):Int)):=rD (k:=.u32) (x:=3988292384) rfl (by decide) h
theorem b_and15{E:Env}{t:TypeId}{p q:Operand}{x:Nat}(h:x<4294967296):aO E .and t p q (.int .u32 (x:Int)) (.int .u32 15)=some (.int .u32 ((x%16:Nat):Int)):=by
 have:=rD (E:=E) (t:=t) (p:=p) (q:=q) (k:=.u32) (x:=x) (y:=15) rfl h (by decide)
 rw [show x&&& 15=x%16 from Nat.and_two_pow_sub_one_eq_mod (n:=4) x]at this
 exact this
theorem b_shr1U{E:Env}{t:TypeId}{p q:Operand}{x:Nat}:aO E .shr t p q (.int .u32 (x:Int)) (.int .u64 1)=some (.int .u32 ((x>>>1:Nat):Int)):=b_shrN (k:=.u32) (k':=.u64) (y:=1) (by decide)
theorem lay_all{l m:List Value}(h:l.length=m.length):lay l 0 m=m:=by simp [lay,h]
theorem tZ(i:Nat):(io i).all ik=true:=by simp [io,ik]
theorem halves_ok{r:Hp}(F:r.t.Sized r.n):bC zB 216 [] r (.agg ⟨io 16⟩):=by
 have S:=Si F
 refine ac (n:=23) (rs:=[.cell 0 318]) rfl Tryz.e216 rfl rfl rfl (lbt rfl) ?_
 simp only [BS,FO]
 refine ag aw S ?_;clear S;intro h j S u
 have v:[Value.int .u32 0,.int .u32 0,.int .u32 0,.int .u32 0,.int .u32 0,.int .u32 0,.int .u32 0,.int .u32 0,.int .u32 0,.int .u32 0,.int .u32 0,.int .u32 0,.int .u32 0,.int .u32 0,.int .u32 0,.int .u32 0]=io 0:=rfl
 rw [v]at S
 simp only [BS]
 refine aD (fun(i:Nat) c h=>i<=16/\St NoM r h [(j,.row (io i) 1)] []/\c 0=ptrTo j/\c 3=.int .i64 i) (fun i=>16-i) ?_ 0 _ _ ?_
 . clear S v
   intro i G c h ⟨hi,S,d,f⟩
   have w:am .i64 ((i:Int)+1)=((i+1:Nat):Int):=by rw [wrap64]<;>omega
   by_cases hlt:i<16
   . have g:(i:Int)<16:=by omega
     have H:=cV (k:=.u32) rfl (n:=i) (by simp only [pw];omega)
     simp only [BS,LB,cE,aN,cM,Nat.reduceLT,Nat.reduceEqDiff,FO,f,g,H]
     refine aD (fun(k:Nat) c z=>k<=4/\z=h/\c 0=ptrTo j/\c 1=.int .i64 i/\c 2=.int .u32 (di k i:Nat)/\c 3=.int .i64 i/\c 8=.int .i64 k) (fun k=>4-k) ?_ 0 _ _ ?_
     . clear d f
       rintro k s c z ⟨P,rfl,d,A,B,f,r8⟩
       have I:am .i64 ((k:Int)+1)=((k+1:Nat):Int):=by rw [wrap64]<;>omega
       by_cases J:k<4
       . have l:(k:Int)<4:=by omega
         have C:di k i<4294967296:=vC (by omega)
         obtain⟨m,K,L,M⟩:=step_and C
         have N:=fun(t:TypeId) (p q:Operand)=>b_andT (E:=zB) (t:=t) (p:=p) (q:=q) K
         have O:(di k i)>>>1<4294967296:=by rw [Xb];omega
         have D:=fun(t:TypeId) (p q:Operand)=>uj (E:=zB) (t:=t) (p:=p) (q:=q) (k:=.u32) (x:=(di k i)>>>1) (y:=3988292384&&& m) rfl O (Nat.lt_of_le_of_lt Nat.and_le_left (by decide))
         rw [M,<-crcN_succ]at D
         simp only [BS,LB,Nat.reduceLT,Nat.reduceEqDiff,B,r8,l,b_shr1U,b_and1 C,L,N,D,I]
         exact s (k+1) _ _ (by omega) ⟨by omega,rfl,by simp [aa,d],by simp [aa,A],by simp [aa],by simp [aa,f],by simp [aa]⟩
       . have:k=4:=by omega
         subst this
         simp only [BS,LB,Nat.reduceLT,Nat.reduceEqDiff,Int.reduceLT,Xl,FO,d,A,B,f,r8,lI (n:=16) hlt]
         refine ax (av S (i:=0) rfl Tryz.t76.2.2.1 bZ (by rw [iG];exact hlt) ono) ?_
         clear S;rintro h ⟨S,_⟩
         simp only [LC,halfC_set]at S
         simp only [BS,LB,Nat.reduceLT,Nat.reduceEqDiff,f,w]
         exact G (i+1) _ _ (by omega) ⟨by omega,S,by simp [aa,d],by simp [aa]⟩
     . exact⟨Xn _,rfl,by simp [aa,d],by simp [aa],by simp [aa,di],by simp [aa,f],by simp [aa]⟩
   . have g: ¬(i:Int)<16:=by omega
     have:i=16:=by omega
     subst this
     have a:=S.lds (b:=j) (o:=0) (n:=16) m0 (by rw [iG];decide)
     rw [Xk,Xm (by rw [iG];decide)]at a
     simp only [BS,LB,Nat.reduceLT,Nat.reduceEqDiff,Int.reduceLT,Xl,FO,d,f,a]
     refine ax (S.store (i:=0) rfl Tryz.t318.2.2.1 (by intro x e;cases e) (iG 16) (tZ 16) (Nat.le_of_eq (by show 0+(io 16).length=_;rw [XE])) ono) ?_
     clear S;rintro h ⟨S,_⟩
     simp only [LC,ah]at S
     rw [lay_all rfl]at S
     have a:=S.lds (b:=j) (o:=0) (n:=16) m0 (by rw [iG];decide)
     rw [Xk,Xm (by rw [iG];decide)]at a
     simp only [BS,ae]
     exact(lO (by decide) (by simp only [bK,d,ab,Nat.reduceEqDiff,reduceIte];exact fD Tryz.t318.2.1 Tryz.t318.2.2.1 a)).2 (jB.2 ⟨rfl,S.gr⟩)
 . exact⟨Xn _,S,by simp [aa,ab],by simp [aa]⟩
theorem taker_ok{b:Hp}(k:b.t.Sized b.n){r:Nat}:Ret zB 178 [.int .u32 (r:Nat)] b fun v f=>Gr b f/\ ∃a c,v=.func (.func 217) #[] #[ptrTo a,ptrTo c]/\b.n<=a/\a≠c/\Row f a [.int .u32 (r:Nat)] 1/\Row f c (io 16) 1:=by
 have S:=Si k
 refine ac (n:=6) (rs:=[.tmp 2]) rfl Tryz.e178 rfl rfl rfl (lbt rfl) ?_
 simp only [BS,Nat.reduceLT]
 refine ag (bR (by intro x e;cases e)) S ?_;clear S;intro h a S d;simp only [ah]at S
 simp only [BS,LB]
 refine al (halves_ok S.ok) ?_;intro h g;replace S:=S.call g;clear g
 simp only [BS,F19]
 refine ag aw S ?_;clear S;intro h c S j
 simp only [BS,LB,Nat.reduceLT,Nat.reduceEqDiff]
 refine ax (S.store (i:=0) rfl Tryz.t318.2.2.1 (by intro x e;cases e) (iG 16) (tZ 16) (lbt rfl) ono) ?_
 clear S;rintro h ⟨S,_⟩
 simp only [LC,ah]at S
 rw [lay_all (m:=io 16) (by rw [iG];rfl)]at S
 have l:=S.apart
 simp only [BS,LB,ae,Nat.reduceLT,Nat.reduceEqDiff]
 exact⟨S.gr,a,c,rfl,d,fun e=>by subst e;simp [keys]at l,S.row m1,S.row m0⟩
theorem taker1_ok{g:Hp}(N:g.t.Sized g.n){a s r:Nat}{l:Bs}(O:r<4294967296)(X:l.length<=1000000)(P:Row g a [.int .u32 (r:Nat)] 1)(Q:Row g s (io 16) 1)(B:a≠s):
 Ret zB 217 [sv l,ptrTo a,ptrTo s] g fun v R=>v=.int .u32 (crcL r l:Nat)/\Mo (· =a) g R:=by
 have S:=St.init1 N (o:=.row [.int .u32 (r:Nat)] 1) P
 have J: ∀{h} (f:Mo (· =a) g h) {j:Nat},j<16->h.load s j 1=some [.int .u32 ((di 4 j:Nat):Int)]:=fun f j T=>(f.has (o:=.row _ 1) Q (fun e=>B e.symm):Row _ s _ 1).load1 (halfC_at T)
 refine ac (n:=33) (rs:=[.tmp 4]) rfl Tryz.e217 rfl rfl rfl (lbt rfl) ?_
 simp only [BS,LB,Nat.reduceLT,Nat.reduceEqDiff,FE,lenq_sv]
 refine aD (fun(k:Nat) u h=>k<=l.length/\St (· =a) g h [(a,.row [.int .u32 (crcL r (l.take k):Nat)] 1)] []/\u 0=sv l/\u 1=ptrTo a/\u 2=ptrTo s/\u 7=.int .i64 l.length/\u 8=.int .i64 k) (fun k=>l.length-k) ?_ 0 _ _ ?_
 . clear S
   intro k U u h ⟨hk,S,r0,r1,r2,r7,r8⟩
   have w:am .i64 ((k:Int)+1)=((k+1:Nat):Int):=by rw [wrap64]<;>omega
   by_cases hlt:k<l.length
   . have Y:=u8_lt l[k]
     have V:=cV (k:=.u32) rfl (n:=l[k].toNat) (by simp only [pw];omega)
     have A:crcL r (l.take (k+1))=crcB (crcL r (l.take k)) l[k].toNat:=by rw [Xi hlt,zu];rfl
     have C:=vt (l:=l.take k) O
     generalize crcL r (l.take k)=c at S A C
     have D:c ^^^l[k].toNat<4294967296:=Xr (n:=32) C (by omega)
     have K:=fun(t:TypeId) (p q:Operand)=>uj (E:=zB) (t:=t) (p:=p) (q:=q) (k:=.u32) (x:=c) (y:=l[k].toNat) rfl C (by simp only [pw];omega)
     have m: ∀{z:Nat},z<4294967296->z>>>4<4294967296/\di 4 (z%16)<4294967296/\(z>>>4) ^^^di 4 (z%16)<4294967296:=fun {z} Z=>by
      have L:z>>>4<4294967296:=by rw [Xb];omega
      have M:di 4 (z%16)<4294967296:=vC (by omega)
      exact⟨L,M,Xr (n:=32) L M⟩
     rw [zZ]at A
     generalize c ^^^l[k].toNat=z at D K A
     obtain⟨F,G,H⟩:=m D
     have I:=fun(t:TypeId) (p q:Operand)=>uj (E:=zB) (t:=t) (p:=p) (q:=q) (k:=.u32) rfl F G
     have d:=Nat.mod_lt z (show 16>0 by decide)
     simp only [BS,LB,Nat.reduceLT,Nat.reduceEqDiff,r7,r8,aq,hlt]
     refine ar (ay rfl) (q:=0) (ps:=[]) (by kernel_rfl) ?_
     simp only [BS,LB,cE,aN,cM,cls,Nat.reduceLT,Nat.reduceEqDiff,Nat.reduceAdd,Nat.reducePow,Nat.reduceDiv,Nat.reduceMod,Nat.reduceLeDiff,FE,r0,r1,index_sv Tryz.t9.1 hlt,V,K,S.ld (b:=a) (o:=0) m0 rfl]
     refine ep (av S (i:=0) rfl Tryz.t76.2.2.1 bZ (zM (lbt rfl)) ono) ?_
     clear S;rintro h ⟨S,_⟩
     simp only [LC]at S
     simp only [BS,LB,Nat.reduceAdd]
     refine ar (ay rfl) (q:=0) (ps:=[]) (by kernel_rfl) ?_
     simp only [BS,LB,cls,Nat.reduceLT,Nat.reduceEqDiff,Nat.reduceAdd,Nat.reducePow,Nat.reduceDiv,Nat.reduceMod,Nat.reduceLeDiff,FE,r1,r2,b_shr4 (k:=.u32) (by decide),b_and15 D,lI (n:=16) d,J S.fr d,I,S.ld (b:=a) (o:=0) m0 rfl]
     refine ep (av S (i:=0) rfl Tryz.t76.2.2.1 bZ (zM (lbt rfl)) ono) ?_
     clear S;rintro h ⟨S,_⟩
     simp only [LC]at S
     simp only [BS,LB,Nat.reduceAdd]
     generalize(z>>>4) ^^^di 4 (z%16)=W at S A H
     obtain⟨F,G,_⟩:=m H
     have I:=fun(t:TypeId) (p q:Operand)=>uj (E:=zB) (t:=t) (p:=p) (q:=q) (k:=.u32) rfl F G
     have d:=Nat.mod_lt W (show 16>0 by decide)
     refine ar (ay rfl) (q:=0) (ps:=[]) (by kernel_rfl) ?_
     simp only [BS,LB,cls,Nat.reduceLT,Nat.reduceEqDiff,Nat.reduceAdd,Nat.reducePow,Nat.reduceDiv,Nat.reduceMod,Nat.reduceLeDiff,FE,r1,r2,b_shr4 (k:=.u32) (by decide),b_and15 H,lI (n:=16) d,J S.fr d,I,S.ld (b:=a) (o:=0) m0 rfl]
     refine ep (av S (i:=0) rfl Tryz.t76.2.2.1 bZ (zM (lbt rfl)) ono) ?_
     clear S;rintro h ⟨S,_⟩
     simp only [LC]at S
     rw [<-A]at S
     simp only [BS,LB,Nat.reduceLT,Nat.reduceEqDiff,Nat.reduceAdd,r8,w]
     exact U (k+1) _ _ (by omega) ⟨by omega,S,by simp [aa,r0],by simp [aa,r1],by simp [aa,r2],by simp [aa,r7],by simp [aa]⟩
   . have:k=l.length:=by omega
     subst this
     rw [Xt]at S
     simp only [BS,LB,ae,Nat.reduceLT,Nat.reduceEqDiff,FE,r1,r7,r8,aq,hlt,S.ld (b:=a) (o:=0) m0 rfl]
     exact S.fr
 . exact⟨Xn _,S,by simp [aa,aB],by simp [aa,aB,aY,ab],by simp [aa,aB,aY,ab],by simp [aa],by simp [aa]⟩
theorem sum_ok{a:Hp}(d:a.t.Sized a.n){l:Bs}(i:l.length<=1000000):bC zB 58 [sv l] a (.int .u32 (crc l:Nat)):=by
 have b:bC zB 117 [.int .u32 0,sv l] a (.int .u32 (crc l:Nat)):=by
  have S:=Si d
  have j:unP .xor (.int .u32 0)=some (.int .u32 ((4294967295:Nat):Int)):=rfl
  have m:=u_xorU (k:=.u32) rfl (vt (l:=l) (r:=4294967295) (by decide))
  refine ac (n:=11) (rs:=[.tmp 4]) rfl Tryz.e117 rfl rfl rfl (lbt rfl) ?_
  simp only [BS,LB,Nat.reduceLT,Nat.reduceEqDiff,Xl,j]
  refine step_ret (taker_ok (r:=4294967295) S.ok) ?_;intro v h ⟨g,b1,b3,e,n1,hne,R1,R3⟩;replace S:=S.call g;clear g
  subst e
  simp only [BS,LB,Nat.reduceLT,Nat.reduceEqDiff]
  refine step_ret (taker1_ok S.ok (by decide) i R1 R3 hne) ?_
  rintro v h ⟨rfl,f⟩
  have o:Gr a h:=(S.fr.trans f (fun c p=>.inr (by subst p;exact n1)):Mo NoM a h).gr
  simp only [BS,LB,ae,Nat.reduceLT,Nat.reduceEqDiff,m]
  exact⟨rfl,o⟩
 have S:=Si d
 refine ac (n:=5) (rs:=[.tmp 2]) rfl Tryz.e58 rfl rfl rfl (lbt rfl) ?_
 simp only [BS,LB,Nat.reduceLT,Nat.reduceEqDiff]
 refine al (b) ?_;intro h g;replace S:=S.call g;clear g
 simp only [BS,LB,ae,Nat.reduceLT,Nat.reduceEqDiff]
 exact S.gr
theorem b_andB{E:Env}{t:TypeId}{p q:Operand}{x:Nat}(h:x<256):aO E .and t p q (.int .u8 (x:Int)) (.int .u8 1)=some (.int .u8 ((x%2:Nat):Int)):=by
 have:=rD (E:=E) (t:=t) (p:=p) (q:=q) (k:=.u8) (x:=x) (y:=1) rfl h (by decide)
 rw [show x&&& 1=x%2 from Nat.and_one_is_mod x]at this
 exact this

end Go.Ab
end

/- Nets, cells, flags: what the functions do (part 3). -/
import Derived.Test.YtdcndollikinnaaGreatDoorNetB
open Go.Ab.Tryz
open Go.Ab.Tryz renaming abEnv->zM,e3E->XD,e2E->X2,e65->X4
open Nat renaming le_trans->zO,lt_of_succ_le->Xb,zero_mul->Xl,zero_add->Xm,mul_one->Xo,one_mul->Xq,le_refl->Xs,zero_le->Xt,lt_of_le_of_lt->XB,mul_le_mul_right->XF,and_le_left->XG,testBit_two_pow->XI,xor_lt_two_pow->XK,zero_ne_one->XU,min_eq_left->XX,testBit_and->XY,land->X8
open List renaming range->Xa,getD_eq_getElem?_getD->Xc,take_succ_eq_append_getElem->Xd,getElem?_eq_getElem->Xf,mem_cons_of_mem->Xg,take_of_length_le->Xh,take->Xi,drop->Xj,length_range->Xk,flatMap_eq_foldl->Xp,replicate->Xu,length_map->Xv,drop_zero->Xw,mem_append_right->Xx,all_cons->Xy,take_succ_cons->Xz,all_nil->XA,getElem_mem->XC,length_take->XE,map_eq_flatMap->XH,length_append->XJ,getElem?_append_right->XL,getElem?_map->XN,flatMap_cons->XO,drop_eq_getElem_cons->XP,getElem?_append_left->XQ,cons_append->XR,map_map->XS,map_const'->XV,range_succ->XW,length_singleton->XZ,mem_append_left->X3,map_cons->X5,mem_cons->X6,map_congr_left->X7
open Int renaming cast_ofNat_Int->Xe,toNat_natCast->Xr,tdiv_eq_ediv_of_nonneg->XM,eq_ofNat_of_zero_le->XT
open Bool renaming and_true->Xn
set_option maxHeartbeats 4000000
set_option linter.defProp false
set_option linter.unusedVariables false
set_option linter.unusedSimpArgs false
section
namespace Go.Ab
open Go.Proofs
set_option maxRecDepth 10000
def seen(A:List Arc)(fs ft:Arc->Nat):List Arc:=A.map fun a=>⟨fs a,ft a,a.w⟩
def NextF(E:Env)(g:FuncId)(a:Gra)(b:Value)(fs:Arc->Nat):Prop:= ∀(h:Hp) (e:Nat),h.t.Sized h.n->aX h e b a-> ∀v,v<a.nodes->Ret E g [b,.int .i64 (v:Nat)] h fun r d=>Gr h d/\av d 1 cq r (outs a.arcs fs a.arcs.length v)/\ ∀c,aq r c->h.n<=c
def eV(l:List Nat):List Value:=l.flatMap cq
theorem lj(l:List Nat):eV l=l.map fun(x:Nat)=>Value.int .i64 x:=by unfold eV;rw [Xp,XH,Xp];rfl
theorem ints_map(l:List Int):ints l=l.map fun x=>Value.int .i64 x:=by unfold ints;rw [Xp,XH,Xp];rfl
theorem pW(l:List Nat):(eV l).length=l.length:=by rw [lj,Xv]
theorem nats_app(l:List Nat)(x:Nat):eV (l++[x])=eV l++eV [x]:=by rw [lj,lj,lj,List.map_append]
theorem tH{A:List Arc}{fs ft:Arc->Nat}{i:Nat}(a:i<A.length):(seen A fs ft).getD i default=⟨fs (A.getD i default),ft (A.getD i default),(A.getD i default).w⟩/\(seen A fs ft).getD i default∈seen A fs ft:=by
 have e:(seen A fs ft).getD i default=⟨fs (A.getD i default),ft (A.getD i default),(A.getD i default).w⟩:=by unfold seen;simp [Xc,a]
 refine⟨e,?_⟩;rw [Xc,Xf (by unfold seen;simpa using a)];exact XC _
theorem Ak{A:List Arc}{fs ft:Arc->Nat}{a:Arc}(c:a∈seen A fs ft): ∃i,i<A.length/\(seen A fs ft).getD i default=a:=by obtain⟨i,b,e⟩:=List.mem_iff_getElem.1 c;exact⟨i,by unfold seen at b;simpa using b,by simp [Xc,b,e]⟩
def wE(a:Hp)(m:Nat)(r:Value)(B:List Arc)(s N:Nat):Prop:= ∃b d e D f O,r=.agg ⟨[b,d,e]⟩/\av a 1 cq b ((Xa N).map D)/\av a 1 (encI .i64) d f/\av a 1 cq e O/\f.length=N/\(∀v,IsD B s v (D v))/\(∀c,aq b c\/aq d c\/aq e c->m<=c)/\O.Nodup/\ ∀v∈O,v<N
theorem ui{h0:Hp}(d:h0.t.Sized h0.n){F:List Nat}{p:Value}{N:Nat}{K:Nat->Option Int}(H:dr h0 F p N K)(e:N<=1000):Ret zM 201 [p] h0 fun r a=> ∃(v:Nat) (k:Int) (b:Bool),r=.tuple #[.int .i64 (v:Nat),.int .i64 k,.bool b]/\Mo (· ∈F) h0 a/\dr a F p N (if b=true then c8 K v none else K)/\(b=true->K v=some k/\ ∀u k',K u=some k'->k<=k')/\(b=false-> ∀v,K v=none):=by
 refine rq (wY d H e) ?_;rintro r a (⟨rfl,c,g⟩|⟨v,k,rfl,c,f,i,j⟩)
 . exact⟨0,0,false,rfl,g.fr,H.gr g,fun h=>(by cases h),fun _=>c⟩
 . exact⟨v,k,true,rfl,i,j,fun _=>⟨c,fun u k' h=>by have:=f u k' h;omega⟩,fun h=>(by cases h)⟩
def FloodI(h0:Hp)(B:List Arc)(s N m g i j k n o t:Nat)(y z:FuncId)(O:List Nat)(ρ:Nat->Value)(d:List Deferred)(h:Hp):Prop:=
 ∃ (e:List Nat) (D:Nat->Nat) (K:Nat->Option Int) (F:List Nat) (p:List (Value×Value×Nat)) (c:Nat) (f:Int->Option Value) (q:List Int) (l:Value) (r:Nat) (v:Nat) (a:Int) (b:Bool),d=e.map qy/\
   St NoM h0 h ([(r,Ob.row [.int .i64 a] 1),(m,.row [ptrTo g] 1),(g,.row [ptrTo o,.slice (some ⟨k,0,none⟩) N N,.slice (some ⟨j,0,none⟩) N N,l,.map (some i)] 1),(i,.map p c),(j,.row (ints q) 1),(k,.row (eV ((Xa N).map D)) 1),(n,.row [.slice none 0 0,.slice none 0 0,.slice none 0 0] 1)]++dB e) [(l,1,eV O)]/\
   (∀w∈F,h0.n<=w/\w∉keys ([(r,Ob.row [.int .i64 a] 1),(m,.row [ptrTo g] 1),(g,.row [ptrTo o,.slice (some ⟨k,0,none⟩) N N,.slice (some ⟨j,0,none⟩) N N,l,.map (some i)] 1),(i,.map p c),(j,.row (ints q) 1),(k,.row (eV ((Xa N).map D)) 1),(n,.row [.slice none 0 0,.slice none 0 0,.slice none 0 0] 1)]++dB e) [(l,1,eV O)])/\
   q.length=N/\d6 p c f/\ClF O f/\Dj B s N O D K (fun _=>False)/\dr h F (ptrTo o) N (if b=true then c8 K v none else K)/\(b=true->K v=some a/\ ∀u x,K u=some x->a<=x)/\(b=false-> ∀v,K v=none)/\
   ρ 0=ptrTo t/\ρ 2=.func (.func y) #[ptrTo t] #[]/\ρ 3=.func (.func z) #[] #[]/\ρ 8=ptrTo n/\ρ 9=ptrTo m/\ρ 10=.int .i64 v/\ρ 11=ptrTo r/\ρ 12=.bool b
theorem AY {h0:Hp} (ok:h0.t.Sized h0.n) {l:Gra} (al:Good l) {pn:Value} {nb:Nat} (hn:aX h0 nb pn l) {s:Nat} (hs:s<l.nodes) {gN gE:FuncId} {fs ft:Arc->Nat} (hN:NextF zM gN l pn fs) (hE:KeyF zM gE ft) (bi: ∀a∈l.arcs,ft a<l.nodes):
 Ret zM 179 [pn,.int .i64 s,.func (.func gN) #[pn] #[],.func (.func gE) #[] #[]] h0 fun r h'=>Gr h0 h'/\wE h' h0.n r (seen l.arcs fs ft) s l.nodes:=by
 have n1:=al.n1;have n2:=al.n2;have S:=Si ok;have c1: ¬((s:Int)<0):=by omega
 have c2: ¬((l.nodes:Int)<=(s:Int)):=by omega
 obtain⟨bp,b0⟩: ∃b,pn=ptrTo b:=by obtain⟨b,_,_,_,_,_,e,_⟩:=hn.ex;exact⟨b,e⟩
 subst b0;refine aa (n:=117) (rs:=[.cell 8 247]) rfl Tryz.e179 rfl rfl rfl (lbt rfl) ?_;simp only [BZ];refine ac ay S ?_;clear S;intro h W S ck;simp only [BZ,c1,seval];refine ag (bS S.ok (hn.gr S.gr)) ?_;intro h g;replace S:=S.call g;clear g;simp only [BZ,c2,seval];refine ag (bS S.ok (hn.gr S.gr)) ?_;intro h g;replace S:=S.call g;clear g;simp only [BZ,seval];have nF:=S.fr.n;have kF:=fun {c} (t:c∈_)=>S.key_lt (b:=c) t;refine step_ret (xc S.ok) ?_;intro v h ⟨g,Fh,H,hFn⟩;replace S:=S.call g;clear g;rename Value=>p;have dF: ∀c∈Fh,c∉keys [(W,Ob.row [.slice none 0 0,.slice none 0 0,.slice none 0 0] 1)] []:=fun c t w=>by have:=kF w;have:=hFn c t;omega
 have lF:=H.lt S.ok;have Y:=S;have gF: ∀c∈Fh,h0.n<=c\/NoM c:=fun c t=>.inl (zO nF (hFn c t));replace S:=S.base;simp only [BZ];refine ac (bV (by exact Tryz.t23.1) (by exact X2) (by decide) (by rfl)) S ?_;clear S;intro h bl S a5;simp only [LC,a9,bQ,ae,Xl,Xm,Xo,Xq,seval]at S;simp only [BZ,seval];refine ag (bS S.ok (hn.gr (Y.rebase S).gr)) ?_;intro h g;replace S:=S.call g;clear g;simp only [BZ,seval];have kl:=fun {c} (t:c∈_)=>S.key_lt (b:=c) t;have kn:=S.fr.n;refine step_ret (rep64_ok S.ok (x:=72057594037927936) (.inr ⟨bl,0,none,1,rfl,Xs _,S.lds (b:=bl) (o:=0) (n:=1*1) m0 (lbt rfl)⟩) n1 (by omega)) ?_;intro v h ⟨g,bd,ed,nd,Rd⟩;replace S:=S.call g;clear g;subst ed;replace S:=S.drop1;replace S:=S.push (b:=bd) (o:=.row _ 1) (.inl (zO kn nd)) Rd (fun w=>by have:=kl (Xg _ w);omega);simp only [BZ];refine ac (bV (by exact Tryz.t41.1) (by exact XD) (by decide) (by rfl)) S ?_;clear S;intro h bm S a6;simp only [LC,a9,bQ,ae,Xl,Xm,Xo,Xq,seval]at S;simp only [BZ,seval];refine ag (bS S.ok (hn.gr (Y.rebase S).gr)) ?_;intro h g;replace S:=S.call g;clear g;simp only [BZ,seval];have bn:=fun {c} (t:c∈_)=>S.key_lt (b:=c) t;have an:=S.fr.n;refine step_ret (repI_ok S.ok (x:= -1) (.inr ⟨bm,0,none,1,rfl,Xs _,S.lds (b:=bm) (o:=0) (n:=1*1) m0 (lbt rfl)⟩) n1 (by omega)) ?_;intro v h ⟨g,ba,ea,na,Ra⟩;replace S:=S.call g;clear g;subst ea;replace S:=S.drop1;replace S:=S.push (b:=ba) (o:=.row _ 1) (.inl (zO an na)) Ra (fun w=>by have:=bn (Xg _ w);omega);have pp: ∃b,p=ptrTo b:=by obtain⟨b,_,_,e,_⟩:=H.ex;exact⟨b,e⟩
 obtain⟨bP,rfl⟩:=pp;simp only [BZ,seval];refine ac qQ S ?_;clear S;intro h G S cl;simp only [BZ,seval];refine ac (bg (by intro x e;cases e)) S ?_;clear S;intro h C S cm;simp only [ae]at S;simp only [BZ];refine ac ay S ?_;clear S;intro h I S cn;simp only [BZ,seval];refine aC (aA S (i:=0) rfl ?_ ?_ ?_ ono) ?_
 . exact(by simp only [FA0])
 . exact(by exact cP)
 . exact Xb (lbt rfl)
 clear S;rintro h ⟨S,mo⟩;clear mo;simp only [LC,ae,lay,Xi,Xj,seval]at S;simp only [BZ,S.ld (b:=I) (o:=0) m0 rfl,S.ld (b:=C) (o:=0) m1 rfl,seval];have d8: ∀c∈Fh,c≠W:=fun c t e=>dF c t (by rw [e];simp [keys]);have cA:=zO kn nd;have cI:=zO an na;clear kl bn kF kn nd an na Ra Rd;have HA:=H.mo S.fr dF;have bo: ∀c∈Fh,c≠I/\c≠C/\c≠G/\c≠ba/\c≠bd/\c≠W:=fun c t=>by have:=lF c t;have:=d8 c t;omega
 replace S:=Y.rebase S;clear Y dF lF d8 H a5 a6;have T:=S.baseF Fh;have nh:=S.fr.n;have a7: ∀L,(∀c∈keys L [],c=I\/c=C\/c=G\/c=ba\/c=bd\/c=W)-> ∀c∈Fh,c∉keys L []:=fun L hL c t w=>by have:=bo c t;have:=hL c w;omega
 have ps:Ret zM 210 [ptrTo bP,.int .i64 (s:Nat),.int .i64 0] h _:=qE S.ok HA hs (by omega) rfl;refine step_ret ps ?_;rintro r Q ⟨f1,F1,H1,J⟩;replace S:=S.rebaseF gF (T.stepF f1 (fun c t=>⟨.inl (.inr t),a7 _ (fun c t=>by simpa [keys]using t) c t⟩));have P: ∀c∈F1,h0.n<=c/\c∉keys [(I,Ob.row [ptrTo C] 1),(C,.row [ptrTo bP,.slice (some ⟨bd,0,none⟩) l.nodes l.nodes,.slice (some ⟨ba,0,none⟩) l.nodes l.nodes,.slice none 0 0,.map (some G)] 1),(G,.map [] 0),(ba,.row (Xu l.nodes (.int .i64 (-1))) 1),(bd,.row (Xu l.nodes (.int .i64 72057594037927936)) 1),(W,.row [.slice none 0 0,.slice none 0 0,.slice none 0 0] 1)] []:=fun c t=>by
  rcases J c t with h2|h2
  . exact⟨(gF c h2).elim (fun h=>h) (fun h=>h.elim),a7 _ (fun c t=>by simpa [keys]using t) c h2⟩
  . refine⟨zO nh h2,fun w=>?_⟩;have:=T.key_lt (b:=c) (by simpa [keys]using w);omega
 clear T a7 bo hFn gF nF J HA f1;replace S:=S.nilG (k:=1);have dj:=dj_init (B:=seen l.arcs fs ft) hs;have bq:=H1.lt S.ok;have S1:=S;replace S:=S.baseF F1;simp only [BZ,S.ld (b:=I) (o:=0) m0 rfl,S.ld (b:=C) (o:=0) m1 rfl,seval];refine step_ret (ui S.ok H1 (by omega)) ?_;rintro r h2 ⟨v,k,b,rfl,f2,H2,a0,a1⟩;replace S:=S.stepF f2 (fun c t=>⟨.inl (.inr t),fun w=>(P c t).2 (by simpa [keys,eZ]using w)⟩);simp only [BZ,seval];have S2:=S;replace S:=S.base;refine ac ay S ?_;clear S;intro h bk S cp;simp only [BZ,seval];refine aC (aA S (i:=0) rfl ?_ ?_ ?_ ono) ?_
 . exact(by simp only [FA0])
 . exact(by exact bR)
 . exact Xb (lbt rfl)
 clear S;rintro h ⟨S,mo⟩;clear mo;simp only [LC,ae,lay,Xi,Xj,seval]at S;simp only [BZ,seval];have H3:=H2.mo S.fr (fun c t w=>(P c t).2 (by simpa [keys,eZ]using w));refine qw (FloodI h0 (seen l.arcs fs ft) s l.nodes I C G ba bd W bP bp gN gE) (fun O=>l.nodes-O.length) ?_ [] _ _ _ ?_
 . clear S S1 S2 H3 a0 a1 H2 f2 H1 dj P bq ps;intro O ih ρ d hS ⟨dbs,D,K,F,es,c,f,aL,vO,bk,v,key,b,hd,Y,Z,lA,MI,CF,dj,H,a0,a1,r0,r2,r3,r8,r9,r10,r11,r12⟩;simp only [XR,List.nil_append]at Y Z;have S:=Y.base;cases b with
   | false=>
     simp only [BZ,r8,r9,r12,S.ld (b:=I) (o:=0) m1 rfl,S.lds (b:=C) (o:=1) (n:=3) m2 (lbt rfl),seval];have a8:Fl vO:=by
      rcases(Y.gown _ m0).1 with⟨e,_⟩|⟨_,_,e,_⟩
      . rw [show vO=_ from e];exact bO
      . rw [show vO=_ from e];exact bO
     refine aC (S.store (i:=6) rfl Tryz.t247.2.1 (by intro x e;cases e) rfl (by simp only [ae,List.drop_succ_cons,Xw,Xz,List.take_zero,Xy,XA,a8.2.1,Xn];rfl) (lbt rfl) ono) ?_;clear S;rintro h ⟨S,_⟩;simp only [LC,ae,lay,Xi,Xj,seval]at S;simp only [BZ];replace S:=(Y.rebase S).permL (L':=dB dbs++[(bk,_),(I,_),(C,_),(G,_),(ba,_),(bd,_),(W,_)]) List.perm_append_comm;subst hd;refine dJ (gu dbs _ S fun h' S'=>?_);have lT:=S'.lds (b:=W) (o:=0) (n:=3) m6 (lbt rfl);refine⟨rfl,_,tP (by decide) (by simp only [aD,r8,ah,seval];exact bN Tryz.t247.1 Tryz.t247.2.1 lT),S'.gr,?_⟩;refine⟨_,_,_,D,aL,O,rfl,?_,?_,?_,lA,dj.done (a1 rfl) n2,?_,dj.nd,dj.lt⟩
     . refine .inr ⟨bd,0,none,l.nodes,by rw [Xv,Xk],by rw [Xv,Xk];exact Xs _,?_⟩;have:=(S'.row (b:=bd) m5).load (o:=0) (n:=((Xa l.nodes).map D).length*1) (by rw [pW];omega);rw [this,Xw,Xh (by rw [pW];omega)];rfl
     . refine .inr ⟨ba,0,none,l.nodes,by rw [lA],by rw [lA];exact Xs _,?_⟩;have:=(S'.row (b:=ba) m4).load (o:=0) (n:=aL.length*1) (by rw [cd];omega);rw [this,Xw,Xh (by rw [cd];omega)];rfl
     . exact(S'.gown _ m0).1.sl rfl dV (by decide)
     . rintro c (h|h|h)
       . have h:bd=c:=h;subst h;exact((S'.own _ m5).1).elim (fun h=>h) (fun h=>h.elim)
       . have h:ba=c:=h;subst h;exact((S'.own _ m4).1).elim (fun h=>h) (fun h=>h.elim)
       . exact((S'.gblk m0 h).1).elim (fun h=>h) (fun h=>h.elim)
   | true =>
     simp only [if_true]at H;obtain⟨hk,bt⟩:=a0 rfl;obtain⟨_,n,rfl,_,_⟩:=dj.i3 v key hk;obtain⟨b4,b5,bb,cN⟩:=dj.pop hk bt;have lk:=qR (x:=(v:Int)) Tryz.t232.1 Tryz.t3.1 (z:=.int .i64 0) (by kernel_rfl) (show hS.get G=some (.map es c)from(S.own _ m3).2) MI;rw [CF v,if_neg b5,Option.getD_none]at lk;have w1:am .i64 1=1:=rfl;simp only [BZ,r9,r10,r12,lk,w1,S.ld (b:=I) (o:=0) m1 rfl,S.ld (b:=C) (o:=4) m2 rfl,seval];refine aC (S.mputI (i:=3) rfl Tryz.t232.1 Tryz.t3.1 MI _) ?_;clear S;rintro h ⟨_,R,c',bu,S⟩;simp only [LC]at S;simp only [BZ];refine ar (ax rfl) (q:=0) (ps:=[]) (by kernel_rfl) ?_;simp only [BZ,cls,r9,r10,r11,bb,S.ld (b:=I) (o:=0) m1 rfl,S.ld (b:=C) (o:=1) m2 rfl,S.ld (b:=bk) (o:=0) m0 rfl,seval];refine df (aA S (i:=5) rfl Tryz.t2.2.2.1 bR (by rw [pW,Xv,Xk];exact bb) ono) ?_;clear S;rintro h ⟨S,_⟩;simp only [LC]at S;have eD:(eV ((Xa l.nodes).map D)).set v (.int .i64 (n:Nat))=eV ((Xa l.nodes).map fun u=>if u=v then n else D u):=(by rw [lj,lj,XS,XS];have:=jx (N:=l.nodes) (k:=v) (F:=(fun(x:Nat)=>Value.int .i64 x)∘D) (F':=(fun(x:Nat)=>Value.int .i64 x)∘fun u=>if u=v then n else D u) (fun u _ hu=>by simp [hu]);rw [<-this];simp);rw [eD]at S;simp only [BZ,seval];refine ar (ax rfl) (q:=128) (ps:=[(0,8)]) (by kernel_rfl) ?_;simp only [BZ,cls,r9,r10,S.ld (b:=I) (o:=0) m1 rfl,S.ld (b:=C) (o:=3) m2 rfl,seval];refine dL (bV (by exact Tryz.t41.1) (by exact XD) (by decide) (by rfl)) S ?_;clear S;intro h bs S cr cs;simp only [LC,a9,bQ,ae,Xl,Xm,Xo,Xq,seval]at S;simp only [BZ,cls,seval];have bv:aR h 1 (.slice (some ⟨bs,0,none⟩) 1 1)=some (1,eV [v]):=(by simp only [aR];rw [S.lds (b:=bs) (o:=0) (n:=1*1) m0 (lbt rfl)];rfl);replace S:=S.drop1;refine dn_v (S.grow (j:=0) (m:=1) (new:=eV [v]) rfl Tryz.t41.1 XD (by decide) Tryz.t41.2.2.2.2.2 bv rfl (by decide) rfl (by rw [pW,pW];have:=dj.len;simp;omega)) ?_;clear S bv;rintro h A S;simp only [LC,<-nats_app]at S;have a8:Fl A:=by
      rcases(S.gown _ m0).1 with⟨e,_⟩|⟨_,_,e,_⟩
      . rw [show A=_ from e];exact bO
      . rw [show A=_ from e];exact bO
     simp only [BZ,cls,seval];refine df (aA S (i:=2) rfl Tryz.t41.2.2.1 a8 (Xb (lbt rfl)) ono) ?_;clear S;rintro h ⟨S,_⟩;simp only [LC]at S;simp only [BZ,r0,r2,r10,seval];have pv:vO=.slice none 0 0\/ ∃c n,vO=.slice (some ⟨c,0,some 1⟩) n n/\c≠I:=by
      rcases(Y.gown _ m0).1 with⟨e,_⟩|⟨c,n,e,_⟩
      . exact .inl e
      . refine .inr ⟨c,n,e,fun h=>?_⟩;exact(Y.gblk (c:=c) m0 (by rw [show vO=_ from e];rfl)).2 (by subst h;exact List.mem_map_of_mem (f:=Prod.fst) m1)
     refine⟨?_,?_⟩
     . clear ih;rcases pv with rfl|⟨cO,nO,rfl,bw⟩
       . simp only [aK,aS,aH,aU,aJ,ne_eq,not_false_eq_true,aW,aZ,aT,aM,bA,ca,aD,Xn,r9,ah,AJ,noteSl,pair_x,entry_nl,mg,seval]
       . simp only [aK,aS,aH,aU,aJ,ne_eq,not_false_eq_true,aW,aZ,aT,aM,bA,ca,aD,Xn,r9,ah,AJ,noteSl,cS bw,cS bw.symm,seval]
     have kO: ∀c∈keys ((bk,Ob.row [.int .i64 (n:Nat)] 1)::(I,.row [ptrTo C] 1)::(C,.row [ptrTo bP,.slice (some ⟨bd,0,none⟩) l.nodes l.nodes,.slice (some ⟨ba,0,none⟩) l.nodes l.nodes,vO,.map (some G)] 1)::(G,.map es c)::(ba,.row (ints aL) 1)::(bd,.row (eV ((Xa l.nodes).map D)) 1)::(W,.row [.slice none 0 0,.slice none 0 0,.slice none 0 0] 1)::dB dbs) [(vO,1,eV O)],c<hS.n:=fun c t=>Y.key_lt t;have kS:=fun {c} t=>S.key_lt (b:=c) t;have cT:=(Y.rebase S).gr.n;refine step_ret (hN _ nb S.ok (hn.gr (Y.rebase S).gr) v bb) ?_;rintro vl h ⟨g,sl,bx⟩;have kn:=S.fr.n;have gn:=g.n;replace S:=S.call g;clear g;simp only [BZ,r3,seval];have an:=S.fr.n;have cW:=fun {c} t=>sl.lt S.ok (b:=c) t;refine step_ret (arcs_ok' S.ok cP sl.fl fT) ?_;intro v h ⟨g,b1,b2,b3,e,q1,q2,q3,y1,y2,y3⟩;replace S:=S.call g;replace sl:=sl.gr g;clear g;subst e;simp only [BZ];have hH:=H.mo S.fr (fun c t w=>(Z c t).2 w);have bB:=H.lt Y.ok;refine hZ S (g:=264) (a:=#[]) (b:=#[ptrTo b1,ptrTo b2,ptrTo b3]) (by simp [bA,aw,ah]) rfl rfl ?_;intro h2 db lb S' cX cY g2;have R1:=Y.rebase S';obtain⟨X,hX,R1⟩: ∃X:fu,X=_/\St NoM h0 h2 ((lb,.loop X)::(db,.dfr)::(bk,Ob.row [.int .i64 (n:Nat)] 1)::(I,.row [ptrTo C] 1)::(C,.row [ptrTo bP,.slice (some ⟨bd,0,none⟩) l.nodes l.nodes,.slice (some ⟨ba,0,none⟩) l.nodes l.nodes,A,.map (some G)] 1)::(G,.map R c')::(ba,.row (ints aL) 1)::(bd,.row (eV ((Xa l.nodes).map fun u=>if u=v then n else D u)) 1)::(W,.row [.slice none 0 0,.slice none 0 0,.slice none 0 0] 1)::dB dbs) [(A,1,eV (O++[v]))]:=⟨_,rfl,R1⟩;have bE:ClF (O++[v]) (eI f (v:Int) (some (.int .i64 1))):=fun u=>by
      unfold eI;by_cases e:u=v
      . subst e;simp
      . have e': ¬((u:Int)=(v:Int)):=(by omega);rw [if_neg e',CF u];simp [e]
     have hJ :Yld zM lb (fun k h' F'=> ∃K' Fh E,St NoM h0 h' ((lb,.loop X)::(db,.dfr)::(bk,Ob.row [.int .i64 (n:Nat)] 1)::(I,.row [ptrTo C] 1)::(C,.row [ptrTo bP,.slice (some ⟨bd,0,none⟩) l.nodes l.nodes,.slice (some ⟨ba,0,none⟩) l.nodes l.nodes,A,.map (some G)] 1)::(G,.map R c')::(ba,.row (ints E) 1)::(bd,.row (eV ((Xa l.nodes).map fun u=>if u=v then n else D u)) 1)::(W,.row [.slice none 0 0,.slice none 0 0,.slice none 0 0] 1)::dB dbs) [(A,1,eV (O++[v]))]/\
      dr h' Fh (ptrTo bP) l.nodes K'/\(∀c∈Fh,h0.n<=c/\c∉keys ((lb,.loop X)::(db,.dfr)::(bk,Ob.row [.int .i64 (n:Nat)] 1)::(I,.row [ptrTo C] 1)::(C,.row [ptrTo bP,.slice (some ⟨bd,0,none⟩) l.nodes l.nodes,.slice (some ⟨ba,0,none⟩) l.nodes l.nodes,A,.map (some G)] 1)::(G,.map R c')::(ba,.row (ints E) 1)::(bd,.row (eV ((Xa l.nodes).map fun u=>if u=v then n else D u)) 1)::(W,.row [.slice none 0 0,.slice none 0 0,.slice none 0 0] 1)::dB dbs) [(A,1,eV (O++[v]))])/\
      E.length=l.nodes/\Dj (seen l.arcs fs ft) s l.nodes (O++[v]) (fun u=>if u=v then n else D u) K' (fun a=> ∃id∈(outs l.arcs fs l.arcs.length v).drop k,(seen l.arcs fs ft).getD id default=a)/\
      F'=keys ((lb,.loop X)::(db,.dfr)::(bk,Ob.row [.int .i64 (n:Nat)] 1)::(I,.row [ptrTo C] 1)::(C,.row [ptrTo bP,.slice (some ⟨bd,0,none⟩) l.nodes l.nodes,.slice (some ⟨ba,0,none⟩) l.nodes l.nodes,A,.map (some G)] 1)::(G,.map R c')::(ba,.row (ints E) 1)::(bd,.row (eV ((Xa l.nodes).map fun u=>if u=v then n else D u)) 1)::(W,.row [.slice none 0 0,.slice none 0 0,.slice none 0 0] 1)::dB dbs) [(A,1,eV (O++[v]))]++Fh) (fun _ _=>False) (py l.arcs ft (outs l.arcs fs l.arcs.length v)):=by
      clear ih S' R1 y1 y2 y3 hH S g2 H Z sl;refine⟨?_,?_,fun _ _ h=>h.elim,?_⟩
      . rintro k h F' ⟨K',Fh,E,S,H,Z,_,_,rfl⟩;exact⟨S.ok,fun b hb=>(List.mem_append.1 hb).elim (fun hb=>S.key_lt hb) (fun hb=>H.lt S.ok b hb)⟩
      . rintro k h F' h' ⟨K',Fh,E,S,H,q⟩ g;exact⟨K',Fh,E,S.call g,H.gr g,q⟩
      . rintro k x h F' hx ⟨K',Fh,E,S,H,Z,be,U,rfl⟩;have bf:k<(outs l.arcs fs l.arcs.length v).length:=(by have:=(List.getElem?_eq_some_iff.1 hx).1;simpa [py]using this);unfold py at hx;rw [XN,Xf bf]at hx;cases hx;have w:=gC.1 (XC bf);rw [XP bf]at U;generalize(outs l.arcs fs l.arcs.length v)[k]=id at w U;obtain⟨ad,bh⟩:=w;subst hX;refine ia (S.get m0) (by rw [Tryz.e179];rfl) rfl ?_;have S1:=S;replace S:=S.base;simp only [BZ,seval];refine ac ay S ?_;clear S;intro h bL S b6;simp only [BZ,Xe,dw,seval];refine aC (S.store (i:=0) rfl ?_ ?_ rfl rfl ?_ ono) ?_
        . exact(by exact Tryz.t139.2.1)
        . exact(by intro x e;cases e)
        . exact lbt rfl
        clear S;rintro h ⟨S,mo⟩;clear mo;simp only [LC,ae,lay,Xi,Xj,seval]at S;simp only [BZ];refine fU S (i:=1) rfl rfl rfl rfl rfl ?_;clear S;intro h S;simp only [LC]at S;have af:l.arcs.getD id default∈l.arcs:=(by rw [Xc,Xf ad];exact XC ad);have c0:=al.arcs _ af;have c3:O.length*du<=12*du:=XF _ (zO dj.len n2);have cv:=nH;have wn:am .i64 ((n:Int)+((l.arcs.getD id default).w:Int))=((n+(l.arcs.getD id default).w:Nat):Int):=(by rw [wrap64]<;>omega);simp only [BZ,r9,r11,wn,S.ld (b:=I) (o:=0) m4 rfl,S.ld (b:=bL) (o:=1) m0 rfl,S.ld (b:=bL) (o:=2) m0 rfl,S.ld (b:=bk) (o:=0) m3 rfl,seval];have hH:=H.mo S.fr (fun c t w=>(Z c t).2 w);have bT:=H.lt S1.ok;have d3:C≠ba:=fun e=>(by have ap:=S1.apart;subst e;simp only [keys,X5,XR,List.nodup_cons,X6]at ap;exact ap.2.2.2.2.1 (.inr (.inl trivial)));replace S:=S.mono (M':=fun c=>c∈keys _ _\/c∈Fh) (fun _ h=>.inl h);refine step_ret (reach_ok S.ok (arc:=id) (far:=n+(l.arcs.getD id default).w) (S.row m5) hH (by omega) (S.own _ m6).2 bu bE (S.row m7) be (bi _ af) (fun h=>(Z ba h).2 (by simp [keys])) (fun h=>(Z C h).2 (by simp [keys])) d3) ?_;rintro r h ⟨f1,F2,b7,H2,ai,cb,cc,c4⟩;have kq:=fun {c} t=>S.key_lt (b:=c) t;have qn:=S.fr.n;have S2:=S.callF (i:=7) (Fh:=Fh) rfl f1 (fun c t=>⟨.inl (.inr t),fun w=>by
         rcases List.mem_cons.1 w with e|w
         . have:=bT c t;omega
         . exact(Z c t).2 w⟩) (o':=.row _ 1) cb
        simp only [List.set_cons_zero,List.set_cons_succ]at S2;clear S;simp only [BZ];have S:=S2.base;refine eg S (i:=1) rfl ?_;clear S;intro h S;simp only [LC]at S;have H3:=H2.mo S.fr (fun c t w=>by
         rcases ai c t with Q|Q
         . rcases List.mem_cons.1 w with e|w
           . have:=bT c Q;omega
           . exact(Z c Q).2 w
         . have:=kq w;omega)
        have S3:=S2.rebase S;refine .inl ⟨rfl,_,⟨_,F2,b7,S1.rebaseF (fun c t=>.inl (Z c t).1) S3.drop1,H3,fun c t=>?_,cc,?_,rfl⟩,S3.fr.mono (fun c t=>List.mem_append.2 t),fun c t=>?_⟩
        . rcases ai c t with Q|Q
          . exact Z c Q
          . refine⟨zO S1.fr.n (zO qn Q),fun w=>?_⟩;have:=kq (Xg _ w);omega
        . obtain⟨e1,e2⟩:=tH (fs:=fs) (ft:=ft) ad;have:=U.relaxed (ex':=fun a=> ∃cf∈(outs l.arcs fs l.arcs.length v).drop (k+1),(seen l.arcs fs ft).getD cf default=a) e2 (by rw [e1];show fs _∈_;rw [bh];simp) (by rw [e1];exact bi _ af) (by rw [e1];simp only [bh,if_true];rw [XJ,XZ,Nat.succ_mul];omega) (fun b hb hx=>by
           by_cases eb:b=(seen l.arcs fs ft).getD id default
           . exact .inr eb
           . left;rintro⟨i,hi,rfl⟩;rcases List.mem_cons.1 hi with e|hi
             . subst e;exact eb rfl
             . exact hx ⟨i,hi,rfl⟩)
          simp only [e1,bh,if_true]at this;exact this
        . rcases List.mem_append.1 t with t|t
          . exact .inl (X3 _ t)
          . rcases ai c t with Q|Q
            . exact .inl (Xx _ Q)
            . exact .inr (zO qn Q)
     have ak:=(Y.rebase S).gr;have cx:=lE l.arcs fs l.arcs.length v;have c5:=al.many;refine eH (iter_useN (arcs_it (hq:=h0) ok S.ok ak.keep ak.n hn sl (fun id ad=>(gC.1 ad).1) (by omega) hE y1 y2 y3) (fun _ _ h=>h) hJ (h:=h2) (F:=keys ((lb,.loop X)::(db,.dfr)::(bk,Ob.row [.int .i64 (n:Nat)] 1)::(I,.row [ptrTo C] 1)::(C,.row [ptrTo bP,.slice (some ⟨bd,0,none⟩) l.nodes l.nodes,.slice (some ⟨ba,0,none⟩) l.nodes l.nodes,A,.map (some G)] 1)::(G,.map R c')::(ba,.row (ints aL) 1)::(bd,.row (eV ((Xa l.nodes).map fun u=>if u=v then n else D u)) 1)::(W,.row [.slice none 0 0,.slice none 0 0,.slice none 0 0] 1)::dB dbs) [(A,1,eV (O++[v]))]++F) g2.fr (fun b hb hlt=>?_)
      ⟨c8 K v none,F,aL,R1,hH.gr g2,fun c t=>⟨(Z c t).1,fun w=>?_⟩,lA,b4.exm (fun a ha hs=>?_),rfl⟩) fun o rc h' y=>jn y ?_
     . rcases List.mem_append.1 hb with V|V
       . have k2:=(R1.key_own V).elim (fun h=>h) (fun h=>h.elim);rcases List.mem_cons.1 V with e|V
         . simp only []at e;omega
         . rcases List.mem_cons.1 V with e|V
           . simp only []at e;omega
           . have k1:=kS V;rintro(h|h|h|h|h)
             . omega
             . omega
             . omega
             . have:=bx b h;omega
             . omega
       . have k1:=bB b V;have k2:=(Z b V).1;rintro(h|h|h|h|h)
         . omega
         . omega
         . omega
         . have:=bx b h;omega
         . omega
     . have k1:=bB c t;have c6:=S.fr.n;rcases List.mem_cons.1 w with e|w
       . simp only []at e;omega
       . rcases List.mem_cons.1 w with e|w
         . simp only []at e;omega
         . rcases S.key_own w with Q|Q
           . omega
           . exact(Z c t).2 Q
     . obtain⟨i,hi,e⟩:=Ak ha;refine⟨i,?_,e⟩;rw [Xw];refine gC.2 ⟨hi,?_⟩;have:=(tH (fs:=fs) (ft:=ft) hi).1;rw [e]at this;rw [this]at hs;exact hs
     . rintro Fx ⟨K',a2,E,T,H',J,be,U,rfl⟩;clear hJ R1 y1 y2 y3 hH S' S;rw [show(py l.arcs ft (outs l.arcs fs l.arcs.length v)).length=(outs l.arcs fs l.arcs.length v).length by simp [py],List.drop_length]at U;replace U:=U.exm (ex':=fun _=>False) (fun a _ h=>by obtain⟨i,hi,_⟩:=h;cases hi);subst hX;refine⟨_,T.get m0,XU,?_⟩;have ai: ∀c∈a2,c≠lb:=fun c t e=>(J c t).2 (by rw [e];exact m0);have H2:=H'.mo ((Mo.refl (M:=(· =lb)) T.ok).put (.inr rfl) .dead) ai;replace T:=T.dead;replace J:=fun c t=>And.intro (J c t).1 (fun w=>(J c t).2 (Xg _ w));have S:=T.base;show Run _ _ _ _ _ _ _ _;simp only [BZ,if_false,r11,S.ld (b:=bk) (o:=0) m1 rfl,seval];refine ac ay S ?_;clear S;intro h a3 S cg;simp only [BZ,r11,seval];refine aC (aA S (i:=0) rfl ?_ ?_ ?_ ono) ?_
       . exact(by simp only [FA0])
       . exact(by exact bR)
       . exact Xb (lbt rfl)
       clear S;rintro h ⟨S,mo⟩;clear mo;simp only [LC,ae,lay,Xi,Xj,seval]at S;simp only [BZ,r9,S.ld (b:=I) (o:=0) m3 rfl,S.ld (b:=C) (o:=0) m4 rfl,seval];have H3:=H2.mo S.fr (fun c t w=>(J c t).2 w);have ch:=H2.lt T.ok;have a4: ∀c∈a2,h0.n<=c/\c∉keys ([(a3,Ob.row [.int .i64 (n:Nat)] 1),(I,.row [ptrTo C] 1),(C,.row [ptrTo bP,.slice (some ⟨bd,0,none⟩) l.nodes l.nodes,.slice (some ⟨ba,0,none⟩) l.nodes l.nodes,A,.map (some G)] 1),(G,.map R c'),(ba,.row (ints E) 1),(bd,.row (eV ((Xa l.nodes).map fun u=>if u=v then n else D u)) 1),(W,.row [.slice none 0 0,.slice none 0 0,.slice none 0 0] 1)]++dB (db::dbs)) [(A,1,eV (O++[v]))]:=fun c t=>by
        refine⟨(J c t).1,fun w=>?_⟩;have Q:=(J c t).2;have h2:=ch c t;simp [keys,dB]at w;rcases w with h|h|h|h|h|h|h|h|h|h
        . omega
        all_goals exact Q (by simp [keys,dB,h])
       replace S:=(T.rebase S).sub (L':=(a3,Ob.row [.int .i64 (n:Nat)] 1)::(db,.dfr)::(I,.row [ptrTo C] 1)::(C,.row [ptrTo bP,.slice (some ⟨bd,0,none⟩) l.nodes l.nodes,.slice (some ⟨ba,0,none⟩) l.nodes l.nodes,A,.map (some G)] 1)::(G,.map R c')::(ba,.row (ints E) 1)::(bd,.row (eV ((Xa l.nodes).map fun u=>if u=v then n else D u)) 1)::(W,.row [.slice none 0 0,.slice none 0 0,.slice none 0 0] 1)::dB dbs) (G':=[(A,1,eV (O++[v]))]) (.cons_cons _ (.cons_cons _ (List.sublist_cons_self _ _))) (List.Sublist.refl _);replace S:=S.permL (L':=[(a3,Ob.row [.int .i64 (n:Nat)] 1),(I,.row [ptrTo C] 1),(C,.row [ptrTo bP,.slice (some ⟨bd,0,none⟩) l.nodes l.nodes,.slice (some ⟨ba,0,none⟩) l.nodes l.nodes,A,.map (some G)] 1),(G,.map R c'),(ba,.row (ints E) 1),(bd,.row (eV ((Xa l.nodes).map fun u=>if u=v then n else D u)) 1),(W,.row [.slice none 0 0,.slice none 0 0,.slice none 0 0] 1)]++dB (db::dbs)) (.cons _ (by
        show(List.append [_,_,_,_,_,_] ((db,Ob.dfr)::dB dbs)).Perm _;exact List.perm_middle))
       clear T H' H2 J;have T:=S.baseF a2;refine step_ret (ui S.ok H3 (by omega)) ?_;rintro rr h3 ⟨v3,k3,cj,rfl,f3,H4,bX,bY⟩;replace S:=S.rebaseF (fun c t=>.inl (a4 c t).1) (T.stepF f3 (fun c t=>⟨.inl (.inr t),(a4 c t).2⟩));simp only [BZ,r11,seval];clear T;have T:=S;replace S:=S.base;simp only [LC]at S;refine aC (aA S (i:=0) rfl ?_ ?_ ?_ ono) ?_
       . exact(by simp only [FA0])
       . exact(by exact bR)
       . exact Xb (lbt rfl)
       clear S;rintro h ⟨S,mo⟩;clear mo;simp only [LC,ae,lay,Xi,Xj,seval]at S;simp only [BZ,seval];have H5:=H4.mo S.fr (fun c t w=>(a4 c t).2 w);replace S:=T.rebase S;subst hd;have c9:(O++[v]).length=O.length+1:=(by simp);have cz:=U.len;refine ih (O++[v]) _ _ _ (by omega) ⟨db::dbs,_,K',a2,R,c',_,E,A,a3,v3,k3,cj,rfl,S,a4,be,bu,bE,U,H5,bX,bY,?_⟩;refine(by simp [aw,r0,ah,r2,r3,r8,r9])
 . have e1:eV ((Xa l.nodes).map fun _=>FAR)=Xu l.nodes (.int .i64 72057594037927936):=(by rw [lj,XV,Xk,List.map_replicate];rfl);have e2:ints (Xu l.nodes (-1))=Xu l.nodes (.int .i64 (-1)):=(by rw [ints_map,List.map_replicate]);have S3:=S1.rebaseF (fun c t=>.inl (P c t).1) (S2.rebase S);have nn:=S2.fr.n;refine⟨[],fun _=>FAR,c8 (fun _=>none) s (some 0),F1,[],0,fun _=>none,Xu l.nodes (-1),.slice none 0 0,bk,v,k,b,rfl,?_,?_,by simp,rt,fun u=>by simp,dj,H3,a0,a1,?_⟩
   . rw [e1,e2];exact S3
   . rw [e1,e2];intro c t;refine⟨(P c t).1,fun w=>?_⟩;have Q:=(P c t).2;have h2:=bq c t;simp [keys,eZ,dB]at w Q;omega
   . refine(by simp [aw,ah,cD,dK])
theorem fromKey:KeyF zM 181 Arc.t:=by intro f a c;have S:=Si c;refine aa (n:=5) (rs:=[.tmp 2]) rfl Tryz.e181 rfl rfl rfl (lbt rfl) ?_;simp only [BZ,dw,seval];refine ac (bg (by intro x e;cases e)) S ?_;clear S;intro h b S d;simp only [ae]at S;simp only [BZ,ab,S.ld (b:=b) (o:=1) m0 rfl,seval];exact S.gr
theorem toKey:KeyF zM 180 Arc.s:=by intro f a c;have S:=Si c;refine aa (n:=5) (rs:=[.tmp 2]) rfl Tryz.e180 rfl rfl rfl (lbt rfl) ?_;simp only [BZ,dw,seval];refine ac (bg (by intro x e;cases e)) S ?_;clear S;intro h b S d;simp only [ae]at S;simp only [BZ,ab,S.ld (b:=b) (o:=0) m0 rfl,seval];exact S.gr
theorem fromNext{b:Gra}(a:Good b){c:Value}:NextF zM 130 b c Arc.s:=fun h g d e v f=>yi d e (by have:=a.many;omega) f
theorem toNext{b:Gra}(a:Good b){c:Value}:NextF zM 132 b c Arc.t:=fun h g d e v f=>Ay d e (by have:=a.many;omega) f
theorem sk{h0:Hp}(C:h0.t.Sized h0.n){j:Gra}(f:Good j){p:Value}{E:Nat}(F:aX h0 E p j){s:Nat}(G:s<j.nodes):
 Ret zM 88 [p,.int .i64 s] h0 fun r q=>Gr h0 q/\wE q h0.n r (seen j.arcs Arc.s Arc.t) s j.nodes:=by
 have S:=Si C;refine aa (n:=10) (rs:=[.cell 4 247]) rfl Tryz.e88 rfl rfl rfl (lbt rfl) ?_;simp only [BZ];refine ac ay S ?_;clear S;intro h k S t;simp only [BZ,seval];have H:=S.fr.n;have I:=(S.row (b:=k) m0).lt S.ok;refine step_ret (AY S.ok f (F.gr S.gr) G (fromNext f) fromKey (fun a J=>(f.arcs a J).2.1)) ?_;intro v h ⟨g,T⟩;replace S:=S.call g;clear g;obtain⟨u,w,y,D,K,O,rfl,z,A,B,t4,t5,t6,t7,t8⟩:=T;have L:=z.fl;have M:=A.fl;have N:=B.fl;have l: ∀c,aq u c\/aq w c\/aq y c->c≠k:=fun c d e=>by have:=t6 c d;omega
 simp only [BZ,seval];refine aC (S.store (i:=0) rfl Tryz.t247.2.1 (by intro x e;cases e) rfl (by simp only [ae,Xy,XA,L.2.1,M.2.1,N.2.1,Xn]) (lbt rfl) ono) ?_;clear S;rintro h ⟨S,m⟩;simp only [LC,ae,lay,Xi,Xj,seval]at S;simp only [BZ,ab];refine(bZ (by decide) (by simp only [aD,ah,seval];exact bN Tryz.t247.1 Tryz.t247.2.1 (S.lds (b:=k) (o:=0) (n:=3) m0 (lbt rfl)))).2 (cK.2 ?_);exact⟨S.gr,u,w,y,D,K,O,rfl,z.mo m (fun c d=>l c (.inl d)),A.mo m (fun c d=>l c (.inr (.inl d))),B.mo m (fun c d=>l c (.inr (.inr d))),t4,t5,fun c d=>zO H (t6 c d),t7,t8⟩
theorem rN{h0:Hp}(C:h0.t.Sized h0.n){j:Gra}(f:Good j){p:Value}{E:Nat}(F:aX h0 E p j){s:Nat}(G:s<j.nodes):
 Ret zM 87 [p,.int .i64 s] h0 fun r q=>Gr h0 q/\wE q h0.n r (seen j.arcs Arc.t Arc.s) s j.nodes:=by
 have S:=Si C;refine aa (n:=10) (rs:=[.cell 4 247]) rfl Tryz.e87 rfl rfl rfl (lbt rfl) ?_;simp only [BZ];refine ac ay S ?_;clear S;intro h k S t;simp only [BZ,seval];have H:=S.fr.n;have I:=(S.row (b:=k) m0).lt S.ok;refine step_ret (AY S.ok f (F.gr S.gr) G (toNext f) toKey (fun a J=>(f.arcs a J).1)) ?_;intro v h ⟨g,T⟩;replace S:=S.call g;clear g;obtain⟨u,w,y,D,K,O,rfl,z,A,B,t4,t5,t6,t7,t8⟩:=T;have L:=z.fl;have M:=A.fl;have N:=B.fl;have l: ∀c,aq u c\/aq w c\/aq y c->c≠k:=fun c d e=>by have:=t6 c d;omega
 simp only [BZ,seval];refine aC (S.store (i:=0) rfl Tryz.t247.2.1 (by intro x e;cases e) rfl (by simp only [ae,Xy,XA,L.2.1,M.2.1,N.2.1,Xn]) (lbt rfl) ono) ?_;clear S;rintro h ⟨S,m⟩;simp only [LC,ae,lay,Xi,Xj,seval]at S;simp only [BZ,ab];refine(bZ (by decide) (by simp only [aD,ah,seval];exact bN Tryz.t247.1 Tryz.t247.2.1 (S.lds (b:=k) (o:=0) (n:=3) m0 (lbt rfl)))).2 (cK.2 ?_);exact⟨S.gr,u,w,y,D,K,O,rfl,z.mo m (fun c d=>l c (.inl d)),A.mo m (fun c d=>l c (.inr (.inl d))),B.mo m (fun c d=>l c (.inr (.inr d))),t4,t5,fun c d=>zO H (t6 c d),t7,t8⟩
def wy(x:Int):Int:=min (max x 0) 72057594037927936
theorem BH{h0:Hp}(a:h0.t.Sized h0.n){b1 b2:Nat}{x:Int}(b:h0.load b1 0 1=some [.int .i64 0])(c:h0.load b2 0 1=some [.int .i64 72057594037927936]):aN zM 276 [.int .i64 x,ptrTo b1,ptrTo b2] h0 (.int .i64 (wy x)):=by have S:=Si a;refine aa (n:=10) (rs:=[.tmp 4]) rfl Tryz.e276 rfl rfl rfl (lbt rfl) ?_;simp only [BZ,ab,b,c,seval];exact⟨rfl,S.gr⟩
theorem CN{h0:Hp}(c:h0.t.Sized h0.n):Ret zM 255 [.int .i64 0,.int .i64 72057594037927936] h0 fun v h=>Gr h0 h/\ ∃b1 b2,v=.func (.func 276) #[] #[ptrTo b1,ptrTo b2]/\h.load b1 0 1=some [.int .i64 0]/\h.load b2 0 1=some [.int .i64 72057594037927936]:=by have S:=Si c;refine aa (n:=6) (rs:=[.tmp 4]) rfl Tryz.e255 rfl rfl rfl (lbt rfl) ?_;simp only [BZ,seval];refine ac (bg (by intro x e;cases e)) S ?_;clear S;intro h b1 S a;simp only [ae]at S;simp only [BZ,if_false,seval];refine ac (bg (by intro x e;cases e)) S ?_;clear S;intro h b2 S b;simp only [ae]at S;simp only [BZ,ab,seval];exact⟨S.gr,b1,b2,rfl,S.ld m1 rfl,S.ld m0 rfl⟩
theorem oI{h0:Hp}(a:h0.t.Sized h0.n){x:Int}:aN zM 216 [.int .i64 x] h0 (.int .i64 (wy x)):=by have S:=Si a;refine aa (n:=6) (rs:=[.tmp 2]) rfl Tryz.e216 rfl rfl rfl (lbt rfl) ?_;simp only [BZ];refine step_ret (CN S.ok) ?_;intro v h ⟨g,b1,b2,e,e1,e2⟩;replace S:=S.call g;clear g;subst e;simp only [BZ,seval];refine ag (BH S.ok e1 e2) ?_;intro h g;replace S:=S.call g;clear g;simp only [BZ,ab,seval];exact S.gr
theorem qs{h0:Hp}(a:h0.t.Sized h0.n){x:Int}:aN zM 215 [.int .i64 x] h0 (.bool (decide (wy x<72057594037927936))):=by have S:=Si a;refine aa (n:=6) (rs:=[.tmp 2]) rfl Tryz.e215 rfl rfl rfl (lbt rfl) ?_;simp only [BZ,seval];refine ag (oI S.ok) ?_;intro h g;replace S:=S.call g;clear g;simp only [BZ,ab,seval];exact S.gr
theorem wy_bd(x:Int):0<=wy x/\wy x<=72057594037927936:=by unfold wy;omega
theorem wy_id{x:Int}(h0:0<=x)(a:x<=72057594037927936):wy x=x:=by unfold wy;omega
end Go.Ab
end
section
namespace Go.Ab
structure YldP(E:Env)(lb:Nat)(J:Nat->Hp->List Nat->Prop)(n:Nat)(P:Nat->Hp->List Nat->List Value->Prop):Prop where
 lt: ∀i h F,J i h F->h.t.Sized h.n/\ ∀b∈F,b<h.n
 gr: ∀i h F h',J i h F->Gr h h'->J i h' F
 round: ∀i x h F,i<n->P i h F x->J i h F->kX E lb x h fun o h'=>o=.ret (.bool true)/\ ∃F',J (i+1) h' F'/\Mo (· ∈F) h h'/\ ∀b∈F',b∈F\/h.n<=b
def IterP(E:Env)(g:FuncId)(post:List Value)(h0:Hp)(D:Nat->Prop)(n:Nat)(P:Nat->Hp->List Nat->List Value->Prop):Prop:=
 ∀a J,YldP E a J n P-> ∀h F,ItS h0 D h F->J 0 h F->fZ E g (.func (.yield a) #[] #[]::post) none h fun o b c=>b=none/\ ∃u d,o=.ret u/\J n c d
theorem A6{E:Env}{cx:Cx}{o:Oper}{l:Loc}{K:Ex->Loc->Hp->Prop}{h0 h:Hp}{D:Nat->Prop}{e i n:Nat}{J:Nat->Hp->List Nat->Prop}{P:Nat->Hp->List Nat->List Value->Prop}{x:List Value}{F:List Nat}
 (Y:YldP E e J n P) (s:ItS h0 D h F) (f:J i h F) (g:i<n) (j:P i h F x)
 (k: ∀d F',J (i+1) d F'->ItS h0 D d F'->Mo (· ∈F) h d->(∀b∈F',b∈F\/h.n<=b)->K .normal (l.put o.dst (.bool true)) d):fJ E cx o l K (some (.yield e x,h)):=by
 refine wI (Y.round i x h F g j f) ?_;rintro q d ⟨rfl,F',a,b,c⟩;exact k d F' a (s.mo b c (Y.lt _ _ _ a).2) b c
def encV(w:Value):List Value:=[w]
theorem rM(w:Value):(encV w).length=1:=rfl
theorem xO(l:List Value):l.flatMap encV=l:=by
 induction l with
 |nil=>rfl|cons x l a=>rw [XO,a];rfl
def eR(h:Hp)(m:Nat)(v:Value)(n:Nat)(R:Nat->List Int):Prop:=
 ∃a:List Value,av h 1 encV v a/\a.length=n/\(∀c,aq v c->m<=c)/\ ∀i w,a[i]? =some w->av h 1 (encI .i64) w (R i)/\ ∀c,aq w c->m<=c
theorem eR.mo{M:Nat->Prop}{h k:Hp}{m n:Nat}{v:Value}{R:Nat->List Int}(r:eR h m v n R)(g:Mo M h k)(l: ∀b,M b->b<m):eR k m v n R:=by obtain⟨o,a,b,c,d⟩:=r;exact⟨o,a.mo g (fun x e f=>by have:=c x e;have:=l x f;omega),b,c,fun i w j=>⟨(d i w j).1.mo g (fun x e f=>by have:=(d i w j).2 x e;have:=l x f;omega),(d i w j).2⟩⟩
theorem eR.gr{h a:Hp}{m n:Nat}{v:Value}{R:Nat->List Int}(r:eR h m v n R)(g:Gr h a):eR a m v n R:=r.mo (M:=NoM) g.fr (fun _ h=>h.elim)
theorem eR.low{h:Hp}{m f n:Nat}{v:Value}{R:Nat->List Int}(r:eR h m v n R)(g:f<=m):eR h f v n R:=by obtain⟨k,a,b,c,d⟩:=r;exact⟨k,a,b,fun x e=>zO g (c x e),fun i w j=>⟨(d i w j).1,fun x e=>zO g ((d i w j).2 x e)⟩⟩
theorem eR.row{h:Hp}{m n:Nat}{v:Value}{R:Nat->List Int}(r:eR h m v n R){i:Nat}(k:i<n): ∃w,(∃c o,kV (some 1) v (.int .i64 (i:Nat))=some (.pointer (some ⟨c,o,none⟩))/\h.load c o 1=some [w])/\av h 1 (encI .i64) w (R i)/\ ∀c,aq w c->m<=c:=by obtain⟨e,a,b,c,d⟩:=r;obtain⟨q,o,g,j⟩:=a.ix (kd:=.i64) rM (i:=i) (by omega);have f:e[i]? =some e[i]:=Xf (by omega);exact⟨e[i],⟨q,o,g,j⟩,(d i _ f).1,(d i _ f).2⟩
theorem flat_nat(l:List Nat):l.flatMap cq=(l.map fun(x:Nat)=>(x:Int)).flatMap (encI .i64):=by
 induction l with
 |nil=>rfl|cons x l a=>rw [XO,X5,XO,a];rfl
theorem vV{h:Hp}{v:Value}{l:List Nat}(s:av h 1 cq v l):av h 1 (encI .i64) v (l.map fun(x:Nat)=>(x:Int)):=by
 rcases s with⟨rfl,rfl⟩|⟨b,o,s,c,rfl,d,a⟩
 . exact .inl ⟨rfl,rfl⟩
 . refine .inr ⟨b,o,s,c,by grind,by grind,?_⟩;rw [Xv,a,flat_nat]
def eJ(N:Nat)(l:List Int):Prop:=l.length<=16/\ ∀i,i<l.length->0<=l.getD i 0/\l.getD i 0<N/\l.getD i 0∉l.take i
theorem eJ.push{N:Nat}{l:List Int}(h:eJ N l)(d:l.length<16){x:Int}(h0:0<=x)(f:x<N)(g:x∉l):eJ N (l++[x]):=by
 refine⟨by simp;omega,fun i b=>?_⟩;simp at b;by_cases e:i=l.length
 . grind
 . have a:i<l.length:=(by omega);have c:(l++[x]).getD i 0=l.getD i 0:=(by grind);rw [c,List.take_append_of_le_length (by omega)];exact h.2 i a
theorem vg(N:Nat):eJ N []:=⟨by simp,fun i a=>by simp at a⟩
structure TabAt(h:Hp)(m:Nat)(p:Value)(N:Nat)(marks:List Int)(R Q:Nat->List Int):Prop where
 ex: ∃b vM vT vF,p=ptrTo b/\Row h b [.int .i64 N,vM,vT,vF] 1/\av h 1 (encI .i64) vM marks/\eR h m vT marks.length R/\eR h m vF marks.length Q/\m<=b/\ ∀c,aq vM c->m<=c
theorem TabAt.mo{M:Nat->Prop}{h c:Hp}{m N:Nat}{p:Value}{a:List Int}{R Q:Nat->List Int}(t:TabAt h m p N a R Q)(g:Mo M h c)(d: ∀b,M b->b<m):TabAt c m p N a R Q:=by obtain⟨b,f,i,j,e,k,l,n,q,r,s⟩:=t.ex;exact⟨b,f,i,j,e,g.has (o:=.row _ 1) k (fun h=>by grind),l.mo g (fun x u v=>by grind),n.mo g d,q.mo g d,r,s⟩
theorem TabAt.gr{h b:Hp}{m N:Nat}{p:Value}{a:List Int}{R Q:Nat->List Int}(t:TabAt h m p N a R Q)(g:Gr h b):TabAt b m p N a R Q:=t.mo (M:=NoM) g.fr (fun _ h=>h.elim)
theorem eR.lenq{h c:Hp}{m n:Nat}{v:Value}{R:Nat->List Int}{e:TypeId}(r:eR c m v n R):oU (some (.slice e)) h v=some (.val (.int .i64 n),h):=by have⟨d,a,b,_⟩:=r;rw [<-b];exact a.lenq
end Go.Ab

end
section
namespace Go.Ab
open Go.Proofs
set_option maxRecDepth 10000
theorem may1_ok{h0:Hp}(y:h0.t.Sized h0.n){b5 b2 b c N k:Nat}{x:Int}{p:List (Value×Value×Nat)}{f:Int->Option Value}(q:h0.load b5 0 1=some [.map (some b)])(A:h0.load b2 0 1=some [.int .i64 N])(s:h0.get b=some (.map p c))(t:d6 p c f)(hf:(f x).getD (.int .i64 0)=.int .i64 k)(F:k<=1)(B:b5≠b)(C:b2≠b):
 Ret zM 175 [.int .i64 x,ptrTo b5,ptrTo b2] h0 fun r u=>Mo (· =b) h0 u/\r=.bool (decide (x<0\/(N:Int)<=x\/k=1))/\ ∃es' c',u.get b=some (.map es' c')/\d6 es' c' (eI f x (some (.int .i64 (k+1:Nat)))):=by
 have S:=St.init1 y (o:=.map p c) s;have v:=qR (x:=x) Tryz.t232.1 Tryz.t3.1 (z:=.int .i64 0) (by kernel_rfl) s t;rw [hf]at v;have w:am .i64 ((k:Int)+1)=((k+1:Nat):Int):=by rw [wrap64]<;>omega
 refine aa (n:=22) (rs:=[.tmp 4]) rfl Tryz.e175 rfl rfl rfl (lbt rfl) ?_;simp only [BZ,q,v,w,seval];refine aC (S.mputI (i:=0) rfl Tryz.t232.1 Tryz.t3.1 t _) ?_;clear S;rintro h ⟨_,es',c',a,S⟩;simp only [LC]at S;have j:=S.old q B;have d:=S.old A C;have l:h.get b=some (.map es' c'):=(S.own _ m0).2;have e:=qR (x:=x) Tryz.t232.1 Tryz.t3.1 (z:=.int .i64 0) (by kernel_rfl) l a;rw [show eI f x (some (.int .i64 ((k+1:Nat):Int))) x=some (.int .i64 ((k+1:Nat):Int)) by unfold eI;rw [if_pos rfl],Option.getD_some]at e;by_cases g:x<0
 . simp only [BZ,ab,g,seval];exact⟨S.fr,by simp [g],es',c',l,a⟩
 . by_cases m:(N:Int)<=x
   . simp only [BZ,ab,d,g,m,seval];exact⟨S.fr,by simp [m],es',c',l,a⟩
   . by_cases D:k=1
     . subst D;simp only [BZ,ab,Xe,j,d,g,m,e,seval];exact⟨S.fr,by simp,es',c',l,a⟩
     . have E:k=0:=(by omega);subst E;simp only [BZ,ab,Xe,j,d,g,m,e,seval];exact⟨S.fr,by simp [g,m],es',c',l,a⟩
def OkAt(N:Nat)(l:List Int)(i:Nat):Prop:=0<=l.getD i 0/\l.getD i 0<N/\l.getD i 0∉l.take i
theorem mayIdx_ok {h0:Hp} (U:h0.t.Sized h0.n) {b5 b2 a N:Nat} {v:Value} {l:List Int} (y:av h0 1 (encI .i64) v l) (hl:l.length<=1000) (V:h0.load b5 0 1=some [.map (some a)]) (A:h0.load b2 0 1=some [.int .i64 N]) (J:h0.get a=some (.map [] 0)) (K:b5≠a) (L:b2≠a):
 Ret zM 238 [v,.func (.func 175) #[] #[ptrTo b5,ptrTo b2]] h0 fun r M=>Mo (· =a) h0 M/\ ∃z,r=.int .i64 z/\(0<=z↔ ¬ ∀i,i<l.length->OkAt N l i):=by
 have B: ∀c,aq v c-> ¬c=a:=by
  rintro c O rfl;rcases y with⟨rfl,_⟩|⟨b,o,s,P,rfl,_,W⟩
  . exact O.elim
  . have:b=c:=O;subst this;simp [Hp.load,J]at W
 refine aa (n:=19) (rs:=[.tmp 4]) rfl Tryz.e238 rfl rfl rfl (lbt rfl) ?_;simp only [BZ,y.lenq,seval];refine aV (fun(i:Nat) g h=>i<=l.length/\Mo (· =a) h0 h/\(∃C c f,h.get a=some (.map C c)/\d6 C c f/\ ∀x,f x=if x∈l.take i then some (.int .i64 1)else none)/\(∀j,j<i->OkAt N l j)/\g 0=v/\g 1=.func (.func 175) #[] #[ptrTo b5,ptrTo b2]/\g 7=.int .i64 l.length/\g 8=.int .i64 i) (fun i=>l.length-i) ?_ 0 _ _ ?_
 . intro i X g h ⟨hi,mo,⟨C,c,f,hg,MI,hf⟩,hok,r0,r1,r7,r8⟩;by_cases hlt:i<l.length
   . obtain ⟨q,o,m,D⟩:=(y.mo mo B).ix (kd:=.i64) (bG .i64) hlt;have w:am .i64 ((i:Int)+1)=((i+1:Nat):Int):=(by rw [wrap64]<;>omega);have Q: ∀{b:Nat} {x},b≠a->h0.load b 0 1=some x->h.load b 0 1=some x:=fun E e=>(by have:=mo.get _ (bC mo.ok0 e) E;unfold Hp.load at e⊢;rw [this];exact e);have F:l.getD i 0=l[i]:=(by simp [Xc,hlt]);simp only [BZ,r0,r1,r7,r8,az,hlt,m,D,encI,seval];refine step_ret (may1_ok mo.ok (x:=l[i]) (N:=N) (k:=if l[i]∈l.take i then 1 else 0) (Q K V) (Q L A) hg MI (by rw [hf];split<;>rfl) (by split<;>omega) K L) ?_;rintro r M ⟨Y,rfl,G,P,H,I⟩;have p:=mo.trans Y (fun _ h=>.inl h);by_cases d:OkAt N l i
     . have e:decide (l[i]<0\/(N:Int)<=l[i]\/(if l[i]∈l.take i then 1 else 0)=1)=false:=(by obtain⟨Z,w2,R⟩:=d;rw [F]at Z w2 R;rw [if_neg R];simp;omega);rw [e];have t:l[i]∉l.take i:=(by have:=d.2.2;rwa [F]at this);simp only [BZ,r8,w,seval];refine X (i+1) _ _ (by omega) ⟨by omega,p,⟨G,P,_,H,I,fun x=>?_⟩,fun j S=>?_,by simp [aw,r0,r1,ah,r7]⟩
       . have T:=Xd hlt;rw [if_neg t];unfold eI;by_cases u:x=l[i]
         . rw [if_pos u,if_pos (by rw [T];exact Xx _ (List.mem_singleton.2 u))];rfl
         . rw [if_neg u,hf];have:x∈l.take (i+1)↔x∈l.take i:=(by rw [T,List.mem_append,List.mem_singleton];exact⟨fun h=>h.resolve_right u,.inl⟩);simp only [this]
       . by_cases A:j=i
         . subst A;exact d
         . exact hok j (by omega)
     . have e:decide (l[i]<0\/(N:Int)<=l[i]\/(if l[i]∈l.take i then 1 else 0)=1)=true:=by
        unfold OkAt at d;rw [F]at d;simp only [decide_eq_true_eq];by_cases t:l[i]∈l.take i
        . rw [if_pos t];exact .inr (.inr rfl)
        . by_cases a1:l[i]<0
          . exact .inl a1
          . by_cases a2:(N:Int)<=l[i]
            . exact .inr (.inl a2)
            . exact absurd ⟨by omega,by omega,t⟩ d
       rw [e];simp only [BZ,ab,seval];exact⟨p,_,rfl,by simp only [Int.natCast_nonneg,true_iff];exact fun h=>d (h i hlt)⟩
   . simp only [BZ,ab,r7,r8,az,hlt,seval];exact⟨mo,_,rfl,⟨fun h=>by omega,fun h=>absurd (fun j S=>hok j (by omega)) h⟩⟩
 . exact⟨Xt _,Mo.refl U,⟨[],0,fun _=>none,J,rt,fun x=>by simp⟩,fun j S=>by omega,by simp [aw,cD,dK,ah]⟩
noncomputable instance mayDec(N:Nat)(l:List Int):Decidable (eJ N l):=Classical.propDecidable _
theorem mayCf_ok{h0:Hp}(g:h0.t.Sized h0.n){b5 b2 a N:Nat}{v:Value}{l:List Int}(j:av h0 1 (encI .i64) v l)(k:l.length<=1000)(m:h0.load b5 0 1=some [.map (some a)])(o:h0.load b2 0 1=some [.int .i64 N])(p:h0.get a=some (.map [] 0))(q:b5≠a)(s:b2≠a)(d:Decidable (∀i,i<l.length->OkAt N l i)):
 Ret zM 176 [v,.func (.func 175) #[] #[ptrTo b5,ptrTo b2]] h0 fun r t=>Mo (· =a) h0 t/\r=.bool (!decide (∀i,i<l.length->OkAt N l i)):=by
 refine aa (n:=9) (rs:=[.tmp 4]) rfl Tryz.e176 rfl rfl rfl (lbt rfl) ?_;simp only [BZ,seval];refine step_ret (mayIdx_ok g j k m o p q s) ?_;rintro r h ⟨e,z,rfl,f⟩;by_cases c: ∀i,i<l.length->OkAt N l i
 . have b: ¬(0<=z):=fun h=>f.1 h c;simp only [BZ,ab,b,seval];exact⟨e,by rw [decide_eq_true c];rfl⟩
 . have b:0<=z:=f.2 c;simp only [BZ,ab,b,seval];exact⟨e,by rw [decide_eq_false c];rfl⟩
theorem may_ok{h0:Hp}(s:h0.t.Sized h0.n){v:Value}{l:List Int}{N:Nat}(g:av h0 1 (encI .i64) v l)(t:l.length<=1000):aN zM 83 [.int .i64 N,v] h0 (.bool (decide (eJ N l))):=by
 have S:=Si s;refine aa (n:=18) (rs:=[.tmp 4]) rfl Tryz.e83 rfl rfl rfl (lbt rfl) ?_;simp only [BZ,seval];refine ac (bg (by intro x e;cases e)) S ?_;clear S;intro h u S p;simp only [ae]at S;simp only [BZ];refine ac qQ S ?_;clear S;intro h A S a;simp only [BZ];refine ac ay S ?_;clear S;intro h w S q;simp only [BZ,seval];refine aC (aA S (i:=0) rfl ?_ ?_ ?_ ono) ?_
 . exact(by simp only [FA0])
 . exact(by exact fl_map)
 . exact Xb (lbt rfl)
 clear S;rintro h ⟨S,j⟩;clear j;simp only [LC,ae,lay,Xi,Xj,seval]at S;by_cases f:l.length<=16
 . have k:(l.length:Int)<=16:=(by omega);simp only [BZ,g.lenq,k,seval];have m:=S.apart;simp only [keys,X5,List.map_nil,List.filterMap_nil,List.append_nil,List.nodup_cons,X6,List.not_mem_nil,or_false,not_or]at m;have d:Decidable (∀i,i<l.length->OkAt N l i):=Classical.propDecidable _;refine step_ret (mayCf_ok S.ok (g.gr S.gr) t (S.ld (b:=w) (o:=0) m0 rfl) (S.ld (b:=u) (o:=0) m2 rfl) (S.own _ m1).2 m.1.1 (fun e=>m.2.1 e.symm) d) ?_;rintro r h ⟨j,rfl⟩;have y:Gr h0 h:=(S.fr.trans j (fun c z=>.inr (by subst z;exact a)):Mo NoM h0 h).gr;simp only [BZ,ab,seval];refine⟨?_,y⟩;congr 1;by_cases c: ∀i,i<l.length->OkAt N l i
   . have:eJ N l:=⟨f,c⟩;rw [decide_eq_true c,decide_eq_true this];rfl
   . have: ¬eJ N l:=fun h=>c h.2;rw [decide_eq_false c,decide_eq_false this];rfl
 . have k: ¬(l.length:Int)<=16:=(by omega);simp only [BZ,ab,g.lenq,k,seval];exact⟨by have: ¬eJ N l:=fun h=>f h.1;simp [this],S.gr⟩
open Classical in
noncomputable def dOf(B:List Arc)(s v:Nat):Nat:=if h: ∃x,IsD B s v x then h.choose else 0
theorem vu{B:List Arc}{s v x:Nat}(h:IsD B s v x):dOf B s v=x/\IsD B s v (dOf B s v):=by
 have a: ∃x,IsD B s v x:=⟨x,h⟩;have e:dOf B s v=a.choose:=by unfold dOf;rw [dif_pos a]
 rw [e];exact⟨a.choose_spec.uniq h,a.choose_spec⟩
noncomputable def oV(B:List Arc)(N s:Nat):List Int:=(Xa N).map fun v=>((dOf B s v:Nat):Int)
theorem rowD_of{B:List Arc}{N s:Nat}{D:Nat->Nat}(h: ∀v,IsD B s v (D v)):((Xa N).map D).map (fun(x:Nat)=>(x:Int))=oV B N s:=by unfold oV;rw [XS];refine X7 fun v _=>?_;show((D v:Nat):Int)=_;rw [(vu (h v)).1]
def RunF(E:Env)(g:FuncId)(a:Gra)(b:Value)(B:List Arc):Prop:= ∀(h:Hp) (d:Nat),h.t.Sized h.n->aX h d b a-> ∀s,s<a.nodes->Ret E g [b,.int .i64 (s:Nat)] h fun r c=>Gr h c/\wE c h.n r B s a.nodes
theorem runTo{a:Gra}(b:Good a){c:Value}:RunF zM 87 a c (seen a.arcs Arc.t Arc.s):=fun h g d e s f=>rN d b e f
theorem runFrom{a:Gra}(b:Good a){c:Value}:RunF zM 88 a c (seen a.arcs Arc.s Arc.t):=fun h g d e s f=>sk d b e f
def PRow(m:Nat)(R:Nat->List Int)(i:Nat)(h:Hp)(F:List Nat)(x:List Value):Prop:= ∃w,x=[w]/\av h 1 (encI .i64) w (R i)/\ ∀c,aq w c->m<=c/\c∉F
theorem rows_ok{h0:Hp}(i:h0.t.Sized h0.n){p f g:Value}(j:Fl p)(k:Fl f)(l:Fl g):Ret zM 86 [p,f,g] h0 fun v e=>Gr h0 e/\ ∃b1 b2 a,v=.func (.func 178) #[] #[ptrTo b1,ptrTo b2,ptrTo a]/\h0.n<=b1/\h0.n<=b2/\h0.n<=a/\e.load b1 0 1=some [f]/\e.load b2 0 1=some [g]/\e.load a 0 1=some [p]:=by have S:=Si i;refine aa (n:=8) (rs:=[.tmp 6]) rfl Tryz.e86 rfl rfl rfl (lbt rfl) ?_;simp only [BZ,seval];refine ac (bW (by assumption)) S ?_;clear S;intro h a S b;simp only [BZ,if_false,seval];refine ac (bW (by assumption)) S ?_;clear S;intro h b1 S c;simp only [BZ,if_false,seval];refine ac (bW (by assumption)) S ?_;clear S;intro h b2 S d;simp only [BZ,ab,seval];exact⟨S.gr,b1,b2,a,rfl,c,d,b,S.ld m1 rfl,S.ld m0 rfl,S.ld m2 rfl⟩
theorem rows_it{hq h0:Hp}(z:hq.t.Sized hq.n)(d:h0.t.Sized h0.n)(P:eP hq h0)(Q:hq.n<=h0.n){u j:Value}{f:Gra}{A b1 b2 p m:Nat}(R:aX hq A u f){l:List Int}(E:av h0 1 (encI .i64) j l)(C: ∀i,i<l.length->0<=l.getD i 0/\l.getD i 0<f.nodes)(G:l.length<1000){g:FuncId}{B:List Arc}(S:RunF zM g f u B)(T:m<=h0.n)
 (U:h0.load b1 0 1=some [j]) (V:h0.load b2 0 1=some [.func (.func g) #[] #[]]) (W:h0.load p 0 1=some [u]):
 IterP zM 178 [ptrTo b1,ptrTo b2,ptrTo p] h0 (fun c=>c=b1\/c=b2\/c=p\/aq j c\/c<hq.n) l.length (PRow m fun i=>oV B f.nodes (l.getD i 0).toNat):=by
 intro X J Y h F s x;refine enter (n:=22) (rs:=[]) rfl Tryz.e178 rfl rfl rfl (lbt rfl) ?_;have H:=s.load d U (.inl rfl);simp only [BZ,H,E.lenq,seval];refine aV (fun(i:Nat) e h=>i<=l.length/\ ∃F,ItS h0 (fun c=>c=b1\/c=b2\/c=p\/aq j c\/c<hq.n) h F/\J i h F/\e 0=.func (.yield X) #[] #[]/\e 2=ptrTo b2/\e 3=ptrTo p/\e 7=j/\e 8=.int .i64 l.length/\e 9=.int .i64 i) (fun i=>l.length-i) ?_ 0 _ _ ?_
 . clear H;intro i Z e h ⟨hi,F,s,x,r0,r2,r3,r7,r8,r9⟩;by_cases hlt:i<l.length
   . obtain⟨c,o,q,r⟩:=(s.sl d E (fun b h=>.inr (.inr (.inr (.inl h))))).ix (kd:=.i64) (bG .i64) hlt;have l2:=s.load d V (.inr (.inl rfl));have l3:=s.load d W (.inr (.inr (.inl rfl)));have nt:aX h A u f:=R.keep z (s.keep P Q (fun c y=>.inr (.inr (.inr (.inr y)))));have w:am .i64 ((i:Int)+1)=((i+1:Nat):Int):=(by rw [wrap64]<;>omega);have I:l.getD i 0=l[i]:=(by simp [Xc,hlt]);have K:=C i hlt;rw [I]at K;obtain⟨mk,t⟩: ∃k:Nat,l[i]=k:=⟨l[i].toNat,by omega⟩;rw [t]at r K;simp only [BZ,r0,r2,r3,r7,r8,r9,az,hlt,q,r,encI,l2,l3,seval];refine step_ret (S h A s.ok nt mk (by omega)) ?_;rintro v L ⟨M,N,vA,vO,D,aL,O,rfl,s1,s2,s3,t4,t5,t6,t7,t8⟩;simp only [BZ,seval];refine A6 Y (s.gr M) (Y.gr _ _ _ _ x M) (i:=i) hlt ⟨N,rfl,?_,fun c y=>⟨?_,fun hF=>?_⟩⟩ ?_
     . have:=vV s1;rw [rowD_of t5]at this;show av L 1 _ N (oV B f.nodes (l.getD i 0).toNat);rw [I,t];exact this
     . exact zO T (zO s.n (t6 c (.inl y)))
     . have h1:=s.lt c hF;have L:=t6 c (.inl y);omega
     . intro h' F' a s' _ _;simp only [BZ,r9,w,seval];exact Z (i+1) _ _ (by omega) ⟨by omega,F',s',a,by simp [aw,r0,r2,ah,r3,r7,r8]⟩
   . simp only [BZ,r8,r9,az,hlt,seval];have:i=l.length:=(by omega);subst this;exact cy (cJ ⟨rfl,_,rfl,rfl,_,F,rfl,x⟩)
 . exact⟨by omega,F,s,x,by simp [aw,dh,ah]⟩
theorem Av {h0:Hp} (ok:h0.t.Sized h0.n) {g:FuncId} {post:Array Value} {D:Nat->Prop} {n m:Nat} {R:Nat->List Int} (it:IterP zM g post.toList h0 D n (PRow m R)) (G:m<=h0.n) (hn:n<1000):
 Ret zM 177 [.slice none 0 0,.func (.func g) #[] post] h0 fun r t=>Gr h0 t/\eR t m r n R:=by
 have S:=Si ok;refine aa (n:=13) (rs:=[.tmp 4]) rfl Tryz.e177 rfl rfl rfl (lbt rfl) ?_;simp only [BZ,seval];refine ac (bW (by exact bO)) S ?_;clear S;intro h v S W;simp only [BZ,if_false,seval];replace S:=S.nilG (k:=1);have g0:=S.gr;refine hZ S (g:=g) (a:=#[]) (b:=post) (by simp [bA,aw,cD,dK]) rfl rfl ?_;intro Y C y z af ai g2;obtain⟨X,Z,z⟩: ∃X:fu,X=_/\St NoM h0 Y [(y,.loop X),(C,.dfr),(v,.row [.slice none 0 0] 1)] [(.slice none 0 0,1,[])]:=⟨_,rfl,z⟩;have hJ:YldP zM y (fun k t F=> ∃(f:List Value) (p:Value),St NoM h0 t [(y,.loop X),(C,.dfr),(v,.row [p] 1)] [(p,1,f)]/\f.length=k/\k<=n/\(∀i w,f[i]? =some w->av t 1 (encI .i64) w (R i)/\ ∀c,aq w c->m<=c/\c∉F)/\F=keys [(y,.loop X),(C,.dfr),(v,.row [p] 1)] [(p,1,f)]) n (PRow m R):=by
  refine⟨?_,?_,?_⟩
  . rintro i h F ⟨f,p,S,_,_,_,rfl⟩;exact⟨S.ok,fun b A=>S.key_lt A⟩
  . rintro i h F t ⟨f,p,S,a,b,c,rfl⟩ gg;exact⟨f,p,S.call gg,a,b,fun i w l=>⟨(c i w l).1.gr gg,(c i w l).2⟩,rfl⟩
  . rintro i x hR F hi ⟨w,rfl,sw,l⟩ ⟨f,p,S,a,b,c,rfl⟩;subst Z;obtain⟨J,K,N,rfl⟩:=sw.form;have fw:Fl (.slice J K N):=bO;refine ia (S.get m0) (by rw [Tryz.e177];rfl) rfl ?_;have P:=S;replace S:=S.base;simp only [BZ,seval];refine fU S (i:=0) rfl rfl rfl rfl rfl ?_;clear S;intro h S;simp only [LC]at S;simp only [BZ,S.ld (b:=v) (o:=0) m2 rfl,seval];refine ac (bV (by exact Tryz.t82.1) (by exact Tryz.e23E) (by decide) (by rfl)) S ?_;clear S;intro h bs S ad;simp only [LC,a9,bQ,ae,Xl,Xm,Xo,Xq,seval]at S;simp only [BZ,seval];have H:aR h 1 (.slice (some ⟨bs,0,none⟩) 1 1)=some (1,[.slice J K N]):=(by simp only [aR];rw [S.lds (b:=bs) (o:=0) (n:=1*1) m0 (lbt rfl)];rfl);replace S:=S.drop1;refine dP (S.grow (j:=0) (m:=1) (new:=[.slice J K N]) rfl Tryz.t82.1 Tryz.e23E (by decide) Tryz.t82.2.2.2.2.2 H rfl (by decide) (by simp [fw.2.1]) (by simp;omega)) ?_;clear S H;rintro h q S;simp only [LC]at S;have fv:Fl q:=by
     rcases(S.gown _ m0).1 with⟨e,_⟩|⟨_,_,e,_⟩
     . rw [show q=_ from e];exact bO
     . rw [show q=_ from e];exact bO
    simp only [BZ,seval];refine aC (aA S (i:=2) rfl Tryz.t82.2.2.1 fv (Xb (lbt rfl)) ono) ?_;clear S;rintro h ⟨S,_⟩;simp only [LC]at S;simp only [BZ];refine eg S (i:=0) rfl ?_;clear S;intro h S;simp only [LC]at S;refine⟨rfl,_,⟨f++[.slice J K N],q,P.rebase S,by simp [a],by omega,fun j u E=>?_,rfl⟩,S.fr,S.key_new⟩;have s:av h 1 (encI .i64) u (R j)/\ ∀c,aq u c->m<=c/\c∉keys [(y,Ob.dfr),(C,.dfr),(v,.dfr)] [(p,1,f)]/\c<hR.n:=by
     by_cases hj:j<f.length
     . rw [XQ hj]at E;obtain⟨O,B⟩:=c j u E;exact⟨O.mo S.fr (fun x d I=>(B x d).2 I),fun x d=>⟨(B x d).1,(B x d).2,O.lt P.ok d⟩⟩
     . rw [XL (by omega)]at E;have Q:j-f.length=0:=(by have:=(List.getElem?_eq_some_iff.1 E).1;simp at this;omega);rw [Q]at E;cases E;have:j=f.length:=(by omega);subst this;rw [a];exact⟨sw.mo S.fr (fun x d I=>(l x d).2 I),fun x d=>⟨(l x d).1,(l x d).2,sw.lt P.ok d⟩⟩
    refine⟨s.1,fun x d=>⟨(s.2 x d).1,fun G=>?_⟩⟩;rcases S.key_new x G with h1|h1
    . exact(s.2 x d).2.1 h1
    . have:=(s.2 x d).2.2;omega
 refine eH (it y _ hJ Y _ ?_ ⟨[],_,z,rfl,Xt _,fun i w l=>by simp at l,rfl⟩) ?_
 . exact⟨z.ok,z.fr.n,fun b A _=>z.gr.get b A,fun b A h=>by have:=(z.key_own A).elim (fun h=>h) (fun h=>h.elim);omega,fun b A=>z.key_lt A⟩
 . rintro o rc t ⟨rfl,u,F,rfl,f,p,T,a,_,c,rfl⟩;subst Z;refine⟨_,T.get m0,XU,?_⟩;have U: ∀i w,f[i]? =some w->av (t.put y .dead) 1 (encI .i64) w (R i)/\ ∀c,aq w c->m<=c/\c∉keys [(C,.dfr),(v,.row [p] 1)] [(p,1,f)]:=fun i w l=>(by obtain⟨O,B⟩:=c i w l;exact⟨O.mo ((Mo.refl (M:=(· =y)) T.ok).put (.inr rfl) .dead) (fun x d e=>(B x d).2 (by rw [e];exact m0)),fun x d=>⟨(B x d).1,fun G=>(B x d).2 (Xg _ G)⟩⟩);replace T:=T.dead;have S:=T;show Run _ _ _ _ _ _ _ _;simp only [BZ,S.ld (b:=v) (o:=0) m1 rfl,seval];refine dJ (gu [C] _ (L:=[(v,_)]) T.base fun h3 V=>⟨rfl,_,rfl,?_⟩);refine⟨(T.fr.trans V.fr (fun c hc=>(T.key_own hc).symm):Mo NoM h0 h3).gr,f,?_,a,fun x d=>?_,fun i w l=>⟨(U i w l).1.mo V.fr (fun x d I=>((U i w l).2 x d).2 I),fun x d=>((U i w l).2 x d).1⟩⟩
   . exact(V.gown _ m0).1.sl (xO f).symm rM (by decide)
   . exact zO G (((T.gblk m0 d).1).elim (fun h=>h) (fun h=>h.elim))
theorem wA{h0:Hp}(b:h0.t.Sized h0.n){g:FuncId}{post:Array Value}{D:Nat->Prop}{n m:Nat}{R:Nat->List Int}(c:IterP zM g post.toList h0 D n (PRow m R))(d:m<=h0.n)(e:n<1000):
 Ret zM 85 [.func (.func g) #[] post] h0 fun r a=>Gr h0 a/\eR a m r n R:=by
 have S:=Si b;refine aa (n:=5) (rs:=[.tmp 2]) rfl Tryz.e85 rfl rfl rfl (lbt rfl) ?_;simp only [BZ,seval];refine step_ret (Av S.ok c d e) ?_;intro v h ⟨g,L⟩;replace S:=S.call g;clear g;simp only [BZ,ab,seval];exact⟨S.gr,L⟩
noncomputable def toR(a:Gra)(l:List Int)(i:Nat):List Int:=oV (seen a.arcs Arc.t Arc.s) a.nodes (l.getD i 0).toNat
noncomputable def frR(a:Gra)(l:List Int)(i:Nat):List Int:=oV (seen a.arcs Arc.s Arc.t) a.nodes (l.getD i 0).toNat
theorem tabOf_ok{h0:Hp}(z:h0.t.Sized h0.n){k:Gra}(q:Good k){A G:Value}{I:Nat}(t:aX h0 I A k){l:List Int}(o:av h0 1 (encI .i64) G l)(f:l.length<1000):
 Ret zM 35 [A,G] h0 fun r H=>Gr h0 H/\((¬eJ k.nodes l/\r=.pointer none)\/(eJ k.nodes l/\TabAt H h0.n r k.nodes l (toR k l) (frR k l))):=by
 have S:=Si z;obtain⟨N,rfl⟩: ∃b,A=ptrTo b:=by obtain⟨b,_,_,_,_,_,e,_⟩:=t.ex;exact⟨b,e⟩
 refine aa (n:=28) (rs:=[.tmp 4]) rfl Tryz.e35 rfl rfl rfl (lbt rfl) ?_;simp only [BZ,seval];refine ag (bS S.ok (t.gr S.gr)) ?_;intro h g;replace S:=S.call g;clear g;simp only [BZ,seval];refine ag (may_ok S.ok (o.gr S.gr) (by omega)) ?_;intro h g;replace S:=S.call g;clear g;by_cases j:eJ k.nodes l
 . have B:decide (eJ k.nodes l)=true:=decide_eq_true j;simp only [BZ,B,seval];refine ag (bS S.ok (t.gr S.gr)) ?_;intro h g;replace S:=S.call g;clear g;simp only [BZ,seval];have J:=S.fr.n;refine step_ret (iU S.ok (bG .i64) (o.gr S.gr) (by omega)) ?_;intro v h ⟨g,d,hM⟩;replace S:=S.call g;clear g;rename Value=>vM;obtain⟨O,P,Q,rfl⟩:=d.form;simp only [BZ,seval];refine step_ret (rows_ok S.ok cP o.fl fT) ?_;intro v h ⟨g,b1,b2,b3,e,q1,q2,q3,y1,y2,y3⟩;replace S:=S.call g;replace d:=d.gr g;clear g;subst e;simp only [BZ,seval];have y:=rows_it z S.ok S.gr.keep S.fr.n t (o.gr S.gr) (fun i u=>⟨(j.2 i u).1,(j.2 i u).2.1⟩) f (runTo q) (m:=h0.n) S.fr.n y1 y2 y3;refine step_ret (wA S.ok y S.fr.n f) ?_;intro v h ⟨g,p⟩;replace S:=S.call g;replace d:=d.gr g;clear g;rename Value=>vT;obtain⟨R,T,U,rfl⟩: ∃a n c,vT=.slice a n c:=(by obtain⟨_,s,_⟩:=p;exact s.form);clear y y1 y2 y3 q1 q2 q3;simp only [BZ,seval];refine step_ret (rows_ok S.ok cP o.fl fT) ?_;intro v h ⟨g,b1,b2,b3,e,q1,q2,q3,y1,y2,y3⟩;replace S:=S.call g;replace d:=d.gr g;replace p:=p.gr g;clear g;subst e;simp only [BZ,seval];have y:=rows_it z S.ok S.gr.keep S.fr.n t (o.gr S.gr) (fun i u=>⟨(j.2 i u).1,(j.2 i u).2.1⟩) f (runFrom q) (m:=h0.n) S.fr.n y1 y2 y3;refine step_ret (wA S.ok y S.fr.n f) ?_;intro v h ⟨g,L2⟩;replace S:=S.call g;replace d:=d.gr g;replace p:=p.gr g;clear g;rename Value=>vF;obtain⟨V,W,X,rfl⟩: ∃a n c,vF=.slice a n c:=(by obtain⟨_,s,_⟩:=L2;exact s.form);simp only [BZ,seval];have K:=S;replace S:=S.base;refine ac (bg (by intro x e;cases e)) S ?_;clear S;intro h b S L;simp only [ae]at S;simp only [BZ,ab,seval];have C:=S.fr;have w:=d.mo C (fun c _ j=>by cases j);have D:=p.mo C (fun c j=>by cases j);have E:=L2.mo C (fun c j=>by cases j);have F:=S.row (b:=b) m0;replace S:=K.rebase S;exact⟨S.gr,.inr ⟨j,⟨b,_,_,_,rfl,F,w,D,E,(S.own _ m0).1.elim (fun h=>h) (fun h=>h.elim),fun c M=>zO J (hM c M)⟩⟩⟩
 . have B:decide (eJ k.nodes l)=false:=decide_eq_false j;simp only [BZ,ab,B,seval];exact⟨S.gr,.inl j⟩
theorem kY{h0:Hp}(a:h0.t.Sized h0.n){m N:Nat}{p:Value}{l:List Int}{R Q:Nat->List Int}(t:TabAt h0 m p N l R Q):aN zM 42 [p] h0 (.int .i64 N):=by have S:=Si a;obtain⟨b,e,f,g,rfl,c,_⟩:=t.ex;have d:=c.load1 (o:=0) rfl;refine aa (n:=9) (rs:=[.tmp 2]) rfl Tryz.e42 rfl rfl rfl (lbt rfl) ?_;simp only [BZ,ab,d,seval];exact S.gr
theorem jT{h0:Hp}(e:h0.t.Sized h0.n){m N:Nat}{p:Value}{l:List Int}{R Q:Nat->List Int}(t:TabAt h0 m p N l R Q)(a:l.length<1000):Ret zM 43 [p] h0 fun r d=>Gr h0 d/\av d 1 (encI .i64) r l/\ ∀c,aq r c->h0.n<=c:=by have S:=Si e;obtain⟨b,k,q,s,rfl,f,i,_⟩:=t.ex;have j:=f.load1 (o:=1) rfl;refine aa (n:=10) (rs:=[.tmp 2]) rfl Tryz.e43 rfl rfl rfl (lbt rfl) ?_;simp only [BZ,j,seval];refine step_ret (iU S.ok (bG .i64) i (by omega)) ?_;intro v h ⟨g,sl,hc⟩;replace S:=S.call g;clear g;simp only [BZ,ab,seval];exact⟨S.gr,sl,hc⟩
def gz(N n:Nat)(R:Nat->List Int)(i v:Int):Int:=if 0<=i/\i<n/\0<=v/\v<N then(R i.toNat).getD v.toNat 0 else 72057594037927936
theorem tos_ok{h0:Hp}(c:h0.t.Sized h0.n){m N:Nat}{p:Value}{l:List Int}{R Q:Nat->List Int}(t:TabAt h0 m p N l R Q):Ret zM 221 [p] h0 fun r a=>Gr h0 a/\eR a m r l.length R:=by have S:=Si c;obtain⟨b,f,g,h,rfl,d,_,L,_⟩:=t.ex;have e:=d.load1 (o:=2) rfl;refine aa (n:=7) (rs:=[.tmp 2]) rfl Tryz.e221 rfl rfl rfl (lbt rfl) ?_;simp only [BZ,ab,e,seval];exact⟨S.gr,L⟩
theorem froms_ok{h0:Hp}(c:h0.t.Sized h0.n){m N:Nat}{p:Value}{l:List Int}{R Q:Nat->List Int}(t:TabAt h0 m p N l R Q):Ret zM 222 [p] h0 fun r a=>Gr h0 a/\eR a m r l.length Q:=by have S:=Si c;obtain⟨b,f,g,h,rfl,d,_,_,L,_⟩:=t.ex;have e:=d.load1 (o:=3) rfl;refine aa (n:=7) (rs:=[.tmp 2]) rfl Tryz.e222 rfl rfl rfl (lbt rfl) ?_;simp only [BZ,ab,e,seval];exact⟨S.gr,L⟩
theorem AE{h0:Hp}(z:h0.t.Sized h0.n){m N:Nat}{p:Value}{l:List Int}{R Q W:Nat->List Int}(t:TabAt h0 m p N l R Q){g:FuncId}(A: ∀h,Gr h0 h->Ret zM g [p] h fun r s=>Gr h s/\eR s m r l.length W)(B: ∀i,i<l.length->(W i).length=N){i v:Int}:
 aN zM 220 [p,.func (.func g) #[p] #[],.int .i64 i,.int .i64 v] h0 (.int .i64 (gz N l.length W i v)):=by
 have S:=Si z;obtain⟨b,I,J,K,rfl,u,e,_⟩:=t.ex;have x:=u.load1 (o:=0) rfl;have f:=u.load1 (o:=1) rfl;unfold gz;refine aa (n:=44) (rs:=[.tmp 8]) rfl Tryz.e220 rfl rfl rfl (lbt rfl) ?_;by_cases a:i<0
 . rw [if_neg (by omega)];simp only [BZ,ab,a,seval];exact S.gr
 . by_cases j:(l.length:Int)<=i
   . rw [if_neg (by omega)];simp only [BZ,ab,f,a,j,e.lenq,seval];exact S.gr
   . by_cases q:v<0
     . rw [if_neg (by omega)];simp only [BZ,ab,f,a,j,q,e.lenq,seval];exact S.gr
     . by_cases y:(N:Int)<=v
       . rw [if_neg (by omega)];simp only [BZ,ab,x,f,a,j,q,y,e.lenq,seval];exact S.gr
       . rw [if_pos (by omega)];obtain⟨d,rfl⟩:=XT (show 0<=i by omega);obtain⟨k,rfl⟩:=XT (show 0<=v by omega);simp only [BZ,x,f,a,j,q,y,e.lenq,seval];refine step_ret (A _ S.gr) ?_;intro v h ⟨g,L⟩;replace S:=S.call g;clear g;obtain⟨w,⟨c,o,C,D⟩,sw,_⟩:=L.row (i:=d) (by omega);have E:=B d (by omega);obtain⟨M,O,F,G⟩:=sw.ix (kd:=.i64) (bG .i64) (i:=k) (by omega);have H:(W d).getD k 0=(W d)[k]:=(by simp [Xc,show k<(W d).length by omega]);simp only [BZ,ab,C,D,F,G,encI,Xr,H,seval];exact S.gr
theorem At{h0:Hp}(a:h0.t.Sized h0.n){m N:Nat}{p:Value}{l:List Int}{R Q:Nat->List Int}(t:TabAt h0 m p N l R Q)(b: ∀i,i<l.length->(R i).length=N){i v:Int}:aN zM 155 [p,.int .i64 i,.int .i64 v] h0 (.int .i64 (gz N l.length R i v)):=by have S:=Si a;refine aa (n:=13) (rs:=[.tmp 6]) rfl Tryz.e155 rfl rfl rfl (lbt rfl) ?_;simp only [BZ,seval];refine ag (AE S.ok t (fun h g=>tos_ok g.ok (t.gr g)) b) ?_;intro h g;replace S:=S.call g;clear g;simp only [BZ,ab,seval];exact S.gr
theorem wK{h0:Hp}(a:h0.t.Sized h0.n){m N:Nat}{p:Value}{l:List Int}{R Q:Nat->List Int}(t:TabAt h0 m p N l R Q)(b: ∀i,i<l.length->(Q i).length=N){i v:Int}:aN zM 157 [p,.int .i64 i,.int .i64 v] h0 (.int .i64 (gz N l.length Q i v)):=by have S:=Si a;refine aa (n:=13) (rs:=[.tmp 6]) rfl Tryz.e157 rfl rfl rfl (lbt rfl) ?_;simp only [BZ,seval];refine ag (AE S.ok t (fun h g=>froms_ok g.ok (t.gr g)) b) ?_;intro h g;replace S:=S.call g;clear g;simp only [BZ,ab,seval];exact S.gr
def nC(v t:Int):Int:=if wy t<72057594037927936 then(if wy v<72057594037927936 then wy (wy v-wy t)else 72057594037927936)else 0
theorem low_ok{h0:Hp}(i:h0.t.Sized h0.n){v t:Int}:aN zM 156 [.int .i64 v,.int .i64 t] h0 (.int .i64 (nC v t)):=by
 have S:=Si i;have a:=wy_bd v;have b:=wy_bd t;have c:wy (wy v)=wy v:=wy_id a.1 a.2;have d:wy (wy t)=wy t:=wy_id b.1 b.2;have w:am .i64 (wy v-wy t)=wy v-wy t:=by rw [wrap64]<;>omega
 refine aa (n:=21) (rs:=[.tmp 4]) rfl Tryz.e156 rfl rfl rfl (lbt rfl) ?_;simp only [BZ,seval];refine ag (oI S.ok) ?_;intro h g;replace S:=S.call g;clear g;simp only [BZ,seval];refine ag (oI S.ok) ?_;intro h g;replace S:=S.call g;clear g;simp only [BZ,seval];refine ag (qs S.ok) ?_;intro h g;replace S:=S.call g;clear g;unfold nC;by_cases e:wy t<72057594037927936
 . simp only [BZ,d,e,seval];refine ag (qs S.ok) ?_;intro h g;replace S:=S.call g;clear g;by_cases f:wy v<72057594037927936
   . simp only [BZ,c,f,w,seval];refine ag (oI S.ok) ?_;intro h g;replace S:=S.call g;clear g;simp only [BZ,ab,seval];exact S.gr
   . simp only [BZ,ab,c,f,seval];exact S.gr
 . simp only [BZ,ab,d,e,seval];exact S.gr
theorem lift_ok{h0:Hp}(a:h0.t.Sized h0.n){v t:Int}:aN zM 158 [.int .i64 v,.int .i64 t] h0 (.int .i64 (nC t v)):=by have S:=Si a;refine aa (n:=8) (rs:=[.tmp 4]) rfl Tryz.e158 rfl rfl rfl (lbt rfl) ?_;simp only [BZ,seval];refine ag (low_ok S.ok) ?_;intro h g;replace S:=S.call g;clear g;simp only [BZ,ab,seval];exact S.gr
theorem iN{h0:Hp}(a:h0.t.Sized h0.n){m N:Nat}{p:Value}{l:List Int}{R Q:Nat->List Int}(t:TabAt h0 m p N l R Q){v:Int}:aN zM 120 [p,.int .i64 v] h0 (.bool (decide (0<=v/\v<N))):=by
 have S:=Si a;refine aa (n:=13) (rs:=[.tmp 4]) rfl Tryz.e120 rfl rfl rfl (lbt rfl) ?_;by_cases c:0<=v
 . simp only [BZ,c,seval];refine ag (kY S.ok (t.gr S.gr)) ?_;intro h g;replace S:=S.call g;clear g;simp only [BZ,ab,seval];exact S.gr
 . simp only [BZ,ab,c,seval];exact⟨by simp,S.gr⟩
theorem wayTo_ok{h0:Hp}(b:h0.t.Sized h0.n){m N:Nat}{p:Value}{l:List Int}{R Q:Nat->List Int}(t:TabAt h0 m p N l R Q)(a: ∀i,i<l.length->(R i).length=N){i v w:Int}:
 aN zM 154 [.func (.func 155) #[p] #[],.func (.func 156) #[] #[],.int .i64 i,.int .i64 v,.int .i64 w] h0 (.int .i64 (nC (gz N l.length R i v) (gz N l.length R i w))):=by
 have S:=Si b;refine aa (n:=21) (rs:=[.tmp 10]) rfl Tryz.e154 rfl rfl rfl (lbt rfl) ?_;simp only [BZ,seval];refine ag (At S.ok (t.gr S.gr) a) ?_;intro h g;replace S:=S.call g;clear g;simp only [BZ,seval];refine ag (At S.ok (t.gr S.gr) a) ?_;intro h g;replace S:=S.call g;clear g;simp only [BZ,seval];refine ag (low_ok S.ok) ?_;intro h g;replace S:=S.call g;clear g;simp only [BZ,ab,seval];exact S.gr
theorem wayFr_ok{h0:Hp}(b:h0.t.Sized h0.n){m N:Nat}{p:Value}{l:List Int}{R Q:Nat->List Int}(t:TabAt h0 m p N l R Q)(a: ∀i,i<l.length->(Q i).length=N){i v w:Int}:
 aN zM 154 [.func (.func 157) #[p] #[],.func (.func 158) #[] #[],.int .i64 i,.int .i64 v,.int .i64 w] h0 (.int .i64 (nC (gz N l.length Q i w) (gz N l.length Q i v))):=by
 have S:=Si b;refine aa (n:=21) (rs:=[.tmp 10]) rfl Tryz.e154 rfl rfl rfl (lbt rfl) ?_;simp only [BZ,seval];refine ag (wK S.ok (t.gr S.gr) a) ?_;intro h g;replace S:=S.call g;clear g;simp only [BZ,seval];refine ag (wK S.ok (t.gr S.gr) a) ?_;intro h g;replace S:=S.call g;clear g;simp only [BZ,seval];refine ag (lift_ok S.ok) ?_;intro h g;replace S:=S.call g;clear g;simp only [BZ,ab,seval];exact S.gr
def eo(N n:Nat)(R Q:Nat->List Int)(i v w:Int):Int:=if(0<=v/\v<N)/\(0<=w/\w<N)/\0<=i/\i<n then max (nC (gz N n R i v) (gz N n R i w)) (nC (gz N n Q i w) (gz N n Q i v))else 0
theorem xK{h0:Hp}(f:h0.t.Sized h0.n){m N:Nat}{p:Value}{l:List Int}{R Q:Nat->List Int}(t:TabAt h0 m p N l R Q)(j: ∀i,i<l.length->(R i).length=N)(k: ∀i,i<l.length->(Q i).length=N)(d:l.length<1000){i v w:Int}:
 aN zM 65 [p,.int .i64 i,.int .i64 v,.int .i64 w] h0 (.int .i64 (eo N l.length R Q i v w)):=by
 have S:=Si f;by_cases a:0<=v/\v<N
 . by_cases b:0<=w/\w<N
   . by_cases c:i<0
     . rw [show eo N l.length R Q i v w=0 from if_neg (by omega)];refine aa (n:=43) (rs:=[.tmp 8]) rfl X4 rfl rfl rfl (lbt rfl) ?_;simp only [BZ,seval];refine ag (iN S.ok (t.gr S.gr)) ?_;intro h g;replace S:=S.call g;clear g;simp only [BZ,a,seval];refine ag (iN S.ok (t.gr S.gr)) ?_;intro h g;replace S:=S.call g;clear g;simp only [BZ,ab,b,c,seval];exact S.gr
     . by_cases e:(l.length:Int)<=i
       . rw [show eo N l.length R Q i v w=0 from if_neg (by omega)];refine aa (n:=43) (rs:=[.tmp 8]) rfl X4 rfl rfl rfl (lbt rfl) ?_;simp only [BZ,seval];refine ag (iN S.ok (t.gr S.gr)) ?_;intro h g;replace S:=S.call g;clear g;simp only [BZ,a,seval];refine ag (iN S.ok (t.gr S.gr)) ?_;intro h g;replace S:=S.call g;clear g;simp only [BZ,b,c,seval];refine step_ret (jT S.ok (t.gr S.gr) d) ?_;intro v h ⟨g,slM,_⟩;replace S:=S.call g;clear g;simp only [BZ,ab,e,slM.lenq,seval];exact S.gr
       . rw [show eo N l.length R Q i v w=max (nC (gz N l.length R i v) (gz N l.length R i w)) (nC (gz N l.length Q i w) (gz N l.length Q i v))from if_pos ⟨a,b,by omega,by omega⟩];refine aa (n:=43) (rs:=[.tmp 8]) rfl X4 rfl rfl rfl (lbt rfl) ?_;simp only [BZ,seval];refine ag (iN S.ok (t.gr S.gr)) ?_;intro h g;replace S:=S.call g;clear g;simp only [BZ,a,seval];refine ag (iN S.ok (t.gr S.gr)) ?_;intro h g;replace S:=S.call g;clear g;simp only [BZ,b,c,seval];refine step_ret (jT S.ok (t.gr S.gr) d) ?_;intro v h ⟨g,slM,_⟩;replace S:=S.call g;clear g;simp only [BZ,e,slM.lenq,seval];refine ag (wayTo_ok S.ok (t.gr S.gr) j) ?_;intro h g;replace S:=S.call g;clear g;simp only [BZ,seval];refine ag (wayFr_ok S.ok (t.gr S.gr) k) ?_;intro h g;replace S:=S.call g;clear g;simp only [BZ,ab,seval];exact S.gr
   . rw [show eo N l.length R Q i v w=0 from if_neg (fun h=>b h.2.1)];refine aa (n:=43) (rs:=[.tmp 8]) rfl X4 rfl rfl rfl (lbt rfl) ?_;simp only [BZ,seval];refine ag (iN S.ok (t.gr S.gr)) ?_;intro h g;replace S:=S.call g;clear g;simp only [BZ,a,seval];refine ag (iN S.ok (t.gr S.gr)) ?_;intro h g;replace S:=S.call g;clear g;simp only [BZ,ab,b,seval];exact S.gr
 . rw [show eo N l.length R Q i v w=0 from if_neg (fun h=>a h.1)];refine aa (n:=43) (rs:=[.tmp 8]) rfl X4 rfl rfl rfl (lbt rfl) ?_;simp only [BZ,seval];refine ag (iN S.ok (t.gr S.gr)) ?_;intro h g;replace S:=S.call g;clear g;simp only [BZ,ab,a,seval];exact S.gr
def cR(N n:Nat)(R Q:Nat->List Int)(v w:Int)(l:List Int):Int:=l.foldl (fun b i=>max b (eo N n R Q i v w)) 0
theorem Aj{h0:Hp}(j:h0.t.Sized h0.n){m N:Nat}{p:Value}{l:List Int}{R Q:Nat->List Int}(t:TabAt h0 m p N l R Q)(q: ∀i,i<l.length->(R i).length=N)(r: ∀i,i<l.length->(Q i).length=N)(s:l.length<1000){d:Value}{act:List Int}(f:av h0 1 (encI .i64) d act)(u:act.length<1000){v w:Int}:
 aN zM 18 [p,d,.int .i64 v,.int .i64 w] h0 (.int .i64 (cR N l.length R Q v w act)):=by
 have S:=Si j;refine aa (n:=26) (rs:=[.tmp 8]) rfl Tryz.e18 rfl rfl rfl (lbt rfl) ?_;simp only [BZ,f.lenq,seval];refine aV (fun(k:Nat) a h=>k<=act.length/\Gr h0 h/\a 0=p/\a 2=.int .i64 v/\a 3=.int .i64 w/\a 8=.int .i64 (cR N l.length R Q v w (act.take k))/\a 11=d/\a 12=.int .i64 act.length/\a 13=.int .i64 k) (fun k=>act.length-k) ?_ 0 _ _ ?_
 . clear S;intro k x a h ⟨hk,g0,r0,r2,r3,r8,r11,r12,r13⟩;have y:am .i64 ((k:Int)+1)=((k+1:Nat):Int):=(by rw [wrap64]<;>omega);by_cases hlt:k<act.length
   . obtain⟨c,o,b,e⟩:=(f.gr g0).ix (kd:=.i64) (bG .i64) hlt;simp only [BZ,r0,r2,r3,r8,r11,r12,r13,az,hlt,b,e,encI,seval];refine ag (xK g0.ok (t.gr g0) q r s) ?_;intro h g;simp only [BZ,r13,y,seval];refine x (k+1) _ _ (by omega) ⟨by omega,g0.trans g,by simp [aw,r0],by simp [aw,r2],by simp [aw,r3],?_,by simp [aw,r11,r12]⟩;rw [Xd hlt];unfold cR;rw [List.foldl_append];simp [aw]
   . simp only [BZ,ab,r8,r12,r13,az,hlt,seval];rw [Xh (by omega)];exact⟨rfl,g0⟩
 . exact⟨Xt _,S.gr,by simp [aw,cD,dK,cR]⟩
def keyB(N n:Nat)(R Q:Nat->List Int)(s w:Int)(i:Nat):Int:=eo N n R Q i s w
def iP(N n:Nat)(R Q:Nat->List Int)(s w a:Int):List Nat:=(jk (keyB N n R Q s w) (n-1) (Xa n)).take (min (max a 1).toNat n)
theorem BR{hq:Hp}{m N:Nat}{p:Value}{l:List Int}{R Q:Nat->List Int}(t:TabAt hq m p N l R Q)(f: ∀i,i<l.length->(R i).length=N)(k: ∀i,i<l.length->(Q i).length=N)(o:l.length<1000){s w:Int}{b4 b5 b6:Nat}(c:hq.load b4 0 1=some [p])(d:hq.load b5 0 1=some [.int .i64 s])(e:hq.load b6 0 1=some [.int .i64 w]):
 CmpF zM hq 113 [ptrTo b4,ptrTo b5,ptrTo b6] l.length (keyB N l.length R Q s w):=by
 intro h g i j C D;have E:Fl p:=by obtain⟨b,_,_,_,rfl,_⟩:=t.ex;exact cP
 have S:=Si g.ok;have r:=bC g.ok (g.load c);have u:=bC g.ok (g.load d);have v:=bC g.ok (g.load e);refine aa (n:=19) (rs:=[.tmp 7]) rfl Tryz.e113 rfl rfl rfl (lbt rfl) ?_;simp only [BZ];refine ar (ax rfl) (q:=0) (ps:=[(4,8),(4,7),(4,5)]) (by kernel_rfl) ?_;simp only [BZ,cls,g.load c,g.load d,g.load e,seval];refine bM (xK S.ok ((t.gr g).gr S.gr) f k o) ?_;intro F a;have x:=ao a r;have y:=ao a u;have z:=ao a v;replace S:=S.call a;simp only [BZ,cls,a.load (g.load c),a.load (g.load d),a.load (g.load e),seval];refine bM (xK S.ok ((t.gr g).gr S.gr) f k o) ?_;intro G A;replace S:=S.call A;simp only [BZ,cls,seval];refine bM (zX S.ok) ?_;intro H B;replace S:=S.call B;simp only [BZ,cls,ab,seval];refine⟨by simp only [aK,aS,aH,aU,aJ,ne_eq,not_false_eq_true,aW,aZ,aT,aM,bA,ca,aD,Xn,ah,dh,aF x,aF y,aF z,seval],?_⟩;exact⟨rfl,S.gr⟩
theorem insNil_ok{h0:Hp}(a:h0.t.Sized h0.n){v:Value}:aN zM 270 [.slice none 0 0,.int .i64 0,.int .i64 0,v] h0 (.tuple #[]):=by
 have S:=Si a;have b:am .i64 1=1:=rfl;have c: ¬(1:Int)<0:=by decide
 refine aa (n:=53) (rs:=[]) rfl Tryz.e270 rfl rfl rfl (lbt rfl) ?_;simp only [BZ,b,seval];rw [cE];simp only [BZ,ab,c,seval];exact S.gr
theorem BD{h0:Hp}(c:h0.t.Sized h0.n){m:Nat}{g:FuncId}{post:Array Value}:aN zM 112 [.slice none 0 0,.int .i64 (m:Nat),.func (.func g) #[] post] h0 (.slice none 0 0):=by
 have S:=Si c;have d:aN zM 84 [.slice none 0 0] h0 (.slice none 0 0):=by refine aa (n:=8) (rs:=[.tmp 2]) rfl Tryz.e84 rfl rfl rfl (lbt rfl) ?_;simp only [BZ,ab,seval];exact S.gr
 have e:min (m:Int) 0=0:=by omega
 have f: ¬(20:Int)<=0:=by decide
 have i: ¬(20:Int)<0:=by decide
 have j: ∀{h:Hp},h.t.Sized h.n->aN zM 194 [.slice none 0 0,.func (.func g) #[] post] h (.tuple #[]):=fun {h} a=>by
  have S:=Si a;have k:aN zM 247 [.slice none 0 0,.int .i64 0,.func (.func g) #[] post] h (.tuple #[]):=by refine aa (n:=63) (rs:=[]) rfl Tryz.e247 rfl rfl rfl (lbt rfl) ?_;simp only [BZ,seval];rw [cE];simp only [BZ,f,seval];refine ag (insNil_ok S.ok) ?_;intro h g;replace S:=S.call g;clear g;simp only [BZ];rw [cE];simp only [BZ,ab,i,seval];exact S.gr
  refine aa (n:=9) (rs:=[]) rfl Tryz.e194 rfl rfl rfl (lbt rfl) ?_;simp only [BZ,Xe,seval];refine ag k ?_;intro p l;replace S:=S.call l;simp only [BZ,ab];exact S.gr
 have o:fK zM 41 (.slice none 0 0) none (some (.int .i64 0)) none=some (.slice none 0 0):=by simp only [fK,Tryz.t41.1,Tryz.t3.2.2.1,fG,fF];rfl
 refine aa (n:=18) (rs:=[.tmp 6]) rfl Tryz.e112 rfl rfl rfl (lbt rfl) ?_;simp only [BZ,seval];refine ag d ?_;intro h b;replace S:=S.call b;simp only [BZ,seval];refine ag (j S.ok) ?_;intro h b;replace S:=S.call b;simp only [BZ,ab,Xe,Option.map_some,Option.map_none,e,o,seval];exact S.gr
theorem vk{h0:Hp}(K:h0.t.Sized h0.n){m N:Nat}{p:Value}{l:List Int}{R Q:Nat->List Int}(t:TabAt h0 m p N l R Q)(L: ∀i,i<l.length->(R i).length=N)(M: ∀i,i<l.length->(Q i).length=N)(Z:l.length<=16){s w a:Int}:
 Ret zM 46 [p,.int .i64 s,.int .i64 w,.int .i64 a] h0 fun r z=>Gr h0 z/\av z 1 cq r (iP N l.length R Q s w a)/\ ∀c,aq r c->h0.n<=c:=by
 have S:=Si K;have fp:Fl p:=by obtain⟨b,_,_,_,rfl,_⟩:=t.ex;exact cP
 obtain⟨mk,f⟩: ∃k:Nat,max a 1=(k:Int):=⟨(max a 1).toNat,by omega⟩;have q:(max a 1).toNat=mk:=by omega
 refine aa (n:=27) (rs:=[.tmp 8]) rfl Tryz.e46 rfl rfl rfl (lbt rfl) ?_;simp only [BZ,seval];refine ac (bW (by assumption)) S ?_;clear S;intro h b4 S E;simp only [BZ,if_false,seval];refine ac (bW (by exact bR)) S ?_;clear S;intro h b5 S F;simp only [BZ,if_false,seval];refine ac (bW (by exact bR)) S ?_;clear S;intro h b6 S G;simp only [BZ,S.ld (b:=b4) (o:=0) m2 rfl,seval];have k0:=S.fr.n;refine step_ret (jT S.ok (t.gr S.gr) (by omega)) ?_;rintro r h ⟨g,O,A⟩;replace S:=S.call g;simp only [BZ,O.lenq,seval];replace S:=S.nilG (k:=1);refine aV (fun(i:Nat) d h=>i<=l.length/\ ∃u,St NoM h0 h [(b6,.row [.int .i64 w] 1),(b5,.row [.int .i64 s] 1),(b4,.row [p] 1)] [(u,1,fD (Xa i))]/\(i=0->u=.slice none 0 0)/\d 3=.int .i64 a/\d 4=ptrTo b4/\d 5=ptrTo b5/\d 6=ptrTo b6/\d 9=u/\d 13=.int .i64 (l.length:Nat)/\d 14=.int .i64 i) (fun i=>l.length-i) ?_ 0 _ _ ?_
 . clear S;intro i P d h ⟨hi,u,S,hv,r3,r4,r5,r6,r9,r13,r14⟩;have T:am .i64 ((i:Int)+1)=((i+1:Nat):Int):=(by rw [wrap64]<;>omega);by_cases hlt:i<l.length
   . simp only [BZ,r9,r13,r14,az,hlt,seval];refine ac (bV (by exact Tryz.t41.1) (by exact XD) (by decide) (by rfl)) S ?_;clear S;intro h H S I;simp only [LC,a9,bQ,ae,Xl,Xm,Xo,Xq,seval]at S;simp only [BZ,seval];have v:aR h 1 (.slice (some ⟨H,0,none⟩) 1 1)=some (1,[.int .i64 (i:Nat)]):=(by simp only [aR];rw [S.lds (b:=H) (o:=0) (n:=1*1) m0 (lbt rfl)];rfl);replace S:=S.drop1;refine dP (S.grow (j:=0) (m:=1) (new:=[.int .i64 (i:Nat)]) rfl Tryz.t41.1 XD (by decide) Tryz.t41.2.2.2.2.2 v rfl (by decide) rfl (by rw [nI];simp;omega)) ?_;clear S v;rintro h B S;simp only [LC]at S;have e:fD (Xa i)++[.int .i64 (i:Nat)]=fD (Xa (i+1)):=(by unfold fD;rw [XW,List.map_append];rfl);rw [e]at S;simp only [BZ,r14,T,seval];exact P (i+1) _ _ (by omega) ⟨by omega,B,S,fun h=>(by omega),by simp [aw,r3,r4,ah,r5,r6,r13]⟩
   . have U:i=l.length:=(by omega);subst U;simp only [BZ,r3,r4,r5,r6,r9,r13,r14,az,hlt,seval];by_cases C:l.length=0
     . have V:=hv C;subst V;have J:=S.fr.n;rw [f];refine ag (BD S.ok) ?_;intro z g;replace S:=S.call g;simp only [BZ,ab,seval];refine⟨S.gr,.inl ⟨rfl,?_⟩,fun c A=>A.elim⟩;unfold iP;rw [C];simp
     . have W:av h 1 cq u (Xa l.length):=(S.gown _ m0).1.sl (tO _).symm dV (by decide);have J:=S.fr.n;have X:=BR (t.gr S.gr) L M (by omega) (s:=s) (w:=w) (b4:=b4) (b5:=b5) (b6:=b6) (S.ld m2 rfl) (S.ld m1 rfl) (S.ld m0 rfl);rw [f];refine step_ret (first_ok (N:=l.length) (m:=mk) (Gr.refl S.ok) W (by intro e;have:=congrArg List.length e;rw [Xk]at this;exact C this) (by simp;omega) (fun x Y=>List.mem_range.1 Y) X (by omega)) ?_;rintro r z ⟨g,y,D⟩;replace S:=S.call g;simp only [BZ,ab,seval];rw [Xk]at y;exact⟨S.gr,by unfold iP;rw [q];exact y,fun c A=>zO J (D c A)⟩
 . exact⟨Xt _,_,S,fun _=>rfl,by simp [aw,dh,ah]⟩
theorem lS{x:Option Tch}:jI none x=true:=by cases x<;>rfl
structure TabO(E:Env)(h0:Hp)(pt:Value)(nd mk:Nat)(gM gN:FuncId):Prop where
 fl:Fl pt
 marks: ∀h,Gr h0 h->Ret E gM [pt] h fun r h'=>Gr h h'/\ ∃l:List Int,av h' 1 (encI .i64) r l/\l.length=mk
 nodes: ∀h,Gr h0 h->aN E gN [pt] h (.int .i64 (nd:Nat))
def kj(N a mk:Nat)(f t:Int):Int:=if¬(0<=f/\f<N)then 17 else if¬(0<=t/\t<N)then 18 else if 0<mk/\a=N then 0 else 19
theorem eR.keep{h e:Hp}{m n:Nat}{v:Value}{R:Nat->List Int}(f:h.t.Sized h.n)(g:eP h e)(r:eR h m v n R):eR e m v n R:=by obtain⟨k,a,b,c,d⟩:=r;exact⟨k,a.keep f g,b,c,fun i w j=>⟨(d i w j).1.keep f g,(d i w j).2⟩⟩
theorem TabAt.keep{h c:Hp}{m N:Nat}{p:Value}{l:List Int}{R Q:Nat->List Int}(a:h.t.Sized h.n)(g:eP h c)(t:TabAt h m p N l R Q):TabAt c m p N l R Q:=by obtain⟨b,d,f,i,e,j,k,n,o,q,r⟩:=t.ex;exact⟨b,d,f,i,e,g.row a j,k.keep a g,n.keep a g,o.keep a g,q,r⟩
theorem bEach_ok{h0:Hp}(f:h0.t.Sized h0.n){c d:Value}(g:Fl c)(i:Fl d):Ret zM 121 [c,d] h0 fun v e=>Gr h0 e/\ ∃b1 b2,v=.func (.func 204) #[] #[ptrTo b1,ptrTo b2]/\h0.n<=b1/\h0.n<=b2/\e.load b1 0 1=some [c]/\e.load b2 0 1=some [d]:=by have S:=Si f;refine aa (n:=6) (rs:=[.tmp 4]) rfl Tryz.e121 rfl rfl rfl (lbt rfl) ?_;simp only [BZ,seval];refine ac (bW (by assumption)) S ?_;clear S;intro h b1 S a;simp only [BZ,if_false,seval];refine ac (bW (by assumption)) S ?_;clear S;intro h b2 S b;simp only [BZ,ab,seval];exact⟨S.gr,b1,b2,rfl,a,b,S.ld m1 rfl,S.ld m0 rfl⟩
def TellF(E:Env)(hq:Hp)(g:FuncId)(post:List Value)(N:Nat)(f:Nat->Int):Prop:= ∀h,h.t.Sized h.n->eP hq h-> ∀v,v<N->aN E g ([.int .i64 (v:Nat)]++post) h (.int .i64 (f v))
theorem bEach_it{hq h0:Hp}(k:hq.t.Sized hq.n)(e:h0.t.Sized h0.n)(u:eP hq h0)(x:hq.n<=h0.n){m N:Nat}{o:Value}{l:List Int}{R Q:Nat->List Int}(t:TabAt hq m o N l R Q)(O:N<=1000){b1 b2:Nat}{g:FuncId}{post:Array Value}{f:Nat->Int}(hf:TellF zM hq g post.toList N f)
 (C:h0.load b1 0 1=some [o]) (D:h0.load b2 0 1=some [.func (.func g) #[] post]):
 mi zM 204 [] [ptrTo b1,ptrTo b2] h0 (fun c=>c=b1\/c=b2\/c<hq.n) ((Xa N).map fun(v:Nat)=>[.int .i64 (f v)]):=by
 intro E J Z G Y h F s j;have y:=s.load e C (.inl rfl);have P:Fl o:=by obtain⟨b,_,_,_,rfl,_⟩:=t.ex;exact cP
 refine enter (n:=17) (rs:=[]) rfl Tryz.e204 rfl rfl rfl (lbt rfl) ?_;simp only [BZ,y,seval];refine ag (kY s.ok (t.keep k (s.keep u x (fun c p=>.inr (.inr p))))) ?_;intro S q;have z:=s.gr q;have A:=Y.gr _ _ _ _ j q;simp only [BZ];refine aV (fun(i:Nat) d h=>i<=N/\ ∃F,ItS h0 (fun c=>c=b1\/c=b2\/c<hq.n) h F/\J i h F/\d 0=.func (.yield E) #[] #[]/\d 1=ptrTo b1/\d 2=ptrTo b2/\d 6=.int .i64 (N:Nat)/\d 7=.int .i64 i) (fun i=>N-i) ?_ 0 _ _ ?_
 . clear y s j z A F q h;intro i H d h ⟨hi,F,s,j,r0,r1,r2,r6,r7⟩;have w:am .i64 ((i:Int)+1)=((i+1:Nat):Int):=(by rw [wrap64]<;>omega);by_cases hlt:i<N
   . have I:=s.load e D (.inr (.inl rfl));have K:((Xa N).map fun(v:Nat)=>[Value.int .i64 (f v)])[i]? =some [.int .i64 (f i)]:=(by rw [XN,List.getElem?_range hlt];rfl);simp only [BZ,r0,r2,r6,r7,az,hlt,I,seval];refine ag (hf _ s.ok (s.keep u x (fun c p=>.inr (.inr p))) i hlt) ?_;intro T B;simp only [BZ,seval];refine cZ Y (s.gr B) (Y.gr _ _ _ _ j B) (i:=i) K ?_ ?_ ?_
     . intro r L a M _ _;simp only [BZ,r7,w,seval];exact H (i+1) _ _ (by omega) ⟨by omega,L,M,a,by simp [aw,r0,r1,ah,r2,r6]⟩
     . intro r a _;simp only [BZ,seval];exact gy rfl ⟨rfl,.inr (.inl ⟨_,rfl,a⟩)⟩
     . intro v r a;exact absurd a (G v r)
   . simp only [BZ,r6,r7,az,hlt,seval];have:i=N:=(by omega);subst this;exact cy (cJ ⟨rfl,_,rfl,rfl,.inl ⟨_,F,rfl,by simpa using j⟩⟩)
 . exact⟨Xt _,F,z,A,by simp [aw,dh,ah]⟩
theorem pi1_ok{hq:Hp}{m N:Nat}{p:Value}{l:List Int}{R Q:Nat->List Int}(a:hq.t.Sized hq.n)(t:TabAt hq m p N l R Q)(g: ∀i,i<l.length->(R i).length=N)(j: ∀i,i<l.length->(Q i).length=N)(o:l.length<1000){d:Value}{act:List Int}(e:av hq 1 (encI .i64) d act)(c:act.length<1000){w:Int}{f b4 b5:Nat}(q:hq.load f 0 1=some [p])(r:hq.load b4 0 1=some [d])(s:hq.load b5 0 1=some [.int .i64 w]):
 TellF zM hq 122 [ptrTo f,ptrTo b4,ptrTo b5] N (fun v=>cR N l.length R Q v w act):=by
 intro h u k v y;have z:Fl p:=by obtain⟨b,_,_,_,rfl,_⟩:=t.ex;exact cP
 have A:=e.fl;have S:=Si u;refine aa (n:=11) (rs:=[.tmp 5]) rfl Tryz.e122 rfl rfl rfl (lbt rfl) ?_;simp only [BZ,k.load a q,k.load a r,k.load a s,seval];refine ag (Aj S.ok (t.keep a k) g j o (e.keep a k) c) ?_;intro B x;replace S:=S.call x;simp only [BZ,ab,seval];exact S.gr
theorem bPi_ok{h0:Hp}(ok:h0.t.Sized h0.n){m N:Nat}{p:Value}{l:List Int}{R Q:Nat->List Int}(t:TabAt h0 m p N l R Q)(Y: ∀i,i<l.length->(R i).length=N)(hQ: ∀i,i<l.length->(Q i).length=N)(hl:l.length<1000)(hN:N<=1000){Z:Value}{act:List Int}(ha:av h0 1 (encI .i64) Z act)(H:act.length<1000){w:Nat}(hw:w<N):
 Ret zM 48 [p,Z,.int .i64 (w:Nat)] h0 fun r u=>Gr h0 u/\av u 1 (encI .i64) r ((Xa N).map fun(v:Nat)=>cR N l.length R Q v w act)/\ ∀c,aq r c->h0.n<=c:=by
 have fp:Fl p:=by obtain⟨b,_,_,_,rfl,_⟩:=t.ex;exact cP
 have fa:=ha.fl;have S:=Si ok;have c0:0<=(w:Int)/\(w:Int)<(N:Int):=by omega
 refine aa (n:=21) (rs:=[.cell 6 23]) rfl Tryz.e48 rfl rfl rfl (lbt rfl) ?_;simp only [BZ,seval];refine ac (bW (by assumption)) S ?_;clear S;intro h b3 S ad;simp only [BZ,if_false,seval];refine ac (bW (by assumption)) S ?_;clear S;intro h b4 S af;simp only [BZ,if_false,seval];refine ac (bW (by exact bR)) S ?_;clear S;intro h b5 S ai;have z:=S.gr;have I:=S.ld (b:=b3) (o:=0) m2 rfl;have l4:=S.ld (b:=b4) (o:=0) m1 rfl;have l5:=S.ld (b:=b5) (o:=0) m0 rfl;have f:=S.ok;clear S;rename Hp=>hq;have S:=Si f;simp only [BZ];refine ac ay S ?_;clear S;intro h d S ak;simp only [BZ,S.old I (fun h=>h),S.old l5 (fun h=>h),seval];refine ag (iN S.ok ((t.gr z).gr S.gr)) ?_;intro h g;replace S:=S.call g;clear g;have dc:decide (0<=(w:Int)/\(w:Int)<(N:Int))=true:=decide_eq_true c0;simp only [BZ,dc,S.old I (fun h=>h),seval];have tf:=pi1_ok f (t.gr z) Y hQ hl (ha.gr z) H I l4 l5;have an:=(S.row (b:=d) m0).lt S.ok;refine step_ret (bEach_ok S.ok fp fT) ?_;rintro r h ⟨g,J,K,rfl,n1,n2,y1,y2⟩;replace S:=S.call g;clear g;have M:=bEach_it f S.ok S.gr.keep S.fr.n (t.gr z) hN tf y1 y2;have kn:=S.fr.n;have kG:=z.n;have z1:=bC S.ok y1;have z2:=bC S.ok y2;rename Hp=>hE;have S1:=S;have O:=S.ok;have l6:=(S.row (b:=d) m0).lt O;simp only [BZ];replace S:=S.base;replace S:=S.nilG (k:=1);generalize A:((Xa N).map fun(v:Nat)=>cR N l.length R Q v w act)=xs;have aL:xs.length=N:=by rw [<-A];simp
 replace M:mi zM 204 [] [ptrTo J,ptrTo K] hE (fun c=>c=J\/c=K\/c<hq.n) (xs.map fun x=>[.int .i64 x]):=by rw [<-A,XS];exact M
 refine hZ S (g:=204) (a:=#[]) (b:=#[ptrTo J,ptrTo K]) (by simp [bA,aw,ah]) rfl rfl ?_;intro h2 G B q a0 a1 g2;obtain⟨X,hX,q⟩: ∃X:fu,X=_/\St (· ∈[d]) hE h2 [(B,.loop X),(G,.dfr),(d,.row [.slice none 0 0] 1)] [(.slice none 0 0,1,[])]:=⟨_,rfl,q⟩;have hJ:Yld zM B (fun k u F=> ∃(e:Value),St (· ∈[d]) hE u [(B,.loop X),(G,.dfr),(d,.row [e] 1)] [(e,1,ints (xs.take k))]/\k<=xs.length/\F=keys [(B,.loop X),(G,.dfr),(d,.row [e] 1)] [(e,1,ints (xs.take k))]) (fun _ _=>False) (xs.map fun x=>[.int .i64 x]):=by
  refine⟨?_,?_,fun _ _ h=>h.elim,?_⟩
  . rintro i h F ⟨e,S,_,rfl⟩;exact⟨S.ok,fun b s=>S.key_lt s⟩
  . rintro i h F u ⟨e,S,a,rfl⟩ gg;exact⟨e,S.call gg,a,rfl⟩
  . rintro i x Y F P ⟨e,S,a,rfl⟩;have C:i<xs.length:=(by have:=(List.getElem?_eq_some_iff.1 P).1;simpa using this);rw [XN,Xf C]at P;cases P;have tk:ints (xs.take (i+1))=ints (xs.take i)++[.int .i64 xs[i]]:=(by rw [List.take_add_one,Xf C];exact ir _ _);have tl:(xs.take i).length<=i:=(by rw [XE];omega);subst hX;refine ia (S.get m0) (by rw [Tryz.e48];rfl) rfl ?_;have S0:=S;replace S:=S.base;simp only [BZ,seval];refine fU S (i:=0) rfl rfl rfl rfl rfl ?_;clear S;intro h S;simp only [LC]at S;simp only [BZ,S.ld (b:=d) (o:=0) m2 rfl,seval];refine ac (bV (by exact Tryz.t23.1) (by exact X2) (by decide) (by rfl)) S ?_;clear S;intro h bs S al;simp only [LC,a9,bQ,ae,Xl,Xm,Xo,Xq,seval]at S;simp only [BZ,seval];have D:aR h 1 (.slice (some ⟨bs,0,none⟩) 1 1)=some (1,[.int .i64 xs[i]]):=(by simp only [aR];rw [S.lds (b:=bs) (o:=0) (n:=1*1) m0 (lbt rfl)];rfl);replace S:=S.drop1;refine dP (S.grow (j:=0) (m:=1) (new:=[.int .i64 xs[i]]) rfl Tryz.t23.1 X2 (by decide) Tryz.t23.2.2.2.2.2 D rfl (by decide) rfl (by rw [cd];simp;omega)) ?_;clear S D;rintro h E S;simp only [LC]at S;have U:Fl E:=(S.gown _ m0).1.fl;simp only [BZ,seval];refine aC (aA S (i:=2) rfl Tryz.t23.2.2.1 U (Xb (lbt rfl)) ono) ?_;clear S;rintro h ⟨S,_⟩;simp only [LC]at S;simp only [BZ];refine eg S (i:=0) rfl ?_;clear S;intro h S;simp only [LC]at S;rw [<-tk]at S;exact .inl ⟨rfl,_,⟨E,S0.rebase S,by omega,rfl⟩,S.fr,fun c V=>(S.key_own V).symm⟩
 refine eH (M B _ _ (fun _ _ h=>h) hJ h2 _ ?_ ⟨_,q,Xt _,rfl⟩) fun o rc u y=>jn y ?_
 . refine⟨q.ok,q.fr.n,fun b s hd=>g2.get b s,fun b s h=>?_,fun b s=>q.key_lt s⟩;rcases q.key_own s with h1|h1
   . omega
   . have:=List.mem_singleton.1 h1;omega
 . rintro F ⟨e,T,b,rfl⟩;rw [Xv,List.take_length]at T;subst hX;refine⟨_,T.get m0,XU,?_⟩;replace T:=T.dead;have S:=T;show Run _ _ _ _ _ _ _ _;simp only [BZ,S.ld (b:=d) (o:=0) m1 rfl,seval];have U:Fl e:=(T.gown _ m0).1.fl;clear S;refine aC (aA T (i:=1) rfl Tryz.t23.2.2.1 U (Xb (lbt rfl)) ono) ?_;clear T;rintro h3 ⟨T,_⟩;simp only [List.set_cons_zero,List.set_cons_succ]at T;simp only [BZ];refine dJ (gu [G] _ (L:=[(d,_)]) T.base fun h4 W=>?_);refine⟨rfl,(bZ (by decide) (by simp only [aD,ah,seval];exact js Tryz.t23.2.1 (W.ld (b:=d) (o:=0) m0 rfl))).2 (cK.2 ⟨z.trans ((S1.rebase T).rebase W).gr,(W.gown _ m0).1.sl rfl (fun _=>rfl) (by decide),fun c V=>?_⟩)⟩;rcases(T.gblk m0 V).1 with h|h
   . omega
   . have:=List.mem_singleton.1 h;omega
def zS:SS:=⟨fun _=>none,fun _=>0,fun _=>[],[],[]⟩
def FdAt(h:Hp)(m:Nat)(r:Value)(b:Fd):Prop:= ∃d a,r=.agg ⟨[.int .i64 (b.dist:Nat),d,a]⟩/\gf h (d,1,b.arcs.flatMap cq)/\gf h (a,4,b.ev.flatMap gG)/\(∀c,aq d c->m<=c/\ ¬aq a c)/\ ∀c,aq a c->m<=c
theorem AU(A:List Arc)(al:Nat->Bool)(pi:Nat->Int)(v:Nat)(σ:SS):(qq A al pi v σ).ev.length<=σ.ev.length+A.length:=by
 have: ∀(l:List Nat) (σ:SS),(l.foldl (scan1 A al pi v) σ).ev.length<=σ.ev.length+l.length:=by
  intro l
  induction l with
  |nil=>intro σ;simp|cons a l b=>intro σ;have c:=b (scan1 A al pi v σ a);have d:=Ap A al pi v σ a;simp only [List.foldl_cons,List.length_cons];omega
 have c:=this (outs A Arc.s A.length v) σ;have d:=lE A Arc.s A.length v;unfold qq;omega
theorem srun_ok {hq h0:Hp} (ad:hq.t.Sized hq.n) (gq:Gr hq h0) {g:Gra} (y:Good g) {nb C:Nat} (hn:aX hq nb (ptrTo C) g) {B0:List Nat} {u w s to:Nat} {D E:FuncId} {al:Nat->Bool} {pi:Nat->Int} (R0:gD h0 B0 u (ptrTo C) (.func (.func D) #[] #[ptrTo w]) (.func (.func E) #[] #[ptrTo w]) g.nodes zS) (af: ∀c∈B0,hq.n<=c) (a6:AlF zM hq D w g.arcs.length al) (ai:PiF zM hq E w g.nodes pi) (hp: ∀v,v<g.nodes-> -(FAR:Int)<=pi v)
 (hs:s<g.nodes) (bP:to<g.nodes):
 Ret zM 119 [ptrTo u,.int .i64 (s:Nat),.int .i64 (to:Nat)] h0 fun r h'=>Gr hq h'/\ ∃fd,Ends g.arcs al pi to (dg pi s) fd/\FdAt h' hq.n r fd:=by
 have ok:=gq.ok;have n1:=y.n1;have n2:=y.n2;have bB:=y.many;have wm:=nH;have fr:=dR;have hA: ∀a∈g.arcs,a.t<g.nodes/\a.w<=du:=fun a ha=>⟨(y.arcs a ha).2.1,(y.arcs a ha).2.2⟩;have lB:=R0.lt ok;have S:=Si ok;refine aa (n:=79) (rs:=[.cell 6 99]) rfl Tryz.e119 rfl rfl rfl (lbt rfl) ?_;simp only [BZ];refine ac ay S ?_;clear S;intro h l S J;simp only [BZ,seval];have K:=S.row (b:=l) m0;have gA:=S.gr;have a7:=S.ok;have l6:=K.lt a7;have n6:l∉B0:=fun h=>by have:=lB l h;have:=J;omega
 have q6:hq.n<=l:=zO gq.n J;clear S;rename Hp=>hA';have rc:Ret zM 200 [ptrTo u,.int .i64 (s:Nat),.int .i64 0,.int .i64 (-1)] hA' _:=xY (p:=[]) (lab:=0) (gq.trans gA) (R0.gr gA) ai n2 hs (Xt _) (hp s hs) (fun k h=>by cases h);refine step_ret rc ?_;rintro r h1 ⟨f1,B1,R1,ak⟩;clear rc;simp only [BZ];refine aV (fun(σ:SS) ρ h=> ∃B,Mo (fun c=>c∈B0\/c=l) hA' h/\Row h l [.int .i64 0,.slice none 0 0,.slice none 0 0] 1/\gD h B u (ptrTo C) (.func (.func D) #[] #[ptrTo w]) (.func (.func E) #[] #[ptrTo w]) g.nodes σ/\(∀c∈B,c∈B0\/hA'.n<=c)/\Sv g.arcs g.nodes s al pi σ/\σ.ev.length<=σ.O.length*200/\(∀r,Ends g.arcs al pi to σ r->Ends g.arcs al pi to (dg pi s) r)/\ρ 0=ptrTo u/\ρ 1=.int .i64 (s:Nat)/\ρ 2=.int .i64 (to:Nat)/\ρ 6=ptrTo l) (fun σ=>g.nodes-σ.O.length) ?_ (dg pi s) _ _ ?_
 . clear R1 f1 ak B1 h1;intro σ ih ρ hS ⟨B,f,row6',R,hB,sv,hev,hE,r0,r1,r2,r6⟩;have P: ∀c∈B,hq.n<=c:=fun c d=>(hB c d).elim (af c) (fun h=>by have:=(gq.trans gA).n;omega);have gh:Gr hq hS:=(((gq.trans gA).fr (M:=NoM)).trans f (fun c d=>.inr (d.elim (af c) (fun e=>by subst e;exact q6)))).gr;have Q:l∉B:=fun h=>(hB l h).elim n6 (fun h=>by omega);have ol:=sv.len;have bT:σ.O.length*du<=12*du:=XF _ (zO ol n2);obtain⟨N,bb,bk,T,F,vE,an,S,H,hF⟩:=R.open f.ok;have aL: ∀c∈keys (srL u N bb bk g.nodes (ptrTo C) (ptrTo T) (.func (.func D) #[] #[ptrTo w]) (.func (.func E) #[] #[ptrTo w]) vE σ) (srG vE σ),c∈B:=fun c d=>(by rw [an];exact X3 _ d);have U: ∀c∈F,c∈B:=fun c d=>(by rw [an];exact Xx _ d);have lF:=H.lt f.ok;replace S:=(S.base.mono (M':=fun c=>c∈B\/c=l) (fun c d=>.inl (aL c d))).push (b:=l) (o:=.row _ 1) (.inr (.inr rfl)) row6' (fun h=>Q (aL l h));have a8: ∀c∈F,c≠l:=fun c d e=>Q (by rw [<-e];exact U c d);have V: ∀c∈F,c∉keys ((l,Ob.row [.int .i64 0,.slice none 0 0,.slice none 0 0] 1)::srL u N bb bk g.nodes (ptrTo C) (ptrTo T) (.func (.func D) #[] #[ptrTo w]) (.func (.func E) #[] #[ptrTo w]) vE σ) (srG vE σ):=fun c d W=>(List.mem_cons.1 W).elim (a8 c d) (hF c d);unfold srL srG at S;simp only [BZ,r0,S.ld (b:=u) (o:=1) m1 rfl,seval];refine step_ret (wY S.ok H (by omega)) ?_;rintro rv h2 (⟨rfl,X,bc⟩|⟨v,k,rfl,hk,a0,f2,H2⟩)
   . replace S:=S.call bc;have Y:Fl vE:=(S.gown _ m0).1.fl;simp only [BZ,r0,r6,Y,S.ld (b:=u) (o:=7) m1 rfl,seval];refine aC (S.store (i:=0) rfl Tryz.t99.2.1 (by intro x e;cases e) rfl (by simp only [ae,Xy,XA,Y.2.1,Xn];rfl) (lbt rfl) ono) ?_;clear S;rintro h3 ⟨S,mo⟩;simp only [LC,ae,lay,Xi,Xj,seval]at S;simp only [BZ,ab];refine(bZ (by decide) (by simp only [aD,r6,ah,seval];exact bN Tryz.t99.1 Tryz.t99.2.1 (S.lds (b:=l) (o:=0) (n:=3) m0 (lbt rfl)))).2 (cK.2 ?_);refine⟨(gh.fr (M:=NoM)).trans S.fr (fun c d=>.inr (d.elim (P c) (fun e=>by subst e;exact q6)))|>.gr,_,hE _ (.none X),.slice none 0 0,vE,rfl,.inl ⟨rfl,rfl⟩,(S.gown _ m0).1,fun c d=>d.elim,fun c d=>?_⟩;have:=(S.gown _ m0).2 c (q8 (S.gown _ m0).1 d);exact this.elim (fun h=>zO gh.n h) (fun h=>h.elim (P c) (fun e=>by subst e;exact q6))
   . have O:Pops σ.K v k:=⟨hk,a0⟩;obtain⟨Z,nO,pv,ek⟩:=sv.op v k hk;replace S:=S.stepF f2 (fun c d=>⟨.inl (.inl (U c d)),V c d⟩);have bv:=(sv.bd v).1;have Sp:=S;have bd:=H2.lt Sp.ok;have kp: ∀c∈keys ((l,Ob.row [.int .i64 0,.slice none 0 0,.slice none 0 0] 1)::srL u N bb bk g.nodes (ptrTo C) (ptrTo T) (.func (.func D) #[] #[ptrTo w]) (.func (.func E) #[] #[ptrTo w]) vE σ) (srG vE σ),hS.n<=c\/c∈B\/c=l:=fun c d=>Sp.key_own d;have kl:=fun {c} d=>Sp.key_lt (b:=c) d;have np:=Sp.fr.n;replace S:=S.base;have Y:Fl vE:=(S.gown _ m0).1.fl;simp only [BZ,r0,Z,S.ld (b:=u) (o:=4) m1 rfl,seval];refine aC (aA S (i:=4) rfl Tryz.t4.2.2.1 lP (by rw [clC_len];exact Z) ono) ?_;clear S;rintro h3 ⟨S,bX⟩;simp only [LC]at S;rw [clC_set]at S;have lL:=(S.row (b:=N) m2).load1 (tZ (L:=σ.L) Z);simp only [BZ];refine ar (ax rfl) (q:=16384) (ps:=[]) (by kernel_rfl) ?_;simp only [BZ,cls,r0,Z,lL,S.ld (b:=u) (o:=7) m1 rfl,S.ld (b:=u) (o:=2) m1 rfl,seval];refine dL (bV (by exact Tryz.t44.1) (by exact Tryz.e56E) (by decide) (by rfl)) S ?_;clear S;intro h bs S bE bL;simp only [LC,a9,bQ,ae,Xl,Xm,Xo,Xq,seval]at S;simp only [BZ,cls,seval];have a1:aR h 4 (.slice (some ⟨bs,0,none⟩) 1 1)=some (1,gG ⟨0,v,σ.L v⟩):=(by simp only [aR];rw [S.lds (b:=bs) (o:=0) (n:=1*4) m0 (lbt rfl)];rfl);replace S:=S.drop1;refine dn_v (S.grow (j:=0) (m:=1) (new:=gG ⟨0,v,σ.L v⟩) rfl Tryz.t44.1 Tryz.e56E (by decide) Tryz.t44.2.2.2.2.2 a1 rfl (by decide) rfl (by rw [ct m9];show(_+4)*_<=_;omega)) ?_;clear S a1;rintro h2 t S;simp only [LC]at S;have A:Fl t:=(S.gown _ m0).1.fl;simp only [BZ,cls,seval];refine df (aA S (i:=1) rfl Tryz.t44.2.2.1 A (Xb (lbt rfl)) ono) ?_;clear S;rintro h3 ⟨S,_⟩;simp only [LC]at S;have eE:(σ.ev++[(⟨0,v,σ.L v⟩:Ev)]).flatMap gG=σ.ev.flatMap gG++gG ⟨0,v,σ.L v⟩:=(by rw [List.flatMap_append];simp);rw [<-eE]at S;have bq: ∀c,hS.n<=c\/c∈B\/c=l->hq.n<=c:=fun c d=>d.elim (fun h=>zO gh.n h) (fun h=>h.elim (P c) (fun e=>by subst e;exact q6));have wq:=(((gh.fr (M:=NoM)).trans Sp.fr (fun c d=>.inr (bq c (.inr d)))).trans S.fr (fun c d=>.inr (bq c (kp c d)))).gr;have G:=sv.close hk;have kn:=fun {c} d=>S.key_own (b:=c) d;have nS:=S.fr.n;have be: ∀c∈F,c∉keys (srL u N bb bk g.nodes (ptrTo C) (ptrTo T) (.func (.func D) #[] #[ptrTo w]) (.func (.func E) #[] #[ptrTo w]) t (dC σ v)) (srG t (dC σ v)):=fun c d W=>by
      rcases kn (Xg _ W)with h|h
      . have:=bd c d;omega
      . exact V c d h
     have Hc:dr _ F (ptrTo T) g.nodes (dC σ v).K:=H2.mo S.fr (fun c d W=>V c d W);have Rc:=gD.close (σ:=dC σ v) (vE:=t) S.drop1 Hc be;have I: ∀c∈keys (srL u N bb bk g.nodes (ptrTo C) (ptrTo T) (.func (.func D) #[] #[ptrTo w]) (.func (.func E) #[] #[ptrTo w]) t (dC σ v)) (srG t (dC σ v))++F,hS.n<=c\/c∈B:=fun c d=>by
      rcases List.mem_append.1 d with d|d
      . have ne:c≠l:=fun e=>(by subst e;exact(List.nodup_cons.1 S.apart).1 d);rcases kn (Xg _ d)with h|h
        . exact .inl (by omega)
        . exact(kp c h).imp (fun h=>h) (fun h=>h.elim (fun h=>h) (fun e=>absurd e ne))
      . exact .inr (U c d)
     have a2: ∀c∈keys (srL u N bb bk g.nodes (ptrTo C) (ptrTo T) (.func (.func D) #[] #[ptrTo w]) (.func (.func E) #[] #[ptrTo w]) t (dC σ v)) (srG t (dC σ v))++F,hq.n<=c:=fun c d=>bq c ((I c d).imp (fun h=>h) .inl);have bf:=S.ok;have k3:=fun {c} d=>S.key_lt (b:=c) d;have bo: ∀c,hS.n<=c\/c∈B\/c=l->(c∈B0\/c=l)\/hA'.n<=c:=fun c d=>d.elim (fun h=>.inr (zO f.n h)) (fun h=>h.elim (fun h=>(hB c h).imp .inl (fun h=>h)) (fun e=>.inl (.inr e)));have bh:=Rc.lt bf;by_cases hv:v=to
     . subst hv;simp only [BZ,r0,r2,seval];refine step_ret (sback_ok S.ok) ?_;rintro rv h4 ⟨g4,b1,b2,rfl,bY,bi,nb,e1,e2⟩;replace S:=S.call g4;have b0:=g4.n;simp only [BZ,seval];have pl:=(G.bd v).2;have b3:=G.len;refine step_ret (um S.ok (back_it ad (wq.trans g4) y hn (Rc.gr g4) G (Xx _ (by simp)) e1 e2 (fun h=>by have:=bh b2 h;omega) nb (zO wq.n bi)) (fun b hb=>by subst hb;exact e2.lt g4.ok) (by omega)) ?_;rintro vA h5 ⟨fW,bm,z⟩;replace S:=S.step fW (fun c d=>.inr (by subst d;omega)) (fun c d e=>by subst e;have:=k3 d;omega);simp only [BZ,seval];refine step_ret (Bd S.ok bm (by omega)) ?_;rintro rv h6 ⟨fR,gR⟩;have b4:=fW.n;have b5: ∀c,aq vA c->_<=c:=z;replace S:=S.step fR (fun c d=>.inr (by have:=z c d;omega)) (fun c d hb=>by have:=k3 d;have:=z c hb;omega);have a3:Fl vA:=gR.fl;have lL:=(S.row (b:=N) m2).load1 (tZ (L:=σ.L) Z);simp only [BZ];refine ar (ax rfl) (q:=0) (ps:=[]) (by kernel_rfl) ?_;simp only [BZ,cls,r0,r2,r6,Z,lL,A,a3,S.ld (b:=u) (o:=2) m1 rfl,S.ld (b:=u) (o:=7) m1 rfl,seval];refine df (S.store (i:=0) rfl Tryz.t99.2.1 (by intro x e;cases e) rfl (by simp only [ae,Xy,XA,A.2.1,a3.2.1,Xn];rfl) (lbt rfl) ono) ?_;have bn: ∀c,aq vA c->c≠l:=fun c d e=>(by have:=z c d;have:=k3 (c:=l) (by simp [keys]);omega);have kA: ∀c,aq vA c-> ¬aq t c:=fun c d he=>(by have:=z c d;have:=k3 (hI (p:=(t,4,_)) m0 (q8 (S.gown _ m0).1 he));omega);clear S;rintro h7 ⟨S,mo⟩;simp only [LC,ae,lay,Xi,Xj,seval]at S;simp only [BZ,ab,seval];refine(bZ (by decide) (by simp only [aD,r6,ah,seval];exact bN Tryz.t99.1 Tryz.t99.2.1 (S.lds (b:=l) (o:=0) (n:=3) m0 (lbt rfl)))).2 (cK.2 ?_);have bt:=(((gh.fr (M:=NoM)).trans Sp.fr (fun c d=>.inr (bq c (.inr d)))).trans S.fr (fun c d=>.inr (bq c (kp c d)))).gr;refine⟨bt,_,hE _ (.hit O),vA,t,rfl,gR.of_get (fun c d=>mo.get c (gR.lt fR.ok d) ?_),(S.gown _ m0).1,fun c d=>⟨by have:=z c d;have:=wq.n;omega,kA c d⟩,fun c d=>?_⟩
       . obtain⟨a',n',e',_⟩: ∃a' n',vA=Value.slice (some ⟨a',0,some 1⟩) n' n'/\a'=c:=by
          rcases gR with⟨e,_⟩|⟨b',n',e,_⟩
          . simp only []at e;rw [e]at d;cases d
          . simp only []at e;rw [e]at d;cases d;exact⟨_,_,e,rfl⟩
         exact bn c (by rw [e'];assumption)
       . exact bq c (((S.gown _ m0).2 c (q8 (S.gown _ m0).1 d)).elim (fun h=>.inl (zO np h)) (fun h=>kp c h))
     . have bu: ¬((v:Int)=(to:Int)):=(by omega);simp only [BZ,r0,r2,bu,seval];obtain⟨a4,bw⟩:=sv.next hA hk
       refine step_ret (sscan_ok ad wq y hn Rc a2 a6 ai hp Z G (sv.room v) (by show(σ.ev++[_]).length<=10000;simp;omega)) ?_;rintro rv h4 ⟨f4,B4,R4,bx⟩;simp only [BZ];have es:=AU g.arcs al pi v (dC σ v);have eO:(qq g.arcs al pi v (dC σ v)).O=σ.O++[v]:=bw.O;have ec:(dC σ v).ev.length=σ.ev.length+1:=(by show(σ.ev++[_]).length=_;simp);have a5:=a4.len;rw [eO]at a5;simp at a5;refine ih _ _ _ (by rw [eO];simp;omega) ⟨B4,?_,?_,R4,?_,a4,by rw [eO];simp;omega,fun r hr=>hE r (.step O hv hr),by simp [aw,r0,ah,r1,r2,r6]⟩
       . exact((f.trans Sp.fr (fun c d=>bo c (.inr d))).trans S.fr (fun c d=>bo c (kp c d))).trans f4 (fun c d=>bo c ((I c d).imp (fun h=>h) .inl))
       . exact f4.has (o:=.row _ 1) (S.row m0) (fun W=>(I l W).elim (fun h=>by have:=f.n;omega) Q)
       . exact fun c d=>(bx c d).elim (fun h=>(I c h).elim (fun h=>.inr (zO f.n h)) (hB c)) (fun h=>.inr (by have:=f.n;omega))
 . have k0:(dg pi s).ev.length=0:=(by unfold dg;rw [uG];rfl);exact⟨B1,f1.mono (fun c d=>.inl d),f1.has (o:=.row _ 1) K n6,R1,ak,lN hs,by omega,fun r hr=>hr,by simp [aw,cD,ah,dK]⟩
theorem lW{h0:Hp}(d:h0.t.Sized h0.n){p:Value}{a:Gra}{e:Nat}(c:aX h0 e p a):aN zM 30 [p] h0 (.int .i64 a.arcs.length):=by have S:=Si d;obtain⟨b,h,i,j,k,l,rfl,r,f,_⟩:=c.ex;have g:=r.load1 (o:=3) rfl;refine aa (n:=11) (rs:=[.tmp 2]) rfl Tryz.e30 rfl rfl rfl (lbt rfl) ?_;simp only [BZ,ab,g,f.A.lenq,seval];exact S.gr
def alF(als:List Bool)(a:Nat):Bool:=als.isEmpty||als.getD a false
def piF(pis:List Int)(v:Nat):Int:=if pis=[]then 0 else max (-72057594037927936) (pis.getD v 0)
theorem piF_lo(pis:List Int)(v:Nat): -(FAR:Int)<=piF pis v:=by
 have:=dR;unfold piF
 split<;>omega
theorem al_ok{hq:Hp}{k n:Nat}{vAl:Value}{als:List Bool}(q:hq.load k 2 1=some [vAl])(r:av hq 1 encB vAl als)(m:als=[]\/als.length=n):AlF zM hq 198 k n (alF als):=by
 intro h g a t;have S:=Si g.ok;have p:=g.load q;have d:=r.gr g;rcases m with rfl|m
 . refine aa (n:=15) (rs:=[.tmp 3]) rfl Tryz.e198 rfl rfl rfl (lbt rfl) ?_;simp only [BZ,ab,Xe,p,d.lenq,seval];exact⟨rfl,S.gr⟩
 . have s: ¬((als.length:Int)=0):=(by omega);have f:a<als.length:=(by omega);obtain⟨c,o,i,j⟩:=d.ix (kd:=.i64) AK f;have e:alF als a=als[a]:=by
    unfold alF;cases als with
    |nil=>simp at f| cons b l=>show(false||(b::l).getD a false)=_;rw [Xc,Xf f];rfl
   rw [e];refine aa (n:=15) (rs:=[.tmp 3]) rfl Tryz.e198 rfl rfl rfl (lbt rfl) ?_;simp only [BZ,ab,p,d.lenq,s,i,j,encB,seval];exact S.gr
theorem pi_ok{hq:Hp}{j n:Nat}{vPi:Value}{pis:List Int}(m:hq.load j 3 1=some [vPi])(p:av hq 1 (encI .i64) vPi pis)(k:pis=[]\/pis.length=n):PiF zM hq 199 j n (piF pis):=by
 intro h g a r;have S:=Si g.ok;have l:=g.load m;have b:=p.gr g;rcases k with rfl|k
 . refine aa (n:=14) (rs:=[.tmp 3]) rfl Tryz.e199 rfl rfl rfl (lbt rfl) ?_;simp only [BZ,ab,Xe,l,b.lenq,seval];exact⟨rfl,S.gr⟩
 . have q: ¬((pis.length:Int)=0):=(by omega);have d:a<pis.length:=(by omega);obtain⟨c,o,f,i⟩:=b.ix (kd:=.i64) (bG .i64) d;have e:piF pis a=max (-72057594037927936) pis[a]:=(by unfold piF;rw [if_neg (by intro e;subst e;simp at d)];simp [Xc,d]);rw [e];refine aa (n:=14) (rs:=[.tmp 3]) rfl Tryz.e199 rfl rfl rfl (lbt rfl) ?_;simp only [BZ,ab,l,b.lenq,q,f,i,encI,seval];exact S.gr
theorem sstart_ok{h0:Hp}(R:h0.t.Sized h0.n){d:Gra}(m:Good d){T t:Nat}(j:aX h0 T (ptrTo t) d){s to:Int}{vAl vPi:Value}(fA:Fl vAl)(fP:Fl vPi):
 Ret zM 118 [ptrTo t,.agg ⟨[.int .i64 s,.int .i64 to,vAl,vPi]⟩] h0 fun r D=> ∃k f hq B,r=ptrTo k/\Gr h0 hq/\Gr hq D/\hq.load f 2 1=some [vAl]/\hq.load f 3 1=some [vPi]/\gD D B k (ptrTo t) (.func (.func 198) #[] #[ptrTo f]) (.func (.func 199) #[] #[ptrTo f]) d.nodes zS/\ ∀c∈B,hq.n<=c:=by
 have U:=m.n1;have n2:=m.n2;have S:=Si R;refine aa (n:=34) (rs:=[.tmp 4]) rfl Tryz.e118 rfl rfl rfl (lbt rfl) ?_;simp only [BZ,seval];refine ac (bg (by intro x e;cases e)) S ?_;clear S;intro h f S E;simp only [ae]at S;have w:=S.gr;have V:=S.ld (b:=f) (o:=2) m0 rfl;have W:=S.ld (b:=f) (o:=3) m0 rfl;clear S;rename Hp=>hq;replace j:=j.gr w;have S:=Si w.ok;simp only [BZ];refine ar (ax rfl) (q:=2880) (ps:=[]) (by kernel_rfl) ?_;simp only [BZ,cls,seval];refine bM (bS S.ok (j.gr S.gr)) ?_;intro h g;replace S:=S.call g;clear g;simp only [BZ,cls,seval];refine cu (xc S.ok) ?_;rintro X h ⟨g,F,H,Y⟩;have Z:=S.fr.n;replace S:=S.call g;clear g;have pp: ∃b,X=ptrTo b:=by obtain⟨b,_,_,e,_⟩:=H.ex;exact⟨b,e⟩
 obtain⟨G,rfl⟩:=pp;have l:=S;have lF:=H.lt l.ok;rename Hp=>h_H;replace S:=S.base;simp only [BZ,cls,seval];refine bM (bS S.ok (j.gr (l.rebase S).gr)) ?_;intro h g;replace S:=S.call g;clear g;simp only [BZ,cls,seval];refine dL (kH (by exact Tryz.t23.1) (by exact X2) (by omega) (by omega)) S ?_;clear S;intro h y S I J;simp only [BZ,cls,Xr,seval];refine xn (bS (h0:={h with lo:=h.n}) S.ok ((j.gr (l.rebase S).gr).keep S.ok (fun _ _=>rfl))) ?_;intro h g;replace S:=S.call g;clear g;simp only [BZ,cls,seval];refine dL (kH (by exact Tryz.t103.1) (by exact Tryz.e4E) (by omega) (by omega)) S ?_;clear S;intro h z S K L;simp only [BZ,cls,Xr,seval];refine dL (bg (by intro x e;cases e)) S ?_;clear S;intro h k S M N;simp only [ae]at S;simp only [BZ,cls,seval];refine ac (bV (by exact Tryz.t41.1) (by exact XD) (by decide) (by rfl)) S ?_;clear S;intro h O S P;simp only [LC,a9,bQ,ae,Xl,Xm,Xo,Xq,seval]at S;simp only [BZ,seval];refine ag (bS S.ok (j.gr (l.rebase S).gr)) ?_;intro h g;replace S:=S.call g;clear g;simp only [BZ,seval];have A:=fun {c} (a:c∈_)=>S.key_lt (b:=c) a;have kn:=S.fr.n;refine step_ret (repI_ok S.ok (x:= -1) (.inr ⟨O,0,none,1,rfl,Xs _,S.lds (b:=O) (o:=0) (n:=1*1) m0 (lbt rfl)⟩) U (by omega)) ?_;intro v h ⟨g,u,eb,nb',Rb⟩;replace S:=S.call g;clear g;subst eb;replace S:=S.drop1;replace S:=S.push (b:=u) (o:=.row _ 1) (.inl (zO kn nb')) Rb (fun C=>by have:=A (Xg _ C);omega);simp only [BZ,seval];refine aC (aA S (i:=1) rfl ?_ ?_ ?_ ono) ?_
 . exact(by simp only [FA0])
 . exact(by exact bO)
 . exact Xb (lbt rfl)
 clear S;rintro h ⟨S,p⟩;clear p;simp only [LC,ae,lay,Xi,Xj,seval]at S;simp only [BZ,seval];refine aC (aA S (i:=1) rfl ?_ ?_ ?_ ono) ?_
 . exact(by simp only [FA0])
 . exact(by exact fT)
 . exact Xb (lbt rfl)
 clear S;rintro h ⟨S,p⟩;clear p;simp only [LC,ae,lay,Xi,Xj,seval]at S;simp only [BZ,seval];refine aC (aA S (i:=1) rfl ?_ ?_ ?_ ono) ?_
 . exact(by simp only [FA0])
 . exact(by exact fT)
 . exact Xb (lbt rfl)
 clear S;rintro h ⟨S,p⟩;clear p;simp only [LC,ae,lay,Xi,Xj,seval]at S;simp only [BZ,ab,seval];have e1:a9 [Value.int .i64 0] ((d.nodes:Int)).toNat=labC d.nodes zS.L:=by rw [qM];rfl
 have e2:a9 [Value.bool false] ((d.nodes:Int)).toNat=clC d.nodes zS.O:=by rw [qM];unfold clC zS;exact X7 fun v _=>by simp
 have e3:Xu d.nodes (Value.int .i64 (-1))=byC d.nodes zS.P:=by show _=(Xa d.nodes).map fun _=>Value.int .i64 (-1);rw [XV,Xk]
 rw [e1,e2,e3]at S;have ap:=S.apart;have A:=fun {c} a=>S.key_own (b:=c) a;have n0:=l.fr.n;have Q: ∀c∈keys (srL k y u z d.nodes (ptrTo t) (ptrTo G) (.func (.func 198) #[] #[ptrTo f]) (.func (.func 199) #[] #[ptrTo f]) (.slice none 0 0) zS) (srG (.slice none 0 0) zS),h_H.n<=c:=fun c a=>by
  have:c=u\/c=k\/c=z\/c=y:=by simp [srL,srG,keys,eZ]at a;omega
  rcases A (c:=c) (by simp [keys];omega)with h|h
  . exact h
  . simp [keys]at h
 refine⟨k,f,hq,_,rfl,w,(l.rebase S).gr,V,W,⟨y,u,z,G,F,.slice none 0 0,rfl,fun q hq=>?_,.inl ⟨rfl,rfl⟩,?_,H.mo S.fr (fun c _ h=>by simp [keys]at h),fun c a C=>?_⟩,fun c a=>?_⟩
 . simp only [srL,X6,List.not_mem_nil,or_false]at hq;rcases hq with rfl|rfl|rfl|rfl
   . exact S.row m1
   . exact S.row m3
   . exact S.row m0
   . exact S.row m2
 . simp [srL,srG,keys,eZ]at ap⊢;exact⟨by omega,by omega,by omega,.nil⟩
 . have:=lF c a;have:=Q c C;omega
 . rcases List.mem_append.1 a with a|a
   . exact zO n0 (Q c a)
   . exact zO Z (Y c a)
theorem fitsB_ok{h0:Hp}(d:h0.t.Sized h0.n){v:Value}{xs:List Bool}(b:av h0 1 encB v xs){n:Nat}(e:xs=[]\/xs.length=n):aN zM 116 [v,.int .i64 n] h0 (.bool true):=by
 have S:=Si d;by_cases a:(xs.length:Int)=0
 . refine aa (n:=14) (rs:=[.tmp 4]) rfl Tryz.e116 rfl rfl rfl (lbt rfl) ?_;simp only [BZ,ab,b.lenq,a,seval];exact S.gr
 . have c:(xs.length:Int)=(n:Int):=by
    rcases e with rfl|h
    . simp at a
    . omega
   rw [c]at a;refine aa (n:=14) (rs:=[.tmp 4]) rfl Tryz.e116 rfl rfl rfl (lbt rfl) ?_;simp only [BZ,ab,b.lenq,a,c,seval];exact S.gr
theorem fitsI_ok{h0:Hp}(d:h0.t.Sized h0.n){v:Value}{xs:List Int}(b:av h0 1 (encI .i64) v xs){n:Nat}(e:xs=[]\/xs.length=n):aN zM 117 [v,.int .i64 n] h0 (.bool true):=by
 have S:=Si d;by_cases a:(xs.length:Int)=0
 . refine aa (n:=14) (rs:=[.tmp 4]) rfl Tryz.e117 rfl rfl rfl (lbt rfl) ?_;simp only [BZ,ab,b.lenq,a,seval];exact S.gr
 . have c:(xs.length:Int)=(n:Int):=by
    rcases e with rfl|h
    . simp at a
    . omega
   rw [c]at a;refine aa (n:=14) (rs:=[.tmp 4]) rfl Tryz.e117 rfl rfl rfl (lbt rfl) ?_;simp only [BZ,ab,b.lenq,a,c,seval];exact S.gr
theorem vC{h0:Hp}(d:h0.t.Sized h0.n){a b2:Nat}{b:Gra}{e:Nat}(c:aX h0 e (ptrTo a) b)(l:h0.load b2 0 1=some [ptrTo a]){v:Nat}(f:v<b.nodes):aN zM 115 [.int .i64 (v:Nat),ptrTo b2] h0 (.bool true):=by
 have S:=Si d;have i:(0:Int)<=(v:Int):=by omega
 refine aa (n:=12) (rs:=[.tmp 3]) rfl Tryz.e115 rfl rfl rfl (lbt rfl) ?_;simp only [BZ,l,i,seval];refine ag (bS S.ok (c.gr S.gr)) ?_;intro h g;replace S:=S.call g;clear g;simp only [BZ,ab,az,f,seval];exact S.gr
theorem ru{h0:Hp}(ok:h0.t.Sized h0.n){m:Gra}(t:Good m){nb T:Nat}(u:aX h0 nb (ptrTo T) m){s to:Nat}(U:s<m.nodes)(w:to<m.nodes){vAl vPi:Value}{als:List Bool}{pis:List Int}(I:av h0 1 encB vAl als)(y:als=[]\/als.length=m.arcs.length)(J:av h0 1 (encI .i64) vPi pis)(z:pis=[]\/pis.length=m.nodes):
 Ret zM 47 [ptrTo T,.agg ⟨[.int .i64 (s:Nat),.int .i64 (to:Nat),vAl,vPi]⟩] h0 fun r V=>Gr h0 V/\ ∃v A,r=.tuple #[v,.int .i64 0]/\FdAt V h0.n v A/\((s=to/\A=⟨0,[],[]⟩)\/(s≠to/\Ends m.arcs (alF als) (piF pis) to (dg (piF pis) s) A)):=by
 have S:=Si ok;have fA:=I.fl;have fP:=J.fl;refine aa (n:=57) (rs:=[.cell 4 99,.tmp 5]) rfl Tryz.e47 rfl rfl rfl (lbt rfl) ?_;simp only [BZ,seval];refine ac (bW (by exact cP)) S ?_;clear S;intro h d S W;simp only [BZ,if_false,seval];refine ac (bg (by intro x e;cases e)) S ?_;clear S;intro h a S X;simp only [ae]at S;simp only [BZ];refine ac ay S ?_;clear S;intro h K S Y;simp only [BZ,S.ld (b:=d) (o:=0) m2 rfl,seval];refine ar (ax rfl) (q:=0) (ps:=[(22,24),(14,16)]) (by kernel_rfl) ?_;simp only [BZ,cls,S.ld (b:=d) (o:=0) m2 rfl,S.ld (b:=a) (o:=0) m1 rfl,seval];have Z:=(S.row (b:=d) m2).lt S.ok;have q1:=(S.row (b:=a) m1).lt S.ok;refine bM (vC S.ok (u.gr S.gr) (S.ld (b:=d) (o:=0) m2 rfl) U) ?_;intro h g;have L:=ao g Z;have v1:=ao g q1;replace S:=S.call g;clear g;simp only [BZ,cls,S.ld (b:=d) (o:=0) m2 rfl,S.ld (b:=a) (o:=1) m1 rfl,seval];have p2:=(S.row (b:=d) m2).lt S.ok;have q2:=(S.row (b:=a) m1).lt S.ok;refine bM (vC S.ok (u.gr S.gr) (S.ld (b:=d) (o:=0) m2 rfl) w) ?_;intro h g;have u2:=ao g p2;have v2:=ao g q2;replace S:=S.call g;clear g;simp only [BZ,cls,S.ld (b:=d) (o:=0) m2 rfl,S.ld (b:=a) (o:=2) m1 rfl,seval];have H:=(S.row (b:=d) m2).lt S.ok;have q3:=(S.row (b:=a) m1).lt S.ok;refine bM (lW S.ok (u.gr S.gr)) ?_;intro h g;have u3:=ao g H;have v3:=ao g q3;replace S:=S.call g;clear g;simp only [BZ,cls,seval];have p4:=(S.row (b:=d) m2).lt S.ok;have q4:=(S.row (b:=a) m1).lt S.ok;refine bM (fitsB_ok S.ok (I.gr S.gr) y) ?_;intro h g;have u4:=ao g p4;have v4:=ao g q4;replace S:=S.call g;clear g;simp only [BZ,cls,S.ld (b:=d) (o:=0) m2 rfl,S.ld (b:=a) (o:=3) m1 rfl,seval];have p5:=(S.row (b:=d) m2).lt S.ok;have q5:=(S.row (b:=a) m1).lt S.ok;refine bM (bS S.ok (u.gr S.gr)) ?_;intro h g;have u5:=ao g p5;have v5:=ao g q5;replace S:=S.call g;clear g;simp only [BZ,cls,seval];have p6:=(S.row (b:=d) m2).lt S.ok;have q6:=(S.row (b:=a) m1).lt S.ok;refine bM (fitsI_ok S.ok (J.gr S.gr) z) ?_;intro h g;have u6:=ao g p6;have v6:=ao g q6;replace S:=S.call g;clear g;simp only [BZ,cls,seval];refine⟨by simp only [aK,aS,aH,aU,aJ,ne_eq,not_false_eq_true,aW,aZ,aT,aM,bA,ca,aD,Xn,ah,aB v3,aB v5,seval],?_⟩;clear Z p2 H p4 p5 p6 q1 q2 q3 q4 q5 q6 L u2 u3 u4 u5 u6 v1 v2 v3 v4 v5 v6;by_cases C:s=to
 . subst C;simp only [BZ,S.ld (b:=a) (o:=0) m1 rfl,S.ld (b:=a) (o:=1) m1 rfl,seval];refine aC (S.store (i:=0) rfl Tryz.t99.2.1 (by intro x e;cases e) rfl rfl (lbt rfl) ono) ?_;clear S;rintro h3 ⟨S,mo⟩;simp only [LC,ae,lay,Xi,Xj,seval]at S;simp only [BZ,ab];refine(bZ (by decide) (by simp only [aD,ah,seval];exact bN Tryz.t99.1 Tryz.t99.2.1 (S.lds (b:=K) (o:=0) (n:=3) m0 (lbt rfl)))).2 ?_;refine(fQ (by decide)).2 (cK.2 ?_);exact⟨S.gr,_,⟨0,[],[]⟩,rfl,⟨_,_,rfl,.inl ⟨rfl,rfl⟩,.inl ⟨rfl,rfl⟩,fun c f=>f.elim,fun c f=>f.elim⟩,.inl rfl⟩
 . have D: ¬((s:Int)=(to:Int)):=(by omega);simp only [BZ,D,S.ld (b:=a) (o:=0) m1 rfl,S.ld (b:=a) (o:=1) m1 rfl,seval];refine ar (ax rfl) (q:=0) (ps:=[(2,6),(2,4)]) (by kernel_rfl) ?_;simp only [BZ,cls,Xw,Xz,List.take_zero,S.ld (b:=d) (o:=0) m2 rfl,S.lds (b:=a) (o:=0) (n:=4) m1 (lbt rfl),seval];have E:=u.gr S.gr;have kS:=S.fr.n;have H:=(S.row (b:=a) m1).lt S.ok;refine cu (sstart_ok S.ok t E fA fP) ?_;rintro r h5 ⟨br,ba,hq,B,rfl,j,M,l2,l3,R,hB⟩;have L:=ao (j.trans M) H;have Aq:=I.gr (S.gr.trans j);have Pq:=J.gr (S.gr.trans j);have N:=S.call j;have ad:=(N.row (b:=K) m0).lt N.ok;replace S:=S.call (j.trans M);simp only [BZ,cls,S.ld (b:=a) (o:=0) m1 rfl,S.ld (b:=a) (o:=1) m1 rfl,seval];have kq:=j.n;have O:=E.gr j;refine cu (srun_ok j.ok M t O R hB (al_ok l2 Aq y) (pi_ok l3 Pq z) (fun v _=>piF_lo pis v) U w) ?_;rintro rv h6 ⟨g6,A,he,vA,vE,rfl,G1,G2,P,d2⟩;replace S:=N.call g6;have f1:Fl vA:=G1.fl;have f2:Fl vE:=G2.fl;simp only [BZ,cls,seval];refine df (S.store (i:=0) rfl Tryz.t99.2.1 (by intro x e;cases e) rfl (by simp only [ae,Xy,XA,f1.2.1,f2.2.1,Xn];rfl) (lbt rfl) ono) ?_;clear S;rintro h7 ⟨S,mo⟩;simp only [LC,ae,lay,Xi,Xj,seval]at S;simp only [BZ,cls,ab,seval];refine⟨by simp only [aK,aS,aH,aU,aJ,ne_eq,not_false_eq_true,aW,aZ,aT,aM,bA,ca,aD,Xn,ah,aF L,seval],?_⟩;refine(bZ (by decide) (by simp only [aD,ah,seval];exact bN Tryz.t99.1 Tryz.t99.2.1 (S.lds (b:=K) (o:=0) (n:=3) m0 (lbt rfl)))).2 ?_;refine(fQ (by decide)).2 (cK.2 ?_);have l: ∀{p:GL},gf h6 p->(∀c,aq p.1 c->hq.n<=c)->gf h7 p:=fun {p} G f=>G.of_get fun c Q=>mo.get c (G.lt g6.ok Q) fun e=>by
    have:=f c (by
     rcases G with⟨F,_⟩|⟨b',n',F,_⟩
     . obtain⟨v,k,vs⟩:=p;simp only []at F;subst F;cases Q
     . obtain⟨v,k,vs⟩:=p;simp only []at F;subst F;cases Q;rfl)
    omega
   exact⟨S.gr,_,A,rfl,⟨vA,vE,rfl,l G1 (fun c f=>(P c f).1),l G2 d2,fun c f=>⟨zO kS (zO kq (P c f).1),(P c f).2⟩,fun c f=>zO kS (zO kq (d2 c f))⟩,.inr ⟨C,he⟩⟩
theorem Bn{h0:Hp}(b:h0.t.Sized h0.n):Ret zM 43 [.pointer none] h0 fun r a=>Gr h0 a/\ ∃l:List Int,av a 1 (encI .i64) r l/\l.length=0:=by have S:=Si b;refine aa (n:=10) (rs:=[.tmp 2]) rfl Tryz.e43 rfl rfl rfl (lbt rfl) ?_;simp only [BZ,ab,seval];exact⟨S.gr,[],.inl ⟨rfl,rfl⟩,rfl⟩
theorem Bf{h0:Hp}(a:h0.t.Sized h0.n):aN zM 42 [.pointer none] h0 (.int .i64 ((0:Nat):Int)):=by have S:=Si a;refine aa (n:=9) (rs:=[.tmp 2]) rfl Tryz.e42 rfl rfl rfl (lbt rfl) ?_;simp only [BZ,ab,Xe,seval];exact S.gr
def TabQ(h:Hp)(b:Value)(a:Nat)(l:List Int)(R Q:Nat->List Int):Prop:=(∃m,TabAt h m b a l R Q/\(∀i,i<l.length->(R i).length=a)/\ ∀i,i<l.length->(Q i).length=a)\/(b=.pointer none/\a=0/\l=[])
theorem TabQ.gr{h c:Hp}{d:Value}{e:Nat}{l:List Int}{R Q:Nat->List Int}(t:TabQ h d e l R Q)(g:Gr h c):TabQ c d e l R Q:=t.imp (fun⟨m,a,b⟩=>⟨m,a.gr g,b⟩) (fun h=>h)
theorem TabQ.tabO{h:Hp}{d:Value}{e:Nat}{l:List Int}{R Q:Nat->List Int}(t:TabQ h d e l R Q)(f:l.length<1000):TabO zM h d e l.length 43 42:=by
 rcases t with⟨m,t,_,_⟩|⟨rfl,rfl,rfl⟩
 . refine⟨by obtain⟨b,_,_,_,rfl,_⟩:=t.ex;exact cP,fun x k=>(jT k.ok (t.gr k) f).mono fun r g ⟨a,b,c⟩=>⟨a,l,b,rfl⟩,fun x k=>kY k.ok (t.gr k)⟩
 . exact⟨cP,fun x k=>Bn k.ok,fun x k=>Bf k.ok⟩
theorem C7{N a mk:Nat}{f t:Int}(h:kj N a mk f t=0):(0<=f/\f<N)/\(0<=t/\t<N)/\0<mk/\a=N:=by
 unfold kj at h
 split at h
 . cases h
 . split at h
   . cases h
   . split at h
     . rename_i c d b;exact⟨by omega,by omega,b⟩
     . cases h
def mS(c:Int)(d:Int)(vA a:Value):Value:=.agg ⟨[.int .i64 c,.int .i64 d,vA,a]⟩
def pos:List Int->Int->Option Nat
 | [],_=>none|y::a,x=>if x=y then some 0 else(pos a x).map (· +1)
def jE:Nat->List Int->List (Value×Value×Nat)
 |_,[]=>[]|o,x::a=>(.int .i64 x,.int .i64 (o:Nat),o)::jE (o+1) a
theorem ents_app(o:Nat)(l:List Int)(x:Int):jE o (l++[x])=jE o l++[(.int .i64 x,.int .i64 ((o+l.length:Nat):Int),o+l.length)]:=by
 induction l generalizing o with
 |nil=>rfl| cons y a b=>show _::jE (o+1) (a++[x])=_::(jE (o+1) a++_);rw [b,List.length_cons,show o+1+a.length=o+(a.length+1) by omega]
theorem ents_len(o:Nat)(l:List Int):(jE o l).length=l.length:=by
 induction l generalizing o with
 |nil=>rfl|cons y a b=>show(jE (o+1) a).length+1=_;rw [b];rfl
theorem keq_int{x y:Int}:ce (.int .i64 x) (.int .i64 y)=some (decide (x=y)):=by show some (iD x y)=_;congr 1;rw [mZ]
theorem wR(o:Nat)(l:List Int)(x:Int):aY (.int .i64 x) (jE o l)=some ((pos l x).map fun i=>(.int .i64 ((o+i:Nat):Int),o+i)):=by
 induction l generalizing o with
 |nil=>rfl| cons y a b=>
   show(match ce (.int .i64 x) (.int .i64 y)with|none=>none|some true=>some (some (Value.int .i64 (o:Nat),o))|some false=>aY (.int .i64 x) (jE (o+1) a))=_;rw [keq_int,pos];by_cases h:x=y
   . rw [if_pos h,decide_eq_true h];rfl
   . rw [if_neg h,decide_eq_false h];show aY (.int .i64 x) (jE (o+1) a)=_;rw [b];cases pos a x with
     |none=>rfl|some i=>simp;omega
theorem St.mput{M:Nat->Prop}{h0 h:Hp}{L:List (Nat×Ob)}{G:List GL}(S:St M h0 h L G){E:Env}{t kt el:TypeId}{i b c:Nat}{a:List (Value×Value×Nat)}{k v:Value}(d:L[i]? =some (b,.map a c))(g:E.und t=some (.map kt el))(hf:bD E kt k=true)(j:aY k a=some none):
 ∃e,dZ E h t (.map (some b)) k v=some e/\St M h0 e (L.set i (b,.map (a++[(k,v,c)]) (c+1))) G:=by
 have f:h.get b=some (.map a c):=(S.own _ (List.mem_of_getElem? d)).2;refine⟨h.put b (.map (a++[(k,v,c)]) (c+1)),?_,S.put d ?_⟩
 . simp only [dZ,jy,g,hf,cond_true,f,j]
 . show(h.put b _).get b=_;rw [Hp.get_put,if_pos ⟨rfl,by rw [f];rfl⟩]
theorem BF{E:Env}{h:Hp}{t kt el:TypeId}{b c:Nat}{l:List Int}{x:Int}(a:E.und t=some (.map kt el))(d:E.und kt=some (.int .i64))(e:E.zeroV el=some (.int .i64 0))(f:h.get b=some (.map (jE 0 l) c)):
 dE E h t (.map (some b)) (.int .i64 x) true=some (match pos l x with|some i=>.tuple #[.int .i64 (i:Nat),.bool true]|none=>.tuple #[.int .i64 0,.bool false]):=by
 have hf:bD E kt (.int .i64 x)=true:=by simp only [bD,d];rfl
 simp only [dE,a,hf,cond_true,f,wR,e];cases pos l x with
 |none=>rfl|some i=>simp
def og(ks:List Int)(x:Int):Nat:=match pos ks x with|some i=>i|none=>ks.length
def oa(ks:List Int)(x:Int):List Int:=match pos ks x with|some _=>ks|none=>ks++[x]
def norm:List Int->List Int->List Int
 |_,[]=>[]|a,x::b=>(og a x:Int)::norm (oa a x) b
theorem name_ok{h0:Hp}(k:h0.t.Sized h0.n){e a:Nat}{ks:List Int}{x:Int}(l:Row h0 e [.map (some a)] 1)(b:h0.get a=some (.map (jE 0 ks) ks.length)):
 Ret zM 242 [.int .i64 x,ptrTo e] h0 fun v f=>Mo (· =a) h0 f/\v=.int .i64 (og ks x)/\f.get a=some (.map (jE 0 (oa ks x)) (oa ks x).length):=by
 have S:=St.init1 k (o:=.map (jE 0 ks) ks.length) b;have g:=l.load1 (o:=0) rfl;have c:=BF (x:=x) Tryz.t232.1 Tryz.t3.1 (by kernel_rfl) b;have j:oU (some (.map 3 3)) h0 (.map (some a))=some (.val (.int .i64 (jE 0 ks).length),h0):=lenq_map b;rw [ents_len]at j;unfold og oa;cases d:pos ks x with
 | some i=>rw [d]at c;refine aa (n:=20) (rs:=[.tmp 3]) rfl Tryz.e242 rfl rfl rfl (lbt rfl) ?_;simp only [BZ,ab,g,c,seval];exact⟨S.fr,b⟩| none=>rw [d]at c;refine aa (n:=20) (rs:=[.tmp 3]) rfl Tryz.e242 rfl rfl rfl (lbt rfl) ?_;simp only [BZ,g,c,j,seval];refine aC (S.mput (i:=0) rfl Tryz.t232.1 (by simp only [bD,Tryz.t3.1];rfl) (by rw [wR,d];rfl)) ?_;clear S;intro h S;simp only [LC]at S;simp only [BZ,ab,seval];have m:h.get a=some (.map (jE 0 ks++[(.int .i64 x,.int .i64 ks.length,ks.length)]) (ks.length+1)):=(S.own _ m0).2;refine⟨S.fr,?_⟩;rw [ents_app,XJ,Xm];exact m
theorem namer_ok{h0:Hp}(f:h0.t.Sized h0.n):Ret zM 185 [] h0 fun v e=>Gr h0 e/\ ∃a b,v=.func (.func 242) #[] #[ptrTo a]/\h0.n<=a/\h0.n<=b/\Row e a [.map (some b)] 1/\e.get b=some (.map [] 0):=by
 have S:=Si f;refine aa (n:=4) (rs:=[.tmp 0]) rfl Tryz.e185 rfl rfl rfl (lbt rfl) ?_;simp only [BZ];refine ac qQ S ?_;clear S;intro h b S c;simp only [BZ];refine ac ay S ?_;clear S;intro h a S d;simp only [BZ,seval];refine aC (aA S (i:=0) rfl ?_ ?_ ?_ ono) ?_
 . exact(by simp only [FA0])
 . exact(by exact fl_map)
 . exact Xb (lbt rfl)
 clear S;rintro h ⟨S,g⟩;clear g;simp only [LC,ae,lay,Xi,Xj,seval]at S;simp only [BZ,ab,seval];exact⟨S.gr,a,b,rfl,d,c,S.row m0,(S.own _ m1).2⟩
theorem each_ok{h0:Hp}(I:h0.t.Sized h0.n){x d:Nat}{ks l:List Int}{v:Value}(E:Row h0 x [.map (some d)] 1)(y:h0.get d=some (.map (jE 0 ks) ks.length))(z:av h0 1 (encI .i64) v l)(N:l.length<1000):
 Ret zM 184 [v,.func (.func 242) #[] #[ptrTo x]] h0 fun r F=>Mo (· =d) h0 F/\av F 1 (encI .i64) r (norm ks l)/\ ∀c,aq r c->h0.n<=c:=by
 have S:=St.init1 I (o:=.map (jE 0 ks) ks.length) y;have A: ∀c,aq v c-> ¬c=d:=by
  rintro c p rfl;rcases z with⟨rfl,_⟩|⟨b,o,s,O,rfl,_,J⟩
  . exact p.elim
  . have:b=c:=p;subst this;simp [Hp.load,y]at J
 have B: ¬x=d:=by rintro rfl;obtain⟨t,el,e,_⟩:=E;rw [y]at e;cases e
 refine aa (n:=21) (rs:=[.tmp 4]) rfl Tryz.e184 rfl rfl rfl (lbt rfl) ?_;simp only [BZ,z.lenq,seval];replace S:=S.nilG (k:=1);refine aV (fun(i:Nat) g h=>i<=l.length/\ ∃(a done:List Int) (C:Value),norm ks l=done++norm a (l.drop i)/\done.length=i/\St (· =d) h0 h [(d,.map (jE 0 a) a.length)] [(C,1,ints done)]/\
  g 1=.func (.func 242) #[] #[ptrTo x]/\g 4=C/\g 7=v/\g 8=.int .i64 l.length/\g 9=.int .i64 i) (fun i=>l.length-i) ?_ 0 _ _ ?_
 . clear S;intro i K g h ⟨hi,a,done,C,hn,hd,S,r1,r4,r7,r8,r9⟩;by_cases hlt:i<l.length
   . obtain⟨c,o,q,u⟩:=(z.mo S.fr A).ix (kd:=.i64) (bG .i64) hlt;have w:am .i64 ((i:Int)+1)=((i+1:Nat):Int):=(by rw [wrap64]<;>omega);simp only [BZ,r1,r4,r7,r8,r9,az,hlt,q,u,encI,seval];refine step_ret (name_ok S.ok (S.fr.has (o:=.row _ 1) E B) (S.own _ m0).2) ?_;rintro r h ⟨f,rfl,G⟩;replace S:=S.call1 (i:=0) rfl f (o':=.map _ _) G;simp only [LC]at S;simp only [BZ,seval];refine ac (bV (by exact Tryz.t41.1) (by exact XD) (by decide) (by rfl)) S ?_;clear S;intro h L S H;simp only [LC,a9,bQ,ae,Xl,Xm,Xo,Xq,seval]at S;simp only [BZ,seval];refine dP (S.grow (j:=0) (m:=1) (new:=ints [(og a l[i]:Int)]) rfl Tryz.t41.1 XD (by decide) Tryz.t41.2.2.2.2.2 (by simp only [aR];rw [S.lds (b:=L) (o:=0) (n:=1*1) m0 (lbt rfl)];rfl) rfl (by decide) rfl (by rw [cd,cd];simp;omega)) ?_;clear S f G u;rintro h M S;simp only [LC]at S;replace S:=S.drop1;rw [<-ir]at S;simp only [BZ,r9,w,seval];refine K (i+1) _ _ (by omega) ⟨by omega,_,_,_,?_,?_,S,by simp [aw,r1,ah,r7,r8]⟩
     . rw [hn,XP hlt,norm,List.append_assoc];rfl
     . simp [hd]
   . have D:i=l.length:=(by omega);simp only [BZ,ab,r4,r8,r9,az,hlt,seval];have e:norm ks l=done:=(by rw [hn,D,List.drop_length,norm,List.append_nil]);rw [e];exact⟨S.fr,(S.gown _ m0).1.sl rfl (bG .i64) (by decide),fun c p=>((S.gblk m0 p).1).elim (fun h=>h) (fun h=>((S.gblk m0 p).2 (by simp [h])).elim)⟩
 . exact⟨Xt _,ks,[],_,rfl,rfl,S,by simp [aw,cD,dK,ah]⟩
theorem norm_ok{h0:Hp}(d:h0.t.Sized h0.n){l:List Int}{v:Value}(a:av h0 1 (encI .i64) v l)(j:l.length<1000):
 Ret zM 96 [v] h0 fun r b=>Gr h0 b/\av b 1 (encI .i64) r (norm [] l)/\ ∀c,aq r c->h0.n<=c:=by
 have S:=Si d;refine aa (n:=6) (rs:=[.tmp 2]) rfl Tryz.e96 rfl rfl rfl (lbt rfl) ?_;simp only [BZ,seval];refine step_ret (namer_ok S.ok) ?_;intro v h ⟨g,bx,bm,k,n1,n2,R,hg⟩;replace S:=S.call g;replace a:=a.gr g;clear g;subst k;simp only [BZ,seval];refine step_ret (each_ok (ks:=[]) S.ok R hg a j) ?_;rintro r h ⟨f,m,o⟩;simp only [BZ,ab,seval];exact⟨(S.fr.trans f (fun i e=>.inr (by subst e;exact n2))).gr,m,fun c h=>zO S.fr.n (o c h)⟩
theorem yW {h0:Hp} (s:h0.t.Sized h0.n) {u v:Value} {l m:List Int} (p:av h0 1 (encI .i64) u l) (r:av h0 1 (encI .i64) v m) (A:l.length<1000000):aN zM 95 [u,v] h0 (.bool (decide (l=m))):=by
 have S:=Si s;by_cases a:l.length=m.length
 . have hle:((l.length:Int)=(m.length:Int)):=(by omega);refine aa (n:=26) (rs:=[.tmp 4]) rfl Tryz.e95 rfl rfl rfl (lbt rfl) ?_;simp only [BZ,p.lenq,r.lenq,hle,seval];refine aV (fun(i:Nat) g h=>i<=l.length/\l.take i=m.take i/\Gr h0 h/\g 0=u/\g 1=v/\g 12=.int .i64 l.length/\g 13=.int .i64 i) (fun i=>l.length-i) ?_ 0 _ _ ?_
   . clear S;intro i t g h ⟨hi,ht,S,r0,r1,r12,r13⟩;by_cases hlt:i<l.length
     . obtain⟨c,o,d,j⟩:=(p.gr S).ix (kd:=.i64) (bG .i64) hlt;obtain⟨B,C,b,e⟩:=(r.gr S).ix (kd:=.i64) (bG .i64) (a▸hlt);have w:am .i64 ((i:Int)+1)=((i+1:Nat):Int):=(by rw [wrap64]<;>omega);by_cases k:l[i]=m[i]
       . simp only [BZ,r12,r13,az,hlt,seval];refine ar (ax rfl) (q:=0) (ps:=[]) (by kernel_rfl) ?_;simp only [BZ,cls,r0,r1,r13,d,j,b,e,encI,k,w,seval];refine t (i+1) _ _ (by omega) ⟨by omega,?_,S,by simp [aw,r0,r1,r12]⟩;rw [Xd hlt,Xd (a▸hlt),ht,k]
       . have f:l≠m:=(by rintro rfl;exact k rfl);simp only [BZ,r12,r13,az,hlt,seval];refine ar (ax rfl) (q:=0) (ps:=[]) (by kernel_rfl) ?_;simp only [BZ,cls,ab,r0,r1,d,j,b,e,encI,k,f,seval];exact S
     . have x:l=m:=(by have y:l.take i=l:=Xh (by omega);have z:m.take i=m:=Xh (by omega);rw [y,z]at ht;exact ht);subst x;simp only [BZ,ab,r12,r13,az,hlt,seval];exact S
   . exact⟨Xt _,rfl,Gr.refl s,by simp [aw,cD,dK,a]⟩
 . have f:l≠m:=(by rintro rfl;exact a rfl);have hle: ¬((l.length:Int)=(m.length:Int)):=(by omega);refine aa (n:=26) (rs:=[.tmp 4]) rfl Tryz.e95 rfl rfl rfl (lbt rfl) ?_;simp only [BZ,ab,p.lenq,r.lenq,hle,f,seval];exact S.gr
def fS:List Int->Int
 | []=>0|x::a=>a.foldl max x
theorem lmax_succ{l:List Int}{i:Nat}(a:1<=i)(hlt:i<l.length):fS (l.take (i+1))=max (fS (l.take i)) l[i]:=by
 cases l with
 |nil=>cases hlt
 | cons x b=>
   obtain⟨j,rfl⟩: ∃j,i=j+1:=⟨i-1,by omega⟩;rw [Xz,Xz,fS,fS,List.getElem_cons_succ,Xd (by simpa using hlt),List.foldl_append];rfl
theorem lmax_one{l:List Int}(a:0<l.length):fS (l.take 1)=l[0]:=by
 cases l with
 |nil=>cases a
 |cons x b=>rfl
theorem maxInt_ok{h0:Hp}(m:h0.t.Sized h0.n){v:Value}{l:List Int}(f:av h0 1 (encI .i64) v l)(j:1<=l.length)(s:l.length<1000000):aN zM 97 [v] h0 (.int .i64 (fS l)):=by
 have S:=Si m;have k: ¬((l.length:Int)<1):=by omega
 obtain⟨c,o,a,b⟩:=f.ix (kd:=.i64) (bG .i64) (i:=0) (by omega);have d:kV (some 1) v (.int .i64 0)=_:=a;have p:=lmax_one (l:=l) (by omega);generalize l[0]=x at b p;refine aa (n:=25) (rs:=[.tmp 2]) rfl Tryz.e97 rfl rfl rfl (lbt rfl) ?_;simp only [BZ,f.lenq,k,d,b,encI,seval];refine aV (fun(i:Nat) g h=>1<=i/\i<=l.length/\Gr h0 h/\g 0=v/\g 3=.int .i64 (fS (l.take i))/\g 4=.int .i64 i) (fun i=>l.length-i) ?_ 1 _ _ ?_
 . clear S;intro i r g h ⟨j,hi,S,r0,r3,r4⟩;by_cases hlt:i<l.length
   . obtain⟨c,o,a,b⟩:=(f.gr S).ix (kd:=.i64) (bG .i64) hlt;have w:am .i64 ((i:Int)+1)=((i+1:Nat):Int):=(by rw [wrap64]<;>omega);have q:=lmax_succ j hlt;generalize l[i]=y at b q;simp only [BZ,r0,r3,r4,(f.gr S).lenq,az,hlt,a,b,encI,w,seval];refine r (i+1) _ _ (by omega) ⟨by omega,by omega,S,by simp [aw,r0],?_,by simp [aw]⟩;simp only [aD,seval];rw [q]
   . simp only [BZ,ab,r0,r3,r4,(f.gr S).lenq,az,hlt,seval];have e:l.take i=l:=Xh (by omega);rw [e];exact⟨rfl,S⟩
 . exact⟨Xs _,j,Gr.refl m,by simp [aw,cD,p]⟩
theorem Ao(ks l:List Int):(norm ks l).length=l.length:=by
 induction l generalizing ks with
 |nil=>rfl|cons x a b=>show(norm _ a).length+1=_;rw [b];rfl
def ja(h:Hp)(n:Nat)(p:Value)(m:List Int):Prop:= ∃b v,p=ptrTo b/\Row h b [v,.int .i64 (fS m+1)] 1/\av h 1 (encI .i64) v m/\n<=b/\ ∀c,aq v c->n<=c
theorem ja.mo{M:Nat->Prop}{h a:Hp}{n:Nat}{p:Value}{m:List Int}(c:ja h n p m)(g:Mo M h a)(d: ∀b,M b->b<n):ja a n p m:=by obtain⟨b,v,e,r,s,i,f⟩:=c;exact⟨b,v,e,g.has (o:=.row _ 1) r (fun h=>by have:=d _ h;omega),s.mo g (fun c j k=>by have:=d _ k;have:=f c j;omega),i,f⟩
theorem ja.gr{h a:Hp}{n:Nat}{p:Value}{m:List Int}(c:ja h n p m)(g:Gr h a):ja a n p m:=c.mo (M:=NoM) g.fr (fun _ h=>h.elim)
def vr(m:List Int):Prop:=m=[]\/norm [] m≠m\/256<fS m+1
theorem CW{h0:Hp}(z:h0.t.Sized h0.n){v:Value}{m:List Int}(d:av h0 1 (encI .i64) v m)(A:m.length<1000)(G:0<=fS m/\fS m<=1000000):
 Ret zM 38 [v] h0 fun r s=>Gr h0 s/\((vr m/\r=.pointer none)\/(¬vr m/\ja s h0.n r m)):=by
 have S:=Si z;have H:=Ao [] m;by_cases t:m=[]
 . subst t;refine aa (n:=27) (rs:=[.tmp 2]) rfl Tryz.e38 rfl rfl rfl (lbt rfl) ?_;simp only [BZ,ab,Xe,d.lenq,seval];exact⟨S.gr,.inl (.inl rfl)⟩
 . have B:1<=m.length:=by cases m with
    |nil=>exact absurd rfl t|cons a l=>simp
   have C: ¬((m.length:Int)=0):=(by omega);refine aa (n:=27) (rs:=[.tmp 2]) rfl Tryz.e38 rfl rfl rfl (lbt rfl) ?_;simp only [BZ,d.lenq,C,seval];refine step_ret (norm_ok S.ok d A) ?_;intro v h ⟨g,sl,fr⟩;replace S:=S.call g;replace d:=d.gr g;clear g;by_cases k:norm [] m=m
   . simp only [BZ,seval];refine ag (yW S.ok sl d (by omega)) ?_;intro h g;replace S:=S.call g;replace d:=d.gr g;clear g;simp only [BZ,k,seval];have D:=S.fr.n;refine step_ret (iU S.ok (bG .i64) d (by omega)) ?_;intro u h ⟨g,i,p⟩;replace S:=S.call g;replace d:=d.gr g;clear g;have E:Fl u:=i.fl;simp only [BZ,seval];refine ag (maxInt_ok S.ok d B (by omega)) ?_;intro h g;replace S:=S.call g;replace d:=d.gr g;replace i:=i.gr g;clear g;have w:am .i64 (fS m+1)=fS m+1:=(by rw [wrap64]<;>omega);have j:=S.gr;clear S;have S:=Si j.ok;simp only [BZ,w,E,seval];refine ac (bg (by intro x e;cases e)) S ?_;clear S;intro h b S q;simp only [ae]at S;have y:=S.ld (b:=b) (o:=1) m0 rfl;by_cases f:256<fS m+1
     . simp only [BZ,ab,f,y,seval];exact⟨j.trans S.gr,.inl (.inr (.inr f))⟩
     . simp only [BZ,ab,f,y,seval];exact⟨j.trans S.gr,.inr ⟨by rintro(h|h|h)<;>contradiction,b,u,rfl,S.row m0,i.gr S.gr,zO j.n q,fun c F=>zO D (p c F)⟩⟩
   . simp only [BZ,seval];refine ag (yW S.ok sl d (by omega)) ?_;intro h g;replace S:=S.call g;replace d:=d.gr g;clear g;simp only [BZ,ab,k,seval];exact⟨S.gr,.inl (.inr (.inl k))⟩
def kP(h:Hp)(p:Value)(m:List Int)(n:Int):Prop:=(p=.pointer none/\m=[]/\n=0)\/((∃k,ja h k p m)/\n=fS m+1)
theorem kP.gr{h a:Hp}{p:Value}{m:List Int}{n:Int}(g:Gr h a)(c:kP h p m n):kP a p m n:=c.imp (fun h=>h) (fun⟨⟨k,h⟩,e⟩=>⟨⟨k,h.gr g⟩,e⟩)
theorem map_ok{h0:Hp}(d:h0.t.Sized h0.n){p:Value}{m:List Int}{n:Int}(c:kP h0 p m n)(e:m.length<1000000):Ret zM 186 [p] h0 fun r a=>Gr h0 a/\av a 1 (encI .i64) r m:=by
 have S:=Si d;rcases c with⟨rfl,rfl,rfl⟩|⟨⟨_,b,v,rfl,r,s,_,_⟩,rfl⟩
 . refine aa (n:=10) (rs:=[.tmp 2]) rfl Tryz.e186 rfl rfl rfl (lbt rfl) ?_;simp only [BZ,ab,seval];exact⟨S.gr,.inl ⟨rfl,rfl⟩⟩
 . have f:=r.load1 (o:=0) rfl;refine aa (n:=10) (rs:=[.tmp 2]) rfl Tryz.e186 rfl rfl rfl (lbt rfl) ?_;simp only [BZ,f,seval];refine step_ret (iU S.ok (bG .i64) s e) ?_;intro v h ⟨g,sl,_⟩;replace S:=S.call g;clear g;simp only [BZ,ab,seval];exact⟨S.gr,sl⟩
theorem xz{h0:Hp}(a:h0.t.Sized h0.n){p:Value}{m:List Int}{n:Int}(c:kP h0 p m n):aN zM 100 [p] h0 (.int .i64 n):=by
 have S:=Si a;rcases c with⟨rfl,rfl,rfl⟩|⟨⟨_,b,v,rfl,r,s,_,_⟩,rfl⟩
 . refine aa (n:=9) (rs:=[.tmp 2]) rfl Tryz.e100 rfl rfl rfl (lbt rfl) ?_;simp only [BZ,ab,seval];exact S.gr
 . have d:=r.load1 (o:=1) rfl;refine aa (n:=9) (rs:=[.tmp 2]) rfl Tryz.e100 rfl rfl rfl (lbt rfl) ?_;simp only [BZ,ab,d,seval];exact S.gr
def pQ(h:Hp)(p:Value)(a w:Int)(c:Bool):Prop:=(p=.pointer none/\a=0/\w=0/\c=false)\/ ∃b x y,p=ptrTo b/\Row h b [.int .i64 a,.int .i64 w,x,y] 1/\c=true
theorem pQ.gr{h d:Hp}{p:Value}{a w:Int}{f:Bool}(g:Gr h d)(c:pQ h p a w f):pQ d p a w f:=c.imp (fun h=>h) (fun⟨b,x,y,e,r,n⟩=>⟨b,x,y,e,r.gr g,n⟩)
theorem iQ{h0:Hp}(d:h0.t.Sized h0.n){p:Value}{a w:Int}{e:Bool}(c:pQ h0 p a w e):aN zM 105 [p] h0 (.int .i64 a):=by
 have S:=Si d;rcases c with⟨rfl,rfl,rfl,rfl⟩|⟨b,x,y,rfl,r,rfl⟩
 . refine aa (n:=9) (rs:=[.tmp 2]) rfl Tryz.e105 rfl rfl rfl (lbt rfl) ?_;simp only [BZ,ab,seval];exact S.gr
 . have f:=r.load1 (o:=0) rfl;refine aa (n:=9) (rs:=[.tmp 2]) rfl Tryz.e105 rfl rfl rfl (lbt rfl) ?_;simp only [BZ,ab,f,seval];exact S.gr
theorem iT{h0:Hp}(d:h0.t.Sized h0.n){p:Value}{a w:Int}{e:Bool}(c:pQ h0 p a w e):aN zM 106 [p] h0 (.int .i64 w):=by
 have S:=Si d;rcases c with⟨rfl,rfl,rfl,rfl⟩|⟨b,x,y,rfl,r,rfl⟩
 . refine aa (n:=9) (rs:=[.tmp 2]) rfl Tryz.e106 rfl rfl rfl (lbt rfl) ?_;simp only [BZ,ab,seval];exact S.gr
 . have f:=r.load1 (o:=1) rfl;refine aa (n:=9) (rs:=[.tmp 2]) rfl Tryz.e106 rfl rfl rfl (lbt rfl) ?_;simp only [BZ,ab,f,seval];exact S.gr
theorem allB_ok{h0:Hp}(g:h0.t.Sized h0.n){v:Value}{l:List Bool}(j:av h0 1 encB v l)(m:l.length<1000):aN zM 104 [v] h0 (.bool (l.all id)):=by
 have S:=Si g;refine aa (n:=14) (rs:=[.tmp 2]) rfl Tryz.e104 rfl rfl rfl (lbt rfl) ?_;simp only [BZ,j.lenq,seval];refine aV (fun(i:Nat) d h=>i<=l.length/\(l.take i).all id=true/\Gr h0 h/\d 5=v/\d 6=.int .i64 l.length/\d 7=.int .i64 i) (fun i=>l.length-i) ?_ 0 _ _ ?_
 . clear S;intro i k d h ⟨hi,ht,S,r5,r6,r7⟩;by_cases hlt:i<l.length
   . obtain⟨c,o,a,b⟩:=(j.gr S).ix (kd:=.i64) AK hlt;have w:am .i64 ((i:Int)+1)=((i+1:Nat):Int):=(by rw [wrap64]<;>omega);cases f:l[i]with
     | true=>simp only [BZ,r5,r6,r7,az,hlt,a,b,encB,f,w,seval];refine k (i+1) _ _ (by omega) ⟨by omega,?_,S,by simp [aw,r5,r6]⟩;rw [Xd hlt,List.all_append,ht,f];rfl| false=>have e:l.all id=false:=(by rw [List.all_eq_false];exact⟨_,XC hlt,by simp [f]⟩);simp only [BZ,ab,r5,r6,r7,az,hlt,a,b,encB,f,seval];rw [e];exact⟨rfl,S⟩
   . simp only [BZ,ab,r6,r7,az,hlt,seval];rw [Xh (by omega)]at ht;rw [ht];exact⟨rfl,S⟩
 . exact⟨Xt _,rfl,Gr.refl g,by simp [aw,cD]⟩
theorem zH{h0:Hp}(f:h0.t.Sized h0.n){p q:Value}{b:Gra}{m:List Int}{n:Int}{i:Nat}(c:aX h0 i p b)(d:kP h0 q m n)(k:1<=b.nodes)(j:m.length<1000000):aN zM 98 [p,q] h0 (.bool (decide (m.length=b.nodes))):=by
 have S:=Si f;have a:(0:Int)<(b.nodes:Int):=by omega
 have e:(b.nodes:Int)>0:=a;refine aa (n:=16) (rs:=[.tmp 4]) rfl Tryz.e98 rfl rfl rfl (lbt rfl) ?_;simp only [BZ,seval];refine ag (bS S.ok c) ?_;intro h g;replace S:=S.call g;replace c:=c.gr g;replace d:=d.gr g;clear g;simp only [BZ,a,seval];refine step_ret (map_ok S.ok d j) ?_;intro v h ⟨g,sl⟩;replace S:=S.call g;replace c:=c.gr g;replace d:=d.gr g;clear g;simp only [BZ,sl.lenq,seval];refine ag (bS S.ok c) ?_;intro h g;replace S:=S.call g;replace c:=c.gr g;replace d:=d.gr g;clear g;simp only [BZ,ab,seval];refine⟨?_,S.gr⟩;congr 1;by_cases h:m.length=b.nodes
 . simp [h]
 . have: ¬((m.length:Int)=(b.nodes:Int)):=(by omega);simp [h,this]
theorem uu{h0:Hp}(s:h0.t.Sized h0.n){p q r:Value}{f:Gra}{m:List Int}{n a w:Int}{i:Bool}{t:Nat}(c:aX h0 t p f)(d:kP h0 q m n)(e:pQ h0 r a w i)(u:1<=f.nodes)(v:m.length<1000000):
 aN zM 44 [p,q,r] h0 (.bool (decide (m.length=f.nodes)&&i&&decide (a=n)&&decide (w=f.arcs.length))):=by
 have S:=Si s;have z: ∀E:Env,pE E 34=true-> ∀x y,bF E .neq 34 x y r (.pointer none)=some (.bool i):=by
  intro E j x y;rcases e with⟨rfl,_,_,rfl⟩|⟨b,_,_,rfl,_,rfl⟩
  . exact n_pnil j
  . exact n_ptr j
 refine aa (n:=24) (rs:=[.tmp 6]) rfl Tryz.e44 rfl rfl rfl (lbt rfl) ?_;simp only [BZ,seval];refine ag (zH S.ok c d u v) ?_;intro h g;replace S:=S.call g;replace c:=c.gr g;replace d:=d.gr g;replace e:=e.gr g;clear g;simp only [BZ,z zM Tryz.t34.2.2.2.2.1,seval];refine ag (iQ S.ok e) ?_;intro h g;replace S:=S.call g;replace c:=c.gr g;replace d:=d.gr g;replace e:=e.gr g;clear g;simp only [BZ,seval];refine ag (xz S.ok d) ?_;intro h g;replace S:=S.call g;replace c:=c.gr g;replace d:=d.gr g;replace e:=e.gr g;clear g;simp only [BZ,seval];refine ag (iT S.ok e) ?_;intro h g;replace S:=S.call g;replace c:=c.gr g;replace d:=d.gr g;replace e:=e.gr g;clear g;simp only [BZ,seval];refine ag (lW S.ok c) ?_;intro h g;replace S:=S.call g;replace c:=c.gr g;replace d:=d.gr g;replace e:=e.gr g;clear g;simp only [BZ,seval];refine ac (bV (by exact Tryz.t103.1) (by exact Tryz.e4E) (by decide) (by rfl)) S ?_;clear S;intro h A S k;simp only [LC,a9,bQ,ae,Xl,Xm,Xo,Xq,seval]at S;simp only [BZ,seval];refine ag (allB_ok (l:=[decide (m.length=f.nodes),i,decide (a=n),decide (w=f.arcs.length)]) S.ok (.inr ⟨A,0,none,4,rfl,Xs _,S.lds (o:=0) (n:=4) m0 (lbt rfl)⟩) (by simp)) ?_;intro h g;replace S:=S.call g;clear g;simp only [BZ,ab,seval];exact⟨by simp [Bool.and_assoc],S.gr⟩
end Go.Ab
end
section
namespace Go.Ab
def SlW(h:Hp)(kd:IntKind)(v:Value)(xs:List Int):Prop:=(v=.slice none 0 0/\xs=[])\/ ∃b o c,v=.slice (some ⟨b,o,none⟩) xs.length c/\xs.length<=c/\h.load b o (xs.length*1)=some (xs.flatMap (encI kd))
theorem SlW.sl{h:Hp}{kd:IntKind}{v:Value}{xs:List Int}(s:SlW h kd v xs):av h 1 (encI kd) v xs:=s.imp (fun h=>h) (fun⟨b,o,c,a,d,e⟩=>⟨b,o,none,c,a,d,e⟩)
theorem SlW.low{E:Env}{h:Hp}{kd kd':IntKind}{t e:TypeId}{v:Value}{xs:List Int}(g:E.und t=some (.slice e))(j:E.sz e=some 1)(s:SlW h kd v xs){n:Nat}(a:n<=xs.length):
 ∃v',fK E t v none (some (.int kd' (n:Int))) none=some v'/\av h 1 (encI kd) v' (xs.take n)/\ ∀c,aq v' c->aq v c:=by
 have f: ∀n:Nat,iA (n:Int)=some n:=fun n=>rfl;rcases s with⟨rfl,rfl⟩|⟨b,o,c,rfl,k,p⟩
 . have:n=0:=(by simpa using a);subst this;refine⟨.slice none 0 0,?_,.inl ⟨rfl,rfl⟩,fun c d=>d⟩;simp only [fK,g,fG,fF,f,j];rfl
 . refine⟨.slice (some ⟨b,o,none⟩) n c,?_,.inr ⟨b,o,none,c,?_,?_,?_⟩,fun c d=>d⟩
   . simp only [fK,g,fG,fF,f,Nat.ble_eq_true_of_le (zO a k),cond_true,j,Option.isSome_none,cond_false,Nat.sub_zero,gw,Xl,Nat.add_zero];by_cases d:c=0
     . subst d;rfl
     . rw [show Nat.beq c 0=false by cases c with|zero=>exact absurd rfl d|succ c=>rfl];rfl
   . rw [XE,XX a]
   . rw [XE,XX a];exact zO a k
   . rw [XE,XX a];have:=kx p (i:=0) (m:=n*1) (by omega);rw [Nat.add_zero,Xw]at this;rw [this];congr 1;refine List.ext_getElem? fun i=>?_;have e4: ∀l:List Int,l.flatMap (encI kd)=l.map fun x=>.int kd x:=fun l=>(by rw [Xp,XH,Xp];rfl);rw [e4,e4,Xo,List.map_take]
end Go.Ab

end
section
namespace Go.Ab
open Go.Proofs
set_option maxRecDepth 10000
def iota(k:Nat):List Int:=(Xa k).map fun(i:Nat)=>(i:Int)
theorem Al(k:Nat):(iota k).length=k:=by simp [iota]
theorem xW(k:Nat):iota (k+1)=iota k++[(k:Int)]:=by simp [iota,XW]
theorem pos_app(l:List Int)(x y:Int):pos (l++[y]) x=match pos l x with|some i=>some i|none=>if x=y then some l.length else none:=by
 induction l with
 |nil=>simp [pos]| cons z a b=>
   rw [XR,pos,pos];by_cases h:x=z
   . rw [if_pos h,if_pos h]
   . rw [if_neg h,if_neg h,b];cases pos a x with
     |some i=>rfl|none=>by_cases c:x=y<;>simp [c]
theorem zw(k j:Nat):pos (iota k) (j:Int)=if j<k then some j else none:=by
 induction k with
 |zero=>rfl| succ k a=>
   rw [xW,pos_app,a,Al];by_cases h:j<k
   . rw [if_pos h,if_pos (show j<k+1 by omega)]
   . rw [if_neg h];by_cases b:j=k
     . subst b;simp
     . have: ¬((j:Int)=(k:Int)):=(by omega);simp only [this,if_false];rw [if_neg (by omega)]
theorem pos_lt{l:List Int}{x:Int}{i:Nat}(h:pos l x=some i):i<l.length:=by
 induction l generalizing i with
 |nil=>cases h
 | cons y b c=>
   rw [pos]at h;by_cases e:x=y
   . rw [if_pos e]at h;cases h;simp
   . rw [if_neg e]at h;cases a:pos b x with
     |none=>rw [a]at h;cases h
     |some j=>rw [a]at h;cases h;have:=c a;simp;omega
theorem norm_idem(ks l:List Int):norm (iota ks.length) (norm ks l)=norm ks l:=by
 induction l generalizing ks with
 |nil=>rfl| cons x c a=>
   rw [norm,norm];unfold og oa;cases b:pos ks x with
   | some i=>simp only [];rw [zw,if_pos (pos_lt b)];simp only [];rw [a]| none=>simp only [];rw [zw,if_neg (by omega)];simp only [];rw [Al,<-xW];have:=a (ks++[x]);rw [XJ,XZ]at this;rw [this]
theorem norm_bd(ks l:List Int): ∀x∈norm ks l,0<=x/\x<=((ks.length+l.length:Nat):Int):=by
 induction l generalizing ks with
 |nil=>intro x a;cases a
 | cons y e b=>
   intro x a;rw [norm]at a;rcases List.mem_cons.1 a with rfl|a
   . have:og ks y<=ks.length:=by
      unfold og;cases c:pos ks y with
      |some i=>exact Nat.le_of_lt (pos_lt c)|none=>exact Xs _
     simp;omega
   . have d:=b _ x a;have:(oa ks y).length<=ks.length+1:=(by unfold oa;cases pos ks y<;>simp);simp at d⊢;omega
theorem fold_bd(K:Int)(l:List Int)(a:Int)(b:0<=a/\a<=K)(h: ∀x∈l,0<=x/\x<=K):0<=l.foldl max a/\l.foldl max a<=K:=by
 induction l generalizing a with
 |nil=>exact b| cons x e c=>
   have f:=h x (by simp);exact c (max a x) (by omega) (fun y d=>h y (by simp [d]))
theorem lmax_bd{K:Int}(a:0<=K){l:List Int}(h: ∀x∈l,0<=x/\x<=K):0<=fS l/\fS l<=K:=by
 cases l with
 |nil=>exact⟨Int.le_refl _,a⟩|cons x b=>exact fold_bd K b x (h x (by simp)) (fun y c=>h y (by simp [c]))
theorem av.blt{a:Type}{h:Hp}{k:Nat}{enc:a->List Value}{v:Value}{xs:List a}(f:h.t.Sized h.n)(s:av h k enc v xs){c:Nat}(d:aq v c):c<h.n:=by
 rcases s with⟨rfl,_⟩|⟨b,o,_,_,rfl,_,g⟩
 . exact d.elim
 . have:b=c:=d;subst this;cases e:h.get b with
   |none=>simp [Hp.load,e]at g|some x=>exact hU f e
end Go.Ab
end
section
namespace Go.Ab
theorem sg{z:Nat}(h:z<256):am .u8 (z:Int)=(z:Int):=by
 show am .u8 (.ofNat z)=_;unfold am;simp only [hf,sgn,pw];have:Nat.blt z 256=true:=by rw [Nat.blt_eq];exact h
 rw [this];rfl
section
variable{E:Env}{t:TypeId}{p q:Operand}{x y i:Nat}
theorem bits8(op:BinOp)(a:x<256)(b:y<256):iC op .u8 (x:Int) (y:Int)=match op with
 | .and=>some (am .u8 ((X8 x y:Nat):Int))| .or=>some (am .u8 ((Nat.lor x y:Nat):Int))| .xor=>some (am .u8 ((Nat.xor x y:Nat):Int))| .andNot=>some (am .u8 ((Nat.xor x (X8 x y):Nat):Int))|_=>none:=by
 show iC op .u8 (.ofNat x) (.ofNat y)=_;have c:Nat.blt x (pw .u8)=true:=by rw [Nat.blt_eq];exact a
 have d:Nat.blt y (pw .u8)=true:=by rw [Nat.blt_eq];exact b
 unfold iC;simp only [c,d,Bool.and_self,cond_true];cases op<;>rfl
theorem b_and8(a:x<256)(b:y<256):bF E .and t p q (.int .u8 (x:Int)) (.int .u8 (y:Int))=some (.int .u8 ((x&&& y:Nat):Int)):=by show(bif iS .u8 .u8 then(iC .and .u8 (x:Int) (y:Int)).map (Value.int .u8 ·)else none)=_;rw [bits8 .and a b];simp only [];rw [show X8 x y=x&&& y from rfl,sg (XB XG a)];rfl
theorem b_or8(a:x<256)(b:y<256):bF E .or t p q (.int .u8 (x:Int)) (.int .u8 (y:Int))=some (.int .u8 ((x|||y:Nat):Int)):=by show(bif iS .u8 .u8 then(iC .or .u8 (x:Int) (y:Int)).map (Value.int .u8 ·)else none)=_;rw [bits8 .or a b];simp only [];rw [show Nat.lor x y=x|||y from rfl,sg (Nat.or_lt_two_pow (n:=8) a b)];rfl
theorem xM(a:x<256)(b:y<256):bF E .andNot t p q (.int .u8 (x:Int)) (.int .u8 (y:Int))=some (.int .u8 ((x ^^^(x&&& y):Nat):Int)):=by show(bif iS .u8 .u8 then(iC .andNot .u8 (x:Int) (y:Int)).map (Value.int .u8 ·)else none)=_;rw [bits8 .andNot a b];simp only [];rw [show Nat.xor x (X8 x y)=x ^^^(x&&& y)from rfl,sg (XK (n:=8) a (XB XG a))];rfl
theorem b_shl8{k:IntKind}(a:i<8):bF E .shl t p q (.int .u8 1) (.int k (i:Int))=some (.int .u8 ((2 ^i:Nat):Int)):=by
 have:i=0\/i=1\/i=2\/i=3\/i=4\/i=5\/i=6\/i=7:=by omega
 rcases this with rfl|rfl|rfl|rfl|rfl|rfl|rfl|rfl<;>rfl
end
theorem pow8{i:Nat}(h:i<8):2 ^i<256:=Nat.pow_lt_pow_right (by decide) h
theorem and_pow{x i:Nat}:(x&&& 2 ^i=0)↔x.testBit i=false:=by
 constructor
 . intro h;have:=congrArg (fun z=>z.testBit i) h;simpa [XY,XI]using this
 . intro h;refine Nat.eq_of_testBit_eq fun j=>?_;rw [XY,XI,Nat.zero_testBit];by_cases e:i=j
   . subst e;rw [h];rfl
   . simp [e]
def setB(x i:Nat):Nat:=(x ^^^(x&&& 2 ^i))|||2 ^i
theorem setB_at(x i j:Nat):(setB x i).testBit j=if j=i then true else x.testBit j:=by
 unfold setB;rw [Nat.testBit_or,Nat.testBit_xor,XY,XI];by_cases e:j=i
 . subst e;simp
 . have a: ¬i=j:=fun h=>e h.symm;simp [e,a]
theorem setB_lt{x i:Nat}(a:x<256)(b:i<8):setB x i<256:=
 Nat.or_lt_two_pow (n:=8) (XK (n:=8) a (XB XG a)) (pow8 b)
end Go.Ab

end
section
namespace Go.Ab
open Go.Proofs
set_option maxRecDepth 10000
def iq(n:Nat)(B:Nat->Nat):List Value:=(Xa n).map fun j=>.int .u8 (B j:Nat)
theorem uH{n:Nat}{B:Nat->Nat}:(iq n B).length=n:=by simp [iq]
theorem tt{n j:Nat}{B:Nat->Nat}(h:j<n):(iq n B)[j]? =some (.int .u8 (B j:Nat)):=jQ (F:=fun j=>Value.int .u8 ((B j:Nat):Int)) h
theorem uO{n j x:Nat}{B:Nat->Nat}:(iq n B).set j (.int .u8 (x:Nat))=iq n (cV B j x):=by have:=jx (N:=n) (k:=j) (F:=fun j=>Value.int .u8 ((B j:Nat):Int)) (F':=fun u=>Value.int .u8 ((cV B j x u:Nat):Int)) (fun i _ a=>by simp [cV,a]);unfold iq;rw [<-this];simp [cV]
structure eX(h:Hp)(bp bb rows wide long:Nat)(B:Nat->Nat):Prop where
 r:Row h bp [.int .i64 rows,.int .i64 wide,.int .i64 long,.slice (some ⟨bb,0,none⟩) (rows*long) (rows*long)] 1
 b:Row h bb (iq (rows*long) B) 1
 lt: ∀j,B j<256
theorem eX.gr{h d:Hp}{e f a b c:Nat}{B:Nat->Nat}(m:eX h e f a b c B)(g:Gr h d):eX d e f a b c B:=⟨m.r.gr g,m.b.gr g,m.lt⟩
theorem eX.bits{h:Hp}{d e a b c:Nat}{B:Nat->Nat}(m:eX h d e a b c B):pQ h (ptrTo d) a b true:=.inr ⟨d,_,_,rfl,m.r,rfl⟩
def fj(B:Nat->Nat)(a r i:Nat):Bool:=(B (r*a+i/8)).testBit (i%8)
theorem Az{B:Nat->Nat}{b r i d c:Nat}(g:i/8<b)(j:c/8<b):fj (cV B (r*b+i/8) (setB (B (r*b+i/8)) (i%8))) b d c=if d=r/\c=i then true else fj B b d c:=by
 unfold fj cV;by_cases e:d*b+c/8=r*b+i/8
 . rw [if_pos e,setB_at];have k:d=r:=(by have a:(d*b+c/8)/b=(r*b+i/8)/b:=(by rw [e]);rw [Nat.mul_comm d,Nat.mul_comm r,Nat.mul_add_div (by omega),Nat.mul_add_div (by omega),Nat.div_eq_of_lt g,Nat.div_eq_of_lt j]at a;omega);subst k;have l:c/8=i/8:=(by omega);rw [e];by_cases f:c%8=i%8
   . rw [if_pos f,if_pos ⟨rfl,by omega⟩]
   . rw [if_neg f,if_neg (fun h=>f (by rw [h.2]))]
 . rw [if_neg e,if_neg (fun h=>e (by rw [h.1,h.2]))]
theorem bmNew_ok{h0:Hp}(u:h0.t.Sized h0.n){a w:Nat}(v:a<=100)(C:w<=1000):Ret zM 99 [.int .i64 (a:Nat),.int .i64 (w:Nat)] h0 fun r k=>Gr h0 k/\ ∃c d,r=ptrTo c/\h0.n<=c/\h0.n<=d/\c≠d/\eX k c d a w ((w+7)/8) (fun _=>0):=by
 have S:=Si u;have l: ¬((a:Int)<0):=by omega
 have m: ¬((w:Int)<0):=by omega
 have o: ¬((67108864:Int)<(w:Int)):=by omega
 have p:am .i64 ((w:Int)+8)=(w:Int)+8:=by rw [wrap64]<;>omega
 have q:am .i64 ((w:Int)+8-1)=((w+7:Nat):Int):=by rw [wrap64]<;>omega
 have g:(w+7)/8<=126:=by omega
 have i:am .i64 ((((w+7:Nat):Int)).tdiv 8)=(((w+7)/8:Nat):Int):=by rw [XM (by omega),show(((w+7:Nat):Int)/8)=(((w+7)/8:Nat):Int) by omega,wrap64]<;>omega
 generalize D:(w+7)/8=K at g i;have E:a*K<=100*126:=Nat.mul_le_mul v g;have s:am .i64 ((a:Int)*(K:Int))=((a*K:Nat):Int):=by rw [<-Int.natCast_mul,wrap64]<;>omega
 have mk: ∀(n:Nat),a9 [Value.int .u8 0] n=iq n (fun _=>0):=fun n=>by rw [mP];unfold iq;rw [XV,Xk];rfl
 by_cases t:0<(K:Int)
 . have y:(268435456:Int).tdiv (K:Int)=((268435456/K:Nat):Int):=(by rw [XM (by decide)];rfl);have F:268435456/126<=268435456/K:=Nat.div_le_div_left g (by omega);have G:268435456/K<=268435456:=Nat.div_le_self _ _;have H:(268435456/126:Nat)=2130440:=rfl;have z:am .i64 ((268435456:Int).tdiv (K:Int))=(268435456:Int).tdiv (K:Int):=(by rw [y,wrap64]<;>omega);have A: ¬((268435456:Int).tdiv (K:Int)<(a:Int)):=(by omega);have B:(K:Int)≠0:=(by omega);refine aa (n:=37) (rs:=[.tmp 4]) rfl Tryz.e99 rfl rfl rfl (lbt rfl) ?_;simp only [BZ,l,m,o,p,q,i,z,s,t,A,kT (n:=8) (by decide),kT (n:=(K:Int)) B,seval];refine ac (kH (by exact Tryz.t22.1) (by exact Tryz.e5E) (by omega) (by omega)) S ?_;clear S;intro h d S b;rw [Xr,mk]at S;simp only [BZ,Xr,seval];refine ac (bg (by intro x e;cases e)) S ?_;clear S;intro h c S f;simp only [ae]at S;simp only [BZ,ab,seval];have j:=S.apart;exact⟨S.gr,c,d,rfl,by have:=S.fr.n;omega,b,fun e=>(by subst e;simp [keys]at j),⟨S.row m0,S.row m1,fun _=>Nat.zero_lt_succ _⟩⟩
 . refine aa (n:=37) (rs:=[.tmp 4]) rfl Tryz.e99 rfl rfl rfl (lbt rfl) ?_;simp only [BZ,l,m,o,p,q,i,s,t,kT (n:=8) (by decide),seval];refine ac (kH (by exact Tryz.t22.1) (by exact Tryz.e5E) (by omega) (by omega)) S ?_;clear S;intro h d S b;rw [Xr,mk]at S;simp only [BZ,Xr,seval];refine ac (bg (by intro x e;cases e)) S ?_;clear S;intro h c S f;simp only [ae]at S;simp only [BZ,ab,seval];have j:=S.apart;exact⟨S.gr,c,d,rfl,by have:=S.fr.n;omega,b,fun e=>(by subst e;simp [keys]at j),⟨S.row m0,S.row m1,fun _=>Nat.zero_lt_succ _⟩⟩
theorem set1_ok{h0:Hp}(q:h0.t.Sized h0.n){a d j n i:Nat}{B:Nat->Nat}(R:Row h0 a (iq n B) 1)(c:j<n)(e:B j<256)(s:i<8)(t:h0.load d 0 1=some [.bool true])(f:d≠a):
 Ret zM 103 [.pointer (some ⟨a,j,none⟩),.int .u8 ((2 ^i:Nat):Int),ptrTo d] h0 fun r l=>Mo (· =a) h0 l/\r=.bool true/\Row l a (iq n (cV B j (setB (B j) i))) 1:=by
 have S:=St.init1 q (o:=.row (iq n B) 1) R;have m:=S.ld (b:=a) (o:=j) m0 (tt c);have p:=pow8 s;have v:(B j ^^^(B j&&& 2 ^i))<256:=XK (n:=8) e (XB XG e);refine aa (n:=19) (rs:=[.tmp 5]) rfl Tryz.e103 rfl rfl rfl (lbt rfl) ?_;simp only [BZ,m,xM e p,seval];refine aC (aA S (i:=0) rfl Tryz.t5.2.2.1 bR (by rw [uH];exact c) ono) ?_;clear S m;rintro h ⟨S,w⟩;simp only [LC]at S;rw [uO]at S;have g:=S.ld (b:=a) (o:=j) m0 (tt c);have x:cV B j (B j ^^^(B j&&& 2 ^i)) j=(B j ^^^(B j&&& 2 ^i)):=by simp [cV]
 rw [x]at g;have k:=S.old t f;simp only [BZ,k,g,b_or8 v p,seval];refine aC (aA S (i:=0) rfl Tryz.t5.2.2.1 bR (by rw [uH];exact c) ono) ?_;clear S g;rintro h ⟨S,w⟩;simp only [LC]at S;rw [show(((B j ^^^(B j&&& 2 ^i))|||2 ^i:Nat):Int)=((setB (B j) i:Nat):Int)from rfl,uO]at S;have y:cV (cV B j (B j ^^^(B j&&& 2 ^i))) j (setB (B j) i)=cV B j (setB (B j) i):=by funext u;unfold cV;split<;>rfl
 rw [y]at S;simp only [BZ,ab,seval];exact⟨S.fr,S.row m0⟩
end Go.Ab
end
section
namespace Go.Ab
open Go.Proofs
set_option maxRecDepth 10000
section
variable{h0:Hp}{bp bb rows wide long:Nat}{B:Nat->Nat}
theorem rR{r i:Nat}(e:r<rows)(g:i<wide)(a:rows<=100)(b:wide<=1000)(c:long=(wide+7)/8):
 am .i64 ((r:Int)*(long:Int))=((r*long:Nat):Int)/\am .i64 ((i:Int).tdiv 8)=((i/8:Nat):Int)/\am .i64 (((r*long:Nat):Int)+((i/8:Nat):Int))=((r*long+i/8:Nat):Int)/\(i:Int).tmod 8=((i%8:Nat):Int)/\r*long+i/8<rows*long/\i/8<long/\i%8<8:=by
 have f:long<=126:=by omega
 have h:r*long<=100*126:=Nat.mul_le_mul (by omega) f;have d:i/8<long:=by omega
 have j:r*long+long<=rows*long:=by rw [<-Nat.succ_mul];exact XF _ e
 refine⟨by rw [<-Int.natCast_mul,wrap64]<;>omega,?_,by rw [wrap64]<;>omega,rfl,by omega,d,by omega⟩;rw [show(i:Int).tdiv 8=((i/8:Nat):Int)from rfl,wrap64]<;>omega
theorem bSet_ok(x:h0.t.Sized h0.n)(m:eX h0 bp bb rows wide long B)(l:bp≠bb){r i:Nat}(E:r<rows)(F:i<wide)(b:rows<=100)(d:wide<=1000)(e:long=(wide+7)/8):
 Ret zM 41 [ptrTo bp,.int .i64 (r:Nat),.int .i64 (i:Nat),.bool true] h0 fun v p=>Mo (· =bb) h0 p/\v=.bool true/\eX p bp bb rows wide long (cV B (r*long+i/8) (setB (B (r*long+i/8)) (i%8))):=by
 obtain⟨G,H,I,J,y,n6,t⟩:=rR E F b d e;have K: ∀{h:Hp} {s:Nat},Gr h0 h->h.load s 0 1=some [.bool true]->s≠bb->Ret zM 102 [ptrTo bp,.int .i64 (r:Nat),.int .i64 (i:Nat),.func (.func 103) #[] #[ptrTo s]] h fun v p=>Mo (· =bb) h p/\v=.bool true/\Row p bb (iq (rows*long) (cV B (r*long+i/8) (setB (B (r*long+i/8)) (i%8)))) 1:=by
  intro h s g L N;have S:=Si g.ok;have k:=m.gr g;have O: ¬(r:Int)<0:=by omega
  have P: ¬(rows:Int)<=(r:Int):=by omega
  have Q: ¬(i:Int)<0:=by omega
  have T: ¬(wide:Int)<=(i:Int):=by omega
  have U:=k.r.load1 (o:=2) rfl;have V:=k.r.load1 (o:=3) rfl;have W:=k.r.lt g.ok;refine aa (n:=46) (rs:=[.tmp 8]) rfl Tryz.e102 rfl rfl rfl (lbt rfl) ?_;simp only [BZ,O,seval];refine ag (iQ S.ok k.bits) ?_;intro h1 u;replace S:=S.call u;simp only [BZ,P,Q,seval];refine ag (iT S.ok (k.gr u).bits) ?_;intro X z;replace S:=S.call z;have a:=u.trans z;have Y:=a.load U;have Z:=a.load V;simp only [BZ,T,seval];refine ar (ax rfl) (q:=0) (ps:=[]) (by kernel_rfl) ?_;simp only [BZ,cls,Y,Z,G,H,I,J,y,kT (n:=8) (by decide),iY (n:=8) (by decide),b_shl8 t,seval];refine cu (set1_ok S.ok (k.b.gr a) y (k.lt _) t (a.load L) N) ?_;rintro v h3 ⟨A,rfl,R3⟩;have vv:leaves X h3 bp=true:=oe (A.get bp (Nat.lt_of_lt_of_le W a.n) l);simp only [BZ,cls,ab,seval];exact⟨(a.fr (M:=(· =bb))).trans A (fun c w=>.inl w),R3⟩
 have S:=Si x;have zb:=m.b.lt x;refine aa (n:=14) (rs:=[.tmp 8]) rfl Tryz.e41 rfl rfl rfl (lbt rfl) ?_;simp only [BZ,seval];refine ac (bW (by exact lP)) S ?_;clear S;intro h s S C;simp only [BZ,seval];have k7:=S.fr.n;refine step_ret (K S.gr (S.ld m0 rfl) (by omega)) ?_;rintro v h ⟨f,rfl,R⟩;simp only [BZ,ab,seval];have D:Mo (· =bb) h0 h:=(S.gr.fr (M:=(· =bb))).trans f (fun c w=>.inl w);refine⟨D,D.has (o:=.row _ 1) m.r l,R,fun j=>?_⟩;unfold cV
 split
 . exact setB_lt (m.lt _) t
 . exact m.lt _
end
theorem jw{n:Nat}{f:Nat->Bool}:(Xa (n+1)).filter f=(Xa n).filter f++if f n=true then [n]else []:=by
 rw [XW,List.filter_append];congr 1;by_cases h:f n=true
 . simp [h]
 . simp [h]
theorem sq{f:Nat->Bool}{i:Nat}(h:f i=true): ∀n,i<n->((Xa n).filter f)[((Xa i).filter f).length]? =some i:=by
 intro n
 induction n with
 |zero=>intro a;omega| succ n b=>
   intro a;rw [jw];by_cases c:i<n
   . have:=b c;rw [XQ (List.getElem?_eq_some_iff.1 this).1];exact this
   . have:i=n:=(by omega);subst this;rw [XL (Xs _),if_pos h];simp
theorem qO{n:Nat}{f:Nat->Bool}:((Xa n).filter f).length<=n:=by have:=List.length_filter_le f (Xa n);rwa [Xk]at this
end Go.Ab

end
section
namespace Go.Ab
open Go.Proofs
set_option maxRecDepth 10000
theorem BO{h0:Hp}(q:h0.t.Sized h0.n){v:Value}{a b:Int}(c:av h0 1 (encI .i64) v [a,b]):aN zM 286 [.func (.func 216) #[] #[],v] h0 (.int .i64 (wy (wy (wy a)+wy b))):=by
 have S:=Si q;have k:=wy_bd a;have x:=wy_bd b;have y:=wy_bd (wy a);have r:am .i64 1=1:=rfl;have s:am .i64 2=2:=rfl;have t:am .i64 (wy a)=wy a:=by rw [wrap64]<;>omega
 have u:wy (wy a)=wy a:=wy_id k.1 k.2;have w:am .i64 (wy a+wy b)=wy a+wy b:=by rw [wrap64]<;>omega
 refine aa (n:=22) (rs:=[.tmp 4]) rfl Tryz.e286 rfl rfl rfl (lbt rfl) ?_;simp only [BZ,Xe,c.lenq,seval];rw [cE];obtain⟨l,m,d,e⟩:=c.ix (kd:=.i64) (bG .i64) (i:=0) (by simp);replace d:kV (some 1) v (.int .i64 0)=some (.pointer (some ⟨l,m,none⟩)):=d;replace e:h0.load l m 1=some [.int .i64 a]:=e;simp only [BZ,d,e,seval];refine ag (oI S.ok) ?_;intro h g;replace S:=S.call g;clear g;simp only [BZ,t,Int.zero_add,seval];refine ag (oI S.ok) ?_;intro h g;replace S:=S.call g;clear g;simp only [BZ,r,u,Int.zero_add,seval];rw [cE];obtain⟨o,p,f,j⟩:=(c.gr S.gr).ix (kd:=.i64) (bG .i64) (i:=1) (by simp);replace f:kV (some 1) v (.int .i64 1)=some (.pointer (some ⟨o,p,none⟩)):=f;replace j:h.load o p 1=some [.int .i64 b]:=j;simp only [BZ,f,j,seval];refine ag (oI S.ok) ?_;intro h g;replace S:=S.call g;clear g;simp only [BZ,w,seval];refine ag (oI S.ok) ?_;intro h g;replace S:=S.call g;clear g;simp only [BZ,s,seval];rw [cE];simp only [BZ,ab,seval];exact S.gr
theorem add_ok{h0:Hp}(e:h0.t.Sized h0.n){a b:Int}:aN zM 281 [.int .i64 a,.int .i64 b] h0 (.int .i64 (wy (wy (wy a)+wy b))):=by have S:=Si e;refine aa (n:=9) (rs:=[.tmp 4]) rfl Tryz.e281 rfl rfl rfl (lbt rfl) ?_;simp only [BZ,seval];refine ac (bV (by exact Tryz.t23.1) (by exact X2) (by decide) (by rfl)) S ?_;clear S;intro h c S d;simp only [LC,a9,bQ,ae,Xl,Xm,Xo,Xq,seval]at S;simp only [BZ,seval];refine ag (BO S.ok (a:=a) (b:=b) (.inr ⟨c,0,none,2,rfl,Xs _,S.lds (b:=c) (o:=0) (n:=2*1) m0 (lbt rfl)⟩)) ?_;intro h g;replace S:=S.call g;clear g;simp only [BZ,ab,seval];exact S.gr
end Go.Ab
end

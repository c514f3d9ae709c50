/- Nets, cells, flags: what the functions do (part 2). -/
import Derived.Test.YtpnmkakfejadbaaGreatDoorKdtA
open Go.Ab.Tryz
open Go.Ab.Tryz renaming abEnv->zM,e3E->XT,e2E->Yh,e112->Ys,e23E->YA,e4E->YB
open List renaming range->zO,getD_eq_getElem?_getD->Xa,getElem?_eq_getElem->Xd,take_succ_eq_append_getElem->Xg,take->Xh,drop->Xi,getElem_mem->Xk,not_mem_nil->Xl,getElem?_map->Xm,length_map->Xn,mem_cons->Xt,take_of_length_le->Xw,mem_cons_of_mem->Xx,all_cons->Xy,drop_zero->Xz,length_range->XA,getElem?_append_left->XB,all_nil->XC,take_length->XD,take_succ_cons->XF,map_cons->XG,getElem?_append_right->XH,flatMap_eq_foldl->XI,length_take->XK,filterMap_nil->XL,append_nil->XM,drop_eq_getElem_cons->XN,replicate->XO,map_nil->XP,set_cons_zero->XQ,length_append->XR,take_zero->XU,perm_append_comm->XV,mem_append_right->XW,map_eq_flatMap->XX,map_append->XY,map_const'->XZ,mem_append->X6,set_cons_succ->X8,mem_singleton->X9,flatMap_cons->Yb,map_congr_left->Ye,flatMap_append->Yf,cons_append->Yl,map_map->Ym,drop_length->Yn,length_cons->Yo,getElem?_cons_zero->Yq,getElem?_cons_succ->Yr,range_succ->Yt,foldl_cons->Yu,length_singleton->Yw,mem_append_left->Yx,mem_of_getElem?->Yy,filterMap_cons->Yz
open Nat renaming le_trans->Xb,lt_of_lt_of_le->Xc,lt_of_succ_le->Xe,zero_le->Xj,zero_add->Xo,zero_mul->Xp,mul_one->Xq,le_refl->Xr,one_mul->Xv,zero_ne_one->XJ,lt_of_le_of_lt->XS,and_le_left->X7,xor_lt_two_pow->Ya,mul_le_mul_right->Yc,testBit_and->Yd,testBit_two_pow->Yg,add_sub_cancel->Yi,add_sub_cancel_left->Yp,min_eq_left->Yv,land->YC
open Bool renaming and_true->Xf
open Int renaming cast_ofNat_Int->Xs,toNat_natCast->Xu,eq_ofNat_of_zero_le->XE,tdiv_eq_ediv_of_nonneg->Yj
open Function renaming comp_def->Yk
set_option maxHeartbeats 4000000
set_option linter.defProp false
set_option linter.unusedVariables false
set_option linter.unusedSimpArgs false
namespace Go.Ab
variable{A:List Arc}
variable{fs ft:Arc->Nat}
variable{H N T V a b b1 b2 b4 b5 bp bq c d e i j k m mb mk n nb o r s to u y z:Nat}
variable{h h' h0 hB hq:Hp}
variable{F:List Nat}
variable{K Z p pn q v vAl vPi:Value}
variable{ks l pis xs:List Int}
variable{B:Nat->Nat}
variable{t w way x:Int}
variable{E:Env}
variable{D M:Nat->Prop}
variable{J:Nat->Hp->List Nat->Prop}
variable{Q R:Nat->List Int}
variable{al f:Nat->Bool}
variable{g:FuncId}
variable{post:Array Value}
variable{pi:Nat->Int}
variable{als:List Bool}
variable{L:List (Nat×Ob)}
variable{kd:IntKind}
variable{okF okT okW okX:Bool}
variable{ρ:Operand->Value}
open Go.Proofs
set_option maxRecDepth 10000
def seen(A:List Arc)(fs ft:Arc->Nat):List Arc:=A.map fun a=>⟨fs a,ft a,a.w⟩
def NextF(E:Env)(g:FuncId)(a:Gra)(pn:Value)(fs:Arc->Nat):Prop:= ∀(h:Hp) (d:Nat),OZ h->aP h d pn a-> ∀v,v<a.nodes->Ret E g [pn,.int .i64 (v:Nat)] h fun r b=>Gr h b/\aw b 1 bM r (outs a.arcs fs a.arcs.length v)/\ ∀c,ar r c->h.n<=c
def fg(l:List Nat):List Value:=l.flatMap bM
theorem nK(l:List Nat):fg l=l.map fun(x:Nat)=>Value.int .i64 x:=by unfold fg;rw [XI,XX,XI];rfl
theorem ints_map(l:List Int):ints l=l.map fun x=>Value.int .i64 x:=by unfold ints;rw [XI,XX,XI];rfl
theorem oa(l:List Nat):(fg l).length=l.length:=by rw [nK,Xn]
theorem Cq(l:List Nat)(x:Nat):fg (l++[x])=fg l++fg [x]:=by rw [nK,nK,nK,XY]
theorem seen_at(a:i<A.length):(seen A fs ft).getD i default=⟨fs (A.getD i default),ft (A.getD i default),(A.getD i default).w⟩/\(seen A fs ft).getD i default∈seen A fs ft:=by
 have e:(seen A fs ft).getD i default=⟨fs (A.getD i default),ft (A.getD i default),(A.getD i default).w⟩:=by unfold seen;simp [Xa,a]
 refine⟨e,?_⟩;rw [Xa,Xd (by unfold seen;simpa using a)];exact Xk _
theorem seen_mem{a:Arc}(c:a∈seen A fs ft): ∃i,i<A.length/\(seen A fs ft).getD i default=a:=by obtain⟨i,b,e⟩:=List.mem_iff_getElem.1 c;exact⟨i,by unfold seen at b;simpa using b,by simp [Xa,b,e]⟩
def zw(h':Hp)(m:Nat)(r:Value)(B:List Arc)(s N:Nat):Prop:= ∃a b d D e O,r=.agg ⟨[a,b,d]⟩/\aw h' 1 bM a ((zO N).map D)/\aw h' 1 (encI .i64) b e/\aw h' 1 bM d O/\e.length=N/\(∀v,IsD B s v (D v))/\(∀c,ar a c\/ar b c\/ar d c->m<=c)/\O.Nodup/\ ∀v∈O,v<N
theorem xG(c:OZ h0){K:Nat->Option Int}(H:cF h0 F p N K)(d:N<=1000):Ret zM 200 [p] h0 fun r h'=> ∃(v:Nat) (k:Int) (b:Bool),r=.tuple #[.int .i64 (v:Nat),.int .i64 k,.bool b]/\Mo (· ∈F) h0 h'/\cF h' F p N (if b=true then dw K v none else K)/\(b=true->K v=some k/\ ∀u k',K u=some k'->k<=k')/\(b=false-> ∀v,K v=none):=by
 refine uo (ut c H d) ?_;rintro r h' (⟨rfl,a,g⟩|⟨v,k,rfl,a,e,f,i⟩)
 . exact⟨0,0,false,rfl,g.fr,H.gr g,fun h=>(by cases h),fun _=>a⟩
 . exact⟨v,k,true,rfl,f,i,fun _=>⟨a,fun u k' h=>by have:=e u k' h;omega⟩,fun h=>(by cases h)⟩
def FloodI(h0:Hp)(B:List Arc)(s N l br g i j m n r:Nat)(x y:FuncId)(O:List Nat)(ρ:Nat->Value)(d:List Deferred)(h:Hp):Prop:=
 ∃ (e:List Nat) (D:Nat->Nat) (K:Nat->Option Int) (F:List Nat) (o:List (Value×Value×Nat)) (c:Nat) (f:Int->Option Value) (p:List Int) (k:Value) (q:Nat) (v:Nat) (a:Int) (b:Bool),d=e.map sI/\
   St NoM h0 h ([(q,Ob.row [.int .i64 a] 1),(l,.row [ptrTo br] 1),(br,.row [ptrTo n,.slice (some ⟨j,0,none⟩) N N,.slice (some ⟨i,0,none⟩) N N,k,.map (some g)] 1),(g,.map o c),(i,.row (ints p) 1),(j,.row (fg ((zO N).map D)) 1),(m,.row [.slice none 0 0,.slice none 0 0,.slice none 0 0] 1)]++dR e) [(k,1,fg O)]/\
   (∀t∈F,h0.n<=t/\t∉keys ([(q,Ob.row [.int .i64 a] 1),(l,.row [ptrTo br] 1),(br,.row [ptrTo n,.slice (some ⟨j,0,none⟩) N N,.slice (some ⟨i,0,none⟩) N N,k,.map (some g)] 1),(g,.map o c),(i,.row (ints p) 1),(j,.row (fg ((zO N).map D)) 1),(m,.row [.slice none 0 0,.slice none 0 0,.slice none 0 0] 1)]++dR e) [(k,1,fg O)])/\
   p.length=N/\dQ o c f/\ClF O f/\Dj B s N O D K (fun _=>False)/\cF h F (ptrTo n) N (if b=true then dw K v none else K)/\(b=true->K v=some a/\ ∀u w,K u=some w->a<=w)/\(b=false-> ∀v,K v=none)/\
   ρ 0=ptrTo r/\ρ 2=.func (.func x) #[ptrTo r] #[]/\ρ 3=.func (.func y) #[] #[]/\ρ 8=ptrTo m/\ρ 9=ptrTo l/\ρ 10=.int .i64 v/\ρ 11=ptrTo q/\ρ 12=.bool b
theorem Du(ok:OZ h0){l:Gra}(al:Good l)(hn:aP h0 nb pn l)(hs:s<l.nodes){gN gE:FuncId}(hN:NextF zM gN l pn fs)(hE:KeyF zM gE ft)(bh: ∀a∈l.arcs,ft a<l.nodes):Ret zM 173 [pn,.int .i64 s,.func (.func gN) #[pn] #[],.func (.func gE) #[] #[]] h0 fun r h'=>Gr h0 h'/\zw h' h0.n r (seen l.arcs fs ft) s l.nodes:=by
 have n1:=al.n1;have n2:=al.n2;have S:=Si ok;have c1: ¬((s:Int)<0):=by omega
 have c2: ¬((l.nodes:Int)<=(s:Int)):=by omega
 obtain⟨bp,b0⟩: ∃b,pn=ptrTo b:=by obtain⟨b,_,_,_,_,_,e,_⟩:=hn.ex;exact⟨b,e⟩
 subst b0;refine erA (n:=117) (rs:=[.cell 8 245]) e173 ?_;simp only [BZ];refine ab au S ?_;clear S;intro h W S ck;simp only [BZ,c1,seval];refine ae (bC S.ok (hn.gr S.gr)) ?_;intro h g;replace S:=S.call g;simp only [BZ,c2,seval];refine ae (bC S.ok (hn.gr S.gr)) ?_;intro h g;replace S:=S.call g;simp only [BZ,seval];have nF:=S.fr.n;have kF:=fun {c} (t:c∈_)=>S.key_lt (b:=c) t;refine step_ret (um S.ok) ?_;intro v h ⟨g,Fh,H,hFn⟩;replace S:=S.call g;rename Value=>p;have dF: ∀c∈Fh,c∉keys [(W,Ob.row [.slice none 0 0,.slice none 0 0,.slice none 0 0] 1)] []:=fun c t w=>by have:=kF w;have:=hFn c t;omega
 have lF:=H.lt S.ok;have Y:=S;have gF: ∀c∈Fh,h0.n<=c\/NoM c:=fun c t=>.inl (Xb nF (hFn c t));replace S:=S.base;simp only [BZ];refine ab (bZ (by exact t23.1) (by exact Yh) (by decide) (by rfl)) S ?_;clear S;intro h bi S a4;simp only [LC,bJ,cd,ac,Xp,Xo,Xq,Xv,seval]at S;simp only [BZ,seval];refine ae (bC S.ok (hn.gr (Y.rebase S).gr)) ?_;intro h g;replace S:=S.call g;simp only [BZ,seval];have kl:=fun {c} (t:c∈_)=>S.key_lt (b:=c) t;have kn:=S.fr.n;refine step_ret (rep64_ok S.ok (x:=72057594037927936) (.inr ⟨bi,0,none,1,rfl,Xr _,S.lds (b:=bi) (o:=0) (n:=1*1) m0 (lbt rfl)⟩) n1 (by omega)) ?_;intro v h ⟨g,bd,ed,nd,Rd⟩;replace S:=S.call g;subst ed;replace S:=S.drop1;replace S:=S.push (b:=bd) (o:=.row _ 1) (.inl (Xb kn nd)) Rd (fun w=>by have:=kl (Xx _ w);omega);simp only [BZ];refine ab (bZ (by exact t41.1) (by exact XT) (by decide) (by rfl)) S ?_;clear S;intro h bl S a5;simp only [LC,bJ,cd,ac,Xp,Xo,Xq,Xv,seval]at S;simp only [BZ,seval];refine ae (bC S.ok (hn.gr (Y.rebase S).gr)) ?_;intro h g;replace S:=S.call g;simp only [BZ,seval];have bm:=fun {c} (t:c∈_)=>S.key_lt (b:=c) t;have ax:=S.fr.n;refine step_ret (repI_ok S.ok (x:= -1) (.inr ⟨bl,0,none,1,rfl,Xr _,S.lds (b:=bl) (o:=0) (n:=1*1) m0 (lbt rfl)⟩) n1 (by omega)) ?_;intro v h ⟨g,ba,ea,na,Ra⟩;replace S:=S.call g;subst ea;replace S:=S.drop1;replace S:=S.push (b:=ba) (o:=.row _ 1) (.inl (Xb ax na)) Ra (fun w=>by have:=bm (Xx _ w);omega);have pp: ∃b,p=ptrTo b:=by obtain⟨b,_,_,e,_⟩:=H.ex;exact⟨b,e⟩
 obtain⟨bP,rfl⟩:=pp;simp only [BZ,seval];refine ab lM S ?_;clear S;intro h G S cl;simp only [BZ,seval];refine ab (aW (by intro x e;cases e)) S ?_;clear S;intro h C S cm;simp only [ac]at S;simp only [BZ];refine ab au S ?_;clear S;intro h I S cn;simp only [BZ,seval];refine az (aA S (i:=0) rfl ?_ ?_ ?_ ono) ?_
 . exact(by simp only [FA0])
 . exact(by exact bA)
 . exact Xe (lbt rfl)
 clear S;rintro h ⟨S,mo⟩;clear mo;simp only [LC,ac,lay,Xh,Xi,seval]at S;simp only [BZ,S.ld (b:=I) (o:=0) m0 rfl,S.ld (b:=C) (o:=0) m1 rfl,seval];have d8: ∀c∈Fh,c≠W:=fun c t e=>dF c t (by rw [e];simp [keys]);have cA:=Xb kn nd;have cN:=Xb ax na;clear kl bm kF kn nd ax na Ra Rd;have HA:=H.mo S.fr dF;have bn: ∀c∈Fh,c≠I/\c≠C/\c≠G/\c≠ba/\c≠bd/\c≠W:=fun c t=>by have:=lF c t;have:=d8 c t;omega
 replace S:=Y.rebase S;clear Y dF lF d8 H a4 a5;have T:=S.baseF Fh;have nh:=S.fr.n;have a6: ∀L,(∀c∈keys L [],c=I\/c=C\/c=G\/c=ba\/c=bd\/c=W)-> ∀c∈Fh,c∉keys L []:=fun L hL c t w=>by have:=bn c t;have:=hL c w;omega
 have ps:Ret zM 209 [ptrTo bP,.int .i64 (s:Nat),.int .i64 0] h _:=qd S.ok HA hs (by omega) rfl;refine step_ret ps ?_;rintro r Q ⟨f1,F1,H1,J⟩;replace S:=S.rebaseF gF (T.stepF f1 (fun c t=>⟨.inl (.inr t),a6 _ (fun c t=>by simpa [keys]using t) c t⟩));have P: ∀c∈F1,h0.n<=c/\c∉keys [(I,Ob.row [ptrTo C] 1),(C,.row [ptrTo bP,.slice (some ⟨bd,0,none⟩) l.nodes l.nodes,.slice (some ⟨ba,0,none⟩) l.nodes l.nodes,.slice none 0 0,.map (some G)] 1),(G,.map [] 0),(ba,.row (XO l.nodes (.int .i64 (-1))) 1),(bd,.row (XO l.nodes (.int .i64 72057594037927936)) 1),(W,.row [.slice none 0 0,.slice none 0 0,.slice none 0 0] 1)] []:=fun c t=>by
  rcases J c t with h2|h2
  . exact⟨(gF c h2).elim (fun h=>h) (fun h=>h.elim),a6 _ (fun c t=>by simpa [keys]using t) c h2⟩
  . refine⟨Xb nh h2,fun w=>?_⟩;have:=T.key_lt (b:=c) (by simpa [keys]using w);omega
 clear T a6 bn hFn gF nF J HA f1;replace S:=S.nilG (k:=1);have dj:=dj_init (B:=seen l.arcs fs ft) hs;have bo:=H1.lt S.ok;have S1:=S;replace S:=S.baseF F1;simp only [BZ,S.ld (b:=I) (o:=0) m0 rfl,S.ld (b:=C) (o:=0) m1 rfl,seval];refine step_ret (xG S.ok H1 (by omega)) ?_;rintro r h2 ⟨v,k,b,rfl,f2,H2,ay,a0⟩;replace S:=S.stepF f2 (fun c t=>⟨.inl (.inr t),fun w=>(P c t).2 (by simpa [keys,eH]using w)⟩);simp only [BZ,seval];have S2:=S;replace S:=S.base;refine ab au S ?_;clear S;intro h bk S cp;simp only [BZ,seval];refine az (aA S (i:=0) rfl ?_ ?_ ?_ ono) ?_
 . exact(by simp only [FA0])
 . exact(by exact aM)
 . exact Xe (lbt rfl)
 clear S;rintro h ⟨S,mo⟩;clear mo;simp only [LC,ac,lay,Xh,Xi,seval]at S;simp only [BZ,seval];have H3:=H2.mo S.fr (fun c t w=>(P c t).2 (by simpa [keys,eH]using w));refine sK (FloodI h0 (seen l.arcs fs ft) s l.nodes I C G ba bd W bP bp gN gE) (fun O=>l.nodes-O.length) ?_ [] _ _ _ ?_
 . clear S S1 S2 H3 ay a0 H2 f2 H1 dj P bo ps;intro O ih ρ d hS ⟨dbs,D,K,F,es,c,f,aL,vO,bk,v,key,b,hd,Y,Z,lA,MI,CF,dj,H,ay,a0,r0,r2,r3,r8,r9,r10,r11,r12⟩;simp only [Yl,List.nil_append]at Y Z;have S:=Y.base;cases b with
   | false=>
     simp only [BZ,r8,r9,r12,S.ld (b:=I) (o:=0) m1 rfl,S.lds (b:=C) (o:=1) (n:=3) m2 (lbt rfl),seval];have a7:Fl vO:=by
      rcases(Y.gown _ m0).1 with⟨e,_⟩|⟨_,_,e,_⟩
      . rw [show vO=_ from e];exact bH
      . rw [show vO=_ from e];exact bH
     refine az (stA S (i:=6) t245.2.1 (by simp only [ac,List.drop_succ_cons,Xz,XF,XU,Xy,XC,a7.2.1,Xf];rfl)) ?_;clear S;rintro h ⟨S,_⟩;simp only [LC,ac,lay,Xh,Xi,seval]at S;simp only [BZ];replace S:=(Y.rebase S).permL (L':=dR dbs++[(bk,_),(I,_),(C,_),(G,_),(ba,_),(bd,_),(W,_)]) XV;subst hd;refine df (gm dbs _ S fun h' S'=>?_);have lT:=S'.lds (b:=W) (o:=0) (n:=3) m6 (lbt rfl);refine⟨rfl,_,wB (by decide) (by simp only [aD,r8,ah,seval];exact bI t245.1 t245.2.1 lT),S'.gr,?_⟩;refine⟨_,_,_,D,aL,O,rfl,?_,?_,?_,lA,dj.done (a0 rfl) n2,?_,dj.nd,dj.lt⟩
     . refine .inr ⟨bd,0,none,l.nodes,by rw [Xn,XA],by rw [Xn,XA];exact Xr _,?_⟩;have:=(S'.row (b:=bd) m5).load (o:=0) (n:=((zO l.nodes).map D).length*1) (by rw [oa];omega);rw [this,Xz,Xw (by rw [oa];omega)];rfl
     . refine .inr ⟨ba,0,none,l.nodes,by rw [lA],by rw [lA];exact Xr _,?_⟩;have:=(S'.row (b:=ba) m4).load (o:=0) (n:=aL.length*1) (by rw [cC];omega);rw [this,Xz,Xw (by rw [cC];omega)];rfl
     . exact(S'.gown _ m0).1.sl rfl dr (by decide)
     . rintro c (h|h|h)
       . have h:bd=c:=h;subst h;exact((S'.own _ m5).1).elim (fun h=>h) (fun h=>h.elim)
       . have h:ba=c:=h;subst h;exact((S'.own _ m4).1).elim (fun h=>h) (fun h=>h.elim)
       . exact((S'.gblk m0 h).1).elim (fun h=>h) (fun h=>h.elim)
   | true =>
     simp only [if_true]at H;obtain⟨hk,bq⟩:=ay rfl;obtain⟨_,n,rfl,_,_⟩:=dj.i3 v key hk;obtain⟨b4,b5,a8,cT⟩:=dj.pop hk bq;have lk:=lJ (x:=(v:Int)) t230.1 Tryz.t3.1 (z:=.int .i64 0) (by kernel_rfl) (show hS.get G=some (.map es c)from(S.own _ m3).2) MI;rw [CF v,if_neg b5,Option.getD_none]at lk;have w1:am .i64 1=1:=rfl;simp only [BZ,r9,r10,r12,lk,w1,S.ld (b:=I) (o:=0) m1 rfl,S.ld (b:=C) (o:=4) m2 rfl,seval];refine az (S.mputI (i:=3) rfl t230.1 Tryz.t3.1 MI _) ?_;clear S;rintro h ⟨_,R,c',bt,S⟩;simp only [LC]at S;simp only [BZ];refine ao (av rfl) (q:=0) (ps:=[]) (by kernel_rfl) ?_;simp only [BZ,cls,r9,r10,r11,a8,S.ld (b:=I) (o:=0) m1 rfl,S.ld (b:=C) (o:=1) m2 rfl,S.ld (b:=bk) (o:=0) m0 rfl,seval];refine cJ (aA S (i:=5) rfl Tryz.t2.2.2.1 aM (by rw [oa,Xn,XA];exact a8) ono) ?_;clear S;rintro h ⟨S,_⟩;simp only [LC]at S;have eD:(fg ((zO l.nodes).map D)).set v (.int .i64 (n:Nat))=fg ((zO l.nodes).map fun u=>if u=v then n else D u):=(by rw [nK,nK,Ym,Ym];have:=kW (N:=l.nodes) (k:=v) (F:=(fun(x:Nat)=>Value.int .i64 x)∘D) (F':=(fun(x:Nat)=>Value.int .i64 x)∘fun u=>if u=v then n else D u) (fun u _ hu=>by simp [hu]);rw [<-this];simp);rw [eD]at S;simp only [BZ,seval];refine ao (av rfl) (q:=128) (ps:=[(0,8)]) (by kernel_rfl) ?_;simp only [BZ,cls,r9,r10,S.ld (b:=I) (o:=0) m1 rfl,S.ld (b:=C) (o:=3) m2 rfl,seval];refine cV (bZ (by exact t41.1) (by exact XT) (by decide) (by rfl)) S ?_;clear S;intro h bs S cr cs;simp only [LC,bJ,cd,ac,Xp,Xo,Xq,Xv,seval]at S;simp only [BZ,cls,seval];have bu:aR h 1 (.slice (some ⟨bs,0,none⟩) 1 1)=some (1,fg [v]):=(by simp only [aR];rw [S.lds (b:=bs) (o:=0) (n:=1*1) m0 (lbt rfl)];rfl);replace S:=S.drop1;refine lu (S.grow (j:=0) (m:=1) (new:=fg [v]) rfl t41.1 XT (by decide) t41.2.2.2.2.2 bu rfl (by decide) rfl (by rw [oa,oa];have:=dj.len;simp;omega)) ?_;clear S bu;rintro h A S;simp only [LC,<-Cq]at S;have a7:Fl A:=by
      rcases(S.gown _ m0).1 with⟨e,_⟩|⟨_,_,e,_⟩
      . rw [show A=_ from e];exact bH
      . rw [show A=_ from e];exact bH
     simp only [BZ,cls,seval];refine cJ (aA S (i:=2) rfl t41.2.2.1 a7 (Xe (lbt rfl)) ono) ?_;clear S;rintro h ⟨S,_⟩;simp only [LC]at S;simp only [BZ,r0,r2,r10,seval];have pv:vO=.slice none 0 0\/ ∃c n,vO=.slice (some ⟨c,0,some 1⟩) n n/\c≠I:=by
      rcases(Y.gown _ m0).1 with⟨e,_⟩|⟨c,n,e,_⟩
      . exact .inl e
      . refine .inr ⟨c,n,e,fun h=>?_⟩;exact(Y.gblk (c:=c) m0 (by rw [show vO=_ from e];rfl)).2 (by subst h;exact List.mem_map_of_mem (f:=Prod.fst) m1)
     refine⟨?_,?_⟩
     . clear ih;rcases pv with rfl|⟨cO,nO,rfl,bv⟩
       . simp only [aI,aO,aF,aK,aH,ne_eq,not_false_eq_true,aU,aY,aN,aJ,bw,bN,aD,Xf,r9,ah,BQ,noteSl,pair_x,entry_nl,jD,seval]
       . simp only [aI,aO,aF,aK,aH,ne_eq,not_false_eq_true,aU,aY,aN,aJ,bw,bN,aD,Xf,r9,ah,BQ,noteSl,cS bv,cS bv.symm,seval]
     have kO: ∀c∈keys ((bk,Ob.row [.int .i64 (n:Nat)] 1)::(I,.row [ptrTo C] 1)::(C,.row [ptrTo bP,.slice (some ⟨bd,0,none⟩) l.nodes l.nodes,.slice (some ⟨ba,0,none⟩) l.nodes l.nodes,vO,.map (some G)] 1)::(G,.map es c)::(ba,.row (ints aL) 1)::(bd,.row (fg ((zO l.nodes).map D)) 1)::(W,.row [.slice none 0 0,.slice none 0 0,.slice none 0 0] 1)::dR dbs) [(vO,1,fg O)],c<hS.n:=fun c t=>Y.key_lt t;have kS:=fun {c} t=>S.key_lt (b:=c) t;have cW:=(Y.rebase S).gr.n;refine step_ret (hN _ nb S.ok (hn.gr (Y.rebase S).gr) v a8) ?_;rintro vl h ⟨g,sl,bx⟩;have kn:=S.fr.n;have gn:=g.n;replace S:=S.call g;simp only [BZ,r3,seval];have ax:=S.fr.n;have cX:=fun {c} t=>sl.lt S.ok (b:=c) t;refine step_ret (arcs_ok' S.ok bA sl.fl dI) ?_;intro v h ⟨g,b1,b2,b3,e,q1,q2,q3,y1,y2,y3⟩;replace S:=S.call g;replace sl:=sl.gr g;clear g;subst e;simp only [BZ];have hH:=H.mo S.fr (fun c t w=>(Z c t).2 w);have bB:=H.lt Y.ok;refine gP S (g:=263) (a:=#[]) (b:=#[ptrTo b1,ptrTo b2,ptrTo b3]) (by simp [bw,aB,ah]) rfl rfl ?_;intro h2 db lb S' cY c0 g2;have R1:=Y.rebase S';obtain⟨X,hX,R1⟩: ∃X:fF,X=_/\St NoM h0 h2 ((lb,.loop X)::(db,.dfr)::(bk,Ob.row [.int .i64 (n:Nat)] 1)::(I,.row [ptrTo C] 1)::(C,.row [ptrTo bP,.slice (some ⟨bd,0,none⟩) l.nodes l.nodes,.slice (some ⟨ba,0,none⟩) l.nodes l.nodes,A,.map (some G)] 1)::(G,.map R c')::(ba,.row (ints aL) 1)::(bd,.row (fg ((zO l.nodes).map fun u=>if u=v then n else D u)) 1)::(W,.row [.slice none 0 0,.slice none 0 0,.slice none 0 0] 1)::dR dbs) [(A,1,fg (O++[v]))]:=⟨_,rfl,R1⟩;have bE:ClF (O++[v]) (dY f (v:Int) (some (.int .i64 1))):=fun u=>by
      unfold dY;by_cases e:u=v
      . subst e;simp
      . have e': ¬((u:Int)=(v:Int)):=(by omega);rw [if_neg e',CF u];simp [e]
     have hJ :Yld zM lb (fun k h' F'=> ∃K' Fh E,St NoM h0 h' ((lb,.loop X)::(db,.dfr)::(bk,Ob.row [.int .i64 (n:Nat)] 1)::(I,.row [ptrTo C] 1)::(C,.row [ptrTo bP,.slice (some ⟨bd,0,none⟩) l.nodes l.nodes,.slice (some ⟨ba,0,none⟩) l.nodes l.nodes,A,.map (some G)] 1)::(G,.map R c')::(ba,.row (ints E) 1)::(bd,.row (fg ((zO l.nodes).map fun u=>if u=v then n else D u)) 1)::(W,.row [.slice none 0 0,.slice none 0 0,.slice none 0 0] 1)::dR dbs) [(A,1,fg (O++[v]))]/\
      cF h' Fh (ptrTo bP) l.nodes K'/\(∀c∈Fh,h0.n<=c/\c∉keys ((lb,.loop X)::(db,.dfr)::(bk,Ob.row [.int .i64 (n:Nat)] 1)::(I,.row [ptrTo C] 1)::(C,.row [ptrTo bP,.slice (some ⟨bd,0,none⟩) l.nodes l.nodes,.slice (some ⟨ba,0,none⟩) l.nodes l.nodes,A,.map (some G)] 1)::(G,.map R c')::(ba,.row (ints E) 1)::(bd,.row (fg ((zO l.nodes).map fun u=>if u=v then n else D u)) 1)::(W,.row [.slice none 0 0,.slice none 0 0,.slice none 0 0] 1)::dR dbs) [(A,1,fg (O++[v]))])/\
      E.length=l.nodes/\Dj (seen l.arcs fs ft) s l.nodes (O++[v]) (fun u=>if u=v then n else D u) K' (fun a=> ∃id∈(outs l.arcs fs l.arcs.length v).drop k,(seen l.arcs fs ft).getD id default=a)/\
      F'=keys ((lb,.loop X)::(db,.dfr)::(bk,Ob.row [.int .i64 (n:Nat)] 1)::(I,.row [ptrTo C] 1)::(C,.row [ptrTo bP,.slice (some ⟨bd,0,none⟩) l.nodes l.nodes,.slice (some ⟨ba,0,none⟩) l.nodes l.nodes,A,.map (some G)] 1)::(G,.map R c')::(ba,.row (ints E) 1)::(bd,.row (fg ((zO l.nodes).map fun u=>if u=v then n else D u)) 1)::(W,.row [.slice none 0 0,.slice none 0 0,.slice none 0 0] 1)::dR dbs) [(A,1,fg (O++[v]))]++Fh) (fun _ _=>False) (qL l.arcs ft (outs l.arcs fs l.arcs.length v)):=by
      clear ih S' R1 y1 y2 y3 hH S g2 H Z sl;refine⟨?_,?_,fun _ _ h=>h.elim,?_⟩
      . rintro k h F' ⟨K',Fh,E,S,H,Z,_,_,rfl⟩;exact⟨S.ok,fun b hb=>(List.mem_append.1 hb).elim (fun hb=>S.key_lt hb) (fun hb=>H.lt S.ok b hb)⟩
      . rintro k h F' h' ⟨K',Fh,E,S,H,q⟩ g;exact⟨K',Fh,E,S.call g,H.gr g,q⟩
      . rintro k x h F' hx ⟨K',Fh,E,S,H,Z,bb,U,rfl⟩;have be:k<(outs l.arcs fs l.arcs.length v).length:=(by have:=(List.getElem?_eq_some_iff.1 hx).1;simpa [qL]using this);unfold qL at hx;rw [Xm,Xd be]at hx;cases hx;have w:=jU.1 (Xk be);rw [XN be]at U;generalize(outs l.arcs fs l.arcs.length v)[k]=id at w U;obtain⟨ad,bf⟩:=w;subst hX;refine gK (S.get m0) (by rw [e173];rfl) rfl ?_;have S1:=S;replace S:=S.base;simp only [BZ,seval];refine ab au S ?_;clear S;intro h bL S b6;simp only [BZ,Xs,cQ,seval];refine az (stA S (i:=0) t135.2.1) ?_;clear S;rintro h ⟨S,mo⟩;clear mo;simp only [LC,ac,lay,Xh,Xi,seval]at S;simp only [BZ];refine fG S (i:=1) rfl rfl rfl rfl rfl ?_;clear S;intro h S;simp only [LC]at S;have af:l.arcs.getD id default∈l.arcs:=(by rw [Xa,Xd ad];exact Xk ad);have c3:=al.arcs _ af;have c4:O.length*cg<=12*cg:=Yc _ (Xb dj.len n2);have cv:=kK;have wn:am .i64 ((n:Int)+((l.arcs.getD id default).w:Int))=((n+(l.arcs.getD id default).w:Nat):Int):=(by rw [wrap64]<;>omega);simp only [BZ,r9,r11,wn,S.ld (b:=I) (o:=0) m4 rfl,S.ld (b:=bL) (o:=1) m0 rfl,S.ld (b:=bL) (o:=2) m0 rfl,S.ld (b:=bk) (o:=0) m3 rfl,seval];have hH:=H.mo S.fr (fun c t w=>(Z c t).2 w);have bT:=H.lt S1.ok;have d3:C≠ba:=fun e=>(by have ap:=S1.apart;subst e;simp only [keys,XG,Yl,List.nodup_cons,Xt]at ap;exact ap.2.2.2.2.1 (.inr (.inl trivial)));replace S:=S.mono (M':=fun c=>c∈keys _ _\/c∈Fh) (fun _ h=>.inl h);refine step_ret (reach_ok S.ok (arc:=id) (far:=n+(l.arcs.getD id default).w) (S.row m5) hH (by omega) (S.own _ m6).2 bt bE (S.row m7) bb (bh _ af) (fun h=>(Z ba h).2 (by simp [keys])) (fun h=>(Z C h).2 (by simp [keys])) d3) ?_;rintro r h ⟨f1,F2,b7,H2,ai,ca,cb,c5⟩;have kq:=fun {c} t=>S.key_lt (b:=c) t;have qn:=S.fr.n;have S2:=S.callF (i:=7) (Fh:=Fh) rfl f1 (fun c t=>⟨.inl (.inr t),fun w=>by
         rcases List.mem_cons.1 w with e|w
         . have:=bT c t;omega
         . exact(Z c t).2 w⟩) (o':=.row _ 1) ca
        simp only [XQ,X8]at S2;clear S;simp only [BZ];have S:=S2.base;refine dC S (i:=1) rfl ?_;clear S;intro h S;simp only [LC]at S;have H3:=H2.mo S.fr (fun c t w=>by
         rcases ai c t with Q|Q
         . rcases List.mem_cons.1 w with e|w
           . have:=bT c Q;omega
           . exact(Z c Q).2 w
         . have:=kq w;omega)
        have S3:=S2.rebase S;refine .inl ⟨rfl,_,⟨_,F2,b7,S1.rebaseF (fun c t=>.inl (Z c t).1) S3.drop1,H3,fun c t=>?_,cb,?_,rfl⟩,S3.fr.mono (fun c t=>List.mem_append.2 t),fun c t=>?_⟩
        . rcases ai c t with Q|Q
          . exact Z c Q
          . refine⟨Xb S1.fr.n (Xb qn Q),fun w=>?_⟩;have:=kq (Xx _ w);omega
        . obtain⟨e1,e2⟩:=seen_at (fs:=fs) (ft:=ft) ad;have:=U.relaxed (ex':=fun a=> ∃cc∈(outs l.arcs fs l.arcs.length v).drop (k+1),(seen l.arcs fs ft).getD cc default=a) e2 (by rw [e1];show fs _∈_;rw [bf];simp) (by rw [e1];exact bh _ af) (by rw [e1];simp only [bf,if_true];rw [XR,Yw,Nat.succ_mul];omega) (fun b hb hx=>by
           by_cases eb:b=(seen l.arcs fs ft).getD id default
           . exact .inr eb
           . left;rintro⟨i,hi,rfl⟩;rcases List.mem_cons.1 hi with e|hi
             . subst e;exact eb rfl
             . exact hx ⟨i,hi,rfl⟩)
          simp only [e1,bf,if_true]at this;exact this
        . rcases List.mem_append.1 t with t|t
          . exact .inl (Yx _ t)
          . rcases ai c t with Q|Q
            . exact .inl (XW _ Q)
            . exact .inr (Xb qn Q)
     have ak:=(Y.rebase S).gr;have cx:=jQ l.arcs fs l.arcs.length v;have c6:=al.many;refine dh (iter_useN (arcs_it (hq:=h0) ok S.ok ak.keep ak.n hn sl (fun id ad=>(jU.1 ad).1) (by omega) hE y1 y2 y3) (fun _ _ h=>h) hJ (h:=h2) (F:=keys ((lb,.loop X)::(db,.dfr)::(bk,Ob.row [.int .i64 (n:Nat)] 1)::(I,.row [ptrTo C] 1)::(C,.row [ptrTo bP,.slice (some ⟨bd,0,none⟩) l.nodes l.nodes,.slice (some ⟨ba,0,none⟩) l.nodes l.nodes,A,.map (some G)] 1)::(G,.map R c')::(ba,.row (ints aL) 1)::(bd,.row (fg ((zO l.nodes).map fun u=>if u=v then n else D u)) 1)::(W,.row [.slice none 0 0,.slice none 0 0,.slice none 0 0] 1)::dR dbs) [(A,1,fg (O++[v]))]++F) g2.fr (fun b hb hlt=>?_)
      ⟨dw K v none,F,aL,R1,hH.gr g2,fun c t=>⟨(Z c t).1,fun w=>?_⟩,lA,b4.exm (fun a ha hs=>?_),rfl⟩) fun o rc h' y=>iJ y ?_
     . rcases List.mem_append.1 hb with V|V
       . have k2:=(R1.key_own V).elim (fun h=>h) (fun h=>h.elim);rcases List.mem_cons.1 V with e|V
         . simp only []at e;omega
         . rcases List.mem_cons.1 V with e|V
           . simp only []at e;omega
           . have k1:=kS V;rintro(h|h|h|h|h)
             . omega
             . omega
             . omega
             . have:=bx b h;omega
             . omega
       . have k1:=bB b V;have k2:=(Z b V).1;rintro(h|h|h|h|h)
         . omega
         . omega
         . omega
         . have:=bx b h;omega
         . omega
     . have k1:=bB c t;have c9:=S.fr.n;rcases List.mem_cons.1 w with e|w
       . simp only []at e;omega
       . rcases List.mem_cons.1 w with e|w
         . simp only []at e;omega
         . rcases S.key_own w with Q|Q
           . omega
           . exact(Z c t).2 Q
     . obtain⟨i,hi,e⟩:=seen_mem ha;refine⟨i,?_,e⟩;rw [Xz];refine jU.2 ⟨hi,?_⟩;have:=(seen_at (fs:=fs) (ft:=ft) hi).1;rw [e]at this;rw [this]at hs;exact hs
     . rintro Fx ⟨K',a1,E,T,H',J,bb,U,rfl⟩;clear hJ R1 y1 y2 y3 hH S' S;rw [show(qL l.arcs ft (outs l.arcs fs l.arcs.length v)).length=(outs l.arcs fs l.arcs.length v).length by simp [qL],Yn]at U;replace U:=U.exm (ex':=fun _=>False) (fun a _ h=>by obtain⟨i,hi,_⟩:=h;cases hi);subst hX;refine⟨_,T.get m0,XJ,?_⟩;have ai: ∀c∈a1,c≠lb:=fun c t e=>(J c t).2 (by rw [e];exact m0);have H2:=H'.mo ((Mo.refl (M:=(· =lb)) T.ok).put (.inr rfl) .dead) ai;replace T:=T.dead;replace J:=fun c t=>And.intro (J c t).1 (fun w=>(J c t).2 (Xx _ w));have S:=T.base;show Run _ _ _ _ _ _ _ _;simp only [BZ,if_false,r11,S.ld (b:=bk) (o:=0) m1 rfl,seval];refine ab au S ?_;clear S;intro h a2 S cf;simp only [BZ,r11,seval];refine az (aA S (i:=0) rfl ?_ ?_ ?_ ono) ?_
       . exact(by simp only [FA0])
       . exact(by exact aM)
       . exact Xe (lbt rfl)
       clear S;rintro h ⟨S,mo⟩;clear mo;simp only [LC,ac,lay,Xh,Xi,seval]at S;simp only [BZ,r9,S.ld (b:=I) (o:=0) m3 rfl,S.ld (b:=C) (o:=0) m4 rfl,seval];have H3:=H2.mo S.fr (fun c t w=>(J c t).2 w);have ch:=H2.lt T.ok;have a3: ∀c∈a1,h0.n<=c/\c∉keys ([(a2,Ob.row [.int .i64 (n:Nat)] 1),(I,.row [ptrTo C] 1),(C,.row [ptrTo bP,.slice (some ⟨bd,0,none⟩) l.nodes l.nodes,.slice (some ⟨ba,0,none⟩) l.nodes l.nodes,A,.map (some G)] 1),(G,.map R c'),(ba,.row (ints E) 1),(bd,.row (fg ((zO l.nodes).map fun u=>if u=v then n else D u)) 1),(W,.row [.slice none 0 0,.slice none 0 0,.slice none 0 0] 1)]++dR (db::dbs)) [(A,1,fg (O++[v]))]:=fun c t=>by
        refine⟨(J c t).1,fun w=>?_⟩;have Q:=(J c t).2;have h2:=ch c t;simp [keys,dR]at w;rcases w with h|h|h|h|h|h|h|h|h|h
        . omega
        all_goals exact Q (by simp [keys,dR,h])
       replace S:=(T.rebase S).sub (L':=(a2,Ob.row [.int .i64 (n:Nat)] 1)::(db,.dfr)::(I,.row [ptrTo C] 1)::(C,.row [ptrTo bP,.slice (some ⟨bd,0,none⟩) l.nodes l.nodes,.slice (some ⟨ba,0,none⟩) l.nodes l.nodes,A,.map (some G)] 1)::(G,.map R c')::(ba,.row (ints E) 1)::(bd,.row (fg ((zO l.nodes).map fun u=>if u=v then n else D u)) 1)::(W,.row [.slice none 0 0,.slice none 0 0,.slice none 0 0] 1)::dR dbs) (G':=[(A,1,fg (O++[v]))]) (.cons_cons _ (.cons_cons _ (List.sublist_cons_self _ _))) (List.Sublist.refl _);replace S:=S.permL (L':=[(a2,Ob.row [.int .i64 (n:Nat)] 1),(I,.row [ptrTo C] 1),(C,.row [ptrTo bP,.slice (some ⟨bd,0,none⟩) l.nodes l.nodes,.slice (some ⟨ba,0,none⟩) l.nodes l.nodes,A,.map (some G)] 1),(G,.map R c'),(ba,.row (ints E) 1),(bd,.row (fg ((zO l.nodes).map fun u=>if u=v then n else D u)) 1),(W,.row [.slice none 0 0,.slice none 0 0,.slice none 0 0] 1)]++dR (db::dbs)) (.cons _ (by
        show(List.append [_,_,_,_,_,_] ((db,Ob.dfr)::dR dbs)).Perm _;exact List.perm_middle))
       clear T H' H2 J;have T:=S.baseF a1;refine step_ret (xG S.ok H3 (by omega)) ?_;rintro rr h3 ⟨v3,k3,cj,rfl,f3,H4,bX,bY⟩;replace S:=S.rebaseF (fun c t=>.inl (a3 c t).1) (T.stepF f3 (fun c t=>⟨.inl (.inr t),(a3 c t).2⟩));simp only [BZ,r11,seval];clear T;have T:=S;replace S:=S.base;simp only [LC]at S;refine az (aA S (i:=0) rfl ?_ ?_ ?_ ono) ?_
       . exact(by simp only [FA0])
       . exact(by exact aM)
       . exact Xe (lbt rfl)
       clear S;rintro h ⟨S,mo⟩;clear mo;simp only [LC,ac,lay,Xh,Xi,seval]at S;simp only [BZ,seval];have H5:=H4.mo S.fr (fun c t w=>(a3 c t).2 w);replace S:=T.rebase S;subst hd;have da:(O++[v]).length=O.length+1:=(by simp);have cz:=U.len;refine ih (O++[v]) _ _ _ (by omega) ⟨db::dbs,_,K',a1,R,c',_,E,A,a2,v3,k3,cj,rfl,S,a3,bb,bt,bE,U,H5,bX,bY,?_⟩;refine(by simp [aB,r0,ah,r2,r3,r8,r9])
 . have e1:fg ((zO l.nodes).map fun _=>FAR)=XO l.nodes (.int .i64 72057594037927936):=(by rw [nK,XZ,XA,List.map_replicate];rfl);have e2:ints (XO l.nodes (-1))=XO l.nodes (.int .i64 (-1)):=(by rw [ints_map,List.map_replicate]);have S3:=S1.rebaseF (fun c t=>.inl (P c t).1) (S2.rebase S);have nn:=S2.fr.n;refine⟨[],fun _=>FAR,dw (fun _=>none) s (some 0),F1,[],0,fun _=>none,XO l.nodes (-1),.slice none 0 0,bk,v,k,b,rfl,?_,?_,by simp,om,fun u=>by simp,dj,H3,ay,a0,?_⟩
   . rw [e1,e2];exact S3
   . rw [e1,e2];intro c t;refine⟨(P c t).1,fun w=>?_⟩;have Q:=(P c t).2;have h2:=bo c t;simp [keys,eH,dR]at w Q;omega
   . refine(by simp [aB,ah,cK,dE])
theorem fromKey:KeyF zM 175 Arc.t:=by intro f a c;have S:=Si c;refine erA (n:=5) (rs:=[.tmp 2]) e175 ?_;simp only [BZ,cQ,seval];refine ab (aW (by intro x e;cases e)) S ?_;clear S;intro h b S d;simp only [ac]at S;simp only [BZ,aa,S.ld (b:=b) (o:=1) m0 rfl,seval];exact S.gr
theorem toKey:KeyF zM 174 Arc.s:=by intro f a c;have S:=Si c;refine erA (n:=5) (rs:=[.tmp 2]) e174 ?_;simp only [BZ,cQ,seval];refine ab (aW (by intro x e;cases e)) S ?_;clear S;intro h b S d;simp only [ac]at S;simp only [BZ,aa,S.ld (b:=b) (o:=0) m0 rfl,seval];exact S.gr
theorem fromNext{b:Gra}(a:Good b):NextF zM 129 b pn Arc.s:=fun h f c d v e=>vU c d (by have:=a.many;omega) e
theorem toNext{b:Gra}(a:Good b):NextF zM 131 b pn Arc.t:=fun h f c d v e=>xV c d (by have:=a.many;omega) e
theorem uH(A:OZ h0){j:Gra}(f:Good j){B:Nat}(C:aP h0 B pn j)(E:s<j.nodes):Ret zM 85 [pn,.int .i64 s] h0 fun r h'=>Gr h0 h'/\zw h' h0.n r (seen j.arcs Arc.s Arc.t) s j.nodes:=by
 have S:=Si A;refine erA (n:=10) (rs:=[.cell 4 245]) e85 ?_;simp only [BZ];refine ab au S ?_;clear S;intro h k S p;simp only [BZ,seval];have F:=S.fr.n;have G:=(S.row (b:=k) m0).lt S.ok;refine step_ret (Du S.ok f (C.gr S.gr) E (fromNext f) fromKey (fun a H=>(f.arcs a H).2.1)) ?_;intro v h ⟨g,T⟩;replace S:=S.call g;obtain⟨q,t,u,D,I,O,rfl,w,y,z,t4,t5,t6,t7,t8⟩:=T;have J:=w.fl;have K:=y.fl;have L:=z.fl;have l: ∀c,ar q c\/ar t c\/ar u c->c≠k:=fun c d e=>by have:=t6 c d;omega
 simp only [BZ,seval];refine az (S.store (i:=0) rfl t245.2.1 (by intro x e;cases e) rfl (by simp only [ac,Xy,XC,J.2.1,K.2.1,L.2.1,Xf]) (lbt rfl) ono) ?_;clear S;rintro h ⟨S,m⟩;simp only [LC,ac,lay,Xh,Xi,seval]at S;simp only [BZ,aa];refine(bD (by decide) (by simp only [aD,ah,seval];exact bI t245.1 t245.2.1 (S.lds (b:=k) (o:=0) (n:=3) m0 (lbt rfl)))).2 (cu.2 ?_);exact⟨S.gr,q,t,u,D,I,O,rfl,w.mo m (fun c d=>l c (.inl d)),y.mo m (fun c d=>l c (.inr (.inl d))),z.mo m (fun c d=>l c (.inr (.inr d))),t4,t5,fun c d=>Xb F (t6 c d),t7,t8⟩
theorem ux(A:OZ h0){j:Gra}(f:Good j){B:Nat}(C:aP h0 B pn j)(E:s<j.nodes):Ret zM 84 [pn,.int .i64 s] h0 fun r h'=>Gr h0 h'/\zw h' h0.n r (seen j.arcs Arc.t Arc.s) s j.nodes:=by
 have S:=Si A;refine erA (n:=10) (rs:=[.cell 4 245]) e84 ?_;simp only [BZ];refine ab au S ?_;clear S;intro h k S p;simp only [BZ,seval];have F:=S.fr.n;have G:=(S.row (b:=k) m0).lt S.ok;refine step_ret (Du S.ok f (C.gr S.gr) E (toNext f) toKey (fun a H=>(f.arcs a H).1)) ?_;intro v h ⟨g,T⟩;replace S:=S.call g;obtain⟨q,t,u,D,I,O,rfl,w,y,z,t4,t5,t6,t7,t8⟩:=T;have J:=w.fl;have K:=y.fl;have L:=z.fl;have l: ∀c,ar q c\/ar t c\/ar u c->c≠k:=fun c d e=>by have:=t6 c d;omega
 simp only [BZ,seval];refine az (S.store (i:=0) rfl t245.2.1 (by intro x e;cases e) rfl (by simp only [ac,Xy,XC,J.2.1,K.2.1,L.2.1,Xf]) (lbt rfl) ono) ?_;clear S;rintro h ⟨S,m⟩;simp only [LC,ac,lay,Xh,Xi,seval]at S;simp only [BZ,aa];refine(bD (by decide) (by simp only [aD,ah,seval];exact bI t245.1 t245.2.1 (S.lds (b:=k) (o:=0) (n:=3) m0 (lbt rfl)))).2 (cu.2 ?_);exact⟨S.gr,q,t,u,D,I,O,rfl,w.mo m (fun c d=>l c (.inl d)),y.mo m (fun c d=>l c (.inr (.inl d))),z.mo m (fun c d=>l c (.inr (.inr d))),t4,t5,fun c d=>Xb F (t6 c d),t7,t8⟩
def wy(x:Int):Int:=min (max x 0) 72057594037927936
theorem Ek(a:OZ h0)(b:h0.load b1 0 1=some [.int .i64 0])(c:h0.load b2 0 1=some [.int .i64 72057594037927936]):aQ zM 275 [.int .i64 x,ptrTo b1,ptrTo b2] h0 (.int .i64 (wy x)):=by have S:=Si a;refine erA (n:=10) (rs:=[.tmp 4]) e275 ?_;simp only [BZ,aa,b,c,seval];exact⟨rfl,S.gr⟩
theorem FG(c:OZ h0):Ret zM 254 [.int .i64 0,.int .i64 72057594037927936] h0 fun v h=>Gr h0 h/\ ∃b1 b2,v=.func (.func 275) #[] #[ptrTo b1,ptrTo b2]/\h.load b1 0 1=some [.int .i64 0]/\h.load b2 0 1=some [.int .i64 72057594037927936]:=by have S:=Si c;refine erA (n:=6) (rs:=[.tmp 4]) e254 ?_;simp only [BZ,seval];refine ab (aW (by intro x e;cases e)) S ?_;clear S;intro h b1 S a;simp only [ac]at S;simp only [BZ,if_false,seval];refine ab (aW (by intro x e;cases e)) S ?_;clear S;intro h b2 S b;simp only [ac]at S;simp only [BZ,aa,seval];exact⟨S.gr,b1,b2,rfl,S.ld m1 rfl,S.ld m0 rfl⟩
theorem nJ(a:OZ h0):aQ zM 215 [.int .i64 x] h0 (.int .i64 (wy x)):=by have S:=Si a;refine erA (n:=6) (rs:=[.tmp 2]) e215 ?_;simp only [BZ];refine step_ret (FG S.ok) ?_;intro v h ⟨g,b1,b2,e,e1,e2⟩;replace S:=S.call g;subst e;simp only [BZ,seval];refine ae (Ek S.ok e1 e2) ?_;intro h g;replace S:=S.call g;simp only [BZ,aa,seval];exact S.gr
theorem oG(a:OZ h0):aQ zM 214 [.int .i64 x] h0 (.bool (decide (wy x<72057594037927936))):=by have S:=Si a;refine erA (n:=6) (rs:=[.tmp 2]) e214 ?_;simp only [BZ,seval];refine ae (nJ S.ok) ?_;intro h g;replace S:=S.call g;simp only [BZ,aa,seval];exact S.gr
theorem uy(x:Int):0<=wy x/\wy x<=72057594037927936:=by unfold wy;omega
theorem wy_id(h0:0<=x)(a:x<=72057594037927936):wy x=x:=by unfold wy;omega
structure YldP(E:Env)(lb:Nat)(J:Nat->Hp->List Nat->Prop)(n:Nat)(P:Nat->Hp->List Nat->List Value->Prop):Prop where
 lt: ∀i h F,J i h F->OZ h/\ ∀b∈F,b<h.n
 gr: ∀i h F h',J i h F->Gr h h'->J i h' F
 round: ∀i x h F,i<n->P i h F x->J i h F->nH E lb x h fun o h'=>o=.ret (.bool true)/\ ∃F',J (i+1) h' F'/\Mo (· ∈F) h h'/\ ∀b∈F',b∈F\/h.n<=b
def IterP(E:Env)(g:FuncId)(post:List Value)(h0:Hp)(D:Nat->Prop)(n:Nat)(P:Nat->Hp->List Nat->List Value->Prop):Prop:=
 ∀a J,YldP E a J n P-> ∀h F,ItS h0 D h F->J 0 h F->eB E g (.func (.yield a) #[] #[]::post) none h fun o b c=>b=none/\ ∃u d,o=.ret u/\J n c d
theorem Ea{cx:Cx}{o:Oper}{l:Loc}{K:Ex->Loc->Hp->Prop}{P:Nat->Hp->List Nat->List Value->Prop}{x:List Value}(Y:YldP E d J n P)(s:ItS h0 D h F)(e:J i h F)(f:i<n)(g:P i h F x)(j: ∀h' F',J (i+1) h' F'->ItS h0 D h' F'->Mo (· ∈F) h h'->(∀b∈F',b∈F\/h.n<=b)->K .normal (l.put o.dst (.bool true)) h'):ib E cx o l K (some (.yield d x,h)):=by
 refine zU (Y.round i x h F f g e) ?_;rintro q h' ⟨rfl,F',a,b,c⟩;exact j h' F' a (s.mo b c (Y.lt _ _ _ a).2) b c
def encV(w:Value):List Value:=[w]
theorem uk(w:Value):(encV w).length=1:=rfl
theorem Bv(l:List Value):l.flatMap encV=l:=by
 induction l with
 |nil=>rfl|cons x l a=>rw [Yb,a];rfl
def gf(h:Hp)(m:Nat)(v:Value)(n:Nat)(R:Nat->List Int):Prop:=
 ∃a:List Value,aw h 1 encV v a/\a.length=n/\(∀c,ar v c->m<=c)/\ ∀i w,a[i]? =some w->aw h 1 (encI .i64) w (R i)/\ ∀c,ar w c->m<=c
theorem gf.mo{M:Nat->Prop}{h h':Hp}{m n:Nat}{v:Value}{R:Nat->List Int}(r:gf h m v n R)(g:Mo M h h')(k: ∀b,M b->b<m):gf h' m v n R:=by obtain⟨l,a,b,c,d⟩:=r;exact⟨l,a.mo g (fun x e f=>by have:=c x e;have:=k x f;omega),b,c,fun i w j=>⟨(d i w j).1.mo g (fun x e f=>by have:=(d i w j).2 x e;have:=k x f;omega),(d i w j).2⟩⟩
theorem gf.gr(r:gf h m v n R)(g:Gr h h'):gf h' m v n R:=r.mo (M:=NoM) g.fr (fun _ h=>h.elim)
theorem gf.low{f:Nat}(r:gf h m v n R)(g:f<=m):gf h f v n R:=by obtain⟨k,a,b,c,d⟩:=r;exact⟨k,a,b,fun x e=>Xb g (c x e),fun i w j=>⟨(d i w j).1,fun x e=>Xb g ((d i w j).2 x e)⟩⟩
theorem gf.row(r:gf h m v n R)(k:i<n): ∃w,(∃c o,nw (some 1) v (.int .i64 (i:Nat))=some (.pointer (some ⟨c,o,none⟩))/\h.load c o 1=some [w])/\aw h 1 (encI .i64) w (R i)/\ ∀c,ar w c->m<=c:=by obtain⟨e,a,b,c,d⟩:=r;obtain⟨q,o,g,j⟩:=a.ix (kd:=.i64) uk (i:=i) (by omega);have f:e[i]? =some e[i]:=Xd (by omega);exact⟨e[i],⟨q,o,g,j⟩,(d i _ f).1,(d i _ f).2⟩
theorem flat_nat(l:List Nat):l.flatMap bM=(l.map fun(x:Nat)=>(x:Int)).flatMap (encI .i64):=by
 induction l with
 |nil=>rfl|cons x l a=>rw [Yb,XG,Yb,a];rfl
theorem z9{l:List Nat}(s:aw h 1 bM v l):aw h 1 (encI .i64) v (l.map fun(x:Nat)=>(x:Int)):=by
 rcases s with⟨rfl,rfl⟩|⟨b,o,s,c,rfl,d,a⟩
 . exact .inl ⟨rfl,rfl⟩
 . refine .inr ⟨b,o,s,c,by grind,by grind,?_⟩;rw [Xn,a,flat_nat]
def iZ(N:Nat)(l:List Int):Prop:=l.length<=16/\ ∀i,i<l.length->0<=l.getD i 0/\l.getD i 0<N/\l.getD i 0∉l.take i
theorem iZ.push(h:iZ N l)(d:l.length<16)(h0:0<=x)(f:x<N)(g:x∉l):iZ N (l++[x]):=by
 refine⟨by simp;omega,fun i b=>?_⟩;simp at b;by_cases e:i=l.length
 . grind
 . have a:i<l.length:=(by omega);have c:(l++[x]).getD i 0=l.getD i 0:=(by grind);rw [c,List.take_append_of_le_length (by omega)];exact h.2 i a
theorem mayL_nil(N:Nat):iZ N []:=⟨by simp,fun i a=>by simp at a⟩
structure TabAt(h:Hp)(m:Nat)(p:Value)(N:Nat)(marks:List Int)(R Q:Nat->List Int):Prop where
 ex: ∃b vM vT vF,p=ptrTo b/\Row h b [.int .i64 N,vM,vT,vF] 1/\aw h 1 (encI .i64) vM marks/\gf h m vT marks.length R/\gf h m vF marks.length Q/\m<=b/\ ∀c,ar vM c->m<=c
theorem TabAt.mo{M:Nat->Prop}{h h':Hp}{m N:Nat}{p:Value}{a:List Int}{R Q:Nat->List Int}(t:TabAt h m p N a R Q)(g:Mo M h h')(c: ∀b,M b->b<m):TabAt h' m p N a R Q:=by obtain⟨b,d,f,i,e,j,k,l,n,q,r⟩:=t.ex;exact⟨b,d,f,i,e,g.has (o:=.row _ 1) j (fun h=>by grind),k.mo g (fun x s u=>by grind),l.mo g c,n.mo g c,q,r⟩
theorem TabAt.gr{a:List Int}(t:TabAt h m p N a R Q)(g:Gr h h'):TabAt h' m p N a R Q:=t.mo (M:=NoM) g.fr (fun _ h=>h.elim)
theorem gf.lenq{h h':Hp}{m n:Nat}{v:Value}{R:Nat->List Int}{e:TypeId}(r:gf h' m v n R):lenQ (some (.slice e)) h v=some (.val (.int .i64 n),h):=by have⟨c,a,b,_⟩:=r;rw [<-b];exact a.lenq
theorem may1_ok(u:OZ h0){p:List (Value×Value×Nat)}{f:Int->Option Value}(e5:h0.load b5 0 1=some [.map (some b)])(v:h0.load b2 0 1=some [.int .i64 N])(q:h0.get b=some (.map p c))(s:dQ p c f)(hf:(f x).getD (.int .i64 0)=.int .i64 k)(D:k<=1)(y:b5≠b)(A:b2≠b):Ret zM 169 [.int .i64 x,ptrTo b5,ptrTo b2] h0 fun r h'=>Mo (· =b) h0 h'/\r=.bool (decide (x<0\/(N:Int)<=x\/k=1))/\ ∃es' c',h'.get b=some (.map es' c')/\dQ es' c' (dY f x (some (.int .i64 (k+1:Nat)))):=by
 have S:=St.init1 u (o:=.map p c) q;have t:=lJ (x:=x) t230.1 Tryz.t3.1 (z:=.int .i64 0) (by kernel_rfl) q s;rw [hf]at t;have w:am .i64 ((k:Int)+1)=((k+1:Nat):Int):=by rw [wrap64]<;>omega
 refine erA (n:=22) (rs:=[.tmp 4]) e169 ?_;simp only [BZ,e5,t,w,seval];refine az (S.mputI (i:=0) rfl t230.1 Tryz.t3.1 s _) ?_;clear S;rintro h ⟨_,es',c',a,S⟩;simp only [LC]at S;have j:=S.old e5 y;have d:=S.old v A;have l:h.get b=some (.map es' c'):=(S.own _ m0).2;have e:=lJ (x:=x) t230.1 Tryz.t3.1 (z:=.int .i64 0) (by kernel_rfl) l a;rw [show dY f x (some (.int .i64 ((k+1:Nat):Int))) x=some (.int .i64 ((k+1:Nat):Int)) by unfold dY;rw [if_pos rfl],Option.getD_some]at e;by_cases g:x<0
 . simp only [BZ,aa,g,seval];exact⟨S.fr,by simp [g],es',c',l,a⟩
 . by_cases m:(N:Int)<=x
   . simp only [BZ,aa,d,g,m,seval];exact⟨S.fr,by simp [m],es',c',l,a⟩
   . by_cases B:k=1
     . subst B;simp only [BZ,aa,Xs,j,d,g,m,e,seval];exact⟨S.fr,by simp,es',c',l,a⟩
     . have C:k=0:=(by omega);subst C;simp only [BZ,aa,Xs,j,d,g,m,e,seval];exact⟨S.fr,by simp [g,m],es',c',l,a⟩
def OkAt(N:Nat)(l:List Int)(i:Nat):Prop:=0<=l.getD i 0/\l.getD i 0<N/\l.getD i 0∉l.take i
theorem mayIdx_ok(T:OZ h0)(y:aw h0 1 (encI .i64) v l)(hl:l.length<=1000)(e5:h0.load b5 0 1=some [.map (some a)])(A:h0.load b2 0 1=some [.int .i64 N])(J:h0.get a=some (.map [] 0))(K:b5≠a)(L:b2≠a):Ret zM 234 [v,.func (.func 169) #[] #[ptrTo b5,ptrTo b2]] h0 fun r h'=>Mo (· =a) h0 h'/\ ∃z,r=.int .i64 z/\(0<=z↔ ¬ ∀i,i<l.length->OkAt N l i):=by
 have B: ∀c,ar v c-> ¬c=a:=by
  rintro c M rfl;rcases y with⟨rfl,_⟩|⟨b,o,s,O,rfl,_,U⟩
  . exact M.elim
  . have:b=c:=M;subst this;simp [Hp.load,J]at U
 refine erA (n:=19) (rs:=[.tmp 4]) e234 ?_;simp only [BZ,y.lenq,seval];refine aX (fun(i:Nat) g h=>i<=l.length/\Mo (· =a) h0 h/\(∃C c f,h.get a=some (.map C c)/\dQ C c f/\ ∀x,f x=if x∈l.take i then some (.int .i64 1)else none)/\(∀j,j<i->OkAt N l j)/\g 0=v/\g 1=.func (.func 169) #[] #[ptrTo b5,ptrTo b2]/\g 7=.int .i64 l.length/\g 8=.int .i64 i) (fun i=>l.length-i) ?_ 0 _ _ ?_
 . intro i V g h ⟨hi,mo,⟨C,c,f,hg,MI,hf⟩,hok,r0,r1,r7,r8⟩;by_cases hlt:i<l.length
   . obtain ⟨q,o,m,D⟩:=(y.mo mo B).ix (kd:=.i64) (bR .i64) hlt;have w:am .i64 ((i:Int)+1)=((i+1:Nat):Int):=(by rw [wrap64]<;>omega);have P: ∀{b:Nat} {x},b≠a->h0.load b 0 1=some x->h.load b 0 1=some x:=fun E e=>(by have:=mo.get _ (aV mo.ok0 e) E;unfold Hp.load at e⊢;rw [this];exact e);have F:l.getD i 0=l[i]:=(by simp [Xa,hlt]);simp only [BZ,r0,r1,r7,r8,aE,hlt,m,D,encI,seval];refine step_ret (may1_ok mo.ok (x:=l[i]) (N:=N) (k:=if l[i]∈l.take i then 1 else 0) (P K e5) (P L A) hg MI (by rw [hf];split<;>rfl) (by split<;>omega) K L) ?_;rintro r h' ⟨W,rfl,G,O,H,I⟩;have p:=mo.trans W (fun _ h=>.inl h);by_cases d:OkAt N l i
     . have e:decide (l[i]<0\/(N:Int)<=l[i]\/(if l[i]∈l.take i then 1 else 0)=1)=false:=(by obtain⟨X,Y,Q⟩:=d;rw [F]at X Y Q;rw [if_neg Q];simp;omega);rw [e];have t:l[i]∉l.take i:=(by have:=d.2.2;rwa [F]at this);simp only [BZ,r8,w,seval];refine V (i+1) _ _ (by omega) ⟨by omega,p,⟨G,O,_,H,I,fun x=>?_⟩,fun j R=>?_,by simp [aB,r0,r1,ah,r7]⟩
       . have S:=Xg hlt;rw [if_neg t];unfold dY;by_cases u:x=l[i]
         . rw [if_pos u,if_pos (by rw [S];exact XW _ (List.mem_singleton.2 u))];rfl
         . rw [if_neg u,hf];have:x∈l.take (i+1)↔x∈l.take i:=(by rw [S,X6,X9];exact⟨fun h=>h.resolve_right u,.inl⟩);simp only [this]
       . by_cases A:j=i
         . subst A;exact d
         . exact hok j (by omega)
     . have e:decide (l[i]<0\/(N:Int)<=l[i]\/(if l[i]∈l.take i then 1 else 0)=1)=true:=by
        unfold OkAt at d;rw [F]at d;simp only [decide_eq_true_eq];by_cases t:l[i]∈l.take i
        . rw [if_pos t];exact .inr (.inr rfl)
        . by_cases Z:l[i]<0
          . exact .inl Z
          . by_cases a2:(N:Int)<=l[i]
            . exact .inr (.inl a2)
            . exact absurd ⟨by omega,by omega,t⟩ d
       rw [e];simp only [BZ,aa,seval];exact⟨p,_,rfl,by simp only [Int.natCast_nonneg,true_iff];exact fun h=>d (h i hlt)⟩
   . simp only [BZ,aa,r7,r8,aE,hlt,seval];exact⟨mo,_,rfl,⟨fun h=>by omega,fun h=>absurd (fun j R=>hok j (by omega)) h⟩⟩
 . exact⟨Xj _,Mo.refl T,⟨[],0,fun _=>none,J,om,fun x=>by simp⟩,fun j R=>by omega,by simp [aB,cK,dE,ah]⟩
noncomputable instance mayDec(N:Nat)(l:List Int):Decidable (iZ N l):=Classical.propDecidable _
theorem mayCf_ok(g:OZ h0)(j:aw h0 1 (encI .i64) v l)(k:l.length<=1000)(e5:h0.load b5 0 1=some [.map (some a)])(m:h0.load b2 0 1=some [.int .i64 N])(o:h0.get a=some (.map [] 0))(p:b5≠a)(q:b2≠a)(d:Decidable (∀i,i<l.length->OkAt N l i)):Ret zM 170 [v,.func (.func 169) #[] #[ptrTo b5,ptrTo b2]] h0 fun r h'=>Mo (· =a) h0 h'/\r=.bool (!decide (∀i,i<l.length->OkAt N l i)):=by
 refine erA (n:=9) (rs:=[.tmp 4]) e170 ?_;simp only [BZ,seval];refine step_ret (mayIdx_ok g j k e5 m o p q) ?_;rintro r h ⟨e,z,rfl,f⟩;by_cases c: ∀i,i<l.length->OkAt N l i
 . have b: ¬(0<=z):=fun h=>f.1 h c;simp only [BZ,aa,b,seval];exact⟨e,by rw [decide_eq_true c];rfl⟩
 . have b:0<=z:=f.2 c;simp only [BZ,aa,b,seval];exact⟨e,by rw [decide_eq_false c];rfl⟩
theorem may_ok(s:OZ h0)(g:aw h0 1 (encI .i64) v l)(t:l.length<=1000):aQ zM 80 [.int .i64 N,v] h0 (.bool (decide (iZ N l))):=by
 have S:=Si s;refine erA (n:=18) (rs:=[.tmp 4]) e80 ?_;simp only [BZ,seval];refine ab (aW (by intro x e;cases e)) S ?_;clear S;intro h u S p;simp only [ac]at S;simp only [BZ];refine ab lM S ?_;clear S;intro h A S a;simp only [BZ];refine ab au S ?_;clear S;intro h w S q;simp only [BZ,seval];refine az (aA S (i:=0) rfl ?_ ?_ ?_ ono) ?_
 . exact(by simp only [FA0])
 . exact(by exact yW)
 . exact Xe (lbt rfl)
 clear S;rintro h ⟨S,j⟩;clear j;simp only [LC,ac,lay,Xh,Xi,seval]at S;by_cases f:l.length<=16
 . have k:(l.length:Int)<=16:=(by omega);simp only [BZ,g.lenq,k,seval];have m:=S.apart;simp only [keys,XG,XP,XL,XM,List.nodup_cons,Xt,Xl,or_false,not_or]at m;have d:Decidable (∀i,i<l.length->OkAt N l i):=Classical.propDecidable _;refine step_ret (mayCf_ok S.ok (g.gr S.gr) t (S.ld (b:=w) (o:=0) m0 rfl) (S.ld (b:=u) (o:=0) m2 rfl) (S.own _ m1).2 m.1.1 (fun e=>m.2.1 e.symm) d) ?_;rintro r h ⟨j,rfl⟩;have y:Gr h0 h:=(S.fr.trans j (fun c z=>.inr (by subst z;exact a)):Mo NoM h0 h).gr;simp only [BZ,aa,seval];refine⟨?_,y⟩;congr 1;by_cases c: ∀i,i<l.length->OkAt N l i
   . have:iZ N l:=⟨f,c⟩;rw [decide_eq_true c,decide_eq_true this];rfl
   . have: ¬iZ N l:=fun h=>c h.2;rw [decide_eq_false c,decide_eq_false this];rfl
 . have k: ¬(l.length:Int)<=16:=(by omega);simp only [BZ,aa,g.lenq,k,seval];exact⟨by have: ¬iZ N l:=fun h=>f h.1;simp [this],S.gr⟩
open Classical in
noncomputable def dOf(B:List Arc)(s v:Nat):Nat:=if h: ∃x,IsD B s v x then h.choose else 0
theorem zL{B:List Arc}{v x:Nat}(h:IsD B s v x):dOf B s v=x/\IsD B s v (dOf B s v):=by
 have a: ∃x,IsD B s v x:=⟨x,h⟩;have e:dOf B s v=a.choose:=by unfold dOf;rw [dif_pos a]
 rw [e];exact⟨a.choose_spec.uniq h,a.choose_spec⟩
noncomputable def rowD(B:List Arc)(N s:Nat):List Int:=(zO N).map fun v=>((dOf B s v:Nat):Int)
theorem rowD_of{B:List Arc}{D:Nat->Nat}(h: ∀v,IsD B s v (D v)):((zO N).map D).map (fun(x:Nat)=>(x:Int))=rowD B N s:=by unfold rowD;rw [Ym];refine Ye fun v _=>?_;show((D v:Nat):Int)=_;rw [(zL (h v)).1]
def RunF(E:Env)(g:FuncId)(a:Gra)(pn:Value)(B:List Arc):Prop:= ∀(h:Hp) (c:Nat),OZ h->aP h c pn a-> ∀s,s<a.nodes->Ret E g [pn,.int .i64 (s:Nat)] h fun r b=>Gr h b/\zw b h.n r B s a.nodes
theorem runTo{a:Gra}(b:Good a):RunF zM 84 a pn (seen a.arcs Arc.t Arc.s):=fun h f c d s e=>ux c b d e
theorem runFrom{a:Gra}(b:Good a):RunF zM 85 a pn (seen a.arcs Arc.s Arc.t):=fun h f c d s e=>uH c b d e
def PRow(m:Nat)(R:Nat->List Int)(i:Nat)(h:Hp)(F:List Nat)(x:List Value):Prop:= ∃w,x=[w]/\aw h 1 (encI .i64) w (R i)/\ ∀c,ar w c->m<=c/\c∉F
theorem rows_ok(g:OZ h0){e f:Value}(i:Fl p)(j:Fl e)(k:Fl f):Ret zM 83 [p,e,f] h0 fun v h'=>Gr h0 h'/\ ∃b1 b2 a,v=.func (.func 172) #[] #[ptrTo b1,ptrTo b2,ptrTo a]/\h0.n<=b1/\h0.n<=b2/\h0.n<=a/\h'.load b1 0 1=some [e]/\h'.load b2 0 1=some [f]/\h'.load a 0 1=some [p]:=by have S:=Si g;refine erA (n:=8) (rs:=[.tmp 6]) e83 ?_;simp only [BZ,seval];refine ab (bz (by assumption)) S ?_;clear S;intro h a S b;simp only [BZ,if_false,seval];refine ab (bz (by assumption)) S ?_;clear S;intro h b1 S c;simp only [BZ,if_false,seval];refine ab (bz (by assumption)) S ?_;clear S;intro h b2 S d;simp only [BZ,aa,seval];exact⟨S.gr,b1,b2,a,rfl,c,d,b,S.ld m1 rfl,S.ld m0 rfl,S.ld m2 rfl⟩
theorem rows_it(y:OZ hq)(d:OZ h0)(N:eZ hq h0)(P:hq.n<=h0.n){j:Value}{f:Gra}{p:Nat}(Q:aP hq z pn f)(C:aw h0 1 (encI .i64) j l)(A: ∀i,i<l.length->0<=l.getD i 0/\l.getD i 0<f.nodes)(E:l.length<1000){B:List Arc}(R:RunF zM g f pn B)(S:m<=h0.n)(T:h0.load b1 0 1=some [j])(U:h0.load b2 0 1=some [.func (.func g) #[] #[]])(V:h0.load p 0 1=some [pn]):IterP zM 172 [ptrTo b1,ptrTo b2,ptrTo p] h0 (fun c=>c=b1\/c=b2\/c=p\/ar j c\/c<hq.n) l.length (PRow m fun i=>rowD B f.nodes (l.getD i 0).toNat):=by
 intro W J Y h F s u;refine enA (n:=22) (rs:=[]) e172 ?_;have G:=s.load d T (.inl rfl);simp only [BZ,G,C.lenq,seval];refine aX (fun(i:Nat) e h=>i<=l.length/\ ∃F,ItS h0 (fun c=>c=b1\/c=b2\/c=p\/ar j c\/c<hq.n) h F/\J i h F/\e 0=.func (.yield W) #[] #[]/\e 2=ptrTo b2/\e 3=ptrTo p/\e 7=j/\e 8=.int .i64 l.length/\e 9=.int .i64 i) (fun i=>l.length-i) ?_ 0 _ _ ?_
 . clear G;intro i X e h ⟨hi,F,s,u,r0,r2,r3,r7,r8,r9⟩;by_cases hlt:i<l.length
   . obtain⟨c,o,q,r⟩:=(s.sl d C (fun b h=>.inr (.inr (.inr (.inl h))))).ix (kd:=.i64) (bR .i64) hlt;have Z:=s.load d U (.inr (.inl rfl));have l3:=s.load d V (.inr (.inr (.inl rfl)));have nt:aP h z pn f:=Q.keep y (s.keep N P (fun c x=>.inr (.inr (.inr (.inr x)))));have w:am .i64 ((i:Int)+1)=((i+1:Nat):Int):=(by rw [wrap64]<;>omega);have H:l.getD i 0=l[i]:=(by simp [Xa,hlt]);have I:=A i hlt;rw [H]at I;obtain⟨mk,t⟩: ∃k:Nat,l[i]=k:=⟨l[i].toNat,by omega⟩;rw [t]at r I;simp only [BZ,r0,r2,r3,r7,r8,r9,aE,hlt,q,r,encI,Z,l3,seval];refine step_ret (R h z s.ok nt mk (by omega)) ?_;rintro v K ⟨L,M,vA,vO,D,aL,O,rfl,s1,s2,s3,t4,t5,t6,t7,t8⟩;simp only [BZ,seval];refine Ea Y (s.gr L) (Y.gr _ _ _ _ u L) (i:=i) hlt ⟨M,rfl,?_,fun c x=>⟨?_,fun hF=>?_⟩⟩ ?_
     . have:=z9 s1;rw [rowD_of t5]at this;show aw K 1 _ M (rowD B f.nodes (l.getD i 0).toNat);rw [H,t];exact this
     . exact Xb S (Xb s.n (t6 c (.inl x)))
     . have h1:=s.lt c hF;have K:=t6 c (.inl x);omega
     . intro h' F' a s' _ _;simp only [BZ,r9,w,seval];exact X (i+1) _ _ (by omega) ⟨by omega,F',s',a,by simp [aB,r0,r2,ah,r3,r7,r8]⟩
   . simp only [BZ,r8,r9,aE,hlt,seval];have:i=l.length:=(by omega);subst this;exact bU (cy ⟨rfl,_,rfl,rfl,_,F,rfl,u⟩)
 . exact⟨by omega,F,s,u,by simp [aB,cL,ah]⟩
theorem C7(ok:OZ h0)(it:IterP zM g post.toList h0 D n (PRow m R))(E:m<=h0.n)(hn:n<1000):Ret zM 171 [.slice none 0 0,.func (.func g) #[] post] h0 fun r h'=>Gr h0 h'/\gf h' m r n R:=by
 have S:=Si ok;refine erA (n:=13) (rs:=[.tmp 4]) e171 ?_;simp only [BZ,seval];refine ab (bz (by exact bH)) S ?_;clear S;intro h t S V;simp only [BZ,if_false,seval];replace S:=S.nilG (k:=1);have g0:=S.gr;refine gP S (g:=g) (a:=#[]) (b:=post) (by simp [bw,aB,cK,dE]) rfl rfl ?_;intro W B v y af ai g2;obtain⟨X,Y,y⟩: ∃X:fF,X=_/\St NoM h0 W [(v,.loop X),(B,.dfr),(t,.row [.slice none 0 0] 1)] [(.slice none 0 0,1,[])]:=⟨_,rfl,y⟩;have hJ:YldP zM v (fun k h' F=> ∃(f:List Value) (p:Value),St NoM h0 h' [(v,.loop X),(B,.dfr),(t,.row [p] 1)] [(p,1,f)]/\f.length=k/\k<=n/\(∀i w,f[i]? =some w->aw h' 1 (encI .i64) w (R i)/\ ∀c,ar w c->m<=c/\c∉F)/\F=keys [(v,.loop X),(B,.dfr),(t,.row [p] 1)] [(p,1,f)]) n (PRow m R):=by
  refine⟨?_,?_,?_⟩
  . rintro i h F ⟨f,p,S,_,_,_,rfl⟩;exact⟨S.ok,fun b z=>S.key_lt z⟩
  . rintro i h F h' ⟨f,p,S,a,b,c,rfl⟩ Z;exact⟨f,p,S.call Z,a,b,fun i w l=>⟨(c i w l).1.gr Z,(c i w l).2⟩,rfl⟩
  . rintro i x hR F hi ⟨w,rfl,sw,l⟩ ⟨f,p,S,a,b,c,rfl⟩;subst Y;obtain⟨I,J,K,rfl⟩:=sw.form;have fw:Fl (.slice I J K):=bH;refine gK (S.get m0) (by rw [e171];rfl) rfl ?_;have O:=S;replace S:=S.base;simp only [BZ,seval];refine fG S (i:=0) rfl rfl rfl rfl rfl ?_;clear S;intro h S;simp only [LC]at S;simp only [BZ,S.ld (b:=t) (o:=0) m2 rfl,seval];refine ab (bZ (by exact t79.1) (by exact YA) (by decide) (by rfl)) S ?_;clear S;intro h bs S ad;simp only [LC,bJ,cd,ac,Xp,Xo,Xq,Xv,seval]at S;simp only [BZ,seval];have G:aR h 1 (.slice (some ⟨bs,0,none⟩) 1 1)=some (1,[.slice I J K]):=(by simp only [aR];rw [S.lds (b:=bs) (o:=0) (n:=1*1) m0 (lbt rfl)];rfl);replace S:=S.drop1;refine dT (S.grow (j:=0) (m:=1) (new:=[.slice I J K]) rfl t79.1 YA (by decide) t79.2.2.2.2.2 G rfl (by decide) (by simp [fw.2.1]) (by simp;omega)) ?_;clear S G;rintro h q S;simp only [LC]at S;have fv:Fl q:=by
     rcases(S.gown _ m0).1 with⟨e,_⟩|⟨_,_,e,_⟩
     . rw [show q=_ from e];exact bH
     . rw [show q=_ from e];exact bH
    simp only [BZ,seval];refine az (aA S (i:=2) rfl t79.2.2.1 fv (Xe (lbt rfl)) ono) ?_;clear S;rintro h ⟨S,_⟩;simp only [LC]at S;simp only [BZ];refine dC S (i:=0) rfl ?_;clear S;intro h S;simp only [LC]at S;refine⟨rfl,_,⟨f++[.slice I J K],q,O.rebase S,by simp [a],by omega,fun j u C=>?_,rfl⟩,S.fr,S.key_new⟩;have s:aw h 1 (encI .i64) u (R j)/\ ∀c,ar u c->m<=c/\c∉keys [(v,Ob.dfr),(B,.dfr),(t,.dfr)] [(p,1,f)]/\c<hR.n:=by
     by_cases hj:j<f.length
     . rw [XB hj]at C;obtain⟨N,A⟩:=c j u C;exact⟨N.mo S.fr (fun x d H=>(A x d).2 H),fun x d=>⟨(A x d).1,(A x d).2,N.lt O.ok d⟩⟩
     . rw [XH (by omega)]at C;have P:j-f.length=0:=(by have:=(List.getElem?_eq_some_iff.1 C).1;simp at this;omega);rw [P]at C;cases C;have:j=f.length:=(by omega);subst this;rw [a];exact⟨sw.mo S.fr (fun x d H=>(l x d).2 H),fun x d=>⟨(l x d).1,(l x d).2,sw.lt O.ok d⟩⟩
    refine⟨s.1,fun x d=>⟨(s.2 x d).1,fun E=>?_⟩⟩;rcases S.key_new x E with h1|h1
    . exact(s.2 x d).2.1 h1
    . have:=(s.2 x d).2.2;omega
 refine dh (it v _ hJ W _ ?_ ⟨[],_,y,rfl,Xj _,fun i w l=>by simp at l,rfl⟩) ?_
 . exact⟨y.ok,y.fr.n,fun b z _=>y.gr.get b z,fun b z h=>by have:=(y.key_own z).elim (fun h=>h) (fun h=>h.elim);omega,fun b z=>y.key_lt z⟩
 . rintro o rc h' ⟨rfl,u,F,rfl,f,p,T,a,_,c,rfl⟩;subst Y;refine⟨_,T.get m0,XJ,?_⟩;have Q: ∀i w,f[i]? =some w->aw (h'.put v .dead) 1 (encI .i64) w (R i)/\ ∀c,ar w c->m<=c/\c∉keys [(B,.dfr),(t,.row [p] 1)] [(p,1,f)]:=fun i w l=>(by obtain⟨N,A⟩:=c i w l;exact⟨N.mo ((Mo.refl (M:=(· =v)) T.ok).put (.inr rfl) .dead) (fun x d e=>(A x d).2 (by rw [e];exact m0)),fun x d=>⟨(A x d).1,fun E=>(A x d).2 (Xx _ E)⟩⟩);replace T:=T.dead;have S:=T;show Run _ _ _ _ _ _ _ _;simp only [BZ,S.ld (b:=t) (o:=0) m1 rfl,seval];refine df (gm [B] _ (L:=[(t,_)]) T.base fun h3 U=>⟨rfl,_,rfl,?_⟩);refine⟨(T.fr.trans U.fr (fun c hc=>(T.key_own hc).symm):Mo NoM h0 h3).gr,f,?_,a,fun x d=>?_,fun i w l=>⟨(Q i w l).1.mo U.fr (fun x d H=>((Q i w l).2 x d).2 H),fun x d=>((Q i w l).2 x d).1⟩⟩
   . exact(U.gown _ m0).1.sl (Bv f).symm uk (by decide)
   . exact Xb E (((T.gblk m0 d).1).elim (fun h=>h) (fun h=>h.elim))
theorem zV(a:OZ h0){g:FuncId}(b:IterP zM g post.toList h0 D n (PRow m R))(c:m<=h0.n)(d:n<1000):Ret zM 82 [.func (.func g) #[] post] h0 fun r h'=>Gr h0 h'/\gf h' m r n R:=by
 have S:=Si a;refine erA (n:=5) (rs:=[.tmp 2]) e82 ?_;simp only [BZ,seval];refine step_ret (C7 S.ok b c d) ?_;intro v h ⟨g,L⟩;replace S:=S.call g;simp only [BZ,aa,seval];exact⟨S.gr,L⟩
noncomputable def toR(a:Gra)(l:List Int)(i:Nat):List Int:=rowD (seen a.arcs Arc.t Arc.s) a.nodes (l.getD i 0).toNat
noncomputable def frR(a:Gra)(l:List Int)(i:Nat):List Int:=rowD (seen a.arcs Arc.s Arc.t) a.nodes (l.getD i 0).toNat
theorem tabOf_ok(z:OZ h0){k:Gra}(q:Good k){F:Value}{G:Nat}(t:aP h0 G pn k)(o:aw h0 1 (encI .i64) F l)(f:l.length<1000):Ret zM 33 [pn,F] h0 fun r h'=>Gr h0 h'/\((¬iZ k.nodes l/\r=.pointer none)\/(iZ k.nodes l/\TabAt h' h0.n r k.nodes l (toR k l) (frR k l))):=by
 have S:=Si z;obtain⟨L,rfl⟩: ∃b,pn=ptrTo b:=by obtain⟨b,_,_,_,_,_,e,_⟩:=t.ex;exact⟨b,e⟩
 refine erA (n:=28) (rs:=[.tmp 4]) e33 ?_;simp only [BZ,seval];refine ae (bC S.ok (t.gr S.gr)) ?_;intro h g;replace S:=S.call g;simp only [BZ,seval];refine ae (may_ok S.ok (o.gr S.gr) (by omega)) ?_;intro h g;replace S:=S.call g;by_cases j:iZ k.nodes l
 . have A:decide (iZ k.nodes l)=true:=decide_eq_true j;simp only [BZ,A,seval];refine ae (bC S.ok (t.gr S.gr)) ?_;intro h g;replace S:=S.call g;simp only [BZ,seval];have H:=S.fr.n;refine step_ret (jR S.ok (bR .i64) (o.gr S.gr) (by omega)) ?_;intro v h ⟨g,d,hM⟩;replace S:=S.call g;rename Value=>vM;obtain⟨M,N,O,rfl⟩:=d.form;simp only [BZ,seval];refine step_ret (rows_ok S.ok bA o.fl dI) ?_;intro v h ⟨g,b1,b2,b3,e,q1,q2,q3,y1,y2,y3⟩;replace S:=S.call g;replace d:=d.gr g;clear g;subst e;simp only [BZ,seval];have y:=rows_it z S.ok S.gr.keep S.fr.n t (o.gr S.gr) (fun i u=>⟨(j.2 i u).1,(j.2 i u).2.1⟩) f (runTo q) (m:=h0.n) S.fr.n y1 y2 y3;refine step_ret (zV S.ok y S.fr.n f) ?_;intro v h ⟨g,p⟩;replace S:=S.call g;replace d:=d.gr g;clear g;rename Value=>vT;obtain⟨P,Q,R,rfl⟩: ∃a n c,vT=.slice a n c:=(by obtain⟨_,s,_⟩:=p;exact s.form);clear y y1 y2 y3 q1 q2 q3;simp only [BZ,seval];refine step_ret (rows_ok S.ok bA o.fl dI) ?_;intro v h ⟨g,b1,b2,b3,e,q1,q2,q3,y1,y2,y3⟩;replace S:=S.call g;replace d:=d.gr g;replace p:=p.gr g;clear g;subst e;simp only [BZ,seval];have y:=rows_it z S.ok S.gr.keep S.fr.n t (o.gr S.gr) (fun i u=>⟨(j.2 i u).1,(j.2 i u).2.1⟩) f (runFrom q) (m:=h0.n) S.fr.n y1 y2 y3;refine step_ret (zV S.ok y S.fr.n f) ?_;intro v h ⟨g,L2⟩;replace S:=S.call g;replace d:=d.gr g;replace p:=p.gr g;clear g;rename Value=>vF;obtain⟨T,U,V,rfl⟩: ∃a n c,vF=.slice a n c:=(by obtain⟨_,s,_⟩:=L2;exact s.form);simp only [BZ,seval];have I:=S;replace S:=S.base;refine ab (aW (by intro x e;cases e)) S ?_;clear S;intro h b S J;simp only [ac]at S;simp only [BZ,aa,seval];have B:=S.fr;have w:=d.mo B (fun c _ j=>by cases j);have C:=p.mo B (fun c j=>by cases j);have D:=L2.mo B (fun c j=>by cases j);have E:=S.row (b:=b) m0;replace S:=I.rebase S;exact⟨S.gr,.inr ⟨j,⟨b,_,_,_,rfl,E,w,C,D,(S.own _ m0).1.elim (fun h=>h) (fun h=>h.elim),fun c K=>Xb H (hM c K)⟩⟩⟩
 . have A:decide (iZ k.nodes l)=false:=decide_eq_false j;simp only [BZ,aa,A,seval];exact⟨S.gr,.inl j⟩
theorem lW(a:OZ h0)(t:TabAt h0 m p N l R Q):aQ zM 40 [p] h0 (.int .i64 N):=by have S:=Si a;obtain⟨b,e,f,g,rfl,c,_⟩:=t.ex;have d:=c.load1 (o:=0) rfl;refine erA (n:=9) (rs:=[.tmp 2]) e40 ?_;simp only [BZ,aa,d,seval];exact S.gr
theorem jP(d:OZ h0)(t:TabAt h0 m p N l R Q)(a:l.length<1000):Ret zM 41 [p] h0 fun r h'=>Gr h0 h'/\aw h' 1 (encI .i64) r l/\ ∀c,ar r c->h0.n<=c:=by have S:=Si d;obtain⟨b,j,k,q,rfl,e,f,_⟩:=t.ex;have i:=e.load1 (o:=1) rfl;refine erA (n:=10) (rs:=[.tmp 2]) e41 ?_;simp only [BZ,i,seval];refine step_ret (jR S.ok (bR .i64) f (by omega)) ?_;intro v h ⟨g,sl,hc⟩;replace S:=S.call g;simp only [BZ,aa,seval];exact⟨S.gr,sl,hc⟩
def jZ(N n:Nat)(R:Nat->List Int)(i v:Int):Int:=if 0<=i/\i<n/\0<=v/\v<N then(R i.toNat).getD v.toNat 0 else 72057594037927936
theorem tos_ok(a:OZ h0)(t:TabAt h0 m p N l R Q):Ret zM 245 [p] h0 fun r h'=>Gr h0 h'/\gf h' m r l.length R:=by have S:=Si a;obtain⟨b,e,f,g,rfl,c,_,L,_⟩:=t.ex;have d:=c.load1 (o:=2) rfl;refine erA (n:=7) (rs:=[.tmp 2]) e245 ?_;simp only [BZ,aa,d,seval];exact⟨S.gr,L⟩
theorem froms_ok(a:OZ h0)(t:TabAt h0 m p N l R Q):Ret zM 246 [p] h0 fun r h'=>Gr h0 h'/\gf h' m r l.length Q:=by have S:=Si a;obtain⟨b,e,f,g,rfl,c,_,_,L,_⟩:=t.ex;have d:=c.load1 (o:=3) rfl;refine erA (n:=7) (rs:=[.tmp 2]) e246 ?_;simp only [BZ,aa,d,seval];exact⟨S.gr,L⟩
theorem Ck(y:OZ h0){W:Nat->List Int}(t:TabAt h0 m p N l R Q){g:FuncId}(z: ∀h,Gr h0 h->Ret zM g [p] h fun r h'=>Gr h h'/\gf h' m r l.length W)(A: ∀i,i<l.length->(W i).length=N){i v:Int}:aQ zM 244 [p,.func (.func g) #[p] #[],.int .i64 i,.int .i64 v] h0 (.int .i64 (jZ N l.length W i v)):=by
 have S:=Si y;obtain⟨b,H,I,J,rfl,s,e,_⟩:=t.ex;have u:=s.load1 (o:=0) rfl;have f:=s.load1 (o:=1) rfl;unfold jZ;refine erA (n:=44) (rs:=[.tmp 8]) e244 ?_;by_cases a:i<0
 . rw [if_neg (by omega)];simp only [BZ,aa,a,seval];exact S.gr
 . by_cases j:(l.length:Int)<=i
   . rw [if_neg (by omega)];simp only [BZ,aa,f,a,j,e.lenq,seval];exact S.gr
   . by_cases q:v<0
     . rw [if_neg (by omega)];simp only [BZ,aa,f,a,j,q,e.lenq,seval];exact S.gr
     . by_cases x:(N:Int)<=v
       . rw [if_neg (by omega)];simp only [BZ,aa,u,f,a,j,q,x,e.lenq,seval];exact S.gr
       . rw [if_pos (by omega)];obtain⟨d,rfl⟩:=XE (show 0<=i by omega);obtain⟨k,rfl⟩:=XE (show 0<=v by omega);simp only [BZ,u,f,a,j,q,x,e.lenq,seval];refine step_ret (z _ S.gr) ?_;intro v h ⟨g,L⟩;replace S:=S.call g;obtain⟨w,⟨c,o,B,C⟩,sw,_⟩:=L.row (i:=d) (by omega);have D:=A d (by omega);obtain⟨K,M,E,F⟩:=sw.ix (kd:=.i64) (bR .i64) (i:=k) (by omega);have G:(W d).getD k 0=(W d)[k]:=(by simp [Xa,show k<(W d).length by omega]);simp only [BZ,aa,B,C,E,F,encI,Xu,G,seval];exact S.gr
theorem B6(a:OZ h0)(t:TabAt h0 m p N l R Q)(b: ∀i,i<l.length->(R i).length=N){i v:Int}:aQ zM 191 [p,.int .i64 i,.int .i64 v] h0 (.int .i64 (jZ N l.length R i v)):=by have S:=Si a;refine erA (n:=13) (rs:=[.tmp 6]) e191 ?_;simp only [BZ,seval];refine ae (Ck S.ok t (fun h g=>tos_ok g.ok (t.gr g)) b) ?_;intro h g;replace S:=S.call g;simp only [BZ,aa,seval];exact S.gr
theorem yM(a:OZ h0)(t:TabAt h0 m p N l R Q)(b: ∀i,i<l.length->(Q i).length=N){i v:Int}:aQ zM 193 [p,.int .i64 i,.int .i64 v] h0 (.int .i64 (jZ N l.length Q i v)):=by have S:=Si a;refine erA (n:=13) (rs:=[.tmp 6]) e193 ?_;simp only [BZ,seval];refine ae (Ck S.ok t (fun h g=>froms_ok g.ok (t.gr g)) b) ?_;intro h g;replace S:=S.call g;simp only [BZ,aa,seval];exact S.gr
def lowD(v t:Int):Int:=if wy t<72057594037927936 then(if wy v<72057594037927936 then wy (wy v-wy t)else 72057594037927936)else 0
theorem low_ok(i:OZ h0){v:Int}:aQ zM 192 [.int .i64 v,.int .i64 t] h0 (.int .i64 (lowD v t)):=by
 have S:=Si i;have a:=uy v;have b:=uy t;have c:wy (wy v)=wy v:=wy_id a.1 a.2;have d:wy (wy t)=wy t:=wy_id b.1 b.2;have w:am .i64 (wy v-wy t)=wy v-wy t:=by rw [wrap64]<;>omega
 refine erA (n:=21) (rs:=[.tmp 4]) e192 ?_;simp only [BZ,seval];refine ae (nJ S.ok) ?_;intro h g;replace S:=S.call g;simp only [BZ,seval];refine ae (nJ S.ok) ?_;intro h g;replace S:=S.call g;simp only [BZ,seval];refine ae (oG S.ok) ?_;intro h g;replace S:=S.call g;unfold lowD;by_cases e:wy t<72057594037927936
 . simp only [BZ,d,e,seval];refine ae (oG S.ok) ?_;intro h g;replace S:=S.call g;by_cases f:wy v<72057594037927936
   . simp only [BZ,c,f,w,seval];refine ae (nJ S.ok) ?_;intro h g;replace S:=S.call g;simp only [BZ,aa,seval];exact S.gr
   . simp only [BZ,aa,c,f,seval];exact S.gr
 . simp only [BZ,aa,d,e,seval];exact S.gr
theorem lift_ok(a:OZ h0){v:Int}:aQ zM 194 [.int .i64 v,.int .i64 t] h0 (.int .i64 (lowD t v)):=by have S:=Si a;refine erA (n:=8) (rs:=[.tmp 4]) e194 ?_;simp only [BZ,seval];refine ae (low_ok S.ok) ?_;intro h g;replace S:=S.call g;simp only [BZ,aa,seval];exact S.gr
theorem iN(a:OZ h0)(t:TabAt h0 m p N l R Q){v:Int}:aQ zM 118 [p,.int .i64 v] h0 (.bool (decide (0<=v/\v<N))):=by
 have S:=Si a;refine erA (n:=13) (rs:=[.tmp 4]) e118 ?_;by_cases c:0<=v
 . simp only [BZ,c,seval];refine ae (lW S.ok (t.gr S.gr)) ?_;intro h g;replace S:=S.call g;simp only [BZ,aa,seval];exact S.gr
 . simp only [BZ,aa,c,seval];exact⟨by simp,S.gr⟩
theorem wayTo_ok(b:OZ h0)(t:TabAt h0 m p N l R Q)(a: ∀i,i<l.length->(R i).length=N){i v:Int}:aQ zM 190 [.func (.func 191) #[p] #[],.func (.func 192) #[] #[],.int .i64 i,.int .i64 v,.int .i64 w] h0 (.int .i64 (lowD (jZ N l.length R i v) (jZ N l.length R i w))):=by
 have S:=Si b;refine erA (n:=21) (rs:=[.tmp 10]) e190 ?_;simp only [BZ,seval];refine ae (B6 S.ok (t.gr S.gr) a) ?_;intro h g;replace S:=S.call g;simp only [BZ,seval];refine ae (B6 S.ok (t.gr S.gr) a) ?_;intro h g;replace S:=S.call g;simp only [BZ,seval];refine ae (low_ok S.ok) ?_;intro h g;replace S:=S.call g;simp only [BZ,aa,seval];exact S.gr
theorem wayFr_ok(b:OZ h0)(t:TabAt h0 m p N l R Q)(a: ∀i,i<l.length->(Q i).length=N){i v:Int}:aQ zM 190 [.func (.func 193) #[p] #[],.func (.func 194) #[] #[],.int .i64 i,.int .i64 v,.int .i64 w] h0 (.int .i64 (lowD (jZ N l.length Q i w) (jZ N l.length Q i v))):=by
 have S:=Si b;refine erA (n:=21) (rs:=[.tmp 10]) e190 ?_;simp only [BZ,seval];refine ae (yM S.ok (t.gr S.gr) a) ?_;intro h g;replace S:=S.call g;simp only [BZ,seval];refine ae (yM S.ok (t.gr S.gr) a) ?_;intro h g;replace S:=S.call g;simp only [BZ,seval];refine ae (lift_ok S.ok) ?_;intro h g;replace S:=S.call g;simp only [BZ,aa,seval];exact S.gr
def qz(N n:Nat)(R Q:Nat->List Int)(i v w:Int):Int:=if(0<=v/\v<N)/\(0<=w/\w<N)/\0<=i/\i<n then max (lowD (jZ N n R i v) (jZ N n R i w)) (lowD (jZ N n Q i w) (jZ N n Q i v))else 0
theorem Ax(f:OZ h0)(t:TabAt h0 m p N l R Q)(j: ∀i,i<l.length->(R i).length=N)(k: ∀i,i<l.length->(Q i).length=N)(d:l.length<1000){i v:Int}:aQ zM 112 [p,.int .i64 i,.int .i64 v,.int .i64 w] h0 (.int .i64 (qz N l.length R Q i v w)):=by
 have S:=Si f;by_cases a:0<=v/\v<N
 . by_cases b:0<=w/\w<N
   . by_cases c:i<0
     . rw [show qz N l.length R Q i v w=0 from if_neg (by omega)];refine erA (n:=43) (rs:=[.tmp 8]) Ys ?_;simp only [BZ,seval];refine ae (iN S.ok (t.gr S.gr)) ?_;intro h g;replace S:=S.call g;simp only [BZ,a,seval];refine ae (iN S.ok (t.gr S.gr)) ?_;intro h g;replace S:=S.call g;simp only [BZ,aa,b,c,seval];exact S.gr
     . by_cases e:(l.length:Int)<=i
       . rw [show qz N l.length R Q i v w=0 from if_neg (by omega)];refine erA (n:=43) (rs:=[.tmp 8]) Ys ?_;simp only [BZ,seval];refine ae (iN S.ok (t.gr S.gr)) ?_;intro h g;replace S:=S.call g;simp only [BZ,a,seval];refine ae (iN S.ok (t.gr S.gr)) ?_;intro h g;replace S:=S.call g;simp only [BZ,b,c,seval];refine step_ret (jP S.ok (t.gr S.gr) d) ?_;intro v h ⟨g,slM,_⟩;replace S:=S.call g;simp only [BZ,aa,e,slM.lenq,seval];exact S.gr
       . rw [show qz N l.length R Q i v w=max (lowD (jZ N l.length R i v) (jZ N l.length R i w)) (lowD (jZ N l.length Q i w) (jZ N l.length Q i v))from if_pos ⟨a,b,by omega,by omega⟩];refine erA (n:=43) (rs:=[.tmp 8]) Ys ?_;simp only [BZ,seval];refine ae (iN S.ok (t.gr S.gr)) ?_;intro h g;replace S:=S.call g;simp only [BZ,a,seval];refine ae (iN S.ok (t.gr S.gr)) ?_;intro h g;replace S:=S.call g;simp only [BZ,b,c,seval];refine step_ret (jP S.ok (t.gr S.gr) d) ?_;intro v h ⟨g,slM,_⟩;replace S:=S.call g;simp only [BZ,e,slM.lenq,seval];refine ae (wayTo_ok S.ok (t.gr S.gr) j) ?_;intro h g;replace S:=S.call g;simp only [BZ,seval];refine ae (wayFr_ok S.ok (t.gr S.gr) k) ?_;intro h g;replace S:=S.call g;simp only [BZ,aa,seval];exact S.gr
   . rw [show qz N l.length R Q i v w=0 from if_neg (fun h=>b h.2.1)];refine erA (n:=43) (rs:=[.tmp 8]) Ys ?_;simp only [BZ,seval];refine ae (iN S.ok (t.gr S.gr)) ?_;intro h g;replace S:=S.call g;simp only [BZ,a,seval];refine ae (iN S.ok (t.gr S.gr)) ?_;intro h g;replace S:=S.call g;simp only [BZ,aa,b,seval];exact S.gr
 . rw [show qz N l.length R Q i v w=0 from if_neg (fun h=>a h.1)];refine erA (n:=43) (rs:=[.tmp 8]) Ys ?_;simp only [BZ,seval];refine ae (iN S.ok (t.gr S.gr)) ?_;intro h g;replace S:=S.call g;simp only [BZ,aa,a,seval];exact S.gr
def iK(N n:Nat)(R Q:Nat->List Int)(v w:Int)(l:List Int):Int:=l.foldl (fun b i=>max b (qz N n R Q i v w)) 0
theorem yE(q:OZ h0)(t:TabAt h0 m p N l R Q)(r: ∀i,i<l.length->(R i).length=N)(s: ∀i,i<l.length->(Q i).length=N)(u:l.length<1000){e:Value}{a:List Int}(j:aw h0 1 (encI .i64) e a)(x:a.length<1000){v:Int}:aQ zM 121 [p,e,.int .i64 v,.int .i64 w] h0 (.int .i64 (iK N l.length R Q v w a)):=by
 have S:=Si q;refine erA (n:=26) (rs:=[.tmp 8]) e121 ?_;simp only [BZ,j.lenq,seval];refine aX (fun(k:Nat) b h=>k<=a.length/\Gr h0 h/\b 0=p/\b 2=.int .i64 v/\b 3=.int .i64 w/\b 8=.int .i64 (iK N l.length R Q v w (a.take k))/\b 11=e/\b 12=.int .i64 a.length/\b 13=.int .i64 k) (fun k=>a.length-k) ?_ 0 _ _ ?_
 . clear S;intro k y b h ⟨hk,g0,r0,r2,r3,r8,r11,r12,r13⟩;have z:am .i64 ((k:Int)+1)=((k+1:Nat):Int):=(by rw [wrap64]<;>omega);by_cases hlt:k<a.length
   . obtain⟨c,o,d,f⟩:=(j.gr g0).ix (kd:=.i64) (bR .i64) hlt;simp only [BZ,r0,r2,r3,r8,r11,r12,r13,aE,hlt,d,f,encI,seval];refine ae (Ax g0.ok (t.gr g0) r s u) ?_;intro h g;simp only [BZ,r13,z,seval];refine y (k+1) _ _ (by omega) ⟨by omega,g0.trans g,by simp [aB,r0],by simp [aB,r2],by simp [aB,r3],?_,by simp [aB,r11,r12]⟩;rw [Xg hlt];unfold iK;rw [List.foldl_append];simp [aB]
   . simp only [BZ,aa,r8,r12,r13,aE,hlt,seval];rw [Xw (by omega)];exact⟨rfl,g0⟩
 . exact⟨Xj _,S.gr,by simp [aB,cK,dE,iK]⟩
def keyB(N n:Nat)(R Q:Nat->List Int)(s w:Int)(i:Nat):Int:=qz N n R Q i s w
def iw(N n:Nat)(R Q:Nat->List Int)(s w a:Int):List Nat:=(kP (keyB N n R Q s w) (n-1) (zO n)).take (min (max a 1).toNat n)
theorem Fu(t:TabAt hq m p N l R Q)(f: ∀i,i<l.length->(R i).length=N)(k: ∀i,i<l.length->(Q i).length=N)(o:l.length<1000){s:Int}{b6:Nat}(c:hq.load b4 0 1=some [p])(d:hq.load b5 0 1=some [.int .i64 s])(e:hq.load b6 0 1=some [.int .i64 w]):CmpF zM hq 110 [ptrTo b4,ptrTo b5,ptrTo b6] l.length (keyB N l.length R Q s w):=by
 intro h g i j C D;have E:Fl p:=by obtain⟨b,_,_,_,rfl,_⟩:=t.ex;exact bA
 have S:=Si g.ok;have r:=aV g.ok (g.load c);have u:=aV g.ok (g.load d);have v:=aV g.ok (g.load e);refine erA (n:=19) (rs:=[.tmp 7]) e110 ?_;simp only [BZ];refine ao (av rfl) (q:=0) (ps:=[(4,8),(4,7),(4,5)]) (by kernel_rfl) ?_;simp only [BZ,cls,g.load c,g.load d,g.load e,seval];refine bj (Ax S.ok ((t.gr g).gr S.gr) f k o) ?_;intro F a;have x:=ag a r;have y:=ag a u;have z:=ag a v;replace S:=S.call a;simp only [BZ,cls,a.load (g.load c),a.load (g.load d),a.load (g.load e),seval];refine bj (Ax S.ok ((t.gr g).gr S.gr) f k o) ?_;intro G A;replace S:=S.call A;simp only [BZ,cls,seval];refine bj (CE S.ok) ?_;intro H B;replace S:=S.call B;simp only [BZ,cls,aa,seval];refine⟨by simp only [aI,aO,aF,aK,aH,ne_eq,not_false_eq_true,aU,aY,aN,aJ,bw,bN,aD,Xf,ah,cL,aq x,aq y,aq z,seval],?_⟩;exact⟨rfl,S.gr⟩
theorem insNil_ok(a:OZ h0):aQ zM 269 [.slice none 0 0,.int .i64 0,.int .i64 0,v] h0 (.tuple #[]):=by
 have S:=Si a;have b:am .i64 1=1:=rfl;have c: ¬(1:Int)<0:=by decide
 refine erA (n:=53) (rs:=[]) e269 ?_;simp only [BZ,b,seval];rw [cE];simp only [BZ,aa,c,seval];exact S.gr
theorem D7(c:OZ h0){g:FuncId}:aQ zM 109 [.slice none 0 0,.int .i64 (m:Nat),.func (.func g) #[] post] h0 (.slice none 0 0):=by
 have S:=Si c;have d:aQ zM 81 [.slice none 0 0] h0 (.slice none 0 0):=by refine erA (n:=8) (rs:=[.tmp 2]) e81 ?_;simp only [BZ,aa,seval];exact S.gr
 have e:min (m:Int) 0=0:=by omega
 have f: ¬(20:Int)<=0:=by decide
 have i: ¬(20:Int)<0:=by decide
 have j: ∀{h:Hp},OZ h->aQ zM 188 [.slice none 0 0,.func (.func g) #[] post] h (.tuple #[]):=fun {h} a=>by
  have S:=Si a;have k:aQ zM 243 [.slice none 0 0,.int .i64 0,.func (.func g) #[] post] h (.tuple #[]):=by refine erA (n:=63) (rs:=[]) e243 ?_;simp only [BZ,seval];rw [cE];simp only [BZ,f,seval];refine ae (insNil_ok S.ok) ?_;intro h g;replace S:=S.call g;simp only [BZ];rw [cE];simp only [BZ,aa,i,seval];exact S.gr
  refine erA (n:=9) (rs:=[]) e188 ?_;simp only [BZ,Xs,seval];refine ae k ?_;intro p l;replace S:=S.call l;simp only [BZ,aa];exact S.gr
 have o:iq zM 41 (.slice none 0 0) none (some (.int .i64 0)) none=some (.slice none 0 0):=by simp only [iq,t41.1,Tryz.t3.2.2.1,ie,gY];rfl
 refine erA (n:=18) (rs:=[.tmp 6]) e109 ?_;simp only [BZ,seval];refine ae d ?_;intro h b;replace S:=S.call b;simp only [BZ,seval];refine ae (j S.ok) ?_;intro h b;replace S:=S.call b;simp only [BZ,aa,Xs,Option.map_some,Option.map_none,e,o,seval];exact S.gr
theorem ua(J:OZ h0)(t:TabAt h0 m p N l R Q)(K: ∀i,i<l.length->(R i).length=N)(L: ∀i,i<l.length->(Q i).length=N)(Y:l.length<=16){s a:Int}:Ret zM 44 [p,.int .i64 s,.int .i64 w,.int .i64 a] h0 fun r h'=>Gr h0 h'/\aw h' 1 bM r (iw N l.length R Q s w a)/\ ∀c,ar r c->h0.n<=c:=by
 have S:=Si J;have Z:Fl p:=by obtain⟨b,_,_,_,rfl,_⟩:=t.ex;exact bA
 obtain⟨mk,f⟩: ∃k:Nat,max a 1=(k:Int):=⟨(max a 1).toNat,by omega⟩;have q:(max a 1).toNat=mk:=by omega
 refine erA (n:=27) (rs:=[.tmp 8]) e44 ?_;simp only [BZ,seval];refine ab (bz (by assumption)) S ?_;clear S;intro h b4 S D;simp only [BZ,if_false,seval];refine ab (bz (by exact aM)) S ?_;clear S;intro h b5 S E;simp only [BZ,if_false,seval];refine ab (bz (by exact aM)) S ?_;clear S;intro h b6 S F;simp only [BZ,S.ld (b:=b4) (o:=0) m2 rfl,seval];have k0:=S.fr.n;refine step_ret (jP S.ok (t.gr S.gr) (by omega)) ?_;rintro r h ⟨g,M,z⟩;replace S:=S.call g;simp only [BZ,M.lenq,seval];replace S:=S.nilG (k:=1);refine aX (fun(i:Nat) d h=>i<=l.length/\ ∃u,St NoM h0 h [(b6,.row [.int .i64 w] 1),(b5,.row [.int .i64 s] 1),(b4,.row [p] 1)] [(u,1,fe (zO i))]/\(i=0->u=.slice none 0 0)/\d 3=.int .i64 a/\d 4=ptrTo b4/\d 5=ptrTo b5/\d 6=ptrTo b6/\d 9=u/\d 13=.int .i64 (l.length:Nat)/\d 14=.int .i64 i) (fun i=>l.length-i) ?_ 0 _ _ ?_
 . clear S;intro i O d h ⟨hi,u,S,hv,r3,r4,r5,r6,r9,r13,r14⟩;have P:am .i64 ((i:Int)+1)=((i+1:Nat):Int):=(by rw [wrap64]<;>omega);by_cases hlt:i<l.length
   . simp only [BZ,r9,r13,r14,aE,hlt,seval];refine ab (bZ (by exact t41.1) (by exact XT) (by decide) (by rfl)) S ?_;clear S;intro h G S H;simp only [LC,bJ,cd,ac,Xp,Xo,Xq,Xv,seval]at S;simp only [BZ,seval];have v:aR h 1 (.slice (some ⟨G,0,none⟩) 1 1)=some (1,[.int .i64 (i:Nat)]):=(by simp only [aR];rw [S.lds (b:=G) (o:=0) (n:=1*1) m0 (lbt rfl)];rfl);replace S:=S.drop1;refine dT (S.grow (j:=0) (m:=1) (new:=[.int .i64 (i:Nat)]) rfl t41.1 XT (by decide) t41.2.2.2.2.2 v rfl (by decide) rfl (by rw [mN];simp;omega)) ?_;clear S v;rintro h A S;simp only [LC]at S;have e:fe (zO i)++[.int .i64 (i:Nat)]=fe (zO (i+1)):=(by unfold fe;rw [Yt,XY];rfl);rw [e]at S;simp only [BZ,r14,P,seval];exact O (i+1) _ _ (by omega) ⟨by omega,A,S,fun h=>(by omega),by simp [aB,r3,r4,ah,r5,r6,r13]⟩
   . have T:i=l.length:=(by omega);subst T;simp only [BZ,r3,r4,r5,r6,r9,r13,r14,aE,hlt,seval];by_cases B:l.length=0
     . have U:=hv B;subst U;have I:=S.fr.n;rw [f];refine ae (D7 S.ok) ?_;intro h' g;replace S:=S.call g;simp only [BZ,aa,seval];refine⟨S.gr,.inl ⟨rfl,?_⟩,fun c z=>z.elim⟩;unfold iw;rw [B];simp
     . have V:aw h 1 bM u (zO l.length):=(S.gown _ m0).1.sl (tq _).symm dr (by decide);have I:=S.fr.n;have W:=Fu (t.gr S.gr) K L (by omega) (s:=s) (w:=w) (b4:=b4) (b5:=b5) (b6:=b6) (S.ld m2 rfl) (S.ld m1 rfl) (S.ld m0 rfl);rw [f];refine step_ret (first_ok (N:=l.length) (m:=mk) (Gr.refl S.ok) V (by intro e;have:=congrArg List.length e;rw [XA]at this;exact B this) (by simp;omega) (fun x X=>List.mem_range.1 X) W (by omega)) ?_;rintro r h' ⟨g,y,C⟩;replace S:=S.call g;simp only [BZ,aa,seval];rw [XA]at y;exact⟨S.gr,by unfold iw;rw [q];exact y,fun c z=>Xb I (C c z)⟩
 . exact⟨Xj _,_,S,fun _=>rfl,by simp [aB,cL,ah]⟩
theorem sJ{x:Option Tch}:iS none x=true:=by cases x<;>rfl
structure TabO(E:Env)(h0:Hp)(pt:Value)(nd mk:Nat)(gM gN:FuncId):Prop where
 fl:Fl pt
 marks: ∀h,Gr h0 h->Ret E gM [pt] h fun r h'=>Gr h h'/\ ∃l:List Int,aw h' 1 (encI .i64) r l/\l.length=mk
 nodes: ∀h,Gr h0 h->aQ E gN [pt] h (.int .i64 (nd:Nat))
def mQ(N a mk:Nat)(f t:Int):Int:=if¬(0<=f/\f<N)then 17 else if¬(0<=t/\t<N)then 18 else if 0<mk/\a=N then 0 else 19
theorem gf.keep{h h':Hp}{m n:Nat}{v:Value}{R:Nat->List Int}(e:OZ h)(g:eZ h h')(r:gf h m v n R):gf h' m v n R:=by obtain⟨j,a,b,c,d⟩:=r;exact⟨j,a.keep e g,b,c,fun i w f=>⟨(d i w f).1.keep e g,(d i w f).2⟩⟩
theorem TabAt.keep{h h':Hp}{m N:Nat}{p:Value}{l:List Int}{R Q:Nat->List Int}(a:OZ h)(g:eZ h h')(t:TabAt h m p N l R Q):TabAt h' m p N l R Q:=by obtain⟨b,c,d,f,e,i,j,k,n,o,q⟩:=t.ex;exact⟨b,c,d,f,e,g.row a i,j.keep a g,k.keep a g,n.keep a g,o,q⟩
theorem C6(e:OZ h0){c d:Value}(f:Fl c)(g:Fl d):Ret zM 119 [c,d] h0 fun v h'=>Gr h0 h'/\ ∃b1 b2,v=.func (.func 203) #[] #[ptrTo b1,ptrTo b2]/\h0.n<=b1/\h0.n<=b2/\h'.load b1 0 1=some [c]/\h'.load b2 0 1=some [d]:=by have S:=Si e;refine erA (n:=6) (rs:=[.tmp 4]) e119 ?_;simp only [BZ,seval];refine ab (bz (by assumption)) S ?_;clear S;intro h b1 S a;simp only [BZ,if_false,seval];refine ab (bz (by assumption)) S ?_;clear S;intro h b2 S b;simp only [BZ,aa,seval];exact⟨S.gr,b1,b2,rfl,a,b,S.ld m1 rfl,S.ld m0 rfl⟩
def TellF(E:Env)(hq:Hp)(g:FuncId)(post:List Value)(N:Nat)(f:Nat->Int):Prop:= ∀h,OZ h->eZ hq h-> ∀v,v<N->aQ E g ([.int .i64 (v:Nat)]++post) h (.int .i64 (f v))
theorem CJ(k:OZ hq)(e:OZ h0)(u:eZ hq h0)(x:hq.n<=h0.n){o:Value}(t:TabAt hq m o N l R Q)(O:N<=1000){f:Nat->Int}(hf:TellF zM hq g post.toList N f)(C:h0.load b1 0 1=some [o])(D:h0.load b2 0 1=some [.func (.func g) #[] post]):lz zM 203 [] [ptrTo b1,ptrTo b2] h0 (fun c=>c=b1\/c=b2\/c<hq.n) ((zO N).map fun(v:Nat)=>[.int .i64 (f v)]):=by
 intro E J Z G Y h F s j;have y:=s.load e C (.inl rfl);have P:Fl o:=by obtain⟨b,_,_,_,rfl,_⟩:=t.ex;exact bA
 refine enA (n:=17) (rs:=[]) e203 ?_;simp only [BZ,y,seval];refine ae (lW s.ok (t.keep k (s.keep u x (fun c p=>.inr (.inr p))))) ?_;intro S q;have z:=s.gr q;have A:=Y.gr _ _ _ _ j q;simp only [BZ];refine aX (fun(i:Nat) d h=>i<=N/\ ∃F,ItS h0 (fun c=>c=b1\/c=b2\/c<hq.n) h F/\J i h F/\d 0=.func (.yield E) #[] #[]/\d 1=ptrTo b1/\d 2=ptrTo b2/\d 6=.int .i64 (N:Nat)/\d 7=.int .i64 i) (fun i=>N-i) ?_ 0 _ _ ?_
 . clear y s j z A F q h;intro i H d h ⟨hi,F,s,j,r0,r1,r2,r6,r7⟩;have w:am .i64 ((i:Int)+1)=((i+1:Nat):Int):=(by rw [wrap64]<;>omega);by_cases hlt:i<N
   . have I:=s.load e D (.inr (.inl rfl));have K:((zO N).map fun(v:Nat)=>[Value.int .i64 (f v)])[i]? =some [.int .i64 (f i)]:=(by rw [Xm,List.getElem?_range hlt];rfl);simp only [BZ,r0,r2,r6,r7,aE,hlt,I,seval];refine ae (hf _ s.ok (s.keep u x (fun c p=>.inr (.inr p))) i hlt) ?_;intro T B;simp only [BZ,seval];refine c7 Y (s.gr B) (Y.gr _ _ _ _ j B) (i:=i) K ?_ ?_ ?_
     . intro r L a M _ _;simp only [BZ,r7,w,seval];exact H (i+1) _ _ (by omega) ⟨by omega,L,M,a,by simp [aB,r0,r1,ah,r2,r6]⟩
     . intro r a _;simp only [BZ,seval];exact gJ rfl ⟨rfl,.inr (.inl ⟨_,rfl,a⟩)⟩
     . intro v r a;exact absurd a (G v r)
   . simp only [BZ,r6,r7,aE,hlt,seval];have:i=N:=(by omega);subst this;exact bU (cy ⟨rfl,_,rfl,rfl,.inl ⟨_,F,rfl,by simpa using j⟩⟩)
 . exact⟨Xj _,F,z,A,by simp [aB,cL,ah]⟩
theorem pi1_ok(a:OZ hq)(t:TabAt hq m p N l R Q)(j: ∀i,i<l.length->(R i).length=N)(o: ∀i,i<l.length->(Q i).length=N)(q:l.length<1000){e:Value}{c:List Int}(f:aw hq 1 (encI .i64) e c)(d:c.length<1000){g:Nat}(r:hq.load g 0 1=some [p])(s:hq.load b4 0 1=some [e])(u:hq.load b5 0 1=some [.int .i64 w]):TellF zM hq 120 [ptrTo g,ptrTo b4,ptrTo b5] N (fun v=>iK N l.length R Q v w c):=by
 intro h x k v z;have A:Fl p:=by obtain⟨b,_,_,_,rfl,_⟩:=t.ex;exact bA
 have B:=f.fl;have S:=Si x;refine erA (n:=11) (rs:=[.tmp 5]) e120 ?_;simp only [BZ,k.load a r,k.load a s,k.load a u,seval];refine ae (yE S.ok (t.keep a k) j o q (f.keep a k) d) ?_;intro C y;replace S:=S.call y;simp only [BZ,aa,seval];exact S.gr
theorem bPi_ok(ok:OZ h0)(t:TabAt h0 m p N l R Q)(Y: ∀i,i<l.length->(R i).length=N)(hQ: ∀i,i<l.length->(Q i).length=N)(hl:l.length<1000)(hN:N<=1000){f:List Int}(ha:aw h0 1 (encI .i64) Z f)(H:f.length<1000){w:Nat}(hw:w<N):Ret zM 46 [p,Z,.int .i64 (w:Nat)] h0 fun r h'=>Gr h0 h'/\aw h' 1 (encI .i64) r ((zO N).map fun(v:Nat)=>iK N l.length R Q v w f)/\ ∀c,ar r c->h0.n<=c:=by
 have fp:Fl p:=by obtain⟨b,_,_,_,rfl,_⟩:=t.ex;exact bA
 have fa:=ha.fl;have S:=Si ok;have c0:0<=(w:Int)/\(w:Int)<(N:Int):=by omega
 refine erA (n:=21) (rs:=[.cell 6 23]) e46 ?_;simp only [BZ,seval];refine ab (bz (by assumption)) S ?_;clear S;intro h b3 S ad;simp only [BZ,if_false,seval];refine ab (bz (by assumption)) S ?_;clear S;intro h b4 S af;simp only [BZ,if_false,seval];refine ab (bz (by exact aM)) S ?_;clear S;intro h b5 S ai;have z:=S.gr;have I:=S.ld (b:=b3) (o:=0) m2 rfl;have l4:=S.ld (b:=b4) (o:=0) m1 rfl;have l5:=S.ld (b:=b5) (o:=0) m0 rfl;have q:=S.ok;clear S;rename Hp=>hq;have S:=Si q;simp only [BZ];refine ab au S ?_;clear S;intro h d S ak;simp only [BZ,S.old I (fun h=>h),S.old l5 (fun h=>h),seval];refine ae (iN S.ok ((t.gr z).gr S.gr)) ?_;intro h g;replace S:=S.call g;have dc:decide (0<=(w:Int)/\(w:Int)<(N:Int))=true:=decide_eq_true c0;simp only [BZ,dc,S.old I (fun h=>h),seval];have tf:=pi1_ok q (t.gr z) Y hQ hl (ha.gr z) H I l4 l5;have ax:=(S.row (b:=d) m0).lt S.ok;refine step_ret (C6 S.ok fp dI) ?_;rintro r h ⟨g,J,K,rfl,n1,n2,y1,y2⟩;replace S:=S.call g;have M:=CJ q S.ok S.gr.keep S.fr.n (t.gr z) hN tf y1 y2;have kn:=S.fr.n;have kG:=z.n;have z1:=aV S.ok y1;have z2:=aV S.ok y2;rename Hp=>hE;have S1:=S;have O:=S.ok;have l6:=(S.row (b:=d) m0).lt O;simp only [BZ];replace S:=S.base;replace S:=S.nilG (k:=1);generalize A:((zO N).map fun(v:Nat)=>iK N l.length R Q v w f)=xs;have ay:xs.length=N:=by rw [<-A];simp
 replace M:lz zM 203 [] [ptrTo J,ptrTo K] hE (fun c=>c=J\/c=K\/c<hq.n) (xs.map fun x=>[.int .i64 x]):=by rw [<-A,Ym];exact M
 refine gP S (g:=203) (a:=#[]) (b:=#[ptrTo J,ptrTo K]) (by simp [bw,aB,ah]) rfl rfl ?_;intro h2 G B s aL a0 g2;obtain⟨X,hX,s⟩: ∃X:fF,X=_/\St (· ∈[d]) hE h2 [(B,.loop X),(G,.dfr),(d,.row [.slice none 0 0] 1)] [(.slice none 0 0,1,[])]:=⟨_,rfl,s⟩;have hJ:Yld zM B (fun k h' F=> ∃(e:Value),St (· ∈[d]) hE h' [(B,.loop X),(G,.dfr),(d,.row [e] 1)] [(e,1,ints (xs.take k))]/\k<=xs.length/\F=keys [(B,.loop X),(G,.dfr),(d,.row [e] 1)] [(e,1,ints (xs.take k))]) (fun _ _=>False) (xs.map fun x=>[.int .i64 x]):=by
  refine⟨?_,?_,fun _ _ h=>h.elim,?_⟩
  . rintro i h F ⟨e,S,_,rfl⟩;exact⟨S.ok,fun b u=>S.key_lt u⟩
  . rintro i h F h' ⟨e,S,a,rfl⟩ gg;exact⟨e,S.call gg,a,rfl⟩
  . rintro i x Y F P ⟨e,S,a,rfl⟩;have C:i<xs.length:=(by have:=(List.getElem?_eq_some_iff.1 P).1;simpa using this);rw [Xm,Xd C]at P;cases P;have tk:ints (xs.take (i+1))=ints (xs.take i)++[.int .i64 xs[i]]:=(by rw [List.take_add_one,Xd C];exact iO _ _);have tl:(xs.take i).length<=i:=(by rw [XK];omega);subst hX;refine gK (S.get m0) (by rw [e46];rfl) rfl ?_;have S0:=S;replace S:=S.base;simp only [BZ,seval];refine fG S (i:=0) rfl rfl rfl rfl rfl ?_;clear S;intro h S;simp only [LC]at S;simp only [BZ,S.ld (b:=d) (o:=0) m2 rfl,seval];refine ab (bZ (by exact t23.1) (by exact Yh) (by decide) (by rfl)) S ?_;clear S;intro h bs S al;simp only [LC,bJ,cd,ac,Xp,Xo,Xq,Xv,seval]at S;simp only [BZ,seval];have D:aR h 1 (.slice (some ⟨bs,0,none⟩) 1 1)=some (1,[.int .i64 xs[i]]):=(by simp only [aR];rw [S.lds (b:=bs) (o:=0) (n:=1*1) m0 (lbt rfl)];rfl);replace S:=S.drop1;refine dT (S.grow (j:=0) (m:=1) (new:=[.int .i64 xs[i]]) rfl t23.1 Yh (by decide) t23.2.2.2.2.2 D rfl (by decide) rfl (by rw [cC];simp;omega)) ?_;clear S D;rintro h E S;simp only [LC]at S;have U:Fl E:=(S.gown _ m0).1.fl;simp only [BZ,seval];refine az (aA S (i:=2) rfl t23.2.2.1 U (Xe (lbt rfl)) ono) ?_;clear S;rintro h ⟨S,_⟩;simp only [LC]at S;simp only [BZ];refine dC S (i:=0) rfl ?_;clear S;intro h S;simp only [LC]at S;rw [<-tk]at S;exact .inl ⟨rfl,_,⟨E,S0.rebase S,by omega,rfl⟩,S.fr,fun c V=>(S.key_own V).symm⟩
 refine dh (M B _ _ (fun _ _ h=>h) hJ h2 _ ?_ ⟨_,s,Xj _,rfl⟩) fun o rc h' y=>iJ y ?_
 . refine⟨s.ok,s.fr.n,fun b u hd=>g2.get b u,fun b u h=>?_,fun b u=>s.key_lt u⟩;rcases s.key_own u with h1|h1
   . omega
   . have:=List.mem_singleton.1 h1;omega
 . rintro F ⟨e,T,b,rfl⟩;rw [Xn,XD]at T;subst hX;refine⟨_,T.get m0,XJ,?_⟩;replace T:=T.dead;have S:=T;show Run _ _ _ _ _ _ _ _;simp only [BZ,S.ld (b:=d) (o:=0) m1 rfl,seval];have U:Fl e:=(T.gown _ m0).1.fl;clear S;refine az (aA T (i:=1) rfl t23.2.2.1 U (Xe (lbt rfl)) ono) ?_;clear T;rintro h3 ⟨T,_⟩;simp only [XQ,X8]at T;simp only [BZ];refine df (gm [G] _ (L:=[(d,_)]) T.base fun h4 W=>?_);refine⟨rfl,(bD (by decide) (by simp only [aD,ah,seval];exact iA t23.2.1 (W.ld (b:=d) (o:=0) m0 rfl))).2 (cu.2 ⟨z.trans ((S1.rebase T).rebase W).gr,(W.gown _ m0).1.sl rfl (fun _=>rfl) (by decide),fun c V=>?_⟩)⟩;rcases(T.gblk m0 V).1 with h|h
   . omega
   . have:=List.mem_singleton.1 h;omega
def zS:SS:=⟨fun _=>none,fun _=>0,fun _=>[],[],[]⟩
def FdAt(h:Hp)(m:Nat)(r:Value)(b:Fd):Prop:= ∃d a,r=.agg ⟨[.int .i64 (b.dist:Nat),d,a]⟩/\ij h (d,1,b.arcs.flatMap bM)/\ij h (a,4,b.ev.flatMap iM)/\(∀c,ar d c->m<=c/\ ¬ar a c)/\ ∀c,ar a c->m<=c
theorem Da(A:List Arc)(al:Nat->Bool)(pi:Nat->Int)(v:Nat)(σ:SS):(pX A al pi v σ).ev.length<=σ.ev.length+A.length:=by
 have: ∀(l:List Nat) (σ:SS),(l.foldl (scan1 A al pi v) σ).ev.length<=σ.ev.length+l.length:=by
  intro l
  induction l with
  |nil=>intro σ;simp|cons a l b=>intro σ;have c:=b (scan1 A al pi v σ a);have d:=CB A al pi v σ a;simp only [Yu,Yo];omega
 have c:=this (outs A Arc.s A.length v) σ;have d:=jQ A Arc.s A.length v;unfold pX;omega
theorem srun_ok(ad:OZ hq)(gq:Gr hq h0){g:Gra}(w:Good g)(hn:aP hq nb (ptrTo z) g){Z:List Nat}{br:Nat}{A C:FuncId}(R0:iL h0 Z br (ptrTo z) (.func (.func A) #[] #[ptrTo u]) (.func (.func C) #[] #[ptrTo u]) g.nodes zS)(af: ∀c∈Z,hq.n<=c)(a5:AlF zM hq A u g.arcs.length al)(ai:PiF zM hq C u g.nodes pi)(hp: ∀v,v<g.nodes-> -(FAR:Int)<=pi v)(hs:s<g.nodes)(bP:to<g.nodes):Ret zM 117 [ptrTo br,.int .i64 (s:Nat),.int .i64 (to:Nat)] h0 fun r h'=>Gr hq h'/\ ∃fd,Ends g.arcs al pi to (jY pi s) fd/\FdAt h' hq.n r fd:=by
 have ok:=gq.ok;have n1:=w.n1;have n2:=w.n2;have bB:=w.many;have wm:=kK;have fr:=hU;have hA: ∀a∈g.arcs,a.t<g.nodes/\a.w<=cg:=fun a ha=>⟨(w.arcs a ha).2.1,(w.arcs a ha).2.2⟩;have lB:=R0.lt ok;have S:=Si ok;refine erA (n:=79) (rs:=[.cell 6 96]) e117 ?_;simp only [BZ];refine ab au S ?_;clear S;intro h l S G;simp only [BZ,seval];have I:=S.row (b:=l) m0;have gA:=S.gr;have a6:=S.ok;have l6:=I.lt a6;have n6:l∉Z:=fun h=>by have:=lB l h;have:=G;omega
 have q6:hq.n<=l:=Xb gq.n G;clear S;rename Hp=>hA';have rc:Ret zM 199 [ptrTo br,.int .i64 (s:Nat),.int .i64 0,.int .i64 (-1)] hA' _:=Bd (p:=[]) (lab:=0) (gq.trans gA) (R0.gr gA) ai n2 hs (Xj _) (hp s hs) (fun k h=>by cases h);refine step_ret rc ?_;rintro r h1 ⟨f1,B1,R1,ak⟩;clear rc;simp only [BZ];refine aX (fun(σ:SS) ρ h=> ∃B,Mo (fun c=>c∈Z\/c=l) hA' h/\Row h l [.int .i64 0,.slice none 0 0,.slice none 0 0] 1/\iL h B br (ptrTo z) (.func (.func A) #[] #[ptrTo u]) (.func (.func C) #[] #[ptrTo u]) g.nodes σ/\(∀c∈B,c∈Z\/hA'.n<=c)/\Sv g.arcs g.nodes s al pi σ/\σ.ev.length<=σ.O.length*200/\(∀r,Ends g.arcs al pi to σ r->Ends g.arcs al pi to (jY pi s) r)/\ρ 0=ptrTo br/\ρ 1=.int .i64 (s:Nat)/\ρ 2=.int .i64 (to:Nat)/\ρ 6=ptrTo l) (fun σ=>g.nodes-σ.O.length) ?_ (jY pi s) _ _ ?_
 . clear R1 f1 ak B1 h1;intro σ ih ρ hS ⟨B,f,row6',R,hB,sv,hev,hE,r0,r1,r2,r6⟩;have N: ∀c∈B,hq.n<=c:=fun c d=>(hB c d).elim (af c) (fun h=>by have:=(gq.trans gA).n;omega);have gh:Gr hq hS:=(((gq.trans gA).fr (M:=NoM)).trans f (fun c d=>.inr (d.elim (af c) (fun e=>by subst e;exact q6)))).gr;have O:l∉B:=fun h=>(hB l h).elim n6 (fun h=>by omega);have ol:=sv.len;have bT:σ.O.length*cg<=12*cg:=Yc _ (Xb ol n2);obtain⟨J,bb,bk,P,F,vE,ax,S,H,hF⟩:=R.open f.ok;have ay: ∀c∈keys (srL br J bb bk g.nodes (ptrTo z) (ptrTo P) (.func (.func A) #[] #[ptrTo u]) (.func (.func C) #[] #[ptrTo u]) vE σ) (srG vE σ),c∈B:=fun c d=>(by rw [ax];exact Yx _ d);have Q: ∀c∈F,c∈B:=fun c d=>(by rw [ax];exact XW _ d);have lF:=H.lt f.ok;replace S:=(S.base.mono (M':=fun c=>c∈B\/c=l) (fun c d=>.inl (ay c d))).push (b:=l) (o:=.row _ 1) (.inr (.inr rfl)) row6' (fun h=>O (ay l h));have a7: ∀c∈F,c≠l:=fun c d e=>O (by rw [<-e];exact Q c d);have T: ∀c∈F,c∉keys ((l,Ob.row [.int .i64 0,.slice none 0 0,.slice none 0 0] 1)::srL br J bb bk g.nodes (ptrTo z) (ptrTo P) (.func (.func A) #[] #[ptrTo u]) (.func (.func C) #[] #[ptrTo u]) vE σ) (srG vE σ):=fun c d U=>(List.mem_cons.1 U).elim (a7 c d) (hF c d);unfold srL srG at S;simp only [BZ,r0,S.ld (b:=br) (o:=1) m1 rfl,seval];refine step_ret (ut S.ok H (by omega)) ?_;rintro rv h2 (⟨rfl,V,a8⟩|⟨v,k,rfl,hk,aL,f2,H2⟩)
   . replace S:=S.call a8;have W:Fl vE:=(S.gown _ m0).1.fl;simp only [BZ,r0,r6,W,S.ld (b:=br) (o:=7) m1 rfl,seval];refine az (stA S (i:=0) t96.2.1 (by simp only [ac,Xy,XC,W.2.1,Xf];rfl)) ?_;clear S;rintro h3 ⟨S,mo⟩;simp only [LC,ac,lay,Xh,Xi,seval]at S;simp only [BZ,aa];refine(bD (by decide) (by simp only [aD,r6,ah,seval];exact bI t96.1 t96.2.1 (S.lds (b:=l) (o:=0) (n:=3) m0 (lbt rfl)))).2 (cu.2 ?_);refine⟨(gh.fr (M:=NoM)).trans S.fr (fun c d=>.inr (d.elim (N c) (fun e=>by subst e;exact q6)))|>.gr,_,hE _ (.none V),.slice none 0 0,vE,rfl,.inl ⟨rfl,rfl⟩,(S.gown _ m0).1,fun c d=>d.elim,fun c d=>?_⟩;have:=(S.gown _ m0).2 c (mE (S.gown _ m0).1 d);exact this.elim (fun h=>Xb gh.n h) (fun h=>h.elim (N c) (fun e=>by subst e;exact q6))
   . have K:og σ.K v k:=⟨hk,aL⟩;obtain⟨X,nO,pv,ek⟩:=sv.op v k hk;replace S:=S.stepF f2 (fun c d=>⟨.inl (.inl (Q c d)),T c d⟩);have bv:=(sv.bd v).1;have Y:=S;have bc:=H2.lt Y.ok;have kp: ∀c∈keys ((l,Ob.row [.int .i64 0,.slice none 0 0,.slice none 0 0] 1)::srL br J bb bk g.nodes (ptrTo z) (ptrTo P) (.func (.func A) #[] #[ptrTo u]) (.func (.func C) #[] #[ptrTo u]) vE σ) (srG vE σ),hS.n<=c\/c∈B\/c=l:=fun c d=>Y.key_own d;have kl:=fun {c} d=>Y.key_lt (b:=c) d;have np:=Y.fr.n;replace S:=S.base;have W:Fl vE:=(S.gown _ m0).1.fl;simp only [BZ,r0,X,S.ld (b:=br) (o:=4) m1 rfl,seval];refine az (aA S (i:=4) rfl Tryz.t4.2.2.1 oH (by rw [clC_len];exact X) ono) ?_;clear S;rintro h3 ⟨S,bX⟩;simp only [LC]at S;rw [clC_set]at S;have lL:=(S.row (b:=J) m2).load1 (wI (L:=σ.L) X);simp only [BZ];refine ao (av rfl) (q:=16384) (ps:=[]) (by kernel_rfl) ?_;simp only [BZ,cls,r0,X,lL,S.ld (b:=br) (o:=7) m1 rfl,S.ld (b:=br) (o:=2) m1 rfl,seval];refine cV (bZ (by exact t44.1) (by exact e143E) (by decide) (by rfl)) S ?_;clear S;intro h bs S bE bL;simp only [LC,bJ,cd,ac,Xp,Xo,Xq,Xv,seval]at S;simp only [BZ,cls,seval];have a0:aR h 4 (.slice (some ⟨bs,0,none⟩) 1 1)=some (1,iM ⟨0,v,σ.L v⟩):=(by simp only [aR];rw [S.lds (b:=bs) (o:=0) (n:=1*4) m0 (lbt rfl)];rfl);replace S:=S.drop1;refine lu (S.grow (j:=0) (m:=1) (new:=iM ⟨0,v,σ.L v⟩) rfl t44.1 e143E (by decide) t44.2.2.2.2.2 a0 rfl (by decide) rfl (by rw [cB ru];show(_+4)*_<=_;omega)) ?_;clear S a0;rintro h2 t S;simp only [LC]at S;have y:Fl t:=(S.gown _ m0).1.fl;simp only [BZ,cls,seval];refine cJ (aA S (i:=1) rfl t44.2.2.1 y (Xe (lbt rfl)) ono) ?_;clear S;rintro h3 ⟨S,_⟩;simp only [LC]at S;have eE:(σ.ev++[(⟨0,v,σ.L v⟩:Ev)]).flatMap iM=σ.ev.flatMap iM++iM ⟨0,v,σ.L v⟩:=(by rw [Yf];simp);rw [<-eE]at S;have bq: ∀c,hS.n<=c\/c∈B\/c=l->hq.n<=c:=fun c d=>d.elim (fun h=>Xb gh.n h) (fun h=>h.elim (N c) (fun e=>by subst e;exact q6));have wq:=(((gh.fr (M:=NoM)).trans Y.fr (fun c d=>.inr (bq c (.inr d)))).trans S.fr (fun c d=>.inr (bq c (kp c d)))).gr;have D:=sv.close hk;have kn:=fun {c} d=>S.key_own (b:=c) d;have nS:=S.fr.n;have bd: ∀c∈F,c∉keys (srL br J bb bk g.nodes (ptrTo z) (ptrTo P) (.func (.func A) #[] #[ptrTo u]) (.func (.func C) #[] #[ptrTo u]) t (d6 σ v)) (srG t (d6 σ v)):=fun c d U=>by
      rcases kn (Xx _ U)with h|h
      . have:=bc c d;omega
      . exact T c d h
     have Hc:cF _ F (ptrTo P) g.nodes (d6 σ v).K:=H2.mo S.fr (fun c d U=>T c d U);have Rc:=iL.close (σ:=d6 σ v) (vE:=t) S.drop1 Hc bd;have E: ∀c∈keys (srL br J bb bk g.nodes (ptrTo z) (ptrTo P) (.func (.func A) #[] #[ptrTo u]) (.func (.func C) #[] #[ptrTo u]) t (d6 σ v)) (srG t (d6 σ v))++F,hS.n<=c\/c∈B:=fun c d=>by
      rcases List.mem_append.1 d with d|d
      . have ne:c≠l:=fun e=>(by subst e;exact(List.nodup_cons.1 S.apart).1 d);rcases kn (Xx _ d)with h|h
        . exact .inl (by omega)
        . exact(kp c h).imp (fun h=>h) (fun h=>h.elim (fun h=>h) (fun e=>absurd e ne))
      . exact .inr (Q c d)
     have a1: ∀c∈keys (srL br J bb bk g.nodes (ptrTo z) (ptrTo P) (.func (.func A) #[] #[ptrTo u]) (.func (.func C) #[] #[ptrTo u]) t (d6 σ v)) (srG t (d6 σ v))++F,hq.n<=c:=fun c d=>bq c ((E c d).imp (fun h=>h) .inl);have be:=S.ok;have k3:=fun {c} d=>S.key_lt (b:=c) d;have bo: ∀c,hS.n<=c\/c∈B\/c=l->(c∈Z\/c=l)\/hA'.n<=c:=fun c d=>d.elim (fun h=>.inr (Xb f.n h)) (fun h=>h.elim (fun h=>(hB c h).imp .inl (fun h=>h)) (fun e=>.inl (.inr e)));have bf:=Rc.lt be;by_cases hv:v=to
     . subst hv;simp only [BZ,r0,r2,seval];refine step_ret (sback_ok S.ok) ?_;rintro rv h4 ⟨g4,b1,b2,rfl,bY,bh,nb,e1,e2⟩;replace S:=S.call g4;have b0:=g4.n;simp only [BZ,seval];have pl:=(D.bd v).2;have b3:=D.len;refine step_ret (sT S.ok (back_it ad (wq.trans g4) w hn (Rc.gr g4) D (XW _ (by simp)) e1 e2 (fun h=>by have:=bf b2 h;omega) nb (Xb wq.n bh)) (fun b hb=>by subst hb;exact e2.lt g4.ok) (by omega)) ?_;rintro vA h5 ⟨fW,bi,x⟩;replace S:=S.step fW (fun c d=>.inr (by subst d;omega)) (fun c d e=>by subst e;have:=k3 d;omega);simp only [BZ,seval];refine step_ret (xJ S.ok bi (by omega)) ?_;rintro rv h6 ⟨fR,gR⟩;have b4:=fW.n;have b5: ∀c,ar vA c->_<=c:=x;replace S:=S.step fR (fun c d=>.inr (by have:=x c d;omega)) (fun c d hb=>by have:=k3 d;have:=x c hb;omega);have a2:Fl vA:=gR.fl;have lL:=(S.row (b:=J) m2).load1 (wI (L:=σ.L) X);simp only [BZ];refine ao (av rfl) (q:=0) (ps:=[]) (by kernel_rfl) ?_;simp only [BZ,cls,r0,r2,r6,X,lL,y,a2,S.ld (b:=br) (o:=2) m1 rfl,S.ld (b:=br) (o:=7) m1 rfl,seval];refine cJ (stA S (i:=0) t96.2.1 (by simp only [ac,Xy,XC,y.2.1,a2.2.1,Xf];rfl)) ?_;have bm: ∀c,ar vA c->c≠l:=fun c d e=>(by have:=x c d;have:=k3 (c:=l) (by simp [keys]);omega);have kA: ∀c,ar vA c-> ¬ar t c:=fun c d he=>(by have:=x c d;have:=k3 (fJ (p:=(t,4,_)) m0 (mE (S.gown _ m0).1 he));omega);clear S;rintro h7 ⟨S,mo⟩;simp only [LC,ac,lay,Xh,Xi,seval]at S;simp only [BZ,aa,seval];refine(bD (by decide) (by simp only [aD,r6,ah,seval];exact bI t96.1 t96.2.1 (S.lds (b:=l) (o:=0) (n:=3) m0 (lbt rfl)))).2 (cu.2 ?_);have bn:=(((gh.fr (M:=NoM)).trans Y.fr (fun c d=>.inr (bq c (.inr d)))).trans S.fr (fun c d=>.inr (bq c (kp c d)))).gr;refine⟨bn,_,hE _ (.hit K),vA,t,rfl,gR.of_get (fun c d=>mo.get c (gR.lt fR.ok d) ?_),(S.gown _ m0).1,fun c d=>⟨by have:=x c d;have:=wq.n;omega,kA c d⟩,fun c d=>?_⟩
       . obtain⟨a',n',e',_⟩: ∃a' n',vA=Value.slice (some ⟨a',0,some 1⟩) n' n'/\a'=c:=by
          rcases gR with⟨e,_⟩|⟨b',n',e,_⟩
          . simp only []at e;rw [e]at d;cases d
          . simp only []at e;rw [e]at d;cases d;exact⟨_,_,e,rfl⟩
         exact bm c (by rw [e'];assumption)
       . exact bq c (((S.gown _ m0).2 c (mE (S.gown _ m0).1 d)).elim (fun h=>.inl (Xb np h)) (fun h=>kp c h))
     . have bt: ¬((v:Int)=(to:Int)):=(by omega);simp only [BZ,r0,r2,bt,seval];obtain⟨a3,bu⟩:=sv.next hA hk
       refine step_ret (sscan_ok ad wq w hn Rc a1 a5 ai hp X D (sv.room v) (by show(σ.ev++[_]).length<=10000;simp;omega)) ?_;rintro rv h4 ⟨f4,B4,R4,bx⟩;simp only [BZ];have es:=Da g.arcs al pi v (d6 σ v);have eO:(pX g.arcs al pi v (d6 σ v)).O=σ.O++[v]:=bu.O;have ec:(d6 σ v).ev.length=σ.ev.length+1:=(by show(σ.ev++[_]).length=_;simp);have a4:=a3.len;rw [eO]at a4;simp at a4;refine ih _ _ _ (by rw [eO];simp;omega) ⟨B4,?_,?_,R4,?_,a3,by rw [eO];simp;omega,fun r hr=>hE r (.step K hv hr),by simp [aB,r0,ah,r1,r2,r6]⟩
       . exact((f.trans Y.fr (fun c d=>bo c (.inr d))).trans S.fr (fun c d=>bo c (kp c d))).trans f4 (fun c d=>bo c ((E c d).imp (fun h=>h) .inl))
       . exact f4.has (o:=.row _ 1) (S.row m0) (fun U=>(E l U).elim (fun h=>by have:=f.n;omega) O)
       . exact fun c d=>(bx c d).elim (fun h=>(E c h).elim (fun h=>.inr (Xb f.n h)) (hB c)) (fun h=>.inr (by have:=f.n;omega))
 . have k0:(jY pi s).ev.length=0:=(by unfold jY;rw [Dc];rfl);exact⟨B1,f1.mono (fun c d=>.inl d),f1.has (o:=.row _ 1) I n6,R1,ak,xf hs,by omega,fun r hr=>hr,by simp [aB,cK,ah,dE]⟩
theorem iW(d:OZ h0){a:Gra}(c:aP h0 e p a):aQ zM 28 [p] h0 (.int .i64 a.arcs.length):=by have S:=Si d;obtain⟨b,h,i,j,k,l,rfl,r,f,_⟩:=c.ex;have g:=r.load1 (o:=3) rfl;refine erA (n:=11) (rs:=[.tmp 2]) e28 ?_;simp only [BZ,aa,g,f.A.lenq,seval];exact S.gr
def alF(als:List Bool)(a:Nat):Bool:=als.isEmpty||als.getD a false
def piF(pis:List Int)(v:Nat):Int:=if pis=[]then 0 else max (-72057594037927936) (pis.getD v 0)
theorem piF_lo(pis:List Int)(v:Nat):-(FAR:Int)<=piF pis v:=by
 have:=hU;unfold piF
 split<;>omega
theorem al_ok(q:hq.load k 2 1=some [vAl])(r:aw hq 1 encB vAl als)(m:als=[]\/als.length=n):AlF zM hq 197 k n (alF als):=by
 intro h g a t;have S:=Si g.ok;have p:=g.load q;have d:=r.gr g;rcases m with rfl|m
 . refine erA (n:=15) (rs:=[.tmp 3]) e197 ?_;simp only [BZ,aa,Xs,p,d.lenq,seval];exact⟨rfl,S.gr⟩
 . have s: ¬((als.length:Int)=0):=(by omega);have f:a<als.length:=(by omega);obtain⟨c,o,i,j⟩:=d.ix (kd:=.i64) Di f;have e:alF als a=als[a]:=by
    unfold alF;cases als with
    |nil=>simp at f| cons b l=>show(false||(b::l).getD a false)=_;rw [Xa,Xd f];rfl
   rw [e];refine erA (n:=15) (rs:=[.tmp 3]) e197 ?_;simp only [BZ,aa,p,d.lenq,s,i,j,encB,seval];exact S.gr
theorem pi_ok(m:hq.load j 3 1=some [vPi])(p:aw hq 1 (encI .i64) vPi pis)(k:pis=[]\/pis.length=n):PiF zM hq 198 j n (piF pis):=by
 intro h g a r;have S:=Si g.ok;have l:=g.load m;have b:=p.gr g;rcases k with rfl|k
 . refine erA (n:=14) (rs:=[.tmp 3]) e198 ?_;simp only [BZ,aa,Xs,l,b.lenq,seval];exact⟨rfl,S.gr⟩
 . have q: ¬((pis.length:Int)=0):=(by omega);have d:a<pis.length:=(by omega);obtain⟨c,o,f,i⟩:=b.ix (kd:=.i64) (bR .i64) d;have e:piF pis a=max (-72057594037927936) pis[a]:=(by unfold piF;rw [if_neg (by intro e;subst e;simp at d)];simp [Xa,d]);rw [e];refine erA (n:=14) (rs:=[.tmp 3]) e198 ?_;simp only [BZ,aa,l,b.lenq,q,f,i,encI,seval];exact S.gr
theorem sstart_ok(P:OZ h0){d:Gra}(l:Good d){Q p:Nat}(j:aP h0 Q (ptrTo p) d){s to:Int}(fA:Fl vAl)(fP:Fl vPi):Ret zM 116 [ptrTo p,.agg ⟨[.int .i64 s,.int .i64 to,vAl,vPi]⟩] h0 fun r h'=> ∃br f hq B,r=ptrTo br/\Gr h0 hq/\Gr hq h'/\hq.load f 2 1=some [vAl]/\hq.load f 3 1=some [vPi]/\iL h' B br (ptrTo p) (.func (.func 197) #[] #[ptrTo f]) (.func (.func 198) #[] #[ptrTo f]) d.nodes zS/\ ∀c∈B,hq.n<=c:=by
 have R:=l.n1;have n2:=l.n2;have S:=Si P;refine erA (n:=34) (rs:=[.tmp 4]) e116 ?_;simp only [BZ,seval];refine ab (aW (by intro x e;cases e)) S ?_;clear S;intro h f S C;simp only [ac]at S;have u:=S.gr;have T:=S.ld (b:=f) (o:=2) m0 rfl;have U:=S.ld (b:=f) (o:=3) m0 rfl;clear S;rename Hp=>hq;replace j:=j.gr u;have S:=Si u.ok;simp only [BZ];refine ao (av rfl) (q:=2880) (ps:=[]) (by kernel_rfl) ?_;simp only [BZ,cls,seval];refine bj (bC S.ok (j.gr S.gr)) ?_;intro h g;replace S:=S.call g;simp only [BZ,cls,seval];refine bO (um S.ok) ?_;rintro V h ⟨g,F,H,W⟩;have X:=S.fr.n;replace S:=S.call g;have Y: ∃b,V=ptrTo b:=by obtain⟨b,_,_,e,_⟩:=H.ex;exact⟨b,e⟩
 obtain⟨D,rfl⟩:=Y;have k:=S;have Z:=H.lt k.ok;rename Hp=>h_H;replace S:=S.base;simp only [BZ,cls,seval];refine bj (bC S.ok (j.gr (k.rebase S).gr)) ?_;intro h g;replace S:=S.call g;simp only [BZ,cls,seval];refine cV (mJ (by exact t23.1) (by exact Yh) (by omega) (by omega)) S ?_;clear S;intro h w S E G;simp only [BZ,cls,Xu,seval];refine rf (bC (h0:={h with lo:=h.n}) S.ok ((j.gr (k.rebase S).gr).keep S.ok (fun _ _=>rfl))) ?_;intro h g;replace S:=S.call g;simp only [BZ,cls,seval];refine cV (mJ (by exact t100.1) (by exact YB) (by omega) (by omega)) S ?_;clear S;intro h y S I J;simp only [BZ,cls,Xu,seval];refine cV (aW (by intro x e;cases e)) S ?_;clear S;intro h br S K L;simp only [ac]at S;simp only [BZ,cls,seval];refine ab (bZ (by exact t41.1) (by exact XT) (by decide) (by rfl)) S ?_;clear S;intro h M S N;simp only [LC,bJ,cd,ac,Xp,Xo,Xq,Xv,seval]at S;simp only [BZ,seval];refine ae (bC S.ok (j.gr (k.rebase S).gr)) ?_;intro h g;replace S:=S.call g;simp only [BZ,seval];have z:=fun {c} (a:c∈_)=>S.key_lt (b:=c) a;have kn:=S.fr.n;refine step_ret (repI_ok S.ok (x:= -1) (.inr ⟨M,0,none,1,rfl,Xr _,S.lds (b:=M) (o:=0) (n:=1*1) m0 (lbt rfl)⟩) R (by omega)) ?_;intro v h ⟨g,t,eb,nb',Rb⟩;replace S:=S.call g;subst eb;replace S:=S.drop1;replace S:=S.push (b:=t) (o:=.row _ 1) (.inl (Xb kn nb')) Rb (fun A=>by have:=z (Xx _ A);omega);simp only [BZ,seval];refine az (aA S (i:=1) rfl ?_ ?_ ?_ ono) ?_
 . exact(by simp only [FA0])
 . exact(by exact bH)
 . exact Xe (lbt rfl)
 clear S;rintro h ⟨S,m⟩;clear m;simp only [LC,ac,lay,Xh,Xi,seval]at S;simp only [BZ,seval];refine az (aA S (i:=1) rfl ?_ ?_ ?_ ono) ?_
 . exact(by simp only [FA0])
 . exact(by exact dI)
 . exact Xe (lbt rfl)
 clear S;rintro h ⟨S,m⟩;clear m;simp only [LC,ac,lay,Xh,Xi,seval]at S;simp only [BZ,seval];refine az (aA S (i:=1) rfl ?_ ?_ ?_ ono) ?_
 . exact(by simp only [FA0])
 . exact(by exact dI)
 . exact Xe (lbt rfl)
 clear S;rintro h ⟨S,m⟩;clear m;simp only [LC,ac,lay,Xh,Xi,seval]at S;simp only [BZ,aa,seval];have e1:bJ [Value.int .i64 0] ((d.nodes:Int)).toNat=labC d.nodes zS.L:=by rw [tB];rfl
 have e2:bJ [Value.bool false] ((d.nodes:Int)).toNat=clC d.nodes zS.O:=by rw [tB];unfold clC zS;exact Ye fun v _=>by simp
 have e3:XO d.nodes (Value.int .i64 (-1))=byC d.nodes zS.P:=by show _=(zO d.nodes).map fun _=>Value.int .i64 (-1);rw [XZ,XA]
 rw [e1,e2,e3]at S;have ap:=S.apart;have z:=fun {c} a=>S.key_own (b:=c) a;have n0:=k.fr.n;have O: ∀c∈keys (srL br w t y d.nodes (ptrTo p) (ptrTo D) (.func (.func 197) #[] #[ptrTo f]) (.func (.func 198) #[] #[ptrTo f]) (.slice none 0 0) zS) (srG (.slice none 0 0) zS),h_H.n<=c:=fun c a=>by
  have:c=t\/c=br\/c=y\/c=w:=by simp [srL,srG,keys,eH]at a;omega
  rcases z (c:=c) (by simp [keys];omega)with h|h
  . exact h
  . simp [keys]at h
 refine⟨br,f,hq,_,rfl,u,(k.rebase S).gr,T,U,⟨w,t,y,D,F,.slice none 0 0,rfl,fun q hq=>?_,.inl ⟨rfl,rfl⟩,?_,H.mo S.fr (fun c _ h=>by simp [keys]at h),fun c a A=>?_⟩,fun c a=>?_⟩
 . simp only [srL,Xt,Xl,or_false]at hq;rcases hq with rfl|rfl|rfl|rfl
   . exact S.row m1
   . exact S.row m3
   . exact S.row m0
   . exact S.row m2
 . simp [srL,srG,keys,eH]at ap⊢;exact⟨by omega,by omega,by omega,.nil⟩
 . have:=Z c a;have:=O c A;omega
 . rcases List.mem_append.1 a with a|a
   . exact Xb n0 (O c a)
   . exact Xb X (W c a)
theorem fitsB_ok(d:OZ h0){xs:List Bool}(b:aw h0 1 encB v xs)(e:xs=[]\/xs.length=n):aQ zM 114 [v,.int .i64 n] h0 (.bool true):=by
 have S:=Si d;by_cases a:(xs.length:Int)=0
 . refine erA (n:=14) (rs:=[.tmp 4]) e114 ?_;simp only [BZ,aa,b.lenq,a,seval];exact S.gr
 . have c:(xs.length:Int)=(n:Int):=by
    rcases e with rfl|h
    . simp at a
    . omega
   rw [c]at a;refine erA (n:=14) (rs:=[.tmp 4]) e114 ?_;simp only [BZ,aa,b.lenq,a,c,seval];exact S.gr
theorem fitsI_ok(d:OZ h0)(b:aw h0 1 (encI .i64) v xs)(e:xs=[]\/xs.length=n):aQ zM 115 [v,.int .i64 n] h0 (.bool true):=by
 have S:=Si d;by_cases a:(xs.length:Int)=0
 . refine erA (n:=14) (rs:=[.tmp 4]) e115 ?_;simp only [BZ,aa,b.lenq,a,seval];exact S.gr
 . have c:(xs.length:Int)=(n:Int):=by
    rcases e with rfl|h
    . simp at a
    . omega
   rw [c]at a;refine erA (n:=14) (rs:=[.tmp 4]) e115 ?_;simp only [BZ,aa,b.lenq,a,c,seval];exact S.gr
theorem zY(d:OZ h0){b:Gra}(c:aP h0 e (ptrTo a) b)(l:h0.load b2 0 1=some [ptrTo a]){v:Nat}(f:v<b.nodes):aQ zM 113 [.int .i64 (v:Nat),ptrTo b2] h0 (.bool true):=by
 have S:=Si d;have i:(0:Int)<=(v:Int):=by omega
 refine erA (n:=12) (rs:=[.tmp 3]) e113 ?_;simp only [BZ,l,i,seval];refine ae (bC S.ok (c.gr S.gr)) ?_;intro h g;replace S:=S.call g;simp only [BZ,aa,aE,f,seval];exact S.gr
theorem ug(ok:OZ h0){m:Gra}(t:Good m)(u:aP h0 nb (ptrTo T) m)(U:s<m.nodes)(w:to<m.nodes)(I:aw h0 1 encB vAl als)(y:als=[]\/als.length=m.arcs.length)(J:aw h0 1 (encI .i64) vPi pis)(z:pis=[]\/pis.length=m.nodes):Ret zM 45 [ptrTo T,.agg ⟨[.int .i64 (s:Nat),.int .i64 (to:Nat),vAl,vPi]⟩] h0 fun r h'=>Gr h0 h'/\ ∃v A,r=.tuple #[v,.int .i64 0]/\FdAt h' h0.n v A/\((s=to/\A=⟨0,[],[]⟩)\/(s≠to/\Ends m.arcs (alF als) (piF pis) to (jY (piF pis) s) A)):=by
 have S:=Si ok;have fA:=I.fl;have fP:=J.fl;refine erA (n:=57) (rs:=[.cell 4 96,.tmp 5]) e45 ?_;simp only [BZ,seval];refine ab (bz (by exact bA)) S ?_;clear S;intro h d S V;simp only [BZ,if_false,seval];refine ab (aW (by intro x e;cases e)) S ?_;clear S;intro h a S W;simp only [ac]at S;simp only [BZ];refine ab au S ?_;clear S;intro h K S X;simp only [BZ,S.ld (b:=d) (o:=0) m2 rfl,seval];refine ao (av rfl) (q:=0) (ps:=[(22,24),(14,16)]) (by kernel_rfl) ?_;simp only [BZ,cls,S.ld (b:=d) (o:=0) m2 rfl,S.ld (b:=a) (o:=0) m1 rfl,seval];have Y:=(S.row (b:=d) m2).lt S.ok;have Z:=(S.row (b:=a) m1).lt S.ok;refine bj (zY S.ok (u.gr S.gr) (S.ld (b:=d) (o:=0) m2 rfl) U) ?_;intro h g;have L:=ag g Y;have v1:=ag g Z;replace S:=S.call g;simp only [BZ,cls,S.ld (b:=d) (o:=0) m2 rfl,S.ld (b:=a) (o:=1) m1 rfl,seval];have p2:=(S.row (b:=d) m2).lt S.ok;have q2:=(S.row (b:=a) m1).lt S.ok;refine bj (zY S.ok (u.gr S.gr) (S.ld (b:=d) (o:=0) m2 rfl) w) ?_;intro h g;have u2:=ag g p2;have v2:=ag g q2;replace S:=S.call g;simp only [BZ,cls,S.ld (b:=d) (o:=0) m2 rfl,S.ld (b:=a) (o:=2) m1 rfl,seval];have H:=(S.row (b:=d) m2).lt S.ok;have q3:=(S.row (b:=a) m1).lt S.ok;refine bj (iW S.ok (u.gr S.gr)) ?_;intro h g;have u3:=ag g H;have v3:=ag g q3;replace S:=S.call g;simp only [BZ,cls,seval];have p4:=(S.row (b:=d) m2).lt S.ok;have q4:=(S.row (b:=a) m1).lt S.ok;refine bj (fitsB_ok S.ok (I.gr S.gr) y) ?_;intro h g;have u4:=ag g p4;have v4:=ag g q4;replace S:=S.call g;simp only [BZ,cls,S.ld (b:=d) (o:=0) m2 rfl,S.ld (b:=a) (o:=3) m1 rfl,seval];have p5:=(S.row (b:=d) m2).lt S.ok;have q5:=(S.row (b:=a) m1).lt S.ok;refine bj (bC S.ok (u.gr S.gr)) ?_;intro h g;have u5:=ag g p5;have v5:=ag g q5;replace S:=S.call g;simp only [BZ,cls,seval];have p6:=(S.row (b:=d) m2).lt S.ok;have q6:=(S.row (b:=a) m1).lt S.ok;refine bj (fitsI_ok S.ok (J.gr S.gr) z) ?_;intro h g;have u6:=ag g p6;have v6:=ag g q6;replace S:=S.call g;simp only [BZ,cls,seval];refine⟨by simp only [aI,aO,aF,aK,aH,ne_eq,not_false_eq_true,aU,aY,aN,aJ,bw,bN,aD,Xf,ah,an v3,an v5,seval],?_⟩;clear Y p2 H p4 p5 p6 Z q2 q3 q4 q5 q6 L u2 u3 u4 u5 u6 v1 v2 v3 v4 v5 v6;by_cases C:s=to
 . subst C;simp only [BZ,S.ld (b:=a) (o:=0) m1 rfl,S.ld (b:=a) (o:=1) m1 rfl,seval];refine az (stA S (i:=0) t96.2.1) ?_;clear S;rintro h3 ⟨S,mo⟩;simp only [LC,ac,lay,Xh,Xi,seval]at S;simp only [BZ,aa];refine(bD (by decide) (by simp only [aD,ah,seval];exact bI t96.1 t96.2.1 (S.lds (b:=K) (o:=0) (n:=3) m0 (lbt rfl)))).2 ?_;refine(dP (by decide)).2 (cu.2 ?_);exact⟨S.gr,_,⟨0,[],[]⟩,rfl,⟨_,_,rfl,.inl ⟨rfl,rfl⟩,.inl ⟨rfl,rfl⟩,fun c f=>f.elim,fun c f=>f.elim⟩,.inl rfl⟩
 . have D: ¬((s:Int)=(to:Int)):=(by omega);simp only [BZ,D,S.ld (b:=a) (o:=0) m1 rfl,S.ld (b:=a) (o:=1) m1 rfl,seval];refine ao (av rfl) (q:=0) (ps:=[(2,6),(2,4)]) (by kernel_rfl) ?_;simp only [BZ,cls,Xz,XF,XU,S.ld (b:=d) (o:=0) m2 rfl,S.lds (b:=a) (o:=0) (n:=4) m1 (lbt rfl),seval];have E:=u.gr S.gr;have kS:=S.fr.n;have H:=(S.row (b:=a) m1).lt S.ok;refine bO (sstart_ok S.ok t E fA fP) ?_;rintro r h5 ⟨br,ba,hq,B,rfl,j,M,l2,l3,R,hB⟩;have L:=ag (j.trans M) H;have Aq:=I.gr (S.gr.trans j);have Pq:=J.gr (S.gr.trans j);have N:=S.call j;have ad:=(N.row (b:=K) m0).lt N.ok;replace S:=S.call (j.trans M);simp only [BZ,cls,S.ld (b:=a) (o:=0) m1 rfl,S.ld (b:=a) (o:=1) m1 rfl,seval];have kq:=j.n;have O:=E.gr j;refine bO (srun_ok j.ok M t O R hB (al_ok l2 Aq y) (pi_ok l3 Pq z) (fun v _=>piF_lo pis v) U w) ?_;rintro rv h6 ⟨g6,A,he,vA,vE,rfl,G1,G2,P,d2⟩;replace S:=N.call g6;have f1:Fl vA:=G1.fl;have f2:Fl vE:=G2.fl;simp only [BZ,cls,seval];refine cJ (stA S (i:=0) t96.2.1 (by simp only [ac,Xy,XC,f1.2.1,f2.2.1,Xf];rfl)) ?_;clear S;rintro h7 ⟨S,mo⟩;simp only [LC,ac,lay,Xh,Xi,seval]at S;simp only [BZ,cls,aa,seval];refine⟨by simp only [aI,aO,aF,aK,aH,ne_eq,not_false_eq_true,aU,aY,aN,aJ,bw,bN,aD,Xf,ah,aq L,seval],?_⟩;refine(bD (by decide) (by simp only [aD,ah,seval];exact bI t96.1 t96.2.1 (S.lds (b:=K) (o:=0) (n:=3) m0 (lbt rfl)))).2 ?_;refine(dP (by decide)).2 (cu.2 ?_);have l: ∀{p:GL},ij h6 p->(∀c,ar p.1 c->hq.n<=c)->ij h7 p:=fun {p} G f=>G.of_get fun c Q=>mo.get c (G.lt g6.ok Q) fun e=>by
    have:=f c (by
     rcases G with⟨F,_⟩|⟨b',n',F,_⟩
     . obtain⟨v,k,vs⟩:=p;simp only []at F;subst F;cases Q
     . obtain⟨v,k,vs⟩:=p;simp only []at F;subst F;cases Q;rfl)
    omega
   exact⟨S.gr,_,A,rfl,⟨vA,vE,rfl,l G1 (fun c f=>(P c f).1),l G2 d2,fun c f=>⟨Xb kS (Xb kq (P c f).1),(P c f).2⟩,fun c f=>Xb kS (Xb kq (d2 c f))⟩,.inr ⟨C,he⟩⟩
theorem DU(a:OZ h0):Ret zM 41 [.pointer none] h0 fun r h'=>Gr h0 h'/\ ∃l:List Int,aw h' 1 (encI .i64) r l/\l.length=0:=by have S:=Si a;refine erA (n:=10) (rs:=[.tmp 2]) e41 ?_;simp only [BZ,aa,seval];exact⟨S.gr,[],.inl ⟨rfl,rfl⟩,rfl⟩
theorem D0(a:OZ h0):aQ zM 40 [.pointer none] h0 (.int .i64 ((0:Nat):Int)):=by have S:=Si a;refine erA (n:=9) (rs:=[.tmp 2]) e40 ?_;simp only [BZ,aa,Xs,seval];exact S.gr
def TabQ(h:Hp)(b:Value)(a:Nat)(l:List Int)(R Q:Nat->List Int):Prop:=(∃m,TabAt h m b a l R Q/\(∀i,i<l.length->(R i).length=a)/\ ∀i,i<l.length->(Q i).length=a)\/(b=.pointer none/\a=0/\l=[])
theorem TabQ.gr{h h':Hp}{c:Value}{d:Nat}{l:List Int}{R Q:Nat->List Int}(t:TabQ h c d l R Q)(g:Gr h h'):TabQ h' c d l R Q:=t.imp (fun⟨m,a,b⟩=>⟨m,a.gr g,b⟩) (fun h=>h)
theorem TabQ.tabO{d:Value}(t:TabQ h d e l R Q)(f:l.length<1000):TabO zM h d e l.length 41 40:=by
 rcases t with⟨m,t,_,_⟩|⟨rfl,rfl,rfl⟩
 . refine⟨by obtain⟨b,_,_,_,rfl,_⟩:=t.ex;exact bA,fun x k=>(jP k.ok (t.gr k) f).mono fun r g ⟨a,b,c⟩=>⟨a,l,b,rfl⟩,fun x k=>lW k.ok (t.gr k)⟩
 . exact⟨bA,fun x k=>DU k.ok,fun x k=>D0 k.ok⟩
theorem Ft{f:Int}(h:mQ N a mk f t=0):(0<=f/\f<N)/\(0<=t/\t<N)/\0<mk/\a=N:=by
 unfold mQ at h
 split at h
 . cases h
 . split at h
   . cases h
   . split at h
     . rename_i c d b;exact⟨by omega,by omega,b⟩
     . cases h
def ow(c:Int)(d:Int)(vA a:Value):Value:=.agg ⟨[.int .i64 c,.int .i64 d,vA,a]⟩
def pos:List Int->Int->Option Nat
 | [],_=>none|y::a,x=>if x=y then some 0 else(pos a x).map (· +1)
def lh:Nat->List Int->List (Value×Value×Nat)
 |_,[]=>[]|o,x::a=>(.int .i64 x,.int .i64 (o:Nat),o)::lh (o+1) a
theorem ents_app(o:Nat)(l:List Int)(x:Int):lh o (l++[x])=lh o l++[(.int .i64 x,.int .i64 ((o+l.length:Nat):Int),o+l.length)]:=by
 induction l generalizing o with
 |nil=>rfl| cons y a b=>show _::lh (o+1) (a++[x])=_::(lh (o+1) a++_);rw [b,Yo,show o+1+a.length=o+(a.length+1) by omega]
theorem ents_len(o:Nat)(l:List Int):(lh o l).length=l.length:=by
 induction l generalizing o with
 |nil=>rfl|cons y a b=>show(lh (o+1) a).length+1=_;rw [b];rfl
theorem keq_int{y:Int}:cD (.int .i64 x) (.int .i64 y)=some (decide (x=y)):=by show some (jh x y)=_;congr 1;rw [px]
theorem yZ(o:Nat)(l:List Int)(x:Int):bF (.int .i64 x) (lh o l)=some ((pos l x).map fun i=>(.int .i64 ((o+i:Nat):Int),o+i)):=by
 induction l generalizing o with
 |nil=>rfl| cons y a b=>
   show(match cD (.int .i64 x) (.int .i64 y)with|none=>none|some true=>some (some (Value.int .i64 (o:Nat),o))|some false=>bF (.int .i64 x) (lh (o+1) a))=_;rw [keq_int,pos];by_cases h:x=y
   . rw [if_pos h,decide_eq_true h];rfl
   . rw [if_neg h,decide_eq_false h];show bF (.int .i64 x) (lh (o+1) a)=_;rw [b];cases pos a x with
     |none=>rfl|some i=>simp;omega
theorem St.mput{G:List GL}(S:St M h0 h L G){t kt el:TypeId}{a:List (Value×Value×Nat)}{k:Value}(d:L[i]? =some (b,.map a c))(f:E.und t=some (.map kt el))(hf:bK E kt k=true)(g:bF k a=some none):
 ∃h',ey E h t (.map (some b)) k v=some h'/\St M h0 h' (L.set i (b,.map (a++[(k,v,c)]) (c+1))) G:=by
 have e:h.get b=some (.map a c):=(S.own _ (Yy d)).2;refine⟨h.put b (.map (a++[(k,v,c)]) (c+1)),?_,S.put d ?_⟩
 . simp only [ey,jV,f,hf,cond_true,e,g]
 . show(h.put b _).get b=_;rw [Hp.get_put,if_pos ⟨rfl,by rw [e];rfl⟩]
theorem Eu{t kt el:TypeId}(a:E.und t=some (.map kt el))(d:E.und kt=some (.int .i64))(e:E.zeroV el=some (.int .i64 0))(f:h.get b=some (.map (lh 0 l) c)):cM E h t (.map (some b)) (.int .i64 x) true=some (match pos l x with|some i=>.tuple #[.int .i64 (i:Nat),.bool true]|none=>.tuple #[.int .i64 0,.bool false]):=by
 have hf:bK E kt (.int .i64 x)=true:=by simp only [bK,d];rfl
 simp only [cM,a,hf,cond_true,f,yZ,e];cases pos l x with
 |none=>rfl|some i=>simp
def qo(ks:List Int)(x:Int):Nat:=match pos ks x with|some i=>i|none=>ks.length
def qc(ks:List Int)(x:Int):List Int:=match pos ks x with|some _=>ks|none=>ks++[x]
def norm:List Int->List Int->List Int
 |_,[]=>[]|a,x::b=>(qo a x:Int)::norm (qc a x) b
theorem name_ok(j:OZ h0)(k:Row h0 e [.map (some a)] 1)(b:h0.get a=some (.map (lh 0 ks) ks.length)):Ret zM 238 [.int .i64 x,ptrTo e] h0 fun v h'=>Mo (· =a) h0 h'/\v=.int .i64 (qo ks x)/\h'.get a=some (.map (lh 0 (qc ks x)) (qc ks x).length):=by
 have S:=St.init1 j (o:=.map (lh 0 ks) ks.length) b;have f:=k.load1 (o:=0) rfl;have c:=Eu (x:=x) t230.1 Tryz.t3.1 (by kernel_rfl) b;have g:lenQ (some (.map 3 3)) h0 (.map (some a))=some (.val (.int .i64 (lh 0 ks).length),h0):=lenq_map b;rw [ents_len]at g;unfold qo qc;cases d:pos ks x with
 | some i=>rw [d]at c;refine erA (n:=20) (rs:=[.tmp 3]) e238 ?_;simp only [BZ,aa,f,c,seval];exact⟨S.fr,b⟩| none=>rw [d]at c;refine erA (n:=20) (rs:=[.tmp 3]) e238 ?_;simp only [BZ,f,c,g,seval];refine az (S.mput (i:=0) rfl t230.1 (by simp only [bK,Tryz.t3.1];rfl) (by rw [yZ,d];rfl)) ?_;clear S;intro h S;simp only [LC]at S;simp only [BZ,aa,seval];have l:h.get a=some (.map (lh 0 ks++[(.int .i64 x,.int .i64 ks.length,ks.length)]) (ks.length+1)):=(S.own _ m0).2;refine⟨S.fr,?_⟩;rw [ents_app,XR,Xo];exact l
theorem namer_ok(e:OZ h0):Ret zM 179 [] h0 fun v h'=>Gr h0 h'/\ ∃a b,v=.func (.func 238) #[] #[ptrTo a]/\h0.n<=a/\h0.n<=b/\Row h' a [.map (some b)] 1/\h'.get b=some (.map [] 0):=by
 have S:=Si e;refine erA (n:=4) (rs:=[.tmp 0]) e179 ?_;simp only [BZ];refine ab lM S ?_;clear S;intro h b S c;simp only [BZ];refine ab au S ?_;clear S;intro h a S d;simp only [BZ,seval];refine az (aA S (i:=0) rfl ?_ ?_ ?_ ono) ?_
 . exact(by simp only [FA0])
 . exact(by exact yW)
 . exact Xe (lbt rfl)
 clear S;rintro h ⟨S,f⟩;clear f;simp only [LC,ac,lay,Xh,Xi,seval]at S;simp only [BZ,aa,seval];exact⟨S.gr,a,b,rfl,d,c,S.row m0,(S.own _ m1).2⟩
theorem each_ok(H:OZ h0){x:Nat}(E:Row h0 x [.map (some d)] 1)(y:h0.get d=some (.map (lh 0 ks) ks.length))(z:aw h0 1 (encI .i64) v l)(M:l.length<1000):Ret zM 178 [v,.func (.func 238) #[] #[ptrTo x]] h0 fun r h'=>Mo (· =d) h0 h'/\aw h' 1 (encI .i64) r (norm ks l)/\ ∀c,ar r c->h0.n<=c:=by
 have S:=St.init1 H (o:=.map (lh 0 ks) ks.length) y;have A: ∀c,ar v c-> ¬c=d:=by
  rintro c p rfl;rcases z with⟨rfl,_⟩|⟨b,o,s,N,rfl,_,I⟩
  . exact p.elim
  . have:b=c:=p;subst this;simp [Hp.load,y]at I
 have B: ¬x=d:=by rintro rfl;obtain⟨t,O,e,_⟩:=E;rw [y]at e;cases e
 refine erA (n:=21) (rs:=[.tmp 4]) e178 ?_;simp only [BZ,z.lenq,seval];replace S:=S.nilG (k:=1);refine aX (fun(i:Nat) g h=>i<=l.length/\ ∃(a done:List Int) (C:Value),norm ks l=done++norm a (l.drop i)/\done.length=i/\St (· =d) h0 h [(d,.map (lh 0 a) a.length)] [(C,1,ints done)]/\
  g 1=.func (.func 238) #[] #[ptrTo x]/\g 4=C/\g 7=v/\g 8=.int .i64 l.length/\g 9=.int .i64 i) (fun i=>l.length-i) ?_ 0 _ _ ?_
 . clear S;intro i J g h ⟨hi,a,done,C,hn,hd,S,r1,r4,r7,r8,r9⟩;by_cases hlt:i<l.length
   . obtain⟨c,o,q,u⟩:=(z.mo S.fr A).ix (kd:=.i64) (bR .i64) hlt;have w:am .i64 ((i:Int)+1)=((i+1:Nat):Int):=(by rw [wrap64]<;>omega);simp only [BZ,r1,r4,r7,r8,r9,aE,hlt,q,u,encI,seval];refine step_ret (name_ok S.ok (S.fr.has (o:=.row _ 1) E B) (S.own _ m0).2) ?_;rintro r h ⟨f,rfl,F⟩;replace S:=S.call1 (i:=0) rfl f (o':=.map _ _) F;simp only [LC]at S;simp only [BZ,seval];refine ab (bZ (by exact t41.1) (by exact XT) (by decide) (by rfl)) S ?_;clear S;intro h K S G;simp only [LC,bJ,cd,ac,Xp,Xo,Xq,Xv,seval]at S;simp only [BZ,seval];refine dT (S.grow (j:=0) (m:=1) (new:=ints [(qo a l[i]:Int)]) rfl t41.1 XT (by decide) t41.2.2.2.2.2 (by simp only [aR];rw [S.lds (b:=K) (o:=0) (n:=1*1) m0 (lbt rfl)];rfl) rfl (by decide) rfl (by rw [cC,cC];simp;omega)) ?_;clear S f F u;rintro h L S;simp only [LC]at S;replace S:=S.drop1;rw [<-iO]at S;simp only [BZ,r9,w,seval];refine J (i+1) _ _ (by omega) ⟨by omega,_,_,_,?_,?_,S,by simp [aB,r1,ah,r7,r8]⟩
     . rw [hn,XN hlt,norm,List.append_assoc];rfl
     . simp [hd]
   . have D:i=l.length:=(by omega);simp only [BZ,aa,r4,r8,r9,aE,hlt,seval];have e:norm ks l=done:=(by rw [hn,D,Yn,norm,XM]);rw [e];exact⟨S.fr,(S.gown _ m0).1.sl rfl (bR .i64) (by decide),fun c p=>((S.gblk m0 p).1).elim (fun h=>h) (fun h=>((S.gblk m0 p).2 (by simp [h])).elim)⟩
 . exact⟨Xj _,ks,[],_,rfl,rfl,S,by simp [aB,cK,dE,ah]⟩
theorem norm_ok(b:OZ h0)(a:aw h0 1 (encI .i64) v l)(d:l.length<1000):Ret zM 93 [v] h0 fun r h'=>Gr h0 h'/\aw h' 1 (encI .i64) r (norm [] l)/\ ∀c,ar r c->h0.n<=c:=by
 have S:=Si b;refine erA (n:=6) (rs:=[.tmp 2]) e93 ?_;simp only [BZ,seval];refine step_ret (namer_ok S.ok) ?_;intro v h ⟨g,bx,bm,j,n1,n2,R,hg⟩;replace S:=S.call g;replace a:=a.gr g;clear g;subst j;simp only [BZ,seval];refine step_ret (each_ok (ks:=[]) S.ok R hg a d) ?_;rintro r h ⟨f,k,m⟩;simp only [BZ,aa,seval];exact⟨(S.fr.trans f (fun i e=>.inr (by subst e;exact n2))).gr,k,fun c h=>Xb S.fr.n (m c h)⟩
theorem DH(s:OZ h0){u:Value}{m:List Int}(p:aw h0 1 (encI .i64) u l)(r:aw h0 1 (encI .i64) v m)(A:l.length<1000000):aQ zM 92 [u,v] h0 (.bool (decide (l=m))):=by
 have S:=Si s;by_cases a:l.length=m.length
 . have hle:((l.length:Int)=(m.length:Int)):=(by omega);refine erA (n:=26) (rs:=[.tmp 4]) e92 ?_;simp only [BZ,p.lenq,r.lenq,hle,seval];refine aX (fun(i:Nat) g h=>i<=l.length/\l.take i=m.take i/\Gr h0 h/\g 0=u/\g 1=v/\g 12=.int .i64 l.length/\g 13=.int .i64 i) (fun i=>l.length-i) ?_ 0 _ _ ?_
   . clear S;intro i t g h ⟨hi,ht,S,r0,r1,r12,r13⟩;by_cases hlt:i<l.length
     . obtain⟨c,o,d,j⟩:=(p.gr S).ix (kd:=.i64) (bR .i64) hlt;obtain⟨B,C,b,e⟩:=(r.gr S).ix (kd:=.i64) (bR .i64) (a▸hlt);have w:am .i64 ((i:Int)+1)=((i+1:Nat):Int):=(by rw [wrap64]<;>omega);by_cases k:l[i]=m[i]
       . simp only [BZ,r12,r13,aE,hlt,seval];refine ao (av rfl) (q:=0) (ps:=[]) (by kernel_rfl) ?_;simp only [BZ,cls,r0,r1,r13,d,j,b,e,encI,k,w,seval];refine t (i+1) _ _ (by omega) ⟨by omega,?_,S,by simp [aB,r0,r1,r12]⟩;rw [Xg hlt,Xg (a▸hlt),ht,k]
       . have f:l≠m:=(by rintro rfl;exact k rfl);simp only [BZ,r12,r13,aE,hlt,seval];refine ao (av rfl) (q:=0) (ps:=[]) (by kernel_rfl) ?_;simp only [BZ,cls,aa,r0,r1,d,j,b,e,encI,k,f,seval];exact S
     . have x:l=m:=(by have y:l.take i=l:=Xw (by omega);have z:m.take i=m:=Xw (by omega);rw [y,z]at ht;exact ht);subst x;simp only [BZ,aa,r12,r13,aE,hlt,seval];exact S
   . exact⟨Xj _,rfl,Gr.refl s,by simp [aB,cK,dE,a]⟩
 . have f:l≠m:=(by rintro rfl;exact a rfl);have hle: ¬((l.length:Int)=(m.length:Int)):=(by omega);refine erA (n:=26) (rs:=[.tmp 4]) e92 ?_;simp only [BZ,aa,p.lenq,r.lenq,hle,f,seval];exact S.gr
def ic:List Int->Int
 | []=>0|x::a=>a.foldl max x
theorem lmax_succ(a:1<=i)(hlt:i<l.length):ic (l.take (i+1))=max (ic (l.take i)) l[i]:=by
 cases l with
 |nil=>cases hlt
 | cons x b=>
   obtain⟨j,rfl⟩: ∃j,i=j+1:=⟨i-1,by omega⟩;rw [XF,XF,ic,ic,List.getElem_cons_succ,Xg (by simpa using hlt),List.foldl_append];rfl
theorem lmax_one(a:0<l.length):ic (l.take 1)=l[0]:=by
 cases l with
 |nil=>cases a
 |cons x b=>rfl
theorem maxInt_ok(m:OZ h0)(f:aw h0 1 (encI .i64) v l)(j:1<=l.length)(s:l.length<1000000):aQ zM 94 [v] h0 (.int .i64 (ic l)):=by
 have S:=Si m;have k: ¬((l.length:Int)<1):=by omega
 obtain⟨c,o,a,b⟩:=f.ix (kd:=.i64) (bR .i64) (i:=0) (by omega);have d:nw (some 1) v (.int .i64 0)=_:=a;have p:=lmax_one (l:=l) (by omega);generalize l[0]=x at b p;refine erA (n:=25) (rs:=[.tmp 2]) e94 ?_;simp only [BZ,f.lenq,k,d,b,encI,seval];refine aX (fun(i:Nat) g h=>1<=i/\i<=l.length/\Gr h0 h/\g 0=v/\g 3=.int .i64 (ic (l.take i))/\g 4=.int .i64 i) (fun i=>l.length-i) ?_ 1 _ _ ?_
 . clear S;intro i r g h ⟨j,hi,S,r0,r3,r4⟩;by_cases hlt:i<l.length
   . obtain⟨c,o,a,b⟩:=(f.gr S).ix (kd:=.i64) (bR .i64) hlt;have w:am .i64 ((i:Int)+1)=((i+1:Nat):Int):=(by rw [wrap64]<;>omega);have q:=lmax_succ j hlt;generalize l[i]=y at b q;simp only [BZ,r0,r3,r4,(f.gr S).lenq,aE,hlt,a,b,encI,w,seval];refine r (i+1) _ _ (by omega) ⟨by omega,by omega,S,by simp [aB,r0],?_,by simp [aB]⟩;simp only [aD,seval];rw [q]
   . simp only [BZ,aa,r0,r3,r4,(f.gr S).lenq,aE,hlt,seval];have e:l.take i=l:=Xw (by omega);rw [e];exact⟨rfl,S⟩
 . exact⟨Xr _,j,Gr.refl m,by simp [aB,cK,p]⟩
theorem Cu(ks l:List Int):(norm ks l).length=l.length:=by
 induction l generalizing ks with
 |nil=>rfl|cons x a b=>show(norm _ a).length+1=_;rw [b];rfl
def kj(h:Hp)(n:Nat)(p:Value)(m:List Int):Prop:= ∃b v,p=ptrTo b/\Row h b [v,.int .i64 (ic m+1)] 1/\aw h 1 (encI .i64) v m/\n<=b/\ ∀c,ar v c->n<=c
theorem kj.mo{M:Nat->Prop}{h h':Hp}{n:Nat}{p:Value}{m:List Int}(c:kj h n p m)(g:Mo M h h')(a: ∀b,M b->b<n):kj h' n p m:=by obtain⟨b,v,e,r,s,f,d⟩:=c;exact⟨b,v,e,g.has (o:=.row _ 1) r (fun h=>by have:=a _ h;omega),s.mo g (fun c i j=>by have:=a _ j;have:=d c i;omega),f,d⟩
theorem kj.gr{m:List Int}(c:kj h n p m)(g:Gr h h'):kj h' n p m:=c.mo (M:=NoM) g.fr (fun _ h=>h.elim)
def yT(m:List Int):Prop:=m=[]\/norm [] m≠m\/256<ic m+1
theorem E3(y:OZ h0){m:List Int}(d:aw h0 1 (encI .i64) v m)(z:m.length<1000)(F:0<=ic m/\ic m<=1000000):Ret zM 36 [v] h0 fun r h'=>Gr h0 h'/\((yT m/\r=.pointer none)\/(¬yT m/\kj h' h0.n r m)):=by
 have S:=Si y;have G:=Cu [] m;by_cases s:m=[]
 . subst s;refine erA (n:=27) (rs:=[.tmp 2]) e36 ?_;simp only [BZ,aa,Xs,d.lenq,seval];exact⟨S.gr,.inl (.inl rfl)⟩
 . have A:1<=m.length:=by cases m with
    |nil=>exact absurd rfl s|cons a l=>simp
   have B: ¬((m.length:Int)=0):=(by omega);refine erA (n:=27) (rs:=[.tmp 2]) e36 ?_;simp only [BZ,d.lenq,B,seval];refine step_ret (norm_ok S.ok d z) ?_;intro v h ⟨g,sl,fr⟩;replace S:=S.call g;replace d:=d.gr g;clear g;by_cases k:norm [] m=m
   . simp only [BZ,seval];refine ae (DH S.ok sl d (by omega)) ?_;intro h g;replace S:=S.call g;replace d:=d.gr g;clear g;simp only [BZ,k,seval];have C:=S.fr.n;refine step_ret (jR S.ok (bR .i64) d (by omega)) ?_;intro t h ⟨g,i,p⟩;replace S:=S.call g;replace d:=d.gr g;clear g;have D:Fl t:=i.fl;simp only [BZ,seval];refine ae (maxInt_ok S.ok d A (by omega)) ?_;intro h g;replace S:=S.call g;replace d:=d.gr g;replace i:=i.gr g;clear g;have w:am .i64 (ic m+1)=ic m+1:=(by rw [wrap64]<;>omega);have j:=S.gr;clear S;have S:=Si j.ok;simp only [BZ,w,D,seval];refine ab (aW (by intro x e;cases e)) S ?_;clear S;intro h b S q;simp only [ac]at S;have u:=S.ld (b:=b) (o:=1) m0 rfl;by_cases f:256<ic m+1
     . simp only [BZ,aa,f,u,seval];exact⟨j.trans S.gr,.inl (.inr (.inr f))⟩
     . simp only [BZ,aa,f,u,seval];exact⟨j.trans S.gr,.inr ⟨by rintro(h|h|h)<;>contradiction,b,t,rfl,S.row m0,i.gr S.gr,Xb j.n q,fun c E=>Xb C (p c E)⟩⟩
   . simp only [BZ,seval];refine ae (DH S.ok sl d (by omega)) ?_;intro h g;replace S:=S.call g;replace d:=d.gr g;clear g;simp only [BZ,aa,k,seval];exact⟨S.gr,.inl (.inr (.inl k))⟩
def mU(h:Hp)(p:Value)(m:List Int)(n:Int):Prop:=(p=.pointer none/\m=[]/\n=0)\/((∃k,kj h k p m)/\n=ic m+1)
theorem mU.gr{h h':Hp}{p:Value}{m:List Int}{n:Int}(g:Gr h h')(c:mU h p m n):mU h' p m n:=c.imp (fun h=>h) (fun⟨⟨k,h⟩,e⟩=>⟨⟨k,h.gr g⟩,e⟩)
theorem map_ok(a:OZ h0){m:List Int}{n:Int}(c:mU h0 p m n)(d:m.length<1000000):Ret zM 180 [p] h0 fun r h'=>Gr h0 h'/\aw h' 1 (encI .i64) r m:=by
 have S:=Si a;rcases c with⟨rfl,rfl,rfl⟩|⟨⟨_,b,v,rfl,r,s,_,_⟩,rfl⟩
 . refine erA (n:=10) (rs:=[.tmp 2]) e180 ?_;simp only [BZ,aa,seval];exact⟨S.gr,.inl ⟨rfl,rfl⟩⟩
 . have e:=r.load1 (o:=0) rfl;refine erA (n:=10) (rs:=[.tmp 2]) e180 ?_;simp only [BZ,e,seval];refine step_ret (jR S.ok (bR .i64) s d) ?_;intro v h ⟨g,sl,_⟩;replace S:=S.call g;simp only [BZ,aa,seval];exact⟨S.gr,sl⟩
theorem Au(a:OZ h0){m:List Int}{n:Int}(c:mU h0 p m n):aQ zM 97 [p] h0 (.int .i64 n):=by
 have S:=Si a;rcases c with⟨rfl,rfl,rfl⟩|⟨⟨_,b,v,rfl,r,s,_,_⟩,rfl⟩
 . refine erA (n:=9) (rs:=[.tmp 2]) e97 ?_;simp only [BZ,aa,seval];exact S.gr
 . have d:=r.load1 (o:=1) rfl;refine erA (n:=9) (rs:=[.tmp 2]) e97 ?_;simp only [BZ,aa,d,seval];exact S.gr
def rE(h:Hp)(p:Value)(a w:Int)(c:Bool):Prop:=(p=.pointer none/\a=0/\w=0/\c=false)\/ ∃b x y,p=ptrTo b/\Row h b [.int .i64 a,.int .i64 w,x,y] 1/\c=true
theorem rE.gr{h h':Hp}{p:Value}{a w:Int}{d:Bool}(g:Gr h h')(c:rE h p a w d):rE h' p a w d:=c.imp (fun h=>h) (fun⟨b,x,y,e,r,n⟩=>⟨b,x,y,e,r.gr g,n⟩)
theorem jT(d:OZ h0){a:Int}{e:Bool}(c:rE h0 p a w e):aQ zM 102 [p] h0 (.int .i64 a):=by
 have S:=Si d;rcases c with⟨rfl,rfl,rfl,rfl⟩|⟨b,x,y,rfl,r,rfl⟩
 . refine erA (n:=9) (rs:=[.tmp 2]) e102 ?_;simp only [BZ,aa,seval];exact S.gr
 . have f:=r.load1 (o:=0) rfl;refine erA (n:=9) (rs:=[.tmp 2]) e102 ?_;simp only [BZ,aa,f,seval];exact S.gr
theorem jN(d:OZ h0){a:Int}{e:Bool}(c:rE h0 p a w e):aQ zM 103 [p] h0 (.int .i64 w):=by
 have S:=Si d;rcases c with⟨rfl,rfl,rfl,rfl⟩|⟨b,x,y,rfl,r,rfl⟩
 . refine erA (n:=9) (rs:=[.tmp 2]) e103 ?_;simp only [BZ,aa,seval];exact S.gr
 . have f:=r.load1 (o:=1) rfl;refine erA (n:=9) (rs:=[.tmp 2]) e103 ?_;simp only [BZ,aa,f,seval];exact S.gr
theorem allB_ok(g:OZ h0){l:List Bool}(j:aw h0 1 encB v l)(m:l.length<1000):aQ zM 101 [v] h0 (.bool (l.all id)):=by
 have S:=Si g;refine erA (n:=14) (rs:=[.tmp 2]) e101 ?_;simp only [BZ,j.lenq,seval];refine aX (fun(i:Nat) d h=>i<=l.length/\(l.take i).all id=true/\Gr h0 h/\d 5=v/\d 6=.int .i64 l.length/\d 7=.int .i64 i) (fun i=>l.length-i) ?_ 0 _ _ ?_
 . clear S;intro i k d h ⟨hi,ht,S,r5,r6,r7⟩;by_cases hlt:i<l.length
   . obtain⟨c,o,a,b⟩:=(j.gr S).ix (kd:=.i64) Di hlt;have w:am .i64 ((i:Int)+1)=((i+1:Nat):Int):=(by rw [wrap64]<;>omega);cases f:l[i]with
     | true=>simp only [BZ,r5,r6,r7,aE,hlt,a,b,encB,f,w,seval];refine k (i+1) _ _ (by omega) ⟨by omega,?_,S,by simp [aB,r5,r6]⟩;rw [Xg hlt,List.all_append,ht,f];rfl| false=>have e:l.all id=false:=(by rw [List.all_eq_false];exact⟨_,Xk hlt,by simp [f]⟩);simp only [BZ,aa,r5,r6,r7,aE,hlt,a,b,encB,f,seval];rw [e];exact⟨rfl,S⟩
   . simp only [BZ,aa,r6,r7,aE,hlt,seval];rw [Xw (by omega)]at ht;rw [ht];exact⟨rfl,S⟩
 . exact⟨Xj _,rfl,Gr.refl g,by simp [aB,cK]⟩
theorem BV(f:OZ h0){b:Gra}{m:List Int}{n:Int}(c:aP h0 i p b)(d:mU h0 q m n)(k:1<=b.nodes)(j:m.length<1000000):aQ zM 95 [p,q] h0 (.bool (decide (m.length=b.nodes))):=by
 have S:=Si f;have a:(0:Int)<(b.nodes:Int):=by omega
 have e:(b.nodes:Int)>0:=a;refine erA (n:=16) (rs:=[.tmp 4]) e95 ?_;simp only [BZ,seval];refine ae (bC S.ok c) ?_;intro h g;replace S:=S.call g;replace c:=c.gr g;replace d:=d.gr g;clear g;simp only [BZ,a,seval];refine step_ret (map_ok S.ok d j) ?_;intro v h ⟨g,sl⟩;replace S:=S.call g;replace c:=c.gr g;replace d:=d.gr g;clear g;simp only [BZ,sl.lenq,seval];refine ae (bC S.ok c) ?_;intro h g;replace S:=S.call g;replace c:=c.gr g;replace d:=d.gr g;clear g;simp only [BZ,aa,seval];refine⟨?_,S.gr⟩;congr 1;by_cases h:m.length=b.nodes
 . simp [h]
 . have: ¬((m.length:Int)=(b.nodes:Int)):=(by omega);simp [h,this]
theorem xz(s:OZ h0){r:Value}{f:Gra}{m:List Int}{n a:Int}{i:Bool}{t:Nat}(c:aP h0 t p f)(d:mU h0 q m n)(e:rE h0 r a w i)(u:1<=f.nodes)(v:m.length<1000000):aQ zM 42 [p,q,r] h0 (.bool (decide (m.length=f.nodes)&&i&&decide (a=n)&&decide (w=f.arcs.length))):=by
 have S:=Si s;have z: ∀E:Env,qW E 34=true-> ∀x y,ce E .neq 34 x y r (.pointer none)=some (.bool i):=by
  intro E j x y;rcases e with⟨rfl,_,_,rfl⟩|⟨b,_,_,rfl,_,rfl⟩
  . exact n_pnil j
  . exact n_ptr j
 refine erA (n:=24) (rs:=[.tmp 6]) e42 ?_;simp only [BZ,seval];refine ae (BV S.ok c d u v) ?_;intro h g;replace S:=S.call g;replace c:=c.gr g;replace d:=d.gr g;replace e:=e.gr g;clear g;simp only [BZ,z zM t34.2.2.2.2.1,seval];refine ae (jT S.ok e) ?_;intro h g;replace S:=S.call g;replace c:=c.gr g;replace d:=d.gr g;replace e:=e.gr g;clear g;simp only [BZ,seval];refine ae (Au S.ok d) ?_;intro h g;replace S:=S.call g;replace c:=c.gr g;replace d:=d.gr g;replace e:=e.gr g;clear g;simp only [BZ,seval];refine ae (jN S.ok e) ?_;intro h g;replace S:=S.call g;replace c:=c.gr g;replace d:=d.gr g;replace e:=e.gr g;clear g;simp only [BZ,seval];refine ae (iW S.ok c) ?_;intro h g;replace S:=S.call g;replace c:=c.gr g;replace d:=d.gr g;replace e:=e.gr g;clear g;simp only [BZ,seval];refine ab (bZ (by exact t100.1) (by exact YB) (by decide) (by rfl)) S ?_;clear S;intro h A S k;simp only [LC,bJ,cd,ac,Xp,Xo,Xq,Xv,seval]at S;simp only [BZ,seval];refine ae (allB_ok (l:=[decide (m.length=f.nodes),i,decide (a=n),decide (w=f.arcs.length)]) S.ok (.inr ⟨A,0,none,4,rfl,Xr _,S.lds (o:=0) (n:=4) m0 (lbt rfl)⟩) (by simp)) ?_;intro h g;replace S:=S.call g;simp only [BZ,aa,seval];exact⟨by simp [Bool.and_assoc],S.gr⟩
def SlW(h:Hp)(kd:IntKind)(v:Value)(xs:List Int):Prop:=(v=.slice none 0 0/\xs=[])\/ ∃b o c,v=.slice (some ⟨b,o,none⟩) xs.length c/\xs.length<=c/\h.load b o (xs.length*1)=some (xs.flatMap (encI kd))
theorem SlW.sl(s:SlW h kd v xs):aw h 1 (encI kd) v xs:=s.imp (fun h=>h) (fun⟨b,o,c,a,d,e⟩=>⟨b,o,none,c,a,d,e⟩)
theorem SlW.low{kd':IntKind}{t e:TypeId}(g:E.und t=some (.slice e))(j:E.sz e=some 1)(s:SlW h kd v xs)(a:n<=xs.length):
 ∃v',iq E t v none (some (.int kd' (n:Int))) none=some v'/\aw h 1 (encI kd) v' (xs.take n)/\ ∀c,ar v' c->ar v c:=by
 have f: ∀n:Nat,jt (n:Int)=some n:=fun n=>rfl;rcases s with⟨rfl,rfl⟩|⟨b,o,c,rfl,k,p⟩
 . have:n=0:=(by simpa using a);subst this;refine⟨.slice none 0 0,?_,.inl ⟨rfl,rfl⟩,fun c d=>d⟩;simp only [iq,g,ie,gY,f,j];rfl
 . refine⟨.slice (some ⟨b,o,none⟩) n c,?_,.inr ⟨b,o,none,c,?_,?_,?_⟩,fun c d=>d⟩
   . simp only [iq,g,ie,gY,f,Nat.ble_eq_true_of_le (Xb a k),cond_true,j,Option.isSome_none,cond_false,Nat.sub_zero,iu,Xp,Nat.add_zero];by_cases d:c=0
     . subst d;rfl
     . rw [show Nat.beq c 0=false by cases c with|zero=>exact absurd rfl d|succ c=>rfl];rfl
   . rw [XK,Yv a]
   . rw [XK,Yv a];exact Xb a k
   . rw [XK,Yv a];have:=rM p (i:=0) (m:=n*1) (by omega);rw [Nat.add_zero,Xz]at this;rw [this];congr 1;refine List.ext_getElem? fun i=>?_;have e4: ∀l:List Int,l.flatMap (encI kd)=l.map fun x=>.int kd x:=fun l=>(by rw [XI,XX,XI];rfl);rw [e4,e4,Xq,List.map_take]
def iota(k:Nat):List Int:=(zO k).map fun(i:Nat)=>(i:Int)
theorem CX(k:Nat):(iota k).length=k:=by simp [iota]
theorem AF(k:Nat):iota (k+1)=iota k++[(k:Int)]:=by simp [iota,Yt]
theorem pos_app(l:List Int)(x y:Int):pos (l++[y]) x=match pos l x with|some i=>some i|none=>if x=y then some l.length else none:=by
 induction l with
 |nil=>simp [pos]| cons z a b=>
   rw [Yl,pos,pos];by_cases h:x=z
   . rw [if_pos h,if_pos h]
   . rw [if_neg h,if_neg h,b];cases pos a x with
     |some i=>rfl|none=>by_cases c:x=y<;>simp [c]
theorem C8(k j:Nat):pos (iota k) (j:Int)=if j<k then some j else none:=by
 induction k with
 |zero=>rfl| succ k a=>
   rw [AF,pos_app,a,CX];by_cases h:j<k
   . rw [if_pos h,if_pos (show j<k+1 by omega)]
   . rw [if_neg h];by_cases b:j=k
     . subst b;simp
     . have: ¬((j:Int)=(k:Int)):=(by omega);simp only [this,if_false];rw [if_neg (by omega)]
theorem pos_lt(h:pos l x=some i):i<l.length:=by
 induction l generalizing i with
 |nil=>cases h
 | cons y b c=>
   rw [pos]at h;by_cases e:x=y
   . rw [if_pos e]at h;cases h;simp
   . rw [if_neg e]at h;cases a:pos b x with
     |none=>rw [a]at h;cases h
     |some j=>rw [a]at h;cases h;have:=c a;simp;omega
theorem norm_idem(ks l:List Int):norm (iota ks.length) (norm ks l)=norm ks l:=by
 induction l generalizing ks with
 |nil=>rfl| cons x c a=>
   rw [norm,norm];unfold qo qc;cases b:pos ks x with
   | some i=>simp only [];rw [C8,if_pos (pos_lt b)];simp only [];rw [a]| none=>simp only [];rw [C8,if_neg (by omega)];simp only [];rw [CX,<-AF];have:=a (ks++[x]);rw [XR,Yw]at this;rw [this]
theorem norm_bd(ks l:List Int): ∀x∈norm ks l,0<=x/\x<=((ks.length+l.length:Nat):Int):=by
 induction l generalizing ks with
 |nil=>intro x a;cases a
 | cons y e b=>
   intro x a;rw [norm]at a;rcases List.mem_cons.1 a with rfl|a
   . have:qo ks y<=ks.length:=by
      unfold qo;cases c:pos ks y with
      |some i=>exact Nat.le_of_lt (pos_lt c)|none=>exact Xr _
     simp;omega
   . have d:=b _ x a;have:(qc ks y).length<=ks.length+1:=(by unfold qc;cases pos ks y<;>simp);simp at d⊢;omega
theorem fold_bd(K:Int)(l:List Int)(a:Int)(b:0<=a/\a<=K)(h: ∀x∈l,0<=x/\x<=K):0<=l.foldl max a/\l.foldl max a<=K:=by
 induction l generalizing a with
 |nil=>exact b| cons x e c=>
   have f:=h x (by simp);exact c (max a x) (by omega) (fun y d=>h y (by simp [d]))
theorem lmax_bd{K:Int}(a:0<=K)(h: ∀x∈l,0<=x/\x<=K):0<=ic l/\ic l<=K:=by
 cases l with
 |nil=>exact⟨Int.le_refl _,a⟩|cons x b=>exact fold_bd K b x (h x (by simp)) (fun y c=>h y (by simp [c]))
theorem aw.blt{a:Type}{enc:a->List Value}{xs:List a}(f:OZ h)(s:aw h k enc v xs)(d:ar v c):c<h.n:=by
 rcases s with⟨rfl,_⟩|⟨b,o,_,_,rfl,_,g⟩
 . exact d.elim
 . have:b=c:=d;subst this;cases e:h.get b with
   |none=>simp [Hp.load,e]at g|some x=>exact iG f e
theorem uR(h:z<256):am .u8 (z:Int)=(z:Int):=by
 show am .u8 (.ofNat z)=_;unfold am;simp only [hf,sgn,pw];have:Nat.blt z 256=true:=by rw [Nat.blt_eq];exact h
 rw [this];rfl
section
variable{E:Env}{t:TypeId}{p q:Operand}{x y i:Nat}
theorem bits8(op:BinOp)(a:x<256)(b:y<256):jL op .u8 (x:Int) (y:Int)=match op with
 | .and=>some (am .u8 ((YC x y:Nat):Int))| .or=>some (am .u8 ((Nat.lor x y:Nat):Int))| .xor=>some (am .u8 ((Nat.xor x y:Nat):Int))| .andNot=>some (am .u8 ((Nat.xor x (YC x y):Nat):Int))|_=>none:=by
 show jL op .u8 (.ofNat x) (.ofNat y)=_;have c:Nat.blt x (pw .u8)=true:=by rw [Nat.blt_eq];exact a
 have d:Nat.blt y (pw .u8)=true:=by rw [Nat.blt_eq];exact b
 unfold jL;simp only [c,d,Bool.and_self,cond_true];cases op<;>rfl
theorem b_and8(a:x<256)(b:y<256):ce E .and t p q (.int .u8 (x:Int)) (.int .u8 (y:Int))=some (.int .u8 ((x&&& y:Nat):Int)):=by show(bif kL .u8 .u8 then(jL .and .u8 (x:Int) (y:Int)).map (Value.int .u8 ·)else none)=_;rw [bits8 .and a b];simp only [];rw [show YC x y=x&&& y from rfl,uR (XS X7 a)];rfl
theorem b_or8(a:x<256)(b:y<256):ce E .or t p q (.int .u8 (x:Int)) (.int .u8 (y:Int))=some (.int .u8 ((x|||y:Nat):Int)):=by show(bif kL .u8 .u8 then(jL .or .u8 (x:Int) (y:Int)).map (Value.int .u8 ·)else none)=_;rw [bits8 .or a b];simp only [];rw [show Nat.lor x y=x|||y from rfl,uR (Nat.or_lt_two_pow (n:=8) a b)];rfl
theorem AS(a:x<256)(b:y<256):ce E .andNot t p q (.int .u8 (x:Int)) (.int .u8 (y:Int))=some (.int .u8 ((x ^^^(x&&& y):Nat):Int)):=by show(bif kL .u8 .u8 then(jL .andNot .u8 (x:Int) (y:Int)).map (Value.int .u8 ·)else none)=_;rw [bits8 .andNot a b];simp only [];rw [show Nat.xor x (YC x y)=x ^^^(x&&& y)from rfl,uR (Ya (n:=8) a (XS X7 a))];rfl
theorem b_shl8{k:IntKind}(a:i<8):ce E .shl t p q (.int .u8 1) (.int k (i:Int))=some (.int .u8 ((2 ^i:Nat):Int)):=by
 have:i=0\/i=1\/i=2\/i=3\/i=4\/i=5\/i=6\/i=7:=by omega
 rcases this with rfl|rfl|rfl|rfl|rfl|rfl|rfl|rfl<;>rfl
end
theorem pow8(h:i<8):2 ^i<256:=Nat.pow_lt_pow_right (by decide) h
theorem and_pow{x:Nat}:(x&&& 2 ^i=0)↔x.testBit i=false:=by
 constructor
 . intro h;have:=congrArg (fun z=>z.testBit i) h;simpa [Yd,Yg]using this
 . intro h;refine Nat.eq_of_testBit_eq fun j=>?_;rw [Yd,Yg,Nat.zero_testBit];by_cases e:i=j
   . subst e;rw [h];rfl
   . simp [e]
def setB(x i:Nat):Nat:=(x ^^^(x&&& 2 ^i))|||2 ^i
theorem setB_at(x i j:Nat):(setB x i).testBit j=if j=i then true else x.testBit j:=by
 unfold setB;rw [Nat.testBit_or,Nat.testBit_xor,Yd,Yg];by_cases e:j=i
 . subst e;simp
 . have a: ¬i=j:=fun h=>e h.symm;simp [e,a]
theorem setB_lt{x:Nat}(a:x<256)(b:i<8):setB x i<256:=
 Nat.or_lt_two_pow (n:=8) (Ya (n:=8) a (XS X7 a)) (pow8 b)
def jm(n:Nat)(B:Nat->Nat):List Value:=(zO n).map fun j=>.int .u8 (B j:Nat)
theorem xP:(jm n B).length=n:=by simp [jm]
theorem wg(h:j<n):(jm n B)[j]? =some (.int .u8 (B j:Nat)):=lH (F:=fun j=>Value.int .u8 ((B j:Nat):Int)) h
theorem yj{x:Nat}:(jm n B).set j (.int .u8 (x:Nat))=jm n (d9 B j x):=by have:=kW (N:=n) (k:=j) (F:=fun j=>Value.int .u8 ((B j:Nat):Int)) (F':=fun u=>Value.int .u8 ((d9 B j x u:Nat):Int)) (fun i _ a=>by simp [d9,a]);unfold jm;rw [<-this];simp [d9]
structure eJ(h:Hp)(bp bb rows wide long:Nat)(B:Nat->Nat):Prop where
 r:Row h bp [.int .i64 rows,.int .i64 wide,.int .i64 long,.slice (some ⟨bb,0,none⟩) (rows*long) (rows*long)] 1
 b:Row h bb (jm (rows*long) B) 1
 lt: ∀j,B j<256
theorem eJ.gr{h h':Hp}{d e a b c:Nat}{B:Nat->Nat}(m:eJ h d e a b c B)(g:Gr h h'):eJ h' d e a b c B:=⟨m.r.gr g,m.b.gr g,m.lt⟩
theorem eJ.bits(m:eJ h d e a b c B):rE h (ptrTo d) a b true:=.inr ⟨d,_,_,rfl,m.r,rfl⟩
def gX(B:Nat->Nat)(a r i:Nat):Bool:=(B (r*a+i/8)).testBit (i%8)
theorem BW(g:i/8<b)(j:c/8<b):gX (d9 B (r*b+i/8) (setB (B (r*b+i/8)) (i%8))) b d c=if d=r/\c=i then true else gX B b d c:=by
 unfold gX d9;by_cases e:d*b+c/8=r*b+i/8
 . rw [if_pos e,setB_at];have k:d=r:=(by have a:(d*b+c/8)/b=(r*b+i/8)/b:=(by rw [e]);rw [Nat.mul_comm d,Nat.mul_comm r,Nat.mul_add_div (by omega),Nat.mul_add_div (by omega),Nat.div_eq_of_lt g,Nat.div_eq_of_lt j]at a;omega);subst k;have e8:c/8=i/8:=(by omega);rw [e];by_cases f:c%8=i%8
   . rw [if_pos f,if_pos ⟨rfl,by omega⟩]
   . rw [if_neg f,if_neg (fun h=>f (by rw [h.2]))]
 . rw [if_neg e,if_neg (fun h=>e (by rw [h.1,h.2]))]
theorem bmNew_ok(t:OZ h0){w:Nat}(u:a<=100)(B:w<=1000):Ret zM 96 [.int .i64 (a:Nat),.int .i64 (w:Nat)] h0 fun r h'=>Gr h0 h'/\ ∃c d,r=ptrTo c/\h0.n<=c/\h0.n<=d/\c≠d/\eJ h' c d a w ((w+7)/8) (fun _=>0):=by
 have S:=Si t;have k: ¬((a:Int)<0):=by omega
 have l: ¬((w:Int)<0):=by omega
 have m: ¬((67108864:Int)<(w:Int)):=by omega
 have o:am .i64 ((w:Int)+8)=(w:Int)+8:=by rw [wrap64]<;>omega
 have p:am .i64 ((w:Int)+8-1)=((w+7:Nat):Int):=by rw [wrap64]<;>omega
 have g:(w+7)/8<=126:=by omega
 have i:am .i64 ((((w+7:Nat):Int)).tdiv 8)=(((w+7)/8:Nat):Int):=by rw [Yj (by omega),show(((w+7:Nat):Int)/8)=(((w+7)/8:Nat):Int) by omega,wrap64]<;>omega
 generalize C:(w+7)/8=K at g i;have D:a*K<=100*126:=Nat.mul_le_mul u g;have q:am .i64 ((a:Int)*(K:Int))=((a*K:Nat):Int):=by rw [<-Int.natCast_mul,wrap64]<;>omega
 have mk: ∀(n:Nat),bJ [Value.int .u8 0] n=jm n (fun _=>0):=fun n=>by rw [pQ];unfold jm;rw [XZ,XA];rfl
 by_cases s:0<(K:Int)
 . have v:(268435456:Int).tdiv (K:Int)=((268435456/K:Nat):Int):=(by rw [Yj (by decide)];rfl);have E:268435456/126<=268435456/K:=Nat.div_le_div_left g (by omega);have F:268435456/K<=268435456:=Nat.div_le_self _ _;have G:(268435456/126:Nat)=2130440:=rfl;have y:am .i64 ((268435456:Int).tdiv (K:Int))=(268435456:Int).tdiv (K:Int):=(by rw [v,wrap64]<;>omega);have z: ¬((268435456:Int).tdiv (K:Int)<(a:Int)):=(by omega);have A:(K:Int)≠0:=(by omega);refine erA (n:=37) (rs:=[.tmp 4]) e96 ?_;simp only [BZ,k,l,m,o,p,i,y,q,s,z,mV (n:=8) (by decide),mV (n:=(K:Int)) A,seval];refine ab (mJ (by exact t22.1) (by exact e5E) (by omega) (by omega)) S ?_;clear S;intro h d S b;rw [Xu,mk]at S;simp only [BZ,Xu,seval];refine ab (aW (by intro x e;cases e)) S ?_;clear S;intro h c S f;simp only [ac]at S;simp only [BZ,aa,seval];have j:=S.apart;exact⟨S.gr,c,d,rfl,by have:=S.fr.n;omega,b,fun e=>(by subst e;simp [keys]at j),⟨S.row m0,S.row m1,fun _=>Nat.zero_lt_succ _⟩⟩
 . refine erA (n:=37) (rs:=[.tmp 4]) e96 ?_;simp only [BZ,k,l,m,o,p,i,q,s,mV (n:=8) (by decide),seval];refine ab (mJ (by exact t22.1) (by exact e5E) (by omega) (by omega)) S ?_;clear S;intro h d S b;rw [Xu,mk]at S;simp only [BZ,Xu,seval];refine ab (aW (by intro x e;cases e)) S ?_;clear S;intro h c S f;simp only [ac]at S;simp only [BZ,aa,seval];have j:=S.apart;exact⟨S.gr,c,d,rfl,by have:=S.fr.n;omega,b,fun e=>(by subst e;simp [keys]at j),⟨S.row m0,S.row m1,fun _=>Nat.zero_lt_succ _⟩⟩
theorem set1_ok(m:OZ h0)(R:Row h0 a (jm n B) 1)(c:j<n)(hB:B j<256)(p:i<8)(q:h0.load d 0 1=some [.bool true])(e:d≠a):Ret zM 100 [.pointer (some ⟨a,j,none⟩),.int .u8 ((2 ^i:Nat):Int),ptrTo d] h0 fun r h'=>Mo (· =a) h0 h'/\r=.bool true/\Row h' a (jm n (d9 B j (setB (B j) i))) 1:=by
 have S:=St.init1 m (o:=.row (jm n B) 1) R;have k:=S.ld (b:=a) (o:=j) m0 (wg c);have l:=pow8 p;have s:(B j ^^^(B j&&& 2 ^i))<256:=Ya (n:=8) hB (XS X7 hB);refine erA (n:=19) (rs:=[.tmp 5]) e100 ?_;simp only [BZ,k,AS hB l,seval];refine az (aA S (i:=0) rfl Tryz.t5.2.2.1 aM (by rw [xP];exact c) ono) ?_;clear S k;rintro h ⟨S,t⟩;simp only [LC]at S;rw [yj]at S;have f:=S.ld (b:=a) (o:=j) m0 (wg c);have v:d9 B j (B j ^^^(B j&&& 2 ^i)) j=(B j ^^^(B j&&& 2 ^i)):=by simp [d9]
 rw [v]at f;have g:=S.old q e;simp only [BZ,g,f,b_or8 s l,seval];refine az (aA S (i:=0) rfl Tryz.t5.2.2.1 aM (by rw [xP];exact c) ono) ?_;clear S f;rintro h ⟨S,t⟩;simp only [LC]at S;rw [show(((B j ^^^(B j&&& 2 ^i))|||2 ^i:Nat):Int)=((setB (B j) i:Nat):Int)from rfl,yj]at S;have w:d9 (d9 B j (B j ^^^(B j&&& 2 ^i))) j (setB (B j) i)=d9 B j (setB (B j) i):=by funext u;unfold d9;split<;>rfl
 rw [w]at S;simp only [BZ,aa,seval];exact⟨S.fr,S.row m0⟩
section
variable{h0:Hp}{bp bb rows wide long:Nat}{B:Nat->Nat}
theorem uu(e:r<rows)(g:i<wide)(a:rows<=100)(b:wide<=1000)(c:long=(wide+7)/8):am .i64 ((r:Int)*(long:Int))=((r*long:Nat):Int)/\am .i64 ((i:Int).tdiv 8)=((i/8:Nat):Int)/\am .i64 (((r*long:Nat):Int)+((i/8:Nat):Int))=((r*long+i/8:Nat):Int)/\(i:Int).tmod 8=((i%8:Nat):Int)/\r*long+i/8<rows*long/\i/8<long/\i%8<8:=by
 have f:long<=126:=by omega
 have h:r*long<=100*126:=Nat.mul_le_mul (by omega) f;have d:i/8<long:=by omega
 have j:r*long+long<=rows*long:=by rw [<-Nat.succ_mul];exact Yc _ e
 refine⟨by rw [<-Int.natCast_mul,wrap64]<;>omega,?_,by rw [wrap64]<;>omega,rfl,by omega,d,by omega⟩;rw [show(i:Int).tdiv 8=((i/8:Nat):Int)from rfl,wrap64]<;>omega
theorem bSet_ok(w:OZ h0)(m:eJ h0 bp bb rows wide long B)(l:bp≠bb)(D:r<rows)(E:i<wide)(b:rows<=100)(d:wide<=1000)(e:long=(wide+7)/8):Ret zM 39 [ptrTo bp,.int .i64 (r:Nat),.int .i64 (i:Nat),.bool true] h0 fun v h'=>Mo (· =bb) h0 h'/\v=.bool true/\eJ h' bp bb rows wide long (d9 B (r*long+i/8) (setB (B (r*long+i/8)) (i%8))):=by
 obtain⟨F,G,H,I,x,n6,s⟩:=uu D E b d e;have J: ∀{h:Hp} {p:Nat},Gr h0 h->h.load p 0 1=some [.bool true]->p≠bb->Ret zM 99 [ptrTo bp,.int .i64 (r:Nat),.int .i64 (i:Nat),.func (.func 100) #[] #[ptrTo p]] h fun v h'=>Mo (· =bb) h h'/\v=.bool true/\Row h' bb (jm (rows*long) (d9 B (r*long+i/8) (setB (B (r*long+i/8)) (i%8)))) 1:=by
  intro h p g K L;have S:=Si g.ok;have k:=m.gr g;have N: ¬(r:Int)<0:=by omega
  have O: ¬(rows:Int)<=(r:Int):=by omega
  have P: ¬(i:Int)<0:=by omega
  have Q: ¬(wide:Int)<=(i:Int):=by omega
  have T:=k.r.load1 (o:=2) rfl;have U:=k.r.load1 (o:=3) rfl;have V:=k.r.lt g.ok;refine erA (n:=46) (rs:=[.tmp 8]) e99 ?_;simp only [BZ,N,seval];refine ae (jT S.ok k.bits) ?_;intro h1 t;replace S:=S.call t;simp only [BZ,O,P,seval];refine ae (jN S.ok (k.gr t).bits) ?_;intro W y;replace S:=S.call y;have a:=t.trans y;have X:=a.load T;have Y:=a.load U;simp only [BZ,Q,seval];refine ao (av rfl) (q:=0) (ps:=[]) (by kernel_rfl) ?_;simp only [BZ,cls,X,Y,F,G,H,I,x,mV (n:=8) (by decide),j8 (n:=8) (by decide),b_shl8 s,seval];refine bO (set1_ok S.ok (k.b.gr a) x (k.lt _) s (a.load K) L) ?_;rintro v Z ⟨z,rfl,R3⟩;have vv:leaves W Z bp=true:=qf (z.get bp (Xc V a.n) l);simp only [BZ,cls,aa,seval];exact⟨(a.fr (M:=(· =bb))).trans z (fun c u=>.inl u),R3⟩
 have S:=Si w;have zb:=m.b.lt w;refine erA (n:=14) (rs:=[.tmp 8]) e39 ?_;simp only [BZ,seval];refine ab (bz (by exact oH)) S ?_;clear S;intro h p S A;simp only [BZ,seval];have k7:=S.fr.n;refine step_ret (J S.gr (S.ld m0 rfl) (by omega)) ?_;rintro v h ⟨f,rfl,R⟩;simp only [BZ,aa,seval];have C:Mo (· =bb) h0 h:=(S.gr.fr (M:=(· =bb))).trans f (fun c u=>.inl u);refine⟨C,C.has (o:=.row _ 1) m.r l,R,fun j=>?_⟩;unfold d9
 split
 . exact setB_lt (m.lt _) s
 . exact m.lt _
end
theorem jk:(zO (n+1)).filter f=(zO n).filter f++if f n=true then [n]else []:=by
 rw [Yt,List.filter_append];congr 1;by_cases h:f n=true
 . simp [h]
 . simp [h]
theorem tG(h:f i=true): ∀n,i<n->((zO n).filter f)[((zO i).filter f).length]? =some i:=by
 intro n
 induction n with
 |zero=>intro a;omega| succ n b=>
   intro a;rw [jk];by_cases c:i<n
   . have:=b c;rw [XB (List.getElem?_eq_some_iff.1 this).1];exact this
   . have:i=n:=(by omega);subst this;rw [XH (Xr _),if_pos h];simp
theorem tF:((zO n).filter f).length<=n:=by have:=List.length_filter_le f (zO n);rwa [XA]at this
theorem Fs(q:OZ h0){a b:Int}(c:aw h0 1 (encI .i64) v [a,b]):aQ zM 285 [.func (.func 215) #[] #[],v] h0 (.int .i64 (wy (wy (wy a)+wy b))):=by
 have S:=Si q;have k:=uy a;have x:=uy b;have y:=uy (wy a);have r:am .i64 1=1:=rfl;have s:am .i64 2=2:=rfl;have t:am .i64 (wy a)=wy a:=by rw [wrap64]<;>omega
 have u:wy (wy a)=wy a:=wy_id k.1 k.2;have w:am .i64 (wy a+wy b)=wy a+wy b:=by rw [wrap64]<;>omega
 refine erA (n:=22) (rs:=[.tmp 4]) e285 ?_;simp only [BZ,Xs,c.lenq,seval];rw [cE];obtain⟨l,m,d,e⟩:=c.ix (kd:=.i64) (bR .i64) (i:=0) (by simp);replace d:nw (some 1) v (.int .i64 0)=some (.pointer (some ⟨l,m,none⟩)):=d;replace e:h0.load l m 1=some [.int .i64 a]:=e;simp only [BZ,d,e,seval];refine ae (nJ S.ok) ?_;intro h g;replace S:=S.call g;simp only [BZ,t,Int.zero_add,seval];refine ae (nJ S.ok) ?_;intro h g;replace S:=S.call g;simp only [BZ,r,u,Int.zero_add,seval];rw [cE];obtain⟨o,p,f,j⟩:=(c.gr S.gr).ix (kd:=.i64) (bR .i64) (i:=1) (by simp);replace f:nw (some 1) v (.int .i64 1)=some (.pointer (some ⟨o,p,none⟩)):=f;replace j:h.load o p 1=some [.int .i64 b]:=j;simp only [BZ,f,j,seval];refine ae (nJ S.ok) ?_;intro h g;replace S:=S.call g;simp only [BZ,w,seval];refine ae (nJ S.ok) ?_;intro h g;replace S:=S.call g;simp only [BZ,s,seval];rw [cE];simp only [BZ,aa,seval];exact S.gr
theorem add_ok(e:OZ h0){a b:Int}:aQ zM 280 [.int .i64 a,.int .i64 b] h0 (.int .i64 (wy (wy (wy a)+wy b))):=by have S:=Si e;refine erA (n:=9) (rs:=[.tmp 4]) e280 ?_;simp only [BZ,seval];refine ab (bZ (by exact t23.1) (by exact Yh) (by decide) (by rfl)) S ?_;clear S;intro h c S d;simp only [LC,bJ,cd,ac,Xp,Xo,Xq,Xv,seval]at S;simp only [BZ,seval];refine ae (Fs S.ok (a:=a) (b:=b) (.inr ⟨c,0,none,2,rfl,Xr _,S.lds (b:=c) (o:=0) (n:=2*1) m0 (lbt rfl)⟩)) ?_;intro h g;replace S:=S.call g;simp only [BZ,aa,seval];exact S.gr
structure ia(h:Hp)(nb:Nat)(p:Value)(N:Nat)(m:List Int)(c:Nat->Nat):Prop where
 at0:kj h nb p m
 len:m.length=N
 val: ∀v,v<N->m.getD v 0=(c v:Int)
theorem ia.gr{h h':Hp}{a N:Nat}{p:Value}{m:List Int}{c:Nat->Nat}(x:ia h a p N m c)(g:Gr h h'):ia h' a p N m c:=⟨x.at0.gr g,x.len,x.val⟩
theorem ia.keep{h h':Hp}{a N:Nat}{p:Value}{m:List Int}{c:Nat->Nat}(d:OZ h)(x:ia h a p N m c)(g:eZ h h'):ia h' a p N m c:=by obtain⟨b,v,rfl,r,s,e,f⟩:=x.at0;exact⟨⟨b,v,rfl,g.row d r,s.keep d g,e,f⟩,x.len,x.val⟩
theorem uY(e:OZ h0){f:Nat}{m:List Int}{c:Nat->Nat}(x:ia h0 f p N m c){v:Nat}(g:v<N):aQ zM 57 [p,.int .i64 (v:Nat)] h0 (.int .i64 (c v:Nat)):=by
 have S:=Si e;obtain⟨b,t,rfl,r,s,_,_⟩:=x.at0;have h:=r.load1 (o:=0) rfl;have u:=x.len;have j: ¬(v:Int)<0:=by omega
 have k: ¬(m.length:Int)<=(v:Int):=by omega
 obtain⟨d,o,l,a⟩:=s.ix (kd:=.i64) (bR .i64) (i:=v) (by omega);have q:m[v]'(by omega)=(c v:Int):=by rw [<-x.val v g,Xa,Xd (by omega)];rfl
 rw [q]at a;replace a:h0.load d o 1=some [.int .i64 (c v:Nat)]:=a;refine erA (n:=27) (rs:=[.tmp 4]) e57 ?_;simp only [BZ,aa,j,h,s.lenq,k,l,a,seval];exact S.gr
theorem inside_ok(y:OZ h0){B l N:Nat}{d:Gra}{m:List Int}{c:Nat->Nat}(g:Good d)(C:aP h0 z (ptrTo l) d)(x:ia h0 B p d.nodes m c)(j:a<d.arcs.length):aQ zM 184 [ptrTo l,p,.int .i64 (k:Nat),.int .i64 (a:Nat)] h0 (.bool (decide (c (d.arcs.getD a default).s=k/\c (d.arcs.getD a default).t=k))):=by
 have S:=Si y;have I:Fl p:=by obtain⟨b,_,rfl,_⟩:=x.at0;exact bA
 have q:d.arcs[a]=d.arcs.getD a default:=by simp [Xa,j]
 have D:d.arcs.getD a default∈d.arcs:=by rw [<-q];exact Xk j
 obtain⟨r,s,_⟩:=g.arcs _ D;refine erA (n:=34) (rs:=[.tmp 8]) e184 ?_;simp only [BZ,seval];refine step_ret (jb S.ok C j) ?_;rintro J h ⟨E,rfl⟩;replace S:=S.call E;rw [q];generalize d.arcs.getD a default=A at r s;simp only [BZ,cQ,seval];refine ab au S ?_;clear S;intro h t S u;simp only [BZ,seval];refine az (stA S (i:=0) t135.2.1) ?_;clear S;rintro h ⟨S,F⟩;clear F;simp only [LC,ac,lay,Xh,Xi,seval]at S;simp only [BZ,S.ld (b:=t) (o:=0) m0 rfl,seval];refine ae (uY S.ok (x.gr S.gr) r) ?_;intro K G;replace S:=S.call G;by_cases v:c A.s=k
 . have e:(c A.s:Int)=(k:Int):=(by omega);simp only [BZ,e,S.ld (b:=t) (o:=1) m0 rfl,seval];refine ae (uY S.ok (x.gr S.gr) s) ?_;intro L H;replace S:=S.call H;by_cases w:c A.t=k
   . have f:(c A.t:Int)=(k:Int):=(by omega);simp only [BZ,aa,f,seval];exact⟨by rw [decide_eq_true ⟨v,w⟩],S.gr⟩
   . have f: ¬(c A.t:Int)=(k:Int):=(by omega);simp only [BZ,aa,f,seval];exact⟨by rw [decide_eq_false (fun h=>w h.2)],S.gr⟩
 . have e: ¬(c A.s:Int)=(k:Int):=(by omega);simp only [BZ,aa,e,seval];exact⟨by rw [decide_eq_false (fun h=>v h.1)],S.gr⟩
theorem pairN{x:Option Tch}:iS none x=true:=by cases x<;>rfl
theorem eZ.grk(k:eZ hq h0)(n:hq.n<=h0.n)(g:Gr h0 h):eZ hq h:=fun b a=>(g.get b (Xc a n)).trans (k b a)
def HoldP(E:Env)(hq:Hp)(g:FuncId)(post:List Value)(N:Nat)(f:Nat->Bool):Prop:= ∀h,OZ h->eZ hq h->hq.n<=h.n-> ∀v,v<N->aQ E g ([.int .i64 (v:Nat)]++post) h (.bool (f v))
theorem indexI_ok(a:OZ h0)(s:eZ hq h0)(p:hq.n<=h0.n){xs:List Nat}(l:aw h0 1 bM v xs)(C:xs.length<=1000)(t: ∀x∈xs,x<N)(hf:HoldP zM hq g post.toList N f):Ret zM 234 [v,.func (.func g) #[] post] h0 fun r h'=>Gr h0 h'/\ ∃z:Int,r=.int .i64 z/\(0<=z↔xs.any f=true):=by
 have S:=Si a;have D:=l.fl;refine erA (n:=19) (rs:=[.tmp 4]) e234 ?_;simp only [BZ,l.lenq,seval];refine aX (fun(i:Nat) b h=>i<=xs.length/\Gr h0 h/\(∀j,(k:j<xs.length)->j<i->f xs[j]=false)/\b 0=v/\b 1=.func (.func g) #[] post/\b 7=.int .i64 (xs.length:Nat)/\b 8=.int .i64 i) (fun i=>xs.length-i) ?_ 0 _ _ ?_
 . clear S;intro i u b h ⟨hi,g1,hno,r0,r1,r7,r8⟩;have w:am .i64 ((i:Int)+1)=((i+1:Nat):Int):=(by rw [wrap64]<;>omega);by_cases hlt:i<xs.length
   . obtain⟨c,o,y,m⟩:=(l.gr g1).ix (kd:=.i64) dr hlt;replace m:h.load c o 1=some [.int .i64 (xs[i]:Nat)]:=m;simp only [BZ,r0,r1,r7,r8,aE,hlt,y,m,seval];refine ae (hf _ g1.ok (s.grk p g1) (Xb p g1.n) xs[i] (t _ (Xk hlt))) ?_;intro E q;cases d:f xs[i]with
     | true=>
       simp only [BZ,aa,seval];refine⟨g1.trans q,_,rfl,⟨fun _=>List.any_eq_true.2 ⟨_,Xk hlt,d⟩,fun _=>by omega⟩⟩
     | false=>
       simp only [BZ,r8,w,seval];refine u (i+1) _ _ (by omega) ⟨by omega,g1.trans q,fun j k A=>?_,by simp [aB,r0,r1,r7]⟩;by_cases e:j=i
       . subst e;exact d
       . exact hno j k (by omega)
   . simp only [BZ,aa,r7,r8,aE,hlt,seval];refine⟨g1,_,rfl,⟨fun h=>by omega,fun h=>?_⟩⟩;obtain⟨x,B,d⟩:=List.any_eq_true.1 h;obtain⟨j,k,e⟩:=List.getElem_of_mem B;rw [<-e,hno j k (by omega)]at d;cases d
 . exact⟨Xj _,Gr.refl a,fun j _ h=>by omega,by simp [aB,cL]⟩
theorem Cr(a:OZ h0)(j:eZ hq h0)(k:hq.n<=h0.n){xs:List Nat}(d:aw h0 1 bM v xs)(l:xs.length<=1000)(m: ∀x∈xs,x<N)(hf:HoldP zM hq g post.toList N f):aQ zM 170 [v,.func (.func g) #[] post] h0 (.bool (xs.any f)):=by
 have S:=Si a;have o:=d.fl;refine erA (n:=9) (rs:=[.tmp 4]) e170 ?_;simp only [BZ,seval];refine step_ret (indexI_ok a j k d l m hf) ?_;rintro r h ⟨e,z,rfl,i⟩;cases b:xs.any f with
 | true=>have c:=i.2 b;simp only [BZ,aa,c,seval];exact e| false=>
   have c: ¬0<=z:=fun h=>(by rw [i.1 h]at b;cases b);simp only [BZ,aa,c,seval];exact e
section
variable{hq:Hp}{γ:Gra}{nb mb bp k:Nat}{p:Value}{m:List Int}{c:Nat->Nat}
def beyB(γ:Gra)(c:Nat->Nat)(k a:Nat):Bool:=!decide (c (γ.arcs.getD a default).s=k)
theorem beyond_ok(e:OZ hq)(t:Good γ)(H:aP hq nb (ptrTo bp) γ)(x:ia hq mb p γ.nodes m c){v:Nat}(I:hq.load b1 0 1=some [ptrTo bp])(w:hq.load b2 0 1=some [p])(y:hq.load v 0 1=some [.int .i64 (k:Nat)]):HoldP zM hq 239 [ptrTo b1,ptrTo b2,ptrTo v] γ.arcs.length (beyB γ c k):=by
 intro h J g K a u;have S:=Si J;have z:γ.arcs[a]=γ.arcs.getD a default:=by simp [Xa,u]
 have L:γ.arcs.getD a default∈γ.arcs:=by rw [<-z];exact Xk u
 obtain⟨B,M,_⟩:=t.arcs _ L;refine erA (n:=24) (rs:=[.tmp 5]) e239 ?_;simp only [BZ,g.load e I,seval];refine step_ret (jb S.ok (H.keep e g) u) ?_;rintro Q R ⟨N,rfl⟩;replace S:=S.call N;unfold beyB;rw [z];generalize γ.arcs.getD a default=A at B M;simp only [BZ,cQ,seval];refine ab au S ?_;clear S;intro h C S D;simp only [BZ,seval];refine az (stA S (i:=0) t135.2.1) ?_;clear S;rintro h ⟨S,O⟩;clear O;simp only [LC,ac,lay,Xh,Xi,seval]at S;have j:=g.grk K S.gr;obtain⟨b,T,rfl,r,s,_,_⟩:=(x.keep e j).at0;have E:=r.load1 (o:=0) rfl;have U:=x.len;obtain⟨d,o,F,l⟩:=s.ix (kd:=.i64) (bR .i64) (i:=A.s) (by omega);have P:m[A.s]'(by omega)=(c A.s:Int):=by rw [<-x.val A.s B,Xa,Xd (by omega)];rfl
 rw [P]at l;simp only [encI]at l;simp only [BZ,seval];refine ao (av rfl) (q:=0) (ps:=[]) (by kernel_rfl) ?_;by_cases G:c A.s=k
 . have f:(c A.s:Int)=(k:Int):=(by omega);simp only [BZ,cls,aa,j.load e w,j.load e y,E,F,l,f,S.ld (b:=C) (o:=0) m0 rfl,seval];exact⟨by rw [decide_eq_true G];rfl,S.gr⟩
 . have f: ¬(c A.s:Int)=(k:Int):=(by omega);simp only [BZ,cls,aa,j.load e w,j.load e y,E,F,l,f,S.ld (b:=C) (o:=0) m0 rfl,seval];exact⟨by rw [decide_eq_false G];rfl,S.gr⟩
def borB(γ:Gra)(c:Nat->Nat)(k v:Nat):Bool:=decide (c v=k)&&(outs γ.arcs Arc.t γ.arcs.length v).any (beyB γ c k)
theorem FS(f:OZ hq)(j:Good γ)(B:aP hq nb (ptrTo bp) γ)(x:ia hq mb p γ.nodes m c)(C:hq.load b1 0 1=some [p])(D:hq.load b2 0 1=some [.int .i64 (k:Nat)])(E:hq.load y 0 1=some [ptrTo bp])(l4:hq.load b4 0 1=some [.func (.func 239) #[] #[ptrTo y,ptrTo b1,ptrTo b2]]):HoldP zM hq 241 [ptrTo b1,ptrTo b2,ptrTo y,ptrTo b4] γ.nodes (borB γ c k):=by
 intro h l g F v G;have S:=Si l;obtain⟨b,vm,rfl,r,s,_,_⟩:=(x.keep f g).at0;have H:=r.load1 (o:=0) rfl;have hl:=x.len;obtain⟨d,o,I,w⟩:=s.ix (kd:=.i64) (bR .i64) (i:=v) (by omega);have ev:m[v]'(by omega)=(c v:Int):=by rw [<-x.val v G,Xa,Xd (by omega)];rfl
 rw [ev]at w;replace w:h.load d o 1=some [.int .i64 (c v:Nat)]:=w;have z:=g.load f C;have A:=g.load f D;have J:=g.load f E;have K:=g.load f l4;have L:=aV l z;have M:=aV l A;have N:=aV l J;have O:=aV l K;have P:=r.lt l;have Q:=aV l w;unfold borB;by_cases R:c v=k
 . have t:(c v:Int)=(k:Int):=(by omega);refine erA (n:=23) (rs:=[.tmp 6]) e241 ?_;simp only [BZ];refine ao (av rfl) (q:=0) (ps:=[(12,13)]) (by kernel_rfl) ?_;simp only [BZ,cls,z,A,J,H,I,w,t,seval];refine bO (xV S.ok (B.keep f g) (by have:=j.many;omega) G) ?_;rintro vl h2 ⟨e,sl,_⟩;have T:=ag e L;have U:=ag e M;have V:=ag e N;have W:=ag e O;have X:=ag e P;have Y:=ag e Q;replace S:=S.call e;simp only [BZ,cls,e.load K,seval];refine bj (Cr S.ok (g.grk F e) (Xb F e.n) sl (by have:=j.many;have:=jQ γ.arcs Arc.t γ.arcs.length v;omega) (fun a ha=>(jU.1 ha).1) (post:=#[ptrTo y,ptrTo b1,ptrTo b2]) (beyond_ok f j B x E C D)) ?_;intro h3 u;have Z:=ag u (Xc L e.n);have w2:=ag u (Xc M e.n);have w3:=ag u (Xc N e.n);have w4:=ag u (Xc O e.n);have wb:=ag u (Xc P e.n);have wd:=ag u (Xc Q e.n);replace S:=S.call u;simp only [BZ,cls,aa,seval];refine⟨by simp only [aI,aO,aF,aK,aH,ne_eq,not_false_eq_true,aU,aY,aN,aJ,bw,bN,aD,Xf,ah,cK,dE,aq T,aq U,aq V,aq W,aq X,aq Y,an T,an U,an V,an W,an X,an Y,aq Z,aq w2,aq w3,aq w4,aq wb,aq wd,an Z,an w2,an w3,an w4,an wb,an wd,seval],?_⟩;exact⟨by rw [decide_eq_true R,Bool.true_and],S.gr⟩
 . have t: ¬(c v:Int)=(k:Int):=(by omega);refine erA (n:=23) (rs:=[.tmp 6]) e241 ?_;simp only [BZ];refine ao (av rfl) (q:=0) (ps:=[(12,13)]) (by kernel_rfl) ?_;simp only [BZ,cls,aa,z,A,H,I,w,t,seval];refine⟨by simp only [aI,aO,aF,aK,aH,ne_eq,not_false_eq_true,aU,aY,aN,aJ,bw,bN,aD,Xf,ah,cK,dE,jC,pairN,seval],?_⟩;exact⟨by rw [decide_eq_false R,Bool.false_and],S.gr⟩
end
theorem cnodes_ok(d:OZ h0){c:Value}(e:Fl p)(f:Fl c):Ret zM 240 [p,c] h0 fun v h'=>Gr h0 h'/\ ∃b1 b2,v=.func (.func 264) #[] #[ptrTo b1,ptrTo b2]/\h0.n<=b1/\h0.n<=b2/\h'.load b1 0 1=some [p]/\h'.load b2 0 1=some [c]:=by have S:=Si d;refine erA (n:=6) (rs:=[.tmp 4]) e240 ?_;simp only [BZ,seval];refine ab (bz (by assumption)) S ?_;clear S;intro h b1 S a;simp only [BZ,if_false,seval];refine ab (bz (by assumption)) S ?_;clear S;intro h b2 S b;simp only [BZ,aa,seval];exact⟨S.gr,b1,b2,rfl,a,b,S.ld m1 rfl,S.ld m0 rfl⟩
theorem cnodes_it(l:OZ hq)(j:OZ h0)(B:eZ hq h0)(q:hq.n<=h0.n){m:List Int}{c:Nat->Nat}(x:ia hq H p N m c)(S:N<=1000)(hf:HoldP zM hq g post.toList N f)(I:h0.load b1 0 1=some [p])(K:h0.load b2 0 1=some [.func (.func g) #[] post]):lz zM 264 [] [ptrTo b1,ptrTo b2] h0 (fun c=>c=b1\/c=b2\/c<hq.n) (((zO N).filter f).map fun(v:Nat)=>[.int .i64 (v:Nat)]):=by
 intro L J Z M Y h F s d;have C:=s.load j I (.inl rfl);obtain⟨b,T,rfl,r,D,_,_⟩:=(x.keep l (s.keep B q (fun c t=>.inr (.inr t)))).at0;have E:=r.load1 (o:=0) rfl;have U:=x.len;have u:(m.length:Int)=(N:Int):=by omega
 refine enA (n:=25) (rs:=[]) e264 ?_;simp only [BZ,C,E,D.lenq,u,seval];refine aX (fun(i:Nat) e h=>i<=N/\ ∃F,ItS h0 (fun c=>c=b1\/c=b2\/c<hq.n) h F/\J ((zO i).filter f).length h F/\e 0=.func (.yield L) #[] #[]/\e 1=ptrTo b1/\e 2=ptrTo b2/\e 11=.int .i64 (N:Nat)/\e 12=.int .i64 i) (fun i=>N-i) ?_ 0 _ _ ?_
 . clear C s d F r D E h;intro i G e h ⟨hi,F,s,d,r0,r1,r2,r11,r12⟩;have w:am .i64 ((i:Int)+1)=((i+1:Nat):Int):=(by rw [wrap64]<;>omega);by_cases hlt:i<N
   . have O:=s.load j K (.inr (.inl rfl));simp only [BZ,r2,r11,r12,aE,hlt,O,seval];refine ae (hf _ s.ok (s.keep B q (fun c t=>.inr (.inr t))) (Xb q s.n) i hlt) ?_;intro V k;cases y:f i with
     | true=>
       have P:(((zO N).filter f).map fun(v:Nat)=>[Value.int .i64 (v:Nat)])[((zO i).filter f).length]? =some [.int .i64 (i:Nat)]:=(by rw [Xm,tG y _ hlt];rfl);have z:((zO (i+1)).filter f).length=((zO i).filter f).length+1:=(by rw [jk,if_pos y];simp);simp only [BZ,r0,seval];refine c7 Y (s.gr k) (Y.gr _ _ _ _ d k) (i:=((zO i).filter f).length) P ?_ ?_ ?_
       . intro A Q a R _ _;simp only [BZ,r12,w,seval];exact G (i+1) _ _ (by omega) ⟨by omega,Q,R,by rw [z];exact a,by simp [aB,r0,r1,ah,r2,r11]⟩
       . intro A a _;simp only [BZ,seval];exact gJ rfl ⟨rfl,.inr (.inl ⟨_,rfl,a⟩)⟩
       . intro v A a;exact absurd a (M v A)
     | false=>have z:(zO (i+1)).filter f=(zO i).filter f:=(by rw [jk,if_neg (by rw [y];decide)];simp);simp only [BZ,r12,w,seval];exact G (i+1) _ _ (by omega) ⟨by omega,F,s.gr k,by rw [z];exact Y.gr _ _ _ _ d k,by simp [aB,r0,r1,ah,r2,r11]⟩
   . simp only [BZ,r11,r12,aE,hlt,seval];have:i=N:=(by omega);subst this;exact bU (cy ⟨rfl,_,rfl,rfl,.inl ⟨_,F,rfl,by simpa using d⟩⟩)
 . exact⟨Xj _,F,s,d,by simp [aB,cL,ah]⟩
theorem border_ok(z:OZ h0){a:Gra}{R E:Nat}{m:List Int}{c:Nat->Nat}(j:Good a)(F:aP h0 R (ptrTo E) a)(x:ia h0 T p a.nodes m c):Ret zM 185 [p,ptrTo E,.int .i64 (k:Nat)] h0 fun r h'=>Gr h0 h'/\aw h' 1 bM r ((zO a.nodes).filter (borB a c k))/\ ∀c,ar r c->h0.n<=c:=by
 have S:=Si z;have fp:Fl p:=by obtain⟨b,_,rfl,_⟩:=x.at0;exact bA
 obtain⟨bc,U,rfl,r,s,_,_⟩:=x.at0;have V:=r.load1 (o:=0) rfl;have W:=x.len;have X:=j.n1;have n2:=j.n2;have A:(m.length:Int)=(a.nodes:Int):=by omega
 obtain⟨G,ov,sv,cv,Y⟩: ∃d o s c,U=.slice (some ⟨d,o,s⟩) m.length c:=by
  rcases s with⟨_,e⟩|⟨d,o,s,c,e,_⟩
  . subst e;simp at W;omega
  . exact⟨d,o,s,c,e⟩
 subst Y;have B:G<h0.n:=s.lt z (b:=G) rfl;refine erA (n:=29) (rs:=[.tmp 6]) e185 ?_;simp only [BZ,seval];refine ab (bz (by exact bA)) S ?_;clear S;intro h l S H;simp only [BZ,if_false,seval];refine ab (bz (by exact bA)) S ?_;clear S;intro h u S I;simp only [BZ,if_false,seval];refine ab (bz (by exact aM)) S ?_;clear S;intro h J S K;have Z:=(S.row (b:=l) m2).lt S.ok;have z4:=(S.row (b:=u) m1).lt S.ok;have zc:=Xc (r.lt z) S.gr.n;have zd:=Xc B S.gr.n;have C:=S.gr.load V;have s':=s.gr S.gr;simp only [BZ];refine ao (av rfl) (q:=0) (ps:=[(8,13),(8,12),(8,9)]) (by kernel_rfl) ?_;simp only [BZ,cls,S.ld (b:=l) (o:=0) m2 rfl,S.ld (b:=u) (o:=0) m1 rfl,seval];refine bj (bC S.ok (F.gr S.gr)) ?_;intro h1 t;have L:=ag t Z;have M:=ag t z4;have N:=ag t zc;have O:=ag t zd;have w:=t.load C;replace S:=S.call t;simp only [BZ,cls,w,s'.lenq,A,S.ld (b:=l) (o:=0) m2 rfl,S.ld (b:=u) (o:=0) m1 rfl,seval];refine⟨by simp only [aI,aO,aF,aK,aH,ne_eq,not_false_eq_true,aU,aY,aN,aJ,bw,bN,aD,Xf,ah,tT,aq L,aq M,aq N,an L,an M,an N,aq O,an O,seval],?_⟩;refine ab au S ?_;clear S;intro h P S Q;simp only [BZ,seval];refine az (aA S (i:=0) rfl t124.2.1 dI (Xe (lbt rfl)) ono) ?_;clear S;rintro h2 ⟨S,_⟩;simp only [LC]at S;simp only [BZ,S.ld (b:=l) (o:=0) m3 rfl,seval];have D:=S.gr;have y:=S.ok;have l3:=S.ld (b:=l) (o:=0) m3 rfl;have l4:=S.ld (b:=u) (o:=0) m2 rfl;have l5:=S.ld (b:=J) (o:=0) m1 rfl;have l7:=S.ld (b:=P) (o:=0) m0 rfl;have hf:=FS y j (F.gr D) (x.gr D) l3 l5 l4 l7;refine step_ret (cnodes_ok S.ok bA dI) ?_;rintro v h4 ⟨g,b1,b2,rfl,X,ad,y1,y2⟩;have it:=cnodes_it y g.ok g.keep g.n (x.gr D) (by omega) (g:=241) (post:=#[ptrTo l,ptrTo J,ptrTo u,ptrTo P]) hf y1 y2;replace S:=S.call g;simp only [BZ,seval];refine step_ret (sT S.ok (g:=264) (post:=#[ptrTo b1,ptrTo b2]) (iter_w it) (fun _ h=>h.elim) (by have:=tF (n:=a.nodes) (f:=borB a c k);omega)) ?_;rintro r h5 ⟨f5,G5,d5⟩;have g5:=f5.gr;have k5:=S.fr.n;replace S:=S.call g5;simp only [BZ,aa,seval];exact⟨S.gr,G5.sl rfl dr (by decide),fun c hc=>by have:=d5 c hc;omega⟩
theorem EW(d:OZ h0){a:Gra}(f:aP h0 e (ptrTo c) a)(j:b<a.nodes):aQ zM 265 [ptrTo c,.int .i64 (b:Nat)] h0 (.bool true):=by
 have S:=Si d;have g:(0:Int)<=(b:Int):=by omega
 have h:(b:Int)<(a.nodes:Int):=by omega
 refine erA (n:=17) (rs:=[.tmp 4]) e265 ?_;simp only [BZ,g,seval];refine ae (bC S.ok f) ?_;intro k i;simp only [BZ,aa,h,seval];exact i
noncomputable def me(c:Gra)(b a:Nat):Bool:=decide (dOf (seen c.arcs Arc.t Arc.s) b (c.arcs.getD a default).s<FAR/\dOf (seen c.arcs Arc.t Arc.s) b (c.arcs.getD a default).t<FAR/\dOf (seen c.arcs Arc.t Arc.s) b (c.arcs.getD a default).s=(c.arcs.getD a default).w+dOf (seen c.arcs Arc.t Arc.s) b (c.arcs.getD a default).t)
def HoldA(E:Env)(hq:Hp)(x:Nat)(g:FuncId)(post:List Value)(N:Nat)(f:Nat->Bool):Prop:= ∀h,OZ h->(∀b,b<hq.n->b≠x->h.get b=hq.get b)->hq.n<=h.n-> ∀v,v<N->aQ E g ([.int .i64 (v:Nat)]++post) h (.bool (f v))
theorem nR{l:List Value}(e:h.load b o n=some l)(g:h'.get b=h.get b):h'.load b o n=some l:=by unfold Hp.load at e⊢;rw [g];exact e
theorem sl_get{a:Type}{enc:a->List Value}{xs:List a}(s:aw h k enc v xs)(g: ∀c,ar v c->h'.get c=h.get c):aw h' k enc v xs:=by
 rcases s with s|⟨b,o,s,c,d,e,f⟩
 . exact .inl s
 . exact .inr ⟨b,o,s,c,d,e,nR f (g b (by rw [d];rfl))⟩
theorem tells1_ok{f:Hp}(z:OZ f)(g:OZ hq)(U:eZ f hq)(J:f.n<=hq.n){x:Nat}(hx:f.n<=x){e:Gra}(B:Good e){K:Nat}(W:aP f V (ptrTo K) e)(x2:b2≠x)(X:b5≠x)(L: ∀v,IsD (seen e.arcs Arc.t Arc.s) b v (dOf (seen e.arcs Arc.t Arc.s) b v)){y vA vO:Value}(M:hq.load b2 0 1=some [ptrTo K])(N:hq.load b5 0 1=some [y])(O:aw hq 1 bM y ((zO e.nodes).map (dOf (seen e.arcs Arc.t Arc.s) b)))(Y: ∀c,ar y c->c≠x):HoldA zM hq x 279 [ptrTo b2,ptrTo b5] e.arcs.length (me e b):=by
 intro h Z k nq a C;have kN:eZ f h:=fun c p=>(k c (Xc p J) (by omega)).trans (U c p);have nN:f.n<=h.n:=Xb J nq;have e2:=nR M (k b2 (aV g M) x2);have e5:=nR N (k b5 (aV g N) X);have r:aw h 1 bM y _:=sl_get O (fun c p=>k c (O.lt g p) (Y c p));have S:=Si Z;have P:e.arcs[a]=e.arcs.getD a default:=by simp [Xa,C]
 have hm:e.arcs.getD a default∈e.arcs:=by rw [<-P];exact Xk C
 obtain⟨hs,ht,hw⟩:=B.arcs _ hm;unfold me;have D:=L (e.arcs.getD a default).s;have E:=L (e.arcs.getD a default).t;generalize hd:dOf (seen e.arcs Arc.t Arc.s) b=d at D E r;refine erA (n:=35) (rs:=[.tmp 4]) e279 ?_;simp only [BZ,e2,seval];refine step_ret (jb S.ok (W.keep z kN) C) ?_;rintro rv h4 ⟨g4,rfl⟩;replace S:=S.call g4;rw [P];generalize e.arcs.getD a default=A at hs ht hw D E;simp only [BZ,cQ,seval];refine ab au S ?_;clear S;intro h s S Q;simp only [BZ,seval];refine az (stA S (i:=0) t135.2.1) ?_;clear S;rintro h ⟨S,mo⟩;clear mo;simp only [LC,ac,lay,Xh,Xi,seval]at S;have t:=r.gr S.gr;have lD:((zO e.nodes).map d).length=e.nodes:=by simp
 obtain⟨c1,o1,x1,F⟩:=t.ix (kd:=.i64) dr (i:=A.t) (by omega);obtain⟨c2,o2,x2,R⟩:=t.ix (kd:=.i64) dr (i:=A.s) (by omega);simp only [List.getElem_map,List.getElem_range,bM]at F R;have G:=S.gr.load e5;have z6:=(S.row (b:=s) m0).lt S.ok;have z5:=aV S.ok G;have zc:=aV S.ok F;simp only [BZ,seval];refine ao (av rfl) (q:=0) (ps:=[]) (by kernel_rfl) ?_;simp only [BZ,cls,G,x1,F,S.ld (b:=s) (o:=1) m0 rfl,S.ld (b:=s) (o:=2) m0 rfl,seval];refine bj (add_ok S.ok) ?_;intro h7 m;have v6:=ag m z6;have v5:=ag m z5;have vc:=ag m zc;replace S:=S.call m;simp only [BZ,cls,seval];have ad:=hU;have b1:=D.le;have b2:=E.le;have H:wy (wy (wy (d A.t:Nat))+wy (A.w:Nat))=(if d A.t+A.w<FAR then((d A.t+A.w:Nat):Int)else(FAR:Int)):=by
  unfold wy
  repeat' split
  all_goals omega
 rw [H];have u:=m.load G;have w:=m.load R;by_cases hf:d A.t+A.w<FAR
 . rw [if_pos hf];have w1:wy ((d A.t+A.w:Nat):Int)<72057594037927936:=(by unfold wy;omega);have I:decide (wy ((d A.t+A.w:Nat):Int)<72057594037927936)=true:=decide_eq_true w1;refine ae (oG S.ok) ?_;intro h8 j;replace S:=S.call j;rw [I];by_cases T:d A.s=A.w+d A.t
   . have l:((d A.t+A.w:Nat):Int)=(d A.s:Int):=(by omega);simp only [BZ,aa,j.load u,x2,j.load w,l,S.ld (b:=s) (o:=0) m0 rfl,seval];exact⟨by rw [decide_eq_true ⟨by omega,by omega,T⟩],S.gr⟩
   . have l: ¬((d A.t+A.w:Nat):Int)=(d A.s:Int):=(by omega);simp only [BZ,aa,j.load u,x2,j.load w,l,S.ld (b:=s) (o:=0) m0 rfl,seval];exact⟨by rw [decide_eq_false (fun h=>T h.2.2)],S.gr⟩
 . rw [if_neg hf];have I:decide (wy (FAR:Int)<72057594037927936)=false:=decide_eq_false (by unfold wy;omega);refine ae (oG S.ok) ?_;intro h8 j;replace S:=S.call j;rw [I];simp only [BZ,aa,seval];exact⟨by rw [decide_eq_false (fun h=>by omega)],S.gr⟩
theorem tells_ok{a:Hp}(k:OZ a)(A:OZ h0)(q:Gr a h0){x:Nat}(B:a.n<=x)(C:x<h0.n){d:Gra}(f:Good d){E:Nat}(t:aP a E (ptrTo s) d)(F:b<d.nodes):Ret zM 268 [ptrTo s,.int .i64 (b:Nat)] h0 fun r h'=>Gr h0 h'/\ ∃b2 b5,r=.func (.func 279) #[] #[ptrTo b2,ptrTo b5]/\h0.n<=b2/\h0.n<=b5/\HoldA zM h' x 279 [ptrTo b2,ptrTo b5] d.arcs.length (me d b):=by
 have S:=Si A;refine erA (n:=10) (rs:=[.tmp 4]) e268 ?_;simp only [BZ,seval];refine ab (aW (by intro x e;cases e)) S ?_;clear S;intro h b2 S g;simp only [ac]at S;simp only [BZ,S.ld (b:=b2) (o:=0) m0 rfl,seval];refine step_ret (ux S.ok f (t.gr (q.trans S.gr)) F) ?_;rintro r Q ⟨G,R,vA,vO,D,T,O,rfl,l,H,I,_,u,J,_⟩;have U:=S.fr.n;replace S:=S.call G;have K:=l.fl;have L:=H.fl;have M:=I.fl;have w:D=dOf (seen d.arcs Arc.t Arc.s) b:=funext fun v=>((zL (u v)).1).symm;have m: ∀v,IsD (seen d.arcs Arc.t Arc.s) b v (dOf (seen d.arcs Arc.t Arc.s) b v):=fun v=>by rw [<-w];exact u v
 rw [w]at l;simp only [BZ];have N:=S.row (b:=b2) m0;have V:=S.fr.n;have j:=S.gr;have p:=S.ok;clear S;have S:=Si p;refine ab au S ?_;clear S;intro h b5 S y;simp only [BZ,seval];refine az (S.store (i:=0) rfl t245.2.1 (by intro x e;cases e) rfl (by simp only [ac,Xy,XC,K.2.1,L.2.1,M.2.1,Xf]) (lbt rfl) ono) ?_;clear S;rintro W ⟨S,_⟩;simp only [LC,ac,lay,Xh,Xi,seval]at S;simp only [BZ,aa,seval];refine⟨j.trans S.gr,b2,b5,rfl,g,by omega,?_⟩;have z:=q.trans (j.trans S.gr);exact tells1_ok k S.ok z.keep z.n B f t (by omega) (by omega) m (vA:=vA) (vO:=vO) ((N.gr S.gr).load1 (o:=0) rfl) (S.ld (b:=b5) (o:=0) m0 rfl) (l.gr S.gr) (fun c P e=>by have:=J c (.inl P);omega)
theorem marked_ok(d:OZ h0){c:Value}(e:Fl c):Ret zM 267 [.int .i64 (n:Nat),c] h0 fun v h'=>Gr h0 h'/\ ∃b1 b2,v=.func (.func 278) #[] #[ptrTo b1,ptrTo b2]/\h0.n<=b1/\h0.n<=b2/\h'.load b1 0 1=some [.int .i64 (n:Nat)]/\h'.load b2 0 1=some [c]:=by have S:=Si d;refine erA (n:=6) (rs:=[.tmp 4]) e267 ?_;simp only [BZ,seval];refine ab (bz (by exact aM)) S ?_;clear S;intro h b1 S a;simp only [BZ,if_false,seval];refine ab (bz (by assumption)) S ?_;clear S;intro h b2 S b;simp only [BZ,aa,seval];exact⟨S.gr,b1,b2,rfl,a,b,S.ld m1 rfl,S.ld m0 rfl⟩
theorem marked_it(u:OZ hq)(e:OZ h0)(y:eZ hq h0)(q:hq.n<=h0.n){x:Nat}(H:N<=1000)(hf:HoldA zM hq x g post.toList N f)(z:h0.load b1 0 1=some [.int .i64 (N:Nat)])(A:h0.load b2 0 1=some [.func (.func g) #[] post]):lz zM 278 [] [ptrTo b1,ptrTo b2] h0 (fun c=>c=b1\/c=b2\/(c<hq.n/\c≠x)) (((zO N).filter f).map fun(v:Nat)=>[.int .i64 (v:Nat)]):=by
 intro B J Z C Y h F s b;have r:=s.load e z (.inl rfl);refine enA (n:=19) (rs:=[]) e278 ?_;simp only [BZ,r,seval];refine aX (fun(i:Nat) d h=>i<=N/\ ∃F,ItS h0 (fun c=>c=b1\/c=b2\/(c<hq.n/\c≠x)) h F/\J ((zO i).filter f).length h F/\d 0=.func (.yield B) #[] #[]/\d 1=ptrTo b1/\d 2=ptrTo b2/\d 5=.int .i64 (N:Nat)/\d 6=.int .i64 i) (fun i=>N-i) ?_ 0 _ _ ?_
 . clear r s b F h;intro i t d h ⟨hi,F,s,b,r0,r1,r2,r5,r6⟩;have w:am .i64 ((i:Int)+1)=((i+1:Nat):Int):=(by rw [wrap64]<;>omega);by_cases hlt:i<N
   . have D:=s.load e A (.inr (.inl rfl));simp only [BZ,r2,r5,r6,aE,hlt,D,seval];refine ae (hf _ s.ok (fun c k l=>(s.data c (Xc k q) (.inr (.inr ⟨k,l⟩))).trans (y c k)) (Xb q s.n) i hlt) ?_;intro I j;cases m:f i with
     | true=>
       have l:(((zO N).filter f).map fun(v:Nat)=>[Value.int .i64 (v:Nat)])[((zO i).filter f).length]? =some [.int .i64 (i:Nat)]:=(by rw [Xm,tG m _ hlt];rfl);have o:((zO (i+1)).filter f).length=((zO i).filter f).length+1:=(by rw [jk,if_pos m];simp);simp only [BZ,r0,seval];refine c7 Y (s.gr j) (Y.gr _ _ _ _ b j) (i:=((zO i).filter f).length) l ?_ ?_ ?_
       . intro p E a G _ _;simp only [BZ,r6,w,seval];exact t (i+1) _ _ (by omega) ⟨by omega,E,G,by rw [o];exact a,by simp [aB,r0,r1,ah,r2,r5]⟩
       . intro p a _;simp only [BZ,seval];exact gJ rfl ⟨rfl,.inr (.inl ⟨_,rfl,a⟩)⟩
       . intro v p a;exact absurd a (C v p)
     | false=>have o:(zO (i+1)).filter f=(zO i).filter f:=(by rw [jk,if_neg (by rw [m];decide)];simp);simp only [BZ,r6,w,seval];exact t (i+1) _ _ (by omega) ⟨by omega,F,s.gr j,by rw [o];exact Y.gr _ _ _ _ b j,by simp [aB,r0,r1,ah,r2,r5]⟩
   . simp only [BZ,r5,r6,aE,hlt,seval];have:i=N:=(by omega);subst this;exact bU (cy ⟨rfl,_,rfl,rfl,.inl ⟨_,F,rfl,by simpa using b⟩⟩)
 . exact⟨Xj _,F,s,b,by simp [aB,cL,ah]⟩
def eh(n:Nat)(f:Nat->Bool):List Value:=(zO n).map fun j=>.bool (f j)
theorem tP:(eh n f).length=n:=by simp [eh]
theorem bolC_at(h:j<n):(eh n f)[j]? =some (.bool (f j)):=lH (F:=fun j=>Value.bool (f j)) h
theorem CD:(eh n f).set j (.bool true)=eh n (fun u=>decide (u=j)||f u):=by have:=kW (N:=n) (k:=j) (F:=fun j=>Value.bool (f j)) (F':=fun u=>Value.bool (decide (u=j)||f u)) (fun i _ a=>by simp [a]);unfold eh;rw [<-this];simp
theorem mW{g:Nat->Bool}(h: ∀j,j<n->f j=g j):eh n f=eh n g:=by unfold eh;refine Ye fun j a=>?_;rw [h j (List.mem_range.1 a)]
theorem putB_ok(C:OZ h0)(R:Row h0 d (eh n f) 1){xs:List Nat}(K:lz zM g [] post.toList h0 D (xs.map fun(v:Nat)=>[.int .i64 (v:Nat)]))(E: ¬D d)(A: ∀x∈xs,x<n)(hl:xs.length<=1000):Ret zM 266 [.slice (some ⟨d,0,none⟩) n n,.func (.func g) #[] post,.bool true] h0 fun r h'=>Mo (· =d) h0 h'/\r=.slice (some ⟨d,0,none⟩) n n/\Row h' d (eh n (fun u=>decide (u∈xs)||f u)) 1:=by
 have S:=St.init1 C (o:=.row (eh n f) 1) R;have zl:=R.lt C;refine erA (n:=15) (rs:=[.tmp 6]) e266 ?_;simp only [BZ,seval];refine ab (bz (by exact bH)) S ?_;clear S;intro h m S G;simp only [BZ,if_false,seval];refine ab (bz (by exact oH)) S ?_;clear S;intro h t S H;simp only [BZ,if_false,seval];have M:eh n f=eh n (fun u=>decide (u∈xs.take 0)||f u):=mW fun j _=>by simp
 refine gP S (g:=g) (a:=#[]) (b:=post) (by simp [bw,aB,ah]) rfl rfl ?_;intro I z w p N O g2;obtain⟨X,J,p⟩: ∃X:fF,X=_/\St (· =d) h0 I [(w,.loop X),(z,.dfr),(t,.row [.bool true] 1),(m,.row [.slice (some ⟨d,0,none⟩) n n] 1),(d,.row (eh n f) 1)] []:=⟨_,rfl,p⟩;have P:Yld zM w (fun k h' F=>St (· =d) h0 h' [(w,.loop X),(z,.dfr),(t,.row [.bool true] 1),(m,.row [.slice (some ⟨d,0,none⟩) n n] 1),(d,.row (eh n (fun u=>decide (u∈xs.take k)||f u)) 1)] []/\k<=xs.length/\F=[w,z,t,m,d]) (fun _ _=>False) (xs.map fun(v:Nat)=>[.int .i64 (v:Nat)]):=by
  refine⟨?_,?_,fun _ _ h=>h.elim,?_⟩
  . rintro i h F ⟨S,_,rfl⟩;exact⟨S.ok,fun b l=>S.key_lt (by simpa [keys]using l)⟩
  . rintro i h F h' ⟨S,a,rfl⟩ Q;exact⟨S.call Q,a,rfl⟩
  . rintro i x hR F B ⟨S,a,rfl⟩;have q:i<xs.length:=(by have:=(List.getElem?_eq_some_iff.1 B).1;simpa using this);rw [Xm,Xd q]at B;cases B;have s:=A _ (Xk q);have V:eh n (fun u=>decide (u∈xs.take (i+1))||f u)=(eh n (fun u=>decide (u∈xs.take i)||f u)).set xs[i] (.bool true):=(by rw [CD];refine mW fun j _=>?_;rw [Xg q];simp only [X6,X9];by_cases W:j=xs[i]<;>by_cases Y:j∈xs.take i<;>simp [W,Y]);rw [V];generalize xs[i]=x at s;subst J;refine gK (S.get m0) (by rw [e266];rfl) rfl ?_;have Z:=S;replace S:=S.base;simp only [BZ,seval];refine fG S (i:=0) rfl rfl rfl rfl rfl ?_;clear S;intro h S;simp only [LC]at S;simp only [BZ,s,S.ld (b:=m) (o:=0) m3 rfl,S.ld (b:=t) (o:=0) m2 rfl,seval];refine az (aA S (i:=4) rfl Tryz.t4.2.2.1 oH (by rw [tP];exact s) ono) ?_;clear S;rintro h ⟨S,_⟩;simp only [LC]at S;simp only [BZ];refine dC S (i:=0) rfl ?_;clear S;intro h S;simp only [LC]at S;refine .inl ⟨rfl,_,⟨Z.rebase S,by omega,rfl⟩,?_,fun c hc=>.inl hc⟩;have:=S.fr;simp only [keys,XG,XP,XL,XM]at this;exact this
 refine dh (K w _ _ (fun _ _ h=>h) P I [w,z,t,m,d] ?_ ⟨by rw [<-M];exact p,Xj _,rfl⟩) fun o rc h' y=>iJ y ?_
 . have kn:=S.fr.n;refine⟨p.ok,p.fr.n,fun b l hd=>p.fr.get b l (fun e=>E (e▸hd)),fun b l h=>?_,fun b l=>p.key_lt (by simpa [keys]using l)⟩;simp only [Xt,Xl,or_false]at l;rcases l with rfl|rfl|rfl|rfl|rfl
   . omega
   . omega
   . omega
   . omega
   . exact E h.2
 . rintro F ⟨T,_,rfl⟩;rw [Xn,XD]at T;subst J;refine⟨_,T.get m0,XJ,?_⟩;replace T:=T.dead;have S:=T;show Run _ _ _ _ _ _ _ _;simp only [BZ,S.ld (b:=m) (o:=0) m2 rfl,seval];refine df (gm [z] _ (L:=[(t,_),(m,_),(d,_)]) T.base fun h4 S4=>?_);refine⟨rfl,(dP (by decide)).2 (cu.2 ?_)⟩;have U:=T.rebase S4;exact⟨U.fr,rfl,U.row m2⟩
theorem anyT_ok(L:OZ h0){d:Gra}(l:Good d){M:Nat}{z:Value}{xs:List Nat}(A:aP h0 M (ptrTo y) d)(G:b<d.nodes)(B:aw h0 1 bM z xs)(m:xs=[b]):Ret zM 242 [ptrTo y,z] h0 fun r h'=>Gr h0 h'/\ ∃f,r=.slice (some ⟨f,0,none⟩) d.arcs.length d.arcs.length/\Row h' f (eh d.arcs.length (me d b)) 1/\h0.n<=f:=by
 have S:=Si L;have H:=l.many;have fL:=B.fl;have hl:xs.length=1:=by rw [m];rfl
 refine erA (n:=32) (rs:=[.tmp 4]) e242 ?_;simp only [BZ,seval];refine ae (iW S.ok A) ?_;intro h1 N;replace S:=S.call N;simp only [BZ,seval];have C:=S.gr;have p:=S.ok;clear S;have S:=Si p;rename Hp=>hA;refine ab (mJ (by exact t100.1) (by exact YB) (by omega) (by omega)) S ?_;clear S;intro h f S q;have O:bJ [Value.bool false] d.arcs.length=eh d.arcs.length (fun a=>decide (0=1)&&me d b a):=by rw [pQ];unfold eh;simp [XZ]
 rw [Xu,O]at S;simp only [BZ,Xu,B.lenq,seval];refine aX (fun(i:Nat) k h=>i<=1/\St NoM hA h [(f,.row (eh d.arcs.length (fun a=>decide (i=1)&&me d b a)) 1)] []/\k 0=ptrTo y/\k 5=.slice (some ⟨f,0,none⟩) d.arcs.length d.arcs.length/\k 13=z/\k 14=.int .i64 (xs.length:Nat)/\k 15=.int .i64 i) (fun i=>1-i) ?_ 0 _ _ ?_
 . clear S;intro i P k h ⟨hi,S,r0,r5,r13,r14,r15⟩;have w:am .i64 ((i:Int)+1)=((i+1:Nat):Int):=(by rw [wrap64]<;>omega);have D:=C.trans S.gr;by_cases hlt:i<xs.length
   . have I:i=0:=(by omega);obtain⟨c,o,Q,s⟩:=(B.gr D).ix (kd:=.i64) dr hlt;have R:xs[i]=b:=(by subst m;subst I;rfl);rw [R]at s;replace s:h.load c o 1=some [.int .i64 (b:Nat)]:=s;simp only [BZ,r0,r13,r14,r15,aE,hlt,Q,s,seval];refine ae (EW S.ok (A.gr D) G) ?_;intro h2 T;replace S:=S.call T;have hS:=S.gr;have E:=(S.row (b:=f) m0).lt S.ok;simp only [BZ,r0,r5,seval];refine step_ret (tells_ok p S.ok S.gr (x:=f) q E l (A.gr C) G) ?_;rintro v h3 ⟨J,U,V,rfl,n2,n5,hf⟩;replace S:=S.call J;have F:=S.ok;simp only [BZ,seval];refine step_ret (marked_ok S.ok (n:=d.arcs.length) dI) ?_;rintro v h4 ⟨t,W,X,rfl,n1,n3,Y,Z⟩;have it:=marked_it F t.ok t.keep t.n (x:=f) (by omega) (g:=279) (post:=#[ptrTo U,ptrTo V]) hf Y Z;have kg:=J.n;replace S:=S.call t;simp only [BZ,seval];refine step_ret (putB_ok S.ok (S.row (b:=f) m0) (g:=278) (post:=#[ptrTo W,ptrTo X]) it (fun h=>?_) (fun x hx=>List.mem_range.1 (List.mem_filter.1 hx).1) (Xb tF (by omega))) ?_
     . rcases h with h|h|h
       . omega
       . omega
       . exact h.2 rfl
     . rintro v h5 ⟨f5,rfl,R5⟩;have K:=S.call1 (i:=0) (o':=.row _ 1) rfl f5 R5;simp only [XQ]at K;simp only [BZ,r15,w,seval];refine P (i+1) _ _ (by omega) ⟨by omega,?_,by simp [aB,r0,ah,r13,r14]⟩;have e:eh d.arcs.length (fun a=>decide (i+1=1)&&me d b a)=eh d.arcs.length (fun u=>decide (u∈(zO d.arcs.length).filter (me d b))||(decide (i=1)&&me d b u)):=mW fun j hj=>(by subst I;simp [List.mem_filter,hj]);rw [e];exact K
   . have i1:i=1:=(by omega);simp only [BZ,aa,r5,r14,r15,aE,hlt,seval];refine⟨D,f,rfl,?_,by have:=C.n;omega⟩;have e:eh d.arcs.length (me d b)=eh d.arcs.length (fun a=>decide (i=1)&&me d b a):=mW fun j _=>(by rw [decide_eq_true i1,Bool.true_and]);rw [e];exact S.row m0
 . exact⟨Xj _,S,by simp [aB,cL,ah]⟩
theorem arcsT_ok(i:OZ h0){a:Gra}(d:Good a){f:Nat}(k:aP h0 j (ptrTo f) a)(l:b<a.nodes):Ret zM 186 [ptrTo f,.int .i64 (b:Nat)] h0 fun r h'=>Gr h0 h'/\ ∃c,r=.slice (some ⟨c,0,none⟩) a.arcs.length a.arcs.length/\Row h' c (eh a.arcs.length (me a b)) 1/\h0.n<=c:=by
 have S:=Si i;refine erA (n:=9) (rs:=[.tmp 4]) e186 ?_;simp only [BZ,seval];refine ab (bZ (by exact t41.1) (by exact XT) (by decide) (by rfl)) S ?_;clear S;intro h e S g;simp only [LC,bJ,cd,ac,Xp,Xo,Xq,Xv,seval]at S;simp only [BZ,seval];have m:aw h 1 bM (.slice (some ⟨e,0,none⟩) 1 1) [b]:=.inr ⟨e,0,none,1,rfl,Xr _,S.lds (b:=e) (o:=0) (n:=1*1) m0 (lbt rfl)⟩;have q:=S.fr.n;refine step_ret (anyT_ok S.ok d (k.gr S.gr) l m rfl) ?_;rintro r s ⟨p,c,rfl,R,t⟩;replace S:=S.call p;simp only [BZ,aa,seval];exact⟨S.gr,c,rfl,R,by omega⟩
def Own(B:Nat->Prop)(hB h:Hp)(F:List Nat):Prop:=hB.n<=h.n/\ ∀b,B b->b<hB.n/\b∉F/\h.get b=hB.get b
theorem Own.gr{B:Nat->Prop}(o:Own B hB h F)(g:Gr h h'):Own B hB h' F:=
 ⟨Xb o.1 g.n,fun b a=>⟨(o.2 b a).1,(o.2 b a).2.1,(g.get b (Xc (o.2 b a).1 o.1)).trans (o.2 b a).2.2⟩⟩
theorem Own.mo{B:Nat->Prop}{F':List Nat}(o:Own B hB h F)(m:Mo (· ∈F) h h')(d: ∀b∈F',b∈F\/h.n<=b):Own B hB h' F':=
 ⟨Xb o.1 m.n,fun b e=>by
  obtain⟨a,c,f⟩:=o.2 b e;have hlt:=Xc a o.1;exact⟨a,fun g=>(d b g).elim c (fun h=>by omega),(m.get b hlt c).trans f⟩⟩
section
variable{γ:Gra}{nb mb bp k:Nat}{p:Value}{m:List Int}{c:Nat->Nat}
theorem won_ok(r:OZ h0){I:Nat}{Z:Out->Hp->Prop}{xs:List (List Value)}(t:Good γ)(M: ∀v h,¬Z (.pan v) h)(Y:Yld zM I J Z xs){B:Nat->Prop}(x:B b)(N:hB.load b 0 1=some [.func (.yield I) #[] #[]])(O:D u)(P:h0.load u 0 1=some [ptrTo bp])(e: ∀h F,ItS h0 D h F->aP h nb (ptrTo bp) γ)(y: ∀h F,ItS h0 D h F->Own B hB h F-> ∀a,a<γ.arcs.length->aQ zM g ([.int .i64 (a:Nat)]++post.toList) h (.bool (f a)))(Q: ∀a,a<γ.arcs.length->f a=true->xs[j+((zO a).filter f).length]? =some [.int .i64 (a:Nat)])(s:ItS h0 D h F)(o:Own B hB h F)(l:J j h F):Ret zM 182 [.func (.func g) #[] post,ptrTo u,ptrTo b] h fun v h'=>(v=.bool true/\ ∃F',ItS h0 D h' F'/\Own B hB h' F'/\J (j+((zO γ.arcs.length).filter f).length) h' F')\/(v=.bool false/\Z (.ret (.bool false)) h'):=by
 have K:=t.many;have R:=s.load r P O;refine erA (n:=21) (rs:=[.tmp 4]) e182 ?_;simp only [BZ,R,seval];refine ae (iW s.ok (e _ _ s)) ?_;intro U z;simp only [BZ];refine aX (fun(i:Nat) q h=>i<=γ.arcs.length/\ ∃F,ItS h0 D h F/\Own B hB h F/\J (j+((zO i).filter f).length) h F/\q 0=.func (.func g) #[] post/\q 2=ptrTo b/\q 7=.int .i64 (γ.arcs.length:Nat)/\q 8=.int .i64 i) (fun i=>γ.arcs.length-i) ?_ 0 _ _ ?_
 . intro i L q h ⟨hi,F,s,o,l,r0,r2,r7,r8⟩;have w:am .i64 ((i:Int)+1)=((i+1:Nat):Int):=(by rw [wrap64]<;>omega);by_cases hlt:i<γ.arcs.length
   . simp only [BZ,r0,r7,r8,aE,hlt,seval];refine ae (y _ _ s o i hlt) ?_;intro V d;have A:=nR N ((o.gr d).2 b x).2.2;cases C:f i with
     | true=>
       have E:((zO (i+1)).filter f).length=((zO i).filter f).length+1:=(by rw [jk,if_pos C];simp);simp only [BZ,r2,A,seval];refine c7 Y (s.gr d) (Y.gr _ _ _ _ l d) (i:=j+((zO i).filter f).length) (Q i hlt C) ?_ ?_ ?_
       . intro G S a T m3 H;simp only [BZ,r8,w,seval];exact L (i+1) _ _ (by omega) ⟨by omega,S,T,(o.gr d).mo m3 H,by rw [E];exact a,by simp [aB,r0,r2,ah,r7]⟩
       . intro G a _;simp only [BZ,aa,seval];exact .inr a
       . intro v G a;exact absurd a (M v G)
     | false=>have E:(zO (i+1)).filter f=(zO i).filter f:=(by rw [jk,if_neg (by rw [C];decide)];simp);simp only [BZ,r8,w,seval];exact L (i+1) _ _ (by omega) ⟨by omega,F,s.gr d,o.gr d,by rw [E];exact Y.gr _ _ _ _ l d,by simp [aB,r0,r2,ah,r7]⟩
   . have:i=γ.arcs.length:=(by omega);subst this;simp only [BZ,aa,r7,r8,aE,hlt,seval];exact .inl ⟨F,s,o,l⟩
 . exact⟨Xj _,F,s.gr z,o.gr z,Y.gr _ _ _ _ l z,by simp [aB,cL,ah]⟩
theorem worth_ok(f:OZ h0)(g:Fl p):Ret zM 98 [ptrTo bp,p,.int .i64 (k:Nat)] h0 fun v h'=>Gr h0 h'/\ ∃a b4 b5,v=.func (.func 181) #[] #[ptrTo a,ptrTo b4,ptrTo b5]/\h0.n<=a/\h0.n<=b4/\h0.n<=b5/\h'.load a 0 1=some [ptrTo bp]/\h'.load b4 0 1=some [p]/\h'.load b5 0 1=some [.int .i64 (k:Nat)]:=by have S:=Si f;refine erA (n:=8) (rs:=[.tmp 6]) e98 ?_;simp only [BZ,seval];refine ab (bz (by exact bA)) S ?_;clear S;intro h a S b;simp only [BZ,if_false,seval];refine ab (bz (by assumption)) S ?_;clear S;intro h b4 S d;simp only [BZ,if_false,seval];refine ab (bz (by exact aM)) S ?_;clear S;intro h b5 S e;simp only [BZ,aa,seval];exact⟨S.gr,a,b4,b5,rfl,b,d,e,S.ld m2 rfl,S.ld m1 rfl,S.ld m0 rfl⟩
def insB(γ:Gra)(c:Nat->Nat)(k a:Nat):Bool:=decide (c (γ.arcs.getD a default).s=k/\c (γ.arcs.getD a default).t=k)
theorem worth2_ok(e:OZ h)(b:Good γ)(f:aP h nb (ptrTo bp) γ)(x:ia h mb p γ.nodes m c)(g:h.load d 0 1=some [ptrTo bp])(i:h.load b4 0 1=some [p])(j:h.load b5 0 1=some [.int .i64 (k:Nat)])(l:a<γ.arcs.length):aQ zM 183 ([.int .i64 (a:Nat)]++[ptrTo d,ptrTo b4,ptrTo b5]) h (.bool (insB γ c k a)):=by
 refine erA (n:=11) (rs:=[.tmp 5]) e183 ?_;simp only [BZ,g,i,j,seval];refine ae (inside_ok (N:=0) e b f x l) ?_;intro q o;simp only [BZ,aa,seval];exact⟨rfl,o⟩
theorem worth3_ok(g:OZ h)(i:h.load b 0 1=some [.slice (some ⟨d,0,none⟩) n n])(R:Row h d (eh n f) 1)(e:a<n):aQ zM 187 ([.int .i64 (a:Nat)]++[ptrTo b]) h (.bool (f a)):=by
 have S:=Si g;have j:=R.load1 (bolC_at (f:=f) e);have l:(a:Int)<(n:Int):=by omega
 refine erA (n:=14) (rs:=[.tmp 3]) e187 ?_;simp only [BZ,aa,i,l,e,j,seval];exact S.gr
theorem flat_at{a b:Type}{f:a->List b}{l:List a}{q:Nat}{x:b}(d:j<l.length)(h:(f l[j])[q]? =some x):(l.flatMap f)[((l.take j).flatMap f).length+q]? =some x:=by
 have e:l=l.take j++l[j]::l.drop (j+1):=by rw [<-XN d,List.take_append_drop]
 conv=>lhs;rw [e]
 rw [Yf,Yb,XH (by simp)];have g:=(List.getElem?_eq_some_iff.1 h).1;have i:(Xh j l++l[j]::Xi (j+1) l).take j=l.take j:=by rw [<-e]
 rw [i,Yp,XB g];exact h
noncomputable def rC(γ:Gra)(b:Nat):List Nat:=(zO γ.arcs.length).filter (me γ b)
noncomputable def gp(γ:Gra)(c:Nat->Nat)(k:Nat):List Nat:=(zO γ.arcs.length).filter (insB γ c k)++((zO γ.nodes).filter (borB γ c k)).flatMap (rC γ)
theorem worth1_it(K:OZ hq)(t:OZ h0)(kq:eZ hq h0)(nq:hq.n<=h0.n)(y:Good γ)(hn:aP hq nb (ptrTo bp) γ)(x:ia hq mb p γ.nodes m c)(M:h0.load z 0 1=some [ptrTo bp])(e4:h0.load b4 0 1=some [p])(e5:h0.load b5 0 1=some [.int .i64 (k:Nat)]):lz zM 181 [] [ptrTo z,ptrTo b4,ptrTo b5] h0 (fun c=>c=z\/c=b4\/c=b5\/c<hq.n) ((gp γ c k).map fun(a:Nat)=>[.int .i64 (a:Nat)]):=by
 intro lb J Z hz Y h F s N;have n2:=y.n2;have fp:Fl p:=by obtain⟨b,_,rfl,_⟩:=x.at0;exact bA
 have kN: ∀h F,ItS h0 (fun c=>c=z\/c=b4\/c=b5\/c<hq.n) h F->eZ hq h:=fun h F s=>s.keep kq nq (fun c W=>.inr (.inr (.inr W)));have u: ∀h F,ItS h0 (fun c=>c=z\/c=b4\/c=b5\/c<hq.n) h F->aP h nb (ptrTo bp) γ:=fun h F s=>hn.keep K (kN h F s);have C: ∀h F,ItS h0 (fun c=>c=z\/c=b4\/c=b5\/c<hq.n) h F->ia h mb p γ.nodes m c:=fun h F s=>x.keep K (kN h F s);have X: ∀a,a<γ.arcs.length->insB γ c k a=true->((gp γ c k).map fun(a:Nat)=>[Value.int .i64 (a:Nat)])[0+((zO a).filter (insB γ c k)).length]? =some [.int .i64 (a:Nat)]:=fun a E q=>by have Q:=tG q _ E;unfold gp;rw [Xo,Xm,XB (List.getElem?_eq_some_iff.1 Q).1,Q];rfl
 have S:=Si s.ok;refine enA (n:=31) (rs:=[]) e181 ?_;simp only [BZ,seval];refine ab (bz (by exact dI)) S ?_;clear S;intro h l S ad;have s1:=s.gr S.gr;have j1:=Y.gr _ _ _ _ N S.gr;have zy:=(S.row (b:=l) m0).lt S.ok;have ly:=S.ld (b:=l) (o:=0) m0 rfl;have o1:Own (· =l) _ _ F:=⟨Xr _,fun b q=>⟨by subst q;exact zy,fun D=>by subst q;have:=s.lt _ D;omega,rfl⟩⟩;simp only [BZ,seval];refine step_ret (won_ok t y hz Y (B:=(· =l)) rfl ly (.inl rfl) M u (g:=183) (post:=#[ptrTo z,ptrTo b4,ptrTo b5]) (f:=insB γ c k) (fun h F s _ a E=>worth2_ok s.ok y (u _ _ s) (C _ _ s) (s.load t M (.inl rfl)) (s.load t e4 (.inr (.inl rfl))) (s.load t e5 (.inr (.inr (.inl rfl)))) E) X s1 o1 j1) ?_;rintro v h2 (⟨rfl,F2,A,o2,j2⟩|⟨rfl,z2⟩)
 . simp only [BZ,A.load t M (.inl rfl),A.load t e4 (.inr (.inl rfl)),A.load t e5 (.inr (.inr (.inl rfl))),seval];refine step_ret (border_ok A.ok y (u _ _ A) (C _ _ A) (k:=k)) ?_;rintro H hB ⟨gB,R,nB⟩;have sA:=A.gr gB;have jA:=Y.gr _ _ _ _ j2 gB;have T:=o2.gr gB;have lB:hB.load l 0 1=some [.func (.yield lb) #[] #[]]:=nR ly (T.2 l rfl).2.2;have af:l<hB.n:=Xc zy T.1;have oB:Own (fun c=>c=l\/ar H c) hB hB F2:=⟨Xr _,fun b q=>⟨q.elim (fun e=>by subst e;exact af) (fun h=>R.lt sA.ok h),fun D=>q.elim (fun e=>(T.2 b e).2.1 D) (fun h=>by have:=nB b h;have:=A.lt b D;omega),rfl⟩⟩;generalize U:(zO γ.nodes).filter (borB γ c k)=L at R;have ai: ∀b∈L,b<γ.nodes:=fun b q=>(by rw [<-U]at q;exact List.mem_range.1 (List.mem_filter.1 q).1);have al:L.length<=γ.nodes:=(by rw [<-U];exact tF);simp only [BZ,R.lenq,seval];refine aX (fun(j:Nat) I h=>j<=L.length/\ ∃F,ItS h0 (fun c=>c=z\/c=b4\/c=b5\/c<hq.n) h F/\Own (fun c=>c=l\/ar H c) hB h F/\J (((zO γ.arcs.length).filter (insB γ c k)).length+((L.take j).flatMap (rC γ)).length) h F/\I 1=ptrTo z/\I 5=.func (.func 182) #[] #[ptrTo z,ptrTo l]/\I 17=H/\I 18=.int .i64 (L.length:Nat)/\I 19=.int .i64 j) (fun j=>L.length-j) ?_ 0 _ _ ?_
   . clear S s1 j1 o1 A j2 o2 sA jA T oB;intro j ih I h ⟨hj',F,s,o,N,r1,r5,r17,r18,r19⟩;have w:am .i64 ((j:Int)+1)=((j+1:Nat):Int):=(by rw [wrap64]<;>omega);by_cases hlt:j<L.length
     . have q:=ai _ (Xk hlt);have sl:aw h 1 bM H L:=sl_get R (fun c W=>(o.2 c (.inr W)).2.2);obtain⟨d,oo,x0,V⟩:=sl.ix (kd:=.i64) dr hlt;have O: ∀a,a<γ.arcs.length->me γ L[j] a=true->((gp γ c k).map fun(a:Nat)=>[Value.int .i64 (a:Nat)])[((zO γ.arcs.length).filter (insB γ c k)).length+((L.take j).flatMap (rC γ)).length+((zO a).filter (me γ L[j])).length]? =some [.int .i64 (a:Nat)]:=fun a E q=>(by have Q:(rC γ L[j])[((zO a).filter (me γ L[j])).length]? =some a:=tG q _ E;unfold gp;rw [U,Xm,Nat.add_assoc,XH (by omega),Yp,flat_at hlt Q];rfl);have tk:((L.take (j+1)).flatMap (rC γ)).length=((L.take j).flatMap (rC γ)).length+((zO γ.arcs.length).filter (me γ L[j])).length:=(by rw [Xg hlt,Yf,XR];simp [rC]);generalize L[j]=b at q V O tk;replace V:h.load d oo 1=some [.int .i64 (b:Nat)]:=V;simp only [BZ,r1,r17,r18,r19,aE,hlt,x0,V,s.load t M (.inl rfl),seval];refine step_ret (arcsT_ok s.ok y (u _ _ s) q) ?_;rintro r h4 ⟨g4,bl,rfl,R4,nl⟩;have S:=Si g4.ok;simp only [BZ];refine ab au S ?_;clear S;intro h P S ak;simp only [BZ,seval];refine az (aA S (i:=0) rfl t100.2.2.1 bH (Xe (lbt rfl)) ono) ?_;clear S;rintro h5 ⟨S,_⟩;simp only [LC]at S;have g5:=g4.trans S.gr;have s5:=s.gr g5;have j5:=Y.gr _ _ _ _ N g5;have G:=o.gr g5;have R8:=S.row (b:=P) m0;have Rl:=R4.gr S.gr;have k4:=g4.n;have oC:Own (fun c=>(c=l\/ar H c)\/c=P\/c=bl) h5 h5 F:=⟨Xr _,fun b q=>by
        rcases q with q|rfl|rfl
        . exact⟨Xc (G.2 b q).1 G.1,(G.2 b q).2.1,rfl⟩
        . exact⟨R8.lt S.ok,fun D=>by have:=s.lt _ D;omega,rfl⟩
        . exact⟨Rl.lt S.ok,fun D=>by have:=s.lt _ D;omega,rfl⟩⟩
       have l5:h5.load l 0 1=some [.func (.yield lb) #[] #[]]:=nR lB (G.2 l (.inl rfl)).2.2;simp only [BZ,r5,seval];refine step_ret (won_ok t y hz Y (B:=fun c=>(c=l\/ar H c)\/c=P\/c=bl) (.inl (.inl rfl)) l5 (.inl rfl) M u (g:=187) (post:=#[ptrTo P]) (f:=me γ b) (fun h F s o a E=>worth3_ok s.ok (nR (R8.load1 (o:=0) rfl) (o.2 P (.inr (.inl rfl))).2.2) (Row.of_get (o.2 bl (.inr (.inr rfl))).2.2 Rl) E) O s5 oC j5) ?_;rintro v h6 (⟨rfl,F6,s6,o6,j6⟩|⟨rfl,z6⟩)
       . simp only [BZ,r19,w,seval];refine ih (j+1) _ _ (by omega) ⟨by omega,F6,s6,⟨Xb G.1 o6.1,fun b q=>⟨(G.2 b q).1,(o6.2 b (.inl q)).2.1,(o6.2 b (.inl q)).2.2.trans (G.2 b q).2.2⟩⟩,by rw [tk,<-Nat.add_assoc];exact j6,by simp [aB,r1,ah,r5,r17,r18]⟩
       . simp only [BZ,seval];exact gJ rfl ⟨rfl,.inr (.inl ⟨_,rfl,z6⟩)⟩
     . have:j=L.length:=(by omega);subst this;simp only [BZ,r18,r19,aE,hlt,seval];refine bU (cy ⟨rfl,_,rfl,rfl,.inl ⟨_,F,rfl,?_⟩⟩);rw [XD]at N;rw [Xn];unfold gp;rw [XR,U];exact N
   . exact⟨Xj _,F2,sA,oB,by simpa using jA,by simp [aB,cL,ah]⟩
 . simp only [BZ,seval];exact gJ rfl ⟨rfl,.inr (.inl ⟨_,rfl,z2⟩)⟩
end
def OkB(e:Gra)(c:Nat->Nat)(b k i:Nat)(B:Nat->Nat):Prop:= ∀d a,a/8<b->(gX B b d a=true↔(d<k/\a∈gp e c d)\/(d=k/\a∈(gp e c k).take i))
theorem OkB.zero{d:Gra}{c:Nat->Nat}:OkB d c b 0 0 (fun _=>0):=fun e a _=>by simp [gX]
theorem OkB.next{f:Gra}{c:Nat->Nat}(o:OkB f c b k (gp f c k).length B):OkB f c b (k+1) 0 B:=fun g a h=>by
 rw [o g a h,XD];simp only [XU,Xl,and_false,or_false];constructor
 . rintro(⟨i,d⟩|⟨rfl,d⟩)
   . exact⟨by omega,d⟩
   . exact⟨by omega,d⟩
 . rintro⟨i,d⟩;by_cases e:g=k
   . subst e;exact .inr ⟨rfl,d⟩
   . exact .inl ⟨by omega,d⟩
theorem OkB.set{d:Gra}{c:Nat->Nat}(n:b=(d.arcs.length+7)/8)(o:OkB d c b k i B)(l:i<(gp d c k).length)(hlt:(gp d c k)[i]<d.arcs.length):OkB d c b k (i+1) (d9 B (k*b+(gp d c k)[i]/8) (setB (B (k*b+(gp d c k)[i]/8)) ((gp d c k)[i]%8))):=fun j a m=>by
 rw [BW (by omega) (by omega),Xg l];by_cases e:j=k/\a=(gp d c k)[i]
 . rw [if_pos e];obtain⟨rfl,e⟩:=e;subst e;exact⟨fun _=>.inr ⟨rfl,List.mem_append.2 (.inr (List.mem_singleton.2 rfl))⟩,fun _=>rfl⟩
 . rw [if_neg e,o j a m];simp only [X6,X9];constructor
   . rintro(h|⟨g,f⟩)
     . exact .inl h
     . exact .inr ⟨g,.inl f⟩
   . rintro(h|⟨g,f|f⟩)
     . exact .inl h
     . exact .inr ⟨g,f⟩
     . exact absurd ⟨g,f⟩ e
theorem Bj{d:Gra}{c:Nat->Nat}(h:a∈gp d c k):a<d.arcs.length:=by
 unfold gp at h;rcases List.mem_append.1 h with h|h
 . exact List.mem_range.1 (List.mem_filter.1 h).1
 . obtain⟨b,_,h⟩:=List.mem_flatMap.1 h;exact List.mem_range.1 (List.mem_filter.1 h).1
theorem perm_db{c:Type}{x a b d:c}{l:List c}:List.Perm (x::([a,b]++(d::l))) ([d,x,a,b]++l):=by show List.Perm ([x,a,b]++d::l) (d::([x,a,b]++l));exact List.perm_middle
theorem Bk{a:List Nat}:keys (L++dR a) []=L.map Prod.fst++a:=by simp [keys,dR,Yk]
theorem ofB_ok(ok:OZ h0){q:Gra}{cb:Nat}{m:List Int}{c:Nat->Nat}{M:Nat}(D:Good q)(hn:aP h0 nb (ptrTo bp) q)(x:ia h0 mb (ptrTo cb) q.nodes m c)(hM:ic m+1=(M:Int))(Q:M<=100):Ret zM 38 [ptrTo bp,ptrTo cb] h0 fun r h'=>Gr h0 h'/\ ∃t f B,r=ptrTo t/\h0.n<=t/\h0.n<=f/\t≠f/\eJ h' t f M q.arcs.length ((q.arcs.length+7)/8) B/\OkB q c ((q.arcs.length+7)/8) M 0 B:=by
 have S:=Si ok;have n1:=D.n1;have n2:=D.n2;have ai:=D.many;have xl:=x.len;have co: ∀{h},Gr h0 h->mU h (ptrTo cb) m (M:Int):=fun g=>.inr ⟨⟨_,(x.gr g).at0⟩,by rw [hM]⟩;refine erA (n:=33) (rs:=[.tmp 4]) e38 ?_;simp only [BZ,seval];refine ae (BV S.ok hn (co S.gr) n1 (by omega)) ?_;intro h1 g1;replace S:=S.call g1;simp only [BZ,xl,seval];refine ae (Au S.ok (co S.gr)) ?_;intro O R;replace S:=S.call R;simp only [BZ,seval];refine ae (iW S.ok (hn.gr S.gr)) ?_;intro h3 g3;replace S:=S.call g3;simp only [BZ,seval];refine step_ret (bmNew_ok S.ok Q (by omega)) ?_;rintro r z ⟨U,t,f,rfl,nf,ax,H,V⟩;have k3:=S.gr.n;have ay:=S.ok;have gq:=S.gr.trans U;have kN:=U.n;have gS:=S.gr;clear S;have S:St (· =f) z z [(f,.row _ 1)] []:=St.init1 U.ok (o:=.row _ 1) V.b;have zf:=V.b.lt U.ok;have zp:=V.r.lt U.ok;simp only [BZ];refine ab au S ?_;clear S;intro h u S ak;simp only [BZ,seval];refine az (aA S (i:=0) rfl ?_ ?_ ?_ ono) ?_
 . exact(by simp only [FA0])
 . exact(by exact bA)
 . exact Xe (lbt rfl)
 clear S;rintro h ⟨S,mo⟩;clear mo;simp only [LC,ac,lay,Xh,Xi,seval]at S;simp only [BZ,seval];have gO: ∀{h:Hp} {L:List (Nat×Ob)} {G:List GL},St (· =f) z h L G->Gr h0 h:=fun S=>(gq.fr.trans S.fr (fun b e=>.inr (by subst e;omega)):Mo NoM _ _).gr;have kO: ∀{h:Hp} {L:List (Nat×Ob)} {G:List GL},St (· =f) z h L G->eJ z t f M q.arcs.length ((q.arcs.length+7)/8) (fun _=>0)->Row h t [.int .i64 M,.int .i64 q.arcs.length,.int .i64 ((q.arcs.length+7)/8:Nat),.slice (some ⟨f,0,none⟩) (M*((q.arcs.length+7)/8)) (M*((q.arcs.length+7)/8))] 1:=fun S b=>Row.of_get (S.fr.get t zp H) b.r;have hr:=fun {h:Hp} {L:List (Nat×Ob)} {G:List GL} (S:St (· =f) z h L G)=>kO S V;refine ae (Au S.ok (co (gO S))) ?_;intro h4 g4;replace S:=S.call g4;simp only [BZ];generalize A:(q.arcs.length+7)/8=l at*
 refine sK (fun(k:Nat) P d h=>k<=M/\ ∃p B,d=p.map sI/\St (· =f) z h ([(u,.row [ptrTo t] 1),(f,.row (jm (M*l) B) 1)]++dR p) []/\(∀j,B j<256)/\OkB q c l k 0 B/\P 0=ptrTo bp/\P 1=ptrTo cb/\P 5=ptrTo u/\P 18=.int .i64 (M:Nat)/\P 19=.int .i64 k) (fun k=>M-k) ?_ 0 _ _ _ ?_
 . clear S g4;rintro k ih P d h ⟨hk,p,B,rfl,S,hB,oB,r0,r1,r5,r18,r19⟩;have w:am .i64 ((k:Int)+1)=((k+1:Nat):Int):=(by rw [wrap64]<;>omega);by_cases hlt:k<M
   . simp only [BZ,r18,r19,aE,hlt,seval];refine ab au S ?_;clear S;intro h C S al;simp only [BZ,seval];refine az (aA S (i:=0) rfl ?_ ?_ ?_ ono) ?_
     . exact(by simp only [FA0])
     . exact(by exact aM)
     . exact Xe (lbt rfl)
     clear S;rintro h ⟨S,mo⟩;clear mo;simp only [LC,ac,lay,Xh,Xi,seval]at S;simp only [BZ,r0,r1,S.ld (b:=C) (o:=0) m0 rfl,seval];refine step_ret (worth_ok S.ok (k:=k) bA) ?_;rintro v hW ⟨gW,w3,w4,w5,rfl,n3,n4,n5,e3,e4,e5⟩;have kk: ∀b∈[C,u,f]++p,h0.n<=b/\b<w3/\b<w4/\b<w5/\b<hW.n:=fun b s=>(by have hm:b∈keys ([(C,Ob.row [.int .i64 (k:Nat)] 1),(u,.row [ptrTo t] 1),(f,.row (jm (M*l) B) 1)]++dR p) []:=(by rw [Bk];exact s);have h1:=S.key_lt hm;have O:=S.key_own hm;have h3:=gW.n;have h4:h0.n<=b:=O.elim (fun h=>by omega) (fun h=>by subst h;omega);omega);replace S:=S.call gW;have aL:=gW.n;have W:=gO S;have zN:=S.fr.n;have it:=worth1_it ok S.ok W.keep W.n D hn x e3 e4 e5;simp only [BZ];refine gP S (g:=181) (a:=#[]) (b:=#[ptrTo w3,ptrTo w4,ptrTo w5]) (by simp [bw,aB,ah]) rfl rfl ?_;intro O E I Y a0 a1 R;obtain⟨X,hX,Y⟩: ∃X:fF,X=_/\St (· =f) z O ([(I,.loop X),(E,.dfr),(C,.row [.int .i64 (k:Nat)] 1),(u,.row [ptrTo t] 1),(f,.row (jm (M*l) B) 1)]++dR p) []:=⟨_,rfl,Y⟩;have hJ:Yld zM I (fun i h' F=> ∃B,St (· =f) z h' ([(I,.loop X),(E,.dfr),(C,.row [.int .i64 (k:Nat)] 1),(u,.row [ptrTo t] 1),(f,.row (jm (M*l) B) 1)]++dR p) []/\(∀j,B j<256)/\OkB q c l k i B/\F=[I,E,C,u,f]++p) (fun _ _=>False) ((gp q c k).map fun(a:Nat)=>[.int .i64 (a:Nat)]):=by
      refine⟨?_,?_,fun _ _ h=>h.elim,?_⟩
      . rintro i h F ⟨B,S,_,_,rfl⟩;exact⟨S.ok,fun b s=>S.key_lt (by rw [Bk];exact s)⟩
      . rintro i h F h' ⟨B,S,a,b,rfl⟩ gg;exact⟨B,S.call gg,a,b,rfl⟩
      . rintro i x hR F J ⟨B,S,hB,oB,rfl⟩;have K:i<(gp q c k).length:=(by have:=(List.getElem?_eq_some_iff.1 J).1;simpa using this);rw [Xm,Xd K]at J;cases J;have N:(gp q c k)[i]<q.arcs.length:=Bj (Xk K);have Z:=oB.set A.symm K N;generalize(gp q c k)[i]=a at N Z;subst hX;refine gK (S.get m0) (by rw [e38];rfl) rfl ?_;have S0:=S;replace S:=S.base;simp only [BZ,seval];refine fG S (i:=0) rfl rfl rfl rfl rfl ?_;clear S;intro h S;simp only [LC]at S;simp only [BZ,r5,S.ld (b:=C) (o:=0) m2 rfl,S.ld (b:=u) (o:=0) m3 rfl,seval];have BA:eJ h t f M q.arcs.length l B:=⟨hr (S0.rebase S),S.row (b:=f) m4,hB⟩;refine step_ret (bSet_ok S.ok BA H hlt N Q (by omega) A.symm) ?_;rintro v h5 ⟨f5,rfl,B5⟩;have S5:=S.call1 (i:=4) (o':=.row _ 1) rfl f5 B5.b;simp only [XQ,X8]at S5;clear S;simp only [BZ];refine dC S5 (i:=0) rfl ?_;clear S5;intro h S;simp only [LC]at S;refine .inl ⟨rfl,_,⟨_,S0.rebase S,B5.lt,Z,rfl⟩,?_,fun c hc=>.inl hc⟩;exact S.fr.mono fun b s=>by simpa [keys,dR,Yk]using s
     refine dh (it I _ _ (fun _ _ h=>h) hJ O ([I,E,C,u,f]++p) ?_ ⟨B,Y,hB,oB,rfl⟩) fun o rc h' y=>iJ y ?_
     . have kn:=R.n;refine⟨Y.ok,R.n,fun b s hd=>R.get b s,fun b s h=>?_,fun b s=>Y.key_lt (by simpa [keys,dR,Yk]using s)⟩;simp only [X6,Xt,Xl,or_false]at s;obtain⟨h1,O⟩:=h;have J:b=I\/b=E\/b∈[C,u,f]++p:=by
        rcases s with(s|s|s)|s
        . exact .inl s
        . exact .inr (.inl s)
        . exact .inr (.inr (List.mem_append.2 (.inl (by simpa using s))))
        . exact .inr (.inr (List.mem_append.2 (.inr s)))
       rcases J with rfl|rfl|J
       . omega
       . omega
       . have:=kk b J;omega
     . rintro F ⟨B1,T,af,ad,rfl⟩;rw [Xn]at ad;subst hX;refine⟨_,T.get m0,XJ,?_⟩;replace T:=T.dead;show Run _ _ _ _ _ _ _ _;have T1:St (· =f) z _ ([(E,.dfr),(C,.row [.int .i64 (k:Nat)] 1),(u,.row [ptrTo t] 1),(f,.row (jm (M*l) B1) 1)]++dR p) []:=T;have T':St (· =f) z _ ([(u,.row [ptrTo t] 1),(f,.row (jm (M*l) B1) 1)]++(E,.dfr)::dR p) []:=(T1.permL perm_db).drop1;simp only [BZ,r19,w,seval];exact ih (k+1) _ _ _ (by omega) ⟨by omega,E::p,B1,rfl,T',af,ad.next,by simp [aB,r0,ah,r1,r5,r18]⟩
   . have:k=M:=(by omega);subst this;have gE:=gO S;have S0:=S;simp only [LC]at S;simp only [BZ,r5,r18,r19,aE,hlt,S.ld (b:=u) (o:=0) m0 rfl,seval];refine df (gm p _ (L:=[(u,_),(f,_)]) (S0.permL XV) fun h4 S4=>?_);refine⟨rfl,(dP (by decide)).2 (cu.2 ?_)⟩;refine⟨gO S4,t,f,B,?_,by omega,by omega,H,⟨hr S4,S4.row m1,hB⟩,oB⟩;exact rfl
 . exact⟨Xj _,[],_,rfl,S,V.lt,OkB.zero,by simp [aB,cL,ah]⟩
theorem get1_ok(g:OZ h0){x:Nat}(l:h0.load b j 1=some [.int .u8 (x:Nat)])(c:x<256)(d:i<8):aQ zM 276 [.pointer (some ⟨b,j,none⟩),.int .u8 ((2 ^i:Nat):Int)] h0 (.bool (x.testBit i)):=by
 have S:=Si g;cases f:x.testBit i with
 | true=>
   have a: ¬(((x&&& 2 ^i:Nat)):Int)=0:=fun e=>(by have:(x&&& 2 ^i)=0:=(by omega);rw [and_pow,f]at this;cases this);refine erA (n:=11) (rs:=[.tmp 4]) e276 ?_;simp only [BZ,aa,l,b_and8 c (pow8 d),a,seval];exact S.gr
 | false=>have a:(((x&&& 2 ^i:Nat)):Int)=0:=(by have:=and_pow.2 f;omega);refine erA (n:=11) (rs:=[.tmp 4]) e276 ?_;simp only [BZ,aa,l,b_and8 c (pow8 d),a,seval];exact S.gr
section
variable{h0:Hp}{bp bb rows wide long:Nat}{B:Nat->Nat}
theorem bGet_ok(j:OZ h0)(m:eJ h0 bp bb rows wide long B)(t:r<rows)(u:i<wide)(b:rows<=100)(c:wide<=1000)(d:long=(wide+7)/8):aQ zM 256 [ptrTo bp,.int .i64 (r:Nat),.int .i64 (i:Nat)] h0 (.bool (gX B long r i)):=by
 obtain⟨w,x,y,z,k,M,l⟩:=uu t u b c d;have A: ∀{h:Hp},Gr h0 h->aQ zM 99 [ptrTo bp,.int .i64 (r:Nat),.int .i64 (i:Nat),.func (.func 276) #[] #[]] h (.bool (gX B long r i)):=by
  intro h g;have S:=Si g.ok;have e:=m.gr g;have C: ¬(r:Int)<0:=by omega
  have D: ¬(rows:Int)<=(r:Int):=by omega
  have E: ¬(i:Int)<0:=by omega
  have F: ¬(wide:Int)<=(i:Int):=by omega
  have G:=e.r.load1 (o:=2) rfl;have H:=e.r.load1 (o:=3) rfl;have I:=e.b.load1 (wg k);have J:=e.r.lt g.ok;refine erA (n:=46) (rs:=[.tmp 8]) e99 ?_;simp only [BZ,C,seval];refine ae (jT S.ok e.bits) ?_;intro N f;replace S:=S.call f;simp only [BZ,D,E,seval];refine ae (jN S.ok (e.gr f).bits) ?_;intro O p;replace S:=S.call p;have a:=f.trans p;have K:=a.load G;have L:=a.load H;simp only [BZ,F,seval];refine ao (av rfl) (q:=0) (ps:=[]) (by kernel_rfl) ?_;simp only [BZ,cls,K,L,w,x,y,z,k,mV (n:=8) (by decide),j8 (n:=8) (by decide),b_shl8 l,seval];refine bj (get1_ok S.ok (a.load I) (e.lt _) l) ?_;intro P s;have v:=ag s (Xc J a.n);replace S:=S.call s;simp only [BZ,cls,aa,seval];exact⟨rfl,S.gr⟩
 have S:=Si j;refine erA (n:=11) (rs:=[.tmp 6]) e256 ?_;simp only [BZ,seval];refine ae (A (Gr.refl j)) ?_;intro h g;simp only [BZ,aa,seval];exact g
end
theorem bOn_ok(e:OZ h0):Ret zM 217 [ptrTo d,.int .i64 (r:Nat)] h0 fun v h'=>Gr h0 h'/\ ∃b2 a,v=.func (.func 255) #[] #[ptrTo b2,ptrTo a]/\h0.n<=b2/\h0.n<=a/\h'.load b2 0 1=some [ptrTo d]/\h'.load a 0 1=some [.int .i64 (r:Nat)]:=by have S:=Si e;refine erA (n:=6) (rs:=[.tmp 4]) e217 ?_;simp only [BZ,seval];refine ab (bz (by exact bA)) S ?_;clear S;intro h b2 S b;simp only [BZ,if_false,seval];refine ab (bz (by exact aM)) S ?_;clear S;intro h a S c;simp only [BZ,aa,seval];exact⟨S.gr,b2,a,rfl,b,c,S.ld m1 rfl,S.ld m0 rfl⟩
section
variable{h0:Hp}{bp bb rows wide long:Nat}{B:Nat->Nat}
theorem eJ.its(s:ItS h0 D h F)(a:OZ h0)(m:eJ h0 bp bb rows wide long B)(b:D bp)(c:D bb):eJ h bp bb rows wide long B:=
 ⟨Row.of_get (s.data bp (m.r.lt a) b) m.r,Row.of_get (s.data bb (m.b.lt a) c) m.b,m.lt⟩
theorem on1_it(b:OZ h0)(m:eJ h0 bp bb rows wide long B)(C:r<rows)(d:rows<=100)(e:wide<=1000)(f:long=(wide+7)/8)(x:h0.load b2 0 1=some [ptrTo bp])(D:h0.load k 0 1=some [.int .i64 (r:Nat)]):lz zM 255 [] [ptrTo b2,ptrTo k] h0 (fun c=>c=b2\/c=k\/c=bp\/c=bb) (((zO wide).filter (gX B long r)).map fun(i:Nat)=>[.int .i64 (i:Nat)]):=by
 intro E J Z G Y h F s g;have l:=s.load b x (.inl rfl);refine enA (n:=21) (rs:=[]) e255 ?_;simp only [BZ,l,seval];refine ae (jN s.ok (m.its s b (.inr (.inr (.inl rfl))) (.inr (.inr (.inr rfl)))).bits) ?_;intro N p;have y:=s.gr p;have z:=Y.gr _ _ _ _ g p;simp only [BZ];refine aX (fun(i:Nat) j h=>i<=wide/\ ∃F,ItS h0 (fun c=>c=b2\/c=k\/c=bp\/c=bb) h F/\J ((zO i).filter (gX B long r)).length h F/\j 0=.func (.yield E) #[] #[]/\j 1=ptrTo b2/\j 2=ptrTo k/\j 6=.int .i64 (wide:Nat)/\j 7=.int .i64 i) (fun i=>wide-i) ?_ 0 _ _ ?_
 . clear l s g y z F p h;intro i A j h ⟨hi,F,s,g,r0,r1,r2,r6,r7⟩;have w:am .i64 ((i:Int)+1)=((i+1:Nat):Int):=(by rw [wrap64]<;>omega);by_cases hlt:i<wide
   . have l:=s.load b x (.inl rfl);have H:=s.load b D (.inr (.inl rfl));have I:=m.its s b (.inr (.inr (.inl rfl))) (.inr (.inr (.inr rfl)));simp only [BZ,r1,r2,r6,r7,aE,hlt,l,H,seval];refine ae (bGet_ok s.ok I C hlt d e f) ?_;intro O o;cases q:gX B long r i with
     | true=>
       have K:(((zO wide).filter (gX B long r)).map fun(i:Nat)=>[Value.int .i64 (i:Nat)])[((zO i).filter (gX B long r)).length]? =some [.int .i64 (i:Nat)]:=(by rw [Xm,tG q _ hlt];rfl);have t:((zO (i+1)).filter (gX B long r)).length=((zO i).filter (gX B long r)).length+1:=(by rw [jk,if_pos q];simp);simp only [BZ,r0,seval];refine c7 Y (s.gr o) (Y.gr _ _ _ _ g o) (i:=((zO i).filter (gX B long r)).length) K ?_ ?_ ?_
       . intro u L a M _ _;simp only [BZ,r7,w,seval];exact A (i+1) _ _ (by omega) ⟨by omega,L,M,by rw [t];exact a,by simp [aB,r0,r1,ah,r2,r6]⟩
       . intro u a _;simp only [BZ,seval];exact gJ rfl ⟨rfl,.inr (.inl ⟨_,rfl,a⟩)⟩
       . intro v u a;exact absurd a (G v u)
     | false=>have t:(zO (i+1)).filter (gX B long r)=(zO i).filter (gX B long r):=(by rw [jk,if_neg (by rw [q];decide)];simp);simp only [BZ,r7,w,seval];exact A (i+1) _ _ (by omega) ⟨by omega,F,s.gr o,by rw [t];exact Y.gr _ _ _ _ g o,by simp [aB,r0,r1,ah,r2,r6]⟩
   . simp only [BZ,r6,r7,aE,hlt,seval];have:i=wide:=(by omega);subst this;exact bU (cy ⟨rfl,_,rfl,rfl,.inl ⟨_,F,rfl,by simpa using g⟩⟩)
 . exact⟨Xj _,F,y,z,by simp [aB,cL,ah]⟩
theorem bRow_ok(G:OZ h0)(m:eJ h0 bp bb rows wide long B)(hr:r<rows)(s:rows<=100)(d:wide<=1000)(t:long=(wide+7)/8):Ret zM 148 [ptrTo bp,.int .i64 (r:Nat)] h0 fun v h'=>Gr h0 h'/\aw h' 1 bM v ((zO wide).filter (gX B long r))/\ ∀c,ar v c->h0.n<=c:=by
 have S:=Si G;refine erA (n:=15) (rs:=[.cell 4 41]) e148 ?_;simp only [BZ];refine ab au S ?_;clear S;intro h p S Q;simp only [BZ,seval];have k4:=(S.row (b:=p) m0).lt S.ok;refine step_ret (bOn_ok S.ok) ?_;rintro v R ⟨g,b2,b3,rfl,n2,n3,y2,y3⟩;have H:=m.gr (S.gr.trans g);replace S:=S.call g;have U:=on1_it S.ok H hr s d t y2 y3;have zp:=H.r.lt S.ok;have zb:=H.b.lt S.ok;have wp:=m.r.lt G;have wb:=m.b.lt G;generalize I:(zO wide).filter (gX B long r)=f at U;have af:f.length<=1000:=by rw [<-I];exact Xb tF d
 simp only [BZ];replace S:=S.nilG (k:=1);refine gP S (g:=255) (a:=#[]) (b:=#[ptrTo b2,ptrTo b3]) (by simp [bw,aB,ah]) rfl rfl ?_;intro J E u z K M V;obtain⟨X,W,z⟩: ∃X:fF,X=_/\St NoM h0 J [(u,.loop X),(E,.dfr),(p,.row [.slice none 0 0] 1)] [(.slice none 0 0,1,[])]:=⟨_,rfl,z⟩;have hJ:Yld zM u (fun k h' F=> ∃(l:Value),St NoM h0 h' [(u,.loop X),(E,.dfr),(p,.row [l] 1)] [(l,1,fe (f.take k))]/\k<=f.length/\F=keys [(u,.loop X),(E,.dfr),(p,.row [l] 1)] [(l,1,fe (f.take k))]/\(∀c∈F,R.n<=c\/c=p)) (fun _ _=>False) (f.map fun(i:Nat)=>[.int .i64 (i:Nat)]):=by
  refine⟨?_,?_,fun _ _ h=>h.elim,?_⟩
  . rintro i h F ⟨l,S,_,rfl,_⟩;exact⟨S.ok,fun b q=>S.key_lt q⟩
  . rintro i h F h' ⟨l,S,a,rfl,c⟩ gg;exact⟨l,S.call gg,a,rfl,c⟩
  . rintro i x hR F N ⟨l,S,a,rfl,Y⟩;have A:i<f.length:=(by have:=(List.getElem?_eq_some_iff.1 N).1;simpa using this);rw [Xm,Xd A]at N;cases N;have Z:fe (f.take (i+1))=fe (f.take i)++[.int .i64 (f[i]:Nat)]:=(by rw [Xg A];unfold fe;rw [XY];rfl);have tl:(fe (f.take i)).length<=i:=(by rw [mN,XK];omega);generalize f[i]=x at Z;have ai:Fl l:=(S.gown _ m0).1.fl;subst W;refine gK (S.get m0) (by rw [e148];rfl) rfl ?_;have S0:=S;have kR:=S.fr.n;have lim:R.n<=hR.n:=(by have h1:=Y u (by simp [keys]);have J:=S.key_lt (b:=u) (by simp [keys]);omega);replace S:=S.base;simp only [BZ,seval];refine fG S (i:=0) rfl rfl rfl rfl rfl ?_;clear S;intro h S;simp only [LC]at S;simp only [BZ,S.ld (b:=p) (o:=0) m2 rfl,seval];refine ab (bZ (by exact t41.1) (by exact XT) (by decide) (by rfl)) S ?_;clear S;intro h bs S ad;simp only [LC,bJ,cd,ac,Xp,Xo,Xq,Xv,seval]at S;simp only [BZ,seval];have C:aR h 1 (.slice (some ⟨bs,0,none⟩) 1 1)=some (1,[.int .i64 (x:Nat)]):=(by simp only [aR];rw [S.lds (b:=bs) (o:=0) (n:=1*1) m0 (lbt rfl)];rfl);replace S:=S.drop1;refine dT (S.grow (j:=0) (m:=1) (new:=[.int .i64 (x:Nat)]) rfl t41.1 XT (by decide) t41.2.2.2.2.2 C rfl (by decide) rfl (by rw [mN];simp;omega)) ?_;clear S C;rintro h D S;simp only [LC]at S;have O:Fl D:=(S.gown _ m0).1.fl;simp only [BZ,seval];refine az (aA S (i:=2) rfl t41.2.2.1 O (Xe (lbt rfl)) ono) ?_;clear S;rintro h ⟨S,_⟩;simp only [LC]at S;simp only [BZ];refine dC S (i:=0) rfl ?_;clear S;intro h S;simp only [LC]at S;rw [<-Z]at S;refine .inl ⟨rfl,_,⟨D,S0.rebase S,by omega,rfl,fun c w=>?_⟩,S.fr,S.key_new⟩;rcases S.key_new c w with h|h
    . exact Y c h
    . exact .inl (by omega)
 refine dh (U u _ _ (fun _ _ h=>h) hJ J _ ?_ ⟨_,z,Xj _,rfl,fun c w=>?_⟩) fun o rc h' y=>iJ y ?_
 . refine⟨z.ok,V.n,fun b q _=>V.get b q,fun b q h=>?_,fun b q=>z.key_lt q⟩;simp only [keys,XG,XP,Yz,eH,XL,XM,Xt,Xl,or_false]at q;rcases q with rfl|rfl|rfl
   . omega
   . omega
   . rcases h.2 with e|e|e|e<;>omega
 . simp only [keys,XG,XP,Yz,eH,XL,XM,Xt,Xl,or_false]at w;rcases w with rfl|rfl|rfl
   . exact .inl M
   . exact .inl K
   . exact .inr rfl
 . rintro F ⟨l,T,b,rfl,_⟩;rw [Xn,XD]at T;subst W;refine⟨_,T.get m0,XJ,?_⟩;replace T:=T.dead;have S:=T;show Run _ _ _ _ _ _ _ _;simp only [BZ,S.ld (b:=p) (o:=0) m1 rfl,seval];have O:Fl l:=(T.gown _ m0).1.fl;clear S;refine az (aA T (i:=1) rfl t41.2.2.1 O (Xe (lbt rfl)) ono) ?_;clear T;rintro h3 ⟨T,_⟩;simp only [XQ,X8]at T;simp only [BZ];refine df (gm [E] _ (L:=[(p,_)]) T.base fun h4 P=>?_);refine⟨rfl,(bD (by decide) (by simp only [aD,ah,seval];exact iA t41.2.1 (P.ld (b:=p) (o:=0) m0 rfl))).2 (cu.2 ⟨(T.rebase P).gr,(P.gown _ m0).1.sl (tq _).symm dr (by decide),fun c w=>?_⟩)⟩;rcases(T.gblk m0 w).1 with h|h
   . exact h
   . exact h.elim
end
theorem allowF_ok(M:OZ h0){l f g:Nat}(m:eJ h0 H N l f g B)(O:k<l)(p:l<=100)(q:f<=1000)(s:g=(f+7)/8):Ret zM 56 [ptrTo H,.int .i64 (k:Nat)] h0 fun r h'=>Gr h0 h'/\ ∃o,r=.slice (some ⟨o,0,none⟩) f f/\Row h' o (eh f (gX B g k)) 1/\h0.n<=o:=by
 have S:=Si M;have P: ¬((k:Int)<0):=by omega
 have Q: ¬((l:Int)<=(k:Int)):=by omega
 refine erA (n:=32) (rs:=[.tmp 4]) e56 ?_;simp only [BZ,P,seval];refine ae (jT S.ok m.bits) ?_;intro R T;replace S:=S.call T;simp only [BZ,Q,seval];refine ae (jN S.ok (m.gr S.gr).bits) ?_;intro h2 U;replace S:=S.call U;simp only [BZ,seval];refine ab (mJ (by exact t100.1) (by exact YB) (by omega) (by omega)) S ?_;clear S;intro h o S y;have V:bJ [Value.bool false] f=eh f (fun a=>decide (a∈((zO f).filter (gX B g k)).take 0)):=by rw [pQ];unfold eh;simp [XZ]
 rw [Xu,V]at S;simp only [BZ,Xu,seval];refine step_ret (bRow_ok S.ok (m.gr S.gr) O p q s) ?_;rintro v W ⟨X,D,Y⟩;have k3:=(S.row (b:=o) m0).lt S.ok;replace S:=S.call X;generalize E:(zO f).filter (gX B g k)=L at D S;have F: ∀a∈L,a<f:=fun a I=>by rw [<-E]at I;exact List.mem_range.1 (List.mem_filter.1 I).1
 have Z:L.length<=f:=by rw [<-E];exact tF
 have ad:=S.ok;have nA:=S.gr;simp only [BZ,D.lenq,seval];refine aX (fun(i:Nat) z h=>i<=L.length/\St NoM h0 h [(o,.row (eh f (fun a=>decide (a∈L.take i))) 1)] []/\(∀c,ar v c->h.get c=W.get c)/\z 5=.slice (some ⟨o,0,none⟩) f f/\z 21=v/\z 22=.int .i64 (L.length:Nat)/\z 23=.int .i64 i) (fun i=>L.length-i) ?_ 0 _ _ ?_
 . clear S;intro i ih z h ⟨hi,S,hv,r5,r21,r22,r23⟩;have w:am .i64 ((i:Int)+1)=((i+1:Nat):Int):=(by rw [wrap64]<;>omega);by_cases hlt:i<L.length
   . have J:=sl_get D hv;obtain⟨d,oo,x0,A⟩:=J.ix (kd:=.i64) dr hlt;have t:=F _ (Xk hlt);have G:eh f (fun u=>decide (u∈L.take (i+1)))=(eh f (fun u=>decide (u∈L.take i))).set L[i] (.bool true):=(by rw [CD];refine mW fun j _=>?_;rw [Xg hlt];simp only [X6,X9];by_cases e1:j=L[i]<;>by_cases e2:j∈L.take i<;>simp [e1,e2]);rw [show(L.take (i+1))=L.take (i+1)from rfl]at G;generalize L[i]=x at t A G;replace A:h.load d oo 1=some [.int .i64 (x:Nat)]:=A;simp only [BZ,r5,r21,r22,r23,aE,hlt,x0,A,seval];have K:=S;replace S:=S.base;simp only [BZ,t,seval];refine az (aA S (i:=0) rfl Tryz.t4.2.2.1 oH (by rw [tP];exact t) ono) ?_;clear S;rintro h' ⟨S,mo⟩;simp only [LC]at S;simp only [BZ,r23,w,seval];refine ih (i+1) _ _ (by omega) ⟨by omega,?_,?_,by simp [aB,r5,r21,r22]⟩
     . rw [G];exact K.rebase S
     . intro c C;have R:=Y c C;exact(mo.get c (J.blt K.ok C) (fun e=>by have e:c=o:=e;omega)).trans (hv c C)
   . have:i=L.length:=(by omega);subst this;simp only [BZ,aa,r5,r22,r23,aE,hlt,seval];refine⟨S.gr,o,rfl,?_,y⟩;have e:eh f (gX B g k)=eh f (fun a=>decide (a∈L.take L.length)):=mW fun j hj=>(by rw [XD,<-E];simp [List.mem_filter,hj]);rw [e];exact S.row m0
 . exact⟨Xj _,S,fun c C=>rfl,by simp [aB]⟩
def sfC(b c pn d:Value)(way f t a:Int):List Value:=[b,c,pn,d,.int .i64 way,.int .i64 f,.int .i64 t,.int .i64 a]
section
variable{hq:Hp}{bq bp nb nd mk:Nat}{γ:Gra}{pc pf pt:Value}{way f t a:Int}{fitB:Bool}
theorem sfNet_ok(R:Row hq bq (sfC pc pf (ptrTo bp) pt way f t a) 1)(b:hq.load b1 0 1=some [ptrTo bq]): ∀h,Gr hq h->aQ zM 142 [ptrTo b1] h (.bool true):=by intro h g;have S:=Si g.ok;have c:=(R.gr g).load1 (o:=2) rfl;refine erA (n:=7) (rs:=[.tmp 1]) e142 ?_;simp only [BZ,aa,g.load b,c,seval];exact S.gr
theorem sfWay_ok(R:Row hq bq (sfC pc pf (ptrTo bp) pt way f t a) 1)(c:hq.load b1 0 1=some [ptrTo bq]): ∀h,Gr hq h->aQ zM 143 [ptrTo b1] h (.bool (decide (way=4\/way=5))):=by
 intro h g;have S:=Si g.ok;have d:=(R.gr g).load1 (o:=4) rfl;refine erA (n:=16) (rs:=[.tmp 1]) e143 ?_;by_cases b:way=4
 . simp only [BZ,aa,g.load c,d,b,seval];exact⟨by simp [b],S.gr⟩
 . by_cases e:way=5
   . subst e;simp only [BZ,aa,g.load c,d,(by decide: ¬(5:Int)=4),seval];exact⟨by simp,S.gr⟩
   . simp only [BZ,aa,g.load c,d,b,e,seval];exact⟨by simp [b,e],S.gr⟩
theorem zG(c:aP hq nb (ptrTo bp) γ)(R:Row hq bq (sfC pc pf (ptrTo bp) pt way f t a) 1){v:Int}: ∀h,Gr hq h->aQ zM 145 [ptrTo bq,.int .i64 v] h (.bool (decide (0<=v/\v<γ.nodes))):=by
 intro h g;have S:=Si g.ok;have d:=(R.gr g).load1 (o:=2) rfl;refine erA (n:=16) (rs:=[.tmp 4]) e145 ?_;by_cases b:0<=v
 . simp only [BZ,d,b,seval];refine ae (bC S.ok ((c.gr g).gr S.gr)) ?_;intro h g;replace S:=S.call g;simp only [BZ,aa,seval];exact S.gr
 . simp only [BZ,aa,b,seval];exact⟨by simp [b],S.gr⟩
theorem sfFrom_ok(b:aP hq nb (ptrTo bp) γ)(R:Row hq bq (sfC pc pf (ptrTo bp) pt way f t a) 1)(c:hq.load b1 0 1=some [ptrTo bq]): ∀h,Gr hq h->aQ zM 144 [ptrTo b1] h (.bool (decide (0<=f/\f<γ.nodes))):=by intro h g;have S:=Si g.ok;have d:=(R.gr g).load1 (o:=5) rfl;refine erA (n:=9) (rs:=[.tmp 1]) e144 ?_;simp only [BZ];refine ao (av rfl) (q:=0) (ps:=[]) (by kernel_rfl) ?_;simp only [BZ,cls,g.load c,d,seval];refine bj (zG b R _ (g.trans S.gr)) ?_;intro i e;replace S:=S.call e;simp only [BZ,cls,aa,seval];exact S.gr
theorem sfTo_ok(b:aP hq nb (ptrTo bp) γ)(R:Row hq bq (sfC pc pf (ptrTo bp) pt way f t a) 1)(c:hq.load b1 0 1=some [ptrTo bq]): ∀h,Gr hq h->aQ zM 146 [ptrTo b1] h (.bool (decide (0<=t/\t<γ.nodes))):=by intro h g;have S:=Si g.ok;have d:=(R.gr g).load1 (o:=6) rfl;refine erA (n:=9) (rs:=[.tmp 1]) e146 ?_;simp only [BZ];refine ao (av rfl) (q:=0) (ps:=[]) (by kernel_rfl) ?_;simp only [BZ,cls,g.load c,d,seval];refine bj (zG b R _ (g.trans S.gr)) ?_;intro i e;replace S:=S.call e;simp only [BZ,cls,aa,seval];exact S.gr
theorem Ej(u:aP hq nb (ptrTo bp) γ)(T:TabO zM hq pt nd mk 41 40)(R:Row hq bq (sfC pc pf (ptrTo bp) pt way f t a) 1): ∀h,Gr hq h->aQ zM 216 [ptrTo bq] h (.bool (decide (0<mk/\nd=γ.nodes))):=by
 intro h g;have w:=T.fl;have S:=Si g.ok;have z:=(R.gr g).lt g.ok;have e:=(R.gr g).load1 (o:=3) rfl;have v:=(R.gr g).load1 (o:=2) rfl;refine erA (n:=23) (rs:=[.tmp 2]) e216 ?_;simp only [BZ];refine ao (av rfl) (q:=0) (ps:=[(12,16)]) (by kernel_rfl) ?_;simp only [BZ,cls,e,seval];refine bO (T.marks _ (g.trans S.gr)) ?_;rintro r x ⟨b,l,i,y⟩;replace S:=S.call b;have j:=ag b z;by_cases k:0<mk
 . have d:(0:Int)<(l.length:Int):=(by omega);simp only [BZ,cls,i.lenq,d,b.load e,seval];refine bj (T.nodes _ (g.trans S.gr)) ?_;intro A c;have m:=ag c (Xc z b.n);replace S:=S.call c;simp only [BZ,cls,c.load (b.load v),seval];refine bj (bC S.ok ((u.gr g).gr S.gr)) ?_;intro B p;have s:=ag p (Xc z (b.trans c).n);replace S:=S.call p;simp only [BZ,cls,aa,seval];refine⟨by simp only [aI,aO,aF,aK,aH,ne_eq,not_false_eq_true,aU,aY,aN,aJ,bw,bN,aD,Xf,ah,cL,an j,aq j,an m,aq m,an s,aq s,seval],?_⟩;exact⟨by simp [k,Int.ofNat_inj],S.gr⟩
 . have d: ¬(0:Int)<(l.length:Int):=(by omega);simp only [BZ,cls,aa,i.lenq,d,seval];exact⟨by simp only [aI,aO,aF,aK,aH,ne_eq,not_false_eq_true,jC,sJ,Xf,seval],by simp [k],S.gr⟩
def lC(fitB:Bool)(way:Int)(mk nd N:Nat):Bool:=fitB&&(decide (way≠5)||decide (0<mk/\nd=N))
theorem sfFits_ok(i:aP hq nb (ptrTo bp) γ)(T:TabO zM hq pt nd mk 41 40)(R:Row hq bq (sfC pc pf (ptrTo bp) pt way f t a) 1)(m:Fl pc)(p:Fl pf)(F: ∀h,Gr hq h->aQ zM 42 [ptrTo bp,pc,pf] h (.bool fitB)):
 ∀h,Gr hq h->aQ zM 147 [ptrTo bq] h (.bool (lC fitB way mk nd γ.nodes)):=by
 intro h g;have S:=Si g.ok;have z:=(R.gr g).lt g.ok;have j:=(R.gr g).load1 (o:=0) rfl;have k:=(R.gr g).load1 (o:=1) rfl;have l:=(R.gr g).load1 (o:=2) rfl;have d:=(R.gr g).load1 (o:=4) rfl;refine erA (n:=30) (rs:=[.tmp 2]) e147 ?_;simp only [BZ];refine ao (av rfl) (q:=0) (ps:=[]) (by kernel_rfl) ?_;simp only [BZ,cls,j,k,l,seval];refine bj (F _ (g.trans S.gr)) ?_;intro r b;have s:=ag b z;replace S:=S.call b;cases fitB with
 | false=>simp only [BZ,cls,aa,seval];exact⟨by simp [lC],S.gr⟩| true=>
   by_cases c:way=5
   . simp only [BZ,cls,b.load d,c,seval];refine bj (Ej i T R _ (g.trans S.gr)) ?_;intro u e;have v:=ag e (Xc z b.n);replace S:=S.call e;simp only [BZ,cls,aa,seval];exact⟨by simp [lC],S.gr⟩
   . simp only [BZ,cls,aa,b.load d,c,seval];exact⟨by simp [lC,c],S.gr⟩
end
structure Rs where
 g:FuncId
 pre:Array Value
 post:Array Value
 ok:Bool
 code:Int
variable{rs:List Rs}
def argS(r:Rs):List Value:=[.int .i64 r.code,.func (.func r.g) r.pre r.post]
def ry:List Rs->Int
 | []=>0|r::a=>if r.ok=true then ry a else r.code
theorem firstS_at{r:Rs}(h:rs[i]? =some r)(a: ∀q∈rs.take i,q.ok=true)(b:r.ok≠true):ry rs=r.code:=by
 induction rs generalizing i with
 |nil=>cases h
 | cons q rs c=>
   cases i with
   |zero=>cases h;unfold ry;rw [if_neg b]
   | succ i=>
     rw [ry,if_pos (a q (by simp))];exact c (by simpa using h) (fun x d=>a x (by simp [d]))
theorem EI(h: ∀q∈rs,q.ok=true):ry rs=0:=by
 induction rs with
 |nil=>rfl|cons q rs a=>rw [ry,if_pos (h q (by simp))];exact a (fun x b=>h x (by simp [b]))
def sfRs(b1 bq:Nat)(okW okF okT okX:Bool):List Rs:=[⟨142,#[],#[ptrTo b1],true,1⟩,⟨143,#[],#[ptrTo b1],okW,16⟩,⟨144,#[],#[ptrTo b1],okF,17⟩,⟨146,#[],#[ptrTo b1],okT,18⟩,⟨147,#[ptrTo bq],#[],okX,19⟩]
theorem looks_ok(b:OZ h0):Ret zM 53 [ptrTo bq] h0 fun v h'=>Gr h0 h'/\ ∃b1,v=.func (.func 141) #[] #[ptrTo b1]/\h0.n<=b1/\h'.load b1 0 1=some [ptrTo bq]:=by have S:=Si b;refine erA (n:=4) (rs:=[.tmp 2]) e53 ?_;simp only [BZ,seval];refine ab (bz (by exact bA)) S ?_;clear S;intro h b1 S a;simp only [BZ,aa,seval];exact⟨S.gr,b1,rfl,a,S.ld m0 rfl⟩
theorem looks1_it(f:OZ h0)(g:h0.load b1 0 1=some [ptrTo bq]):lz zM 141 [] [ptrTo b1] h0 (fun c=>c=b1) ((sfRs b1 bq okW okF okT okX).map argS):=by
 intro l J Z e Y h F s b;have S:=Si s.ok;refine enA (n:=27) (rs:=[]) e141 ?_;simp only [BZ,seval];refine c7 Y s b (i:=0) rfl ?_ ?_ (fun v d a=>absurd a (e v d));rotate_left
 . intro d a _;simp only [BZ,seval];exact bU (cy ⟨rfl,_,rfl,rfl,.inr (.inl ⟨_,rfl,a⟩)⟩)
 clear b s;intro m o b s _ _;simp only [BZ,seval];refine c7 Y s b (i:=1) rfl ?_ ?_ (fun v d a=>absurd a (e v d));rotate_left
 . intro d a _;simp only [BZ,seval];exact bU (cy ⟨rfl,_,rfl,rfl,.inr (.inl ⟨_,rfl,a⟩)⟩)
 clear b s;intro p q b s _ _;simp only [BZ,seval];refine c7 Y s b (i:=2) rfl ?_ ?_ (fun v d a=>absurd a (e v d));rotate_left
 . intro d a _;simp only [BZ,seval];exact bU (cy ⟨rfl,_,rfl,rfl,.inr (.inl ⟨_,rfl,a⟩)⟩)
 clear b s;intro d r b s _ _;simp only [BZ,seval];refine c7 Y s b (i:=3) rfl ?_ ?_ (fun v d a=>absurd a (e v d));rotate_left
 . intro d a _;simp only [BZ,seval];exact bU (cy ⟨rfl,_,rfl,rfl,.inr (.inl ⟨_,rfl,a⟩)⟩)
 clear b s;intro t u b s _ _;have j:=s.load f g rfl;simp only [BZ,j,seval];refine c7 Y s b (i:=4) rfl ?_ ?_ (fun v d a=>absurd a (e v d));rotate_left
 . intro d a _;simp only [BZ,seval];exact bU (cy ⟨rfl,_,rfl,rfl,.inr (.inl ⟨_,rfl,a⟩)⟩)
 clear b s;intro w k b s _ _;simp only [BZ,seval];exact bU (cy ⟨rfl,_,rfl,rfl,.inl ⟨_,k,rfl,b⟩⟩)
theorem exTo(c:OZ h0){a:Gra}(b:Good a)(e:aP h0 d pn a)(f:s<a.nodes)(v:Nat):IsD (seen a.arcs Arc.t Arc.s) s v (dOf (seen a.arcs Arc.t Arc.s) s v):=by obtain⟨_,_,_,_,_,_,_,D,_,_,_,_,_,_,_,g,_⟩:=ux c b e f;exact(zL (g v)).2
theorem exFrom(c:OZ h0){a:Gra}(b:Good a)(e:aP h0 d pn a)(f:s<a.nodes)(v:Nat):IsD (seen a.arcs Arc.s Arc.t) s v (dOf (seen a.arcs Arc.s Arc.t) s v):=by obtain⟨_,_,_,_,_,_,_,D,_,_,_,_,_,_,_,g,_⟩:=uH c b e f;exact(zL (g v)).2
theorem uB(B:List Arc)(N s:Nat):(rowD B N s).length=N:=by simp [rowD]
def m9:Value->Option Tch
 | .map (some b)=>some (.blk b)| .slice (some a) _ _=>some (.blk a.block)|_=>none
theorem note_lenV{ts:Array TypeId}{a:Operand}:cH ρ false (.call ⟨.builtin .len,#[a],ts⟩) h h'=m9 (ρ a):=by simp only [cH,dJ,jo,eR,touch,cond_false];cases ρ a<;>first|rfl|(rename_i x;cases x<;>rfl)|(rename_i x _ _;cases x<;>rfl)
theorem yz{g f:Hp}(h: ∀c,m9 v=some (.blk c)->leaves g f c=true){d:List (Nat×Tch)}(i:cP k d=none):iS (some (.run g f)) (cP k (gG k d (m9 v)))=true:=by
 cases e:m9 v with
 |none=>rw [show gG k d none=d from rfl,i];rfl| some t=>
   cases t with
   |blk c=>rw [show gG k d (some (.blk c))=(k,.blk c)::d from rfl,aK];exact h c e| run a b=>
     unfold m9 at e
     split at e<;>cases e
theorem ye{a:Type}{enc:a->List Value}{xs:List a}(e:OZ h)(s:aw h k enc v xs)(d:m9 v=some (.blk c)):c<h.n:=by
 rcases s with⟨rfl,_⟩|⟨b,o,s,g,rfl,i,f⟩
 . cases d
 . cases d;exact aV e f
inductive jB(A:List Arc)(s:Nat):List Nat->Nat->Nat->Prop where
 |nil:jB A s [] s 0
 |snoc {l:List Nat} {w a:Nat}:jB A s l (A.getD a default).s w->a<A.length->jB A s (l++[a]) (A.getD a default).t (w+(A.getD a default).w)
def nu(A:List Arc)(s:Nat)(l:List Nat)(i:Nat):Nat:=if i=0 then s else(A.getD (l.getD (i-1) 0) default).t
def sumA(A:List Arc)(l:List Nat)(k:Nat):Nat:=((l.take k).map fun a=>(A.getD a default).w).sum
theorem xC{l:List Nat}(h:i<l.length):(l++[a]).getD i 0=l.getD i 0:=by rw [Xa,Xa,XB h]
theorem xB{l:List Nat}:(l++[a]).getD l.length 0=a:=by simp [Xa]
theorem Do{l:List Nat}(h:i<=l.length):nu A s (l++[a]) i=nu A s l i:=by
 unfold nu
 split
 . rfl
 . rw [xC (by omega)]
theorem jB.at{A:List Arc}{s t w:Nat}{l:List Nat}(h:jB A s l t w):(∀i,i<l.length->l.getD i 0<A.length/\(A.getD (l.getD i 0) default).s=nu A s l i)/\nu A s l l.length=t/\sumA A l l.length=w:=by
 induction h with
 |nil=>exact⟨fun i c=>absurd c (Nat.not_lt_zero _),rfl,rfl⟩
 | @snoc l w a _ d e=>
   obtain⟨f,g,b⟩:=e;have j:(l++[a]).length=l.length+1:=(by simp);refine⟨fun i c=>?_,?_,?_⟩
   . rcases Nat.lt_or_ge i l.length with h|h
     . rw [xC h,Do (Nat.le_of_lt h)];exact f i h
     . have:i=l.length:=(by omega);subst this;rw [xB,Do (Xr _)];exact⟨d,g.symm⟩
   . rw [j];unfold nu;rw [if_neg (by omega),Yi,xB]
   . unfold sumA at b⊢;rw [XD]at b⊢;rw [XY,List.sum_append,b];rfl
theorem sumA_succ{l:List Nat}(h:k<l.length):sumA A l (k+1)=sumA A l k+(A.getD (l.getD k 0) default).w:=by
 have e:l.getD k 0=l[k]:=by rw [Xa,Xd h];rfl
 unfold sumA;rw [e,Xg h,XY,List.sum_append];simp
section
variable{A:List Arc}{N s:Nat}{al:Nat->Bool}{pi:Nat->Int}{σ:SS}
theorem Sv.pathA(h:Sv A N s al pi σ): ∀(n:Nat) {v:Nat},(σ.P v).length<=n->(v∈σ.O\/σ.K v≠none)->jB A s (σ.P v).reverse v (σ.L v):=by
 intro n
 induction n with
 | zero=>
   intro v b c;rcases h.path v c with⟨rfl,d,e⟩|⟨a,_,_,_,_,f,_⟩
   . rw [d,e];exact .nil
   . rw [f]at b;simp at b
 | succ n g=>
   intro v b c;rcases h.path v c with⟨rfl,d,e⟩|⟨a,i,_,j,k,f,l⟩
   . rw [d,e];exact .nil
   . rw [f]at b⊢;rw [l,List.reverse_cons,<-j];exact .snoc (g (by rw [Yo]at b;omega) (.inl k)) i
theorem ends_path{r:Fd}(c: ∀a∈A,a.t<N/\a.w<=cg)(d:Ends A al pi to σ r):Sv A N s al pi σ->r.dist<FAR->jB A s r.arcs to r.dist:=by
 induction d with
 |none g=>intro _ h;exact absurd h (Nat.lt_irrefl _)| @hit σ k b=>intro h _;exact h.pathA _ (Xr _) (.inr (by rw [b.1];nofun))| @step σ v k r b e _ f=>intro h;exact f (h.next c b.1).1
end
theorem ends_len{σ:SS}{r:Fd}(f: ∀a∈A,a.t<N/\a.w<=cg)(l:N<=12)(m:A.length<=100)(g:Ends A al pi to σ r):Sv A N s al pi σ->σ.ev.length<=σ.O.length*200->r.arcs.length<=12/\r.ev.length<=3000:=by
 induction g with
 | @none σ n=>intro h b;have:=h.len;exact⟨Xj _,by show σ.ev.length<=3000;omega⟩| @hit σ k c=>intro h b;have d:=h.len;have e:=(h.bd to).2;refine⟨by show(σ.P to).reverse.length<=12;rw [List.length_reverse];omega,?_⟩;show(σ.ev++[_]).length<=3000;simp;omega| @step σ v k r c i _ j=>
   intro h b;obtain⟨d,e⟩:=h.next f c.1
   refine j d ?_;have o:=Da A al pi v (d6 σ v);have p:(d6 σ v).ev.length=σ.ev.length+1:=(by show(σ.ev++[_]).length=_;simp);rw [e.O];show _<=(σ.O++[v]).length*200;simp;omega
theorem wnode_ok(b:OZ h0){a:Gra}(c:aP h0 d p a){v:Nat}(i:v<a.nodes):aQ zM 157 [p,.int .i64 (v:Nat)] h0 (.bool true):=by
 have S:=Si b;have e:(0:Int)<=(v:Int):=by omega
 have f:(v:Int)<(a.nodes:Int):=by omega
 refine erA (n:=13) (rs:=[.tmp 4]) e157 ?_;simp only [BZ,e,seval];refine ae (bC S.ok c) ?_;intro h g;simp only [BZ,aa,f,seval];exact g
theorem wsteps_ok(j:OZ h0){g:Nat}{f:Value}(k:Fl f):Ret zM 158 [ptrTo g,.int .i64 (s:Nat),f] h0 fun r h'=>Gr h0 h'/\ ∃a b4 b5,r=.func (.func 219) #[] #[ptrTo b5,ptrTo a,ptrTo b4]/\h0.n<=a/\h0.n<=b4/\h0.n<=b5/\b4≠a/\b4≠b5/\h'.load a 0 1=some [ptrTo g]/\Row h' b4 [.int .i64 (s:Nat)] 1/\h'.load b5 0 1=some [f]:=by have S:=Si j;refine erA (n:=8) (rs:=[.tmp 6]) e158 ?_;simp only [BZ,seval];refine ab (bz (by exact bA)) S ?_;clear S;intro h a S b;simp only [BZ,if_false,seval];refine ab (bz (by exact aM)) S ?_;clear S;intro h b4 S c;simp only [BZ,if_false,seval];refine ab (bz (by assumption)) S ?_;clear S;intro h b5 S d;simp only [BZ,aa,seval];have i:=S.apart;exact⟨S.gr,a,b4,b5,rfl,b,c,d,fun e=>(by subst e;simp [keys]at i),fun e=>(by subst e;simp [keys]at i),S.ld m2 rfl,S.row m1,S.ld m0 rfl⟩
theorem steps_it(x:OZ hq)(I:Gr hq h0){g:Gra}{P:Nat}(hn:aP hq nb (ptrTo P) g){d:List Nat}{t w:Nat}(L:aw hq 1 bM K d)(hp:jB g.arcs s d t w)(hl:d.length<=1000)(e3:h0.load r 0 1=some [ptrTo P])(e4:Row h0 b4 [.int .i64 (s:Nat)] 1)(e5:h0.load b5 0 1=some [K])(d3:b4≠r)(d5:b4≠b5)(dq:hq.n<=b4):ur zM 219 [ptrTo b5,ptrTo r,ptrTo b4] h0 (fun c=>c=b5\/c=r\/c<hq.n) (· =b4) (d.map fun(a:Nat)=>[.agg ⟨cQ (g.arcs.getD a default)⟩,.bool true]):=by
 intro lb J Z hz Y hW h F j m y z;have p:=I.ok;obtain⟨p1,p2,p3⟩:=hp.at
 have f:Row h b4 [.int .i64 (s:Nat)] 1:=Row.of_get (m b4 rfl) e4;have q5:=j.load p e5 (.inl rfl);have fI:=L.fl;refine enA (n:=35) (rs:=[]) e219 ?_;simp only [BZ,q5,L.lenq,seval];refine aX (fun(i:Nat) q h=>i<=d.length/\ ∃F,ItS h0 (fun c=>c=b5\/c=r\/c<hq.n) h F/\b4∉F/\J i h F/\Row h b4 [.int .i64 (nu g.arcs s d i:Nat)] 1/\q 0=.func (.yield lb) #[] #[]/\q 2=ptrTo r/\q 3=ptrTo b4/\q 9=K/\q 10=.int .i64 (d.length:Nat)/\q 11=.int .i64 i) (fun i=>d.length-i) ?_ 0 _ _ ?_
 . clear q5 f z y m j F h;intro i ih q h ⟨hi,F,j,y,z,f,r0,r2,r3,r9,r10,r11⟩;have wi:am .i64 ((i:Int)+1)=((i+1:Nat):Int):=(by rw [wrap64]<;>omega);by_cases hlt:i<d.length
   . obtain⟨M,k⟩:=p1 i hlt;have ea:d.getD i 0=d[i]:=(by rw [Xa,Xd hlt];rfl);have Q:nu g.arcs s d (i+1)=(g.arcs.getD d[i] default).t:=(by unfold nu;rw [if_neg (by omega),Yi,ea]);have R:(d.map fun(a:Nat)=>[Value.agg ⟨cQ (g.arcs.getD a default)⟩,.bool true])[i]? =some [.agg ⟨cQ (g.arcs.getD d[i] default)⟩,.bool true]:=(by rw [Xm,Xd hlt];rfl);rw [ea]at M k;obtain⟨a,T⟩: ∃a,d[i]=a:=⟨_,rfl⟩;have U:aw h 1 bM K d:=j.sl p (L.gr I) (fun b h=>.inr (.inr (L.lt x h)));obtain⟨c,o,x0,N⟩:=U.ix (kd:=.i64) dr hlt;rw [T]at N M k Q R;replace N:h.load c o 1=some [.int .i64 (a:Nat)]:=N;have q3:=j.load p e3 (.inr (.inl rfl));have q4:=f.load1 (o:=0) rfl;have nt:aP h nb (ptrTo P) g:=hn.keep x (j.keep (Gr.keep I) I.n (fun c hc=>.inr (.inr hc)));have S:=Si j.ok;have ga:g.arcs[a]=g.arcs.getD a default:=(by simp [Xa,M]);have al:=f.lt j.ok;simp only [BZ,r2,r9,r10,r11,aE,hlt,x0,N,q3,seval];refine step_ret (jb S.ok nt M) ?_;rintro rv h ⟨V,rfl⟩;replace S:=S.call V;rw [ga];generalize hA:g.arcs.getD a default=A at k Q R;have B:(A.s:Int)=(nu g.arcs s d i:Int):=(by rw [k]);have W:(d.map fun(a:Nat)=>[Value.agg ⟨cQ (g.arcs.getD a default)⟩,.bool true])[i]? =some [.agg ⟨[.int .i64 (nu g.arcs s d i:Nat),.int .i64 A.t,.int .i64 A.w]⟩,.bool true]:=(by rw [R,<-k];rfl);simp only [BZ,cQ,seval];refine ab au S ?_;clear S;intro h C S ax;simp only [BZ,seval];refine az (stA S (i:=0) t135.2.1) ?_;clear S;rintro h ⟨S,mo⟩;clear mo;simp only [LC,ac,lay,Xh,Xi,seval]at S;have sA:=j.gr S.gr;have jA:=Y.gr _ _ _ _ z S.gr;have l:=f.gr S.gr;have X:=l.load1 (o:=0) rfl;have R7:=S.row (b:=C) m0;have n7:C∉F:=fun D=>(by have:=j.lt _ D;have:=V.n;omega);have k7:=R7.lt S.ok;have d7:C≠b4:=fun e=>(by have:=V.n;omega);simp only [BZ,r0,r3,X,B,Xz,XF,XU,S.ld (b:=C) (o:=0) m0 rfl,S.lds (b:=C) (o:=0) (n:=3) m0 (lbt rfl),seval];refine c7 Y sA jA (i:=i) W ?_ ?_ ?_
     . intro O F3 E u f3 ad;have G:Row O b4 [.int .i64 (nu g.arcs s d i:Nat)] 1:=f3.has (o:=.row _ 1) l y;have af:=f3.has (o:=.row _ 1) R7 n7;have ai:b4∉F3:=fun D=>(ad b4 D).elim y (fun h=>by have:=S.fr.n;omega);have ak:=Row.load1 (o:=1) af rfl;have S:=St.init1 u.ok (o:=.row _ 1) G;simp only [BZ,r3,ak,seval];refine az (aA S (i:=0) rfl Tryz.t3.2.2.1 aM (Xe (lbt rfl)) ono) ?_;clear S;rintro h4 ⟨S,_⟩;simp only [LC]at S;have H:=S.fr;simp only [BZ,r11,wi,seval];refine ih (i+1) _ _ (by omega) ⟨by omega,F3,?_,ai,hW _ _ _ _ E H,by rw [Q];exact S.row m0,by simp [aB,r0,r2,ah,r3,r9,r10]⟩;exact⟨H.ok,Xb u.n H.n,fun b m hd=>(H.get b (Xc m u.n) (by rcases hd with h|h|h;exact fun e=>d5 (by omega);exact fun e=>d3 (by omega);exact fun e=>by omega)).trans (u.data b m hd),u.apart,fun b m=>Xc (u.lt b m) H.n⟩
     . intro O E _;simp only [BZ,seval];exact gJ rfl ⟨rfl,.inr (.inl ⟨_,rfl,E⟩)⟩
     . intro v O E;exact absurd E (hz v O)
   . simp only [BZ,r10,r11,aE,hlt,seval];have:i=d.length:=(by omega);subst this;exact bU (cy ⟨rfl,_,rfl,rfl,.inl ⟨_,F,rfl,by rw [Xn];exact z⟩⟩)
 . exact⟨Xj _,F,j,fun D=>y b4 D rfl,z,f,by simp [aB,cL,ah]⟩
theorem Cm(V:OZ h0){j:Gra}(H:Good j){W:Nat}(Y:aP h0 nb (ptrTo W) j){d:List Nat}{t w:Nat}(hs:s<j.nodes)(hI:aw h0 1 bM Z d)(hl:d.length<=1000)(hp:jB j.arcs s d u w)(hw:u=t\/(u≠t/\w=0)):Ret zM 66 [ptrTo W,.int .i64 (s:Nat),.int .i64 (t:Nat),Z] h0 fun r h'=>Gr h0 h'/\r=.tuple #[.int .i64 (w:Nat),.bool (decide (u=t))]:=by
 have S:=Si V;have fI:=hI.fl;obtain⟨p1,p2,p3⟩:=hp.at
 refine erA (n:=40) (rs:=[.cell 8 2,.tmp 9]) e66 ?_;simp only [BZ];refine ab au S ?_;clear S;intro h l S ad;simp only [BZ,seval];refine ae (wnode_ok S.ok (Y.gr S.gr) hs) ?_;intro h g;replace S:=S.call g;simp only [BZ,seval];refine ab au S ?_;clear S;intro h f S I;simp only [BZ,seval];refine az (aA S (i:=0) rfl Tryz.t3.2.2.1 aM (Xe (lbt rfl)) ono) ?_;clear S;rintro h ⟨S,_⟩;simp only [LC]at S;simp only [BZ,run_label,seval];have k0:=S.fr.n;refine step_ret (wsteps_ok S.ok fI) ?_;rintro r hA ⟨g,b3,J,b5,rfl,n3,n4,n5,d3,d5,y3,y4,y5⟩;have k8:=(S.row (b:=l) m1).lt S.ok;have ai:=(S.row (b:=f) m0).lt S.ok;replace S:=S.call g;have it:=steps_it V S.gr Y hI hp hl y3 y4 y5 d3 d5 (by omega);simp only [BZ];refine gP S (g:=219) (a:=#[]) (b:=#[ptrTo b5,ptrTo b3,ptrTo J]) (by simp [bw,aB,ah]) rfl rfl ?_;intro h2 z B C ak al K;have af:f≠J:=by omega
 have ax:l≠J:=by omega
 obtain⟨X,hX,C⟩: ∃X:fF,X=_/\St NoM h0 h2 [(B,.loop X),(z,.dfr),(f,.row [.int .i64 (s:Nat)] 1),(l,.row [.int .i64 0] 1)] []:=⟨_,rfl,C⟩;have z0:nu j.arcs s d 0=s:=rfl;have z1:sumA j.arcs d 0=0:=rfl;have M:=y4.lt S.ok;have hJ:Yld zM B (fun k h' F=>St NoM h0 h' [(B,.loop X),(z,.dfr),(f,.row [.int .i64 (nu j.arcs s d k:Nat)] 1),(l,.row [.int .i64 (sumA j.arcs d k:Nat)] 1)] []/\k<=d.length/\sumA j.arcs d k<=k*2147483647/\F=[B,z,f,l]) (fun _ _=>False) (d.map fun(a:Nat)=>[.agg ⟨cQ (j.arcs.getD a default)⟩,.bool true]):=by
  refine⟨?_,?_,fun _ _ h=>h.elim,?_⟩
  . rintro i h F ⟨S,_,_,rfl⟩;exact⟨S.ok,fun b m=>S.key_lt (by simpa [keys]using m)⟩
  . rintro i h F h' ⟨S,a,b,rfl⟩ gg;exact⟨S.call gg,a,b,rfl⟩
  . rintro i x hR F N ⟨S,a,m,rfl⟩;have p:i<d.length:=(by have:=(List.getElem?_eq_some_iff.1 N).1;simpa using this);rw [Xm,Xd p]at N;cases N;obtain⟨O,ay⟩:=p1 i p;have ea:d.getD i 0=d[i]:=(by rw [Xa,Xd p];rfl);have en:nu j.arcs s d (i+1)=(j.arcs.getD d[i] default).t:=(by unfold nu;rw [if_neg (by omega),Yi,ea]);have q:=sumA_succ (A:=j.arcs) p;rw [ea]at q O;have aL:(j.arcs.getD d[i] default).w<=2147483647:=(by have:j.arcs.getD d[i] default∈j.arcs:=(by rw [Xa,Xd O];exact Xk O);exact(H.arcs _ this).2.2);have ws:am .i64 ((sumA j.arcs d i:Int)+((j.arcs.getD d[i] default).w:Int))=((sumA j.arcs d (i+1):Nat):Int):=(by rw [q,wrap64]<;>omega);subst hX;refine gK (S.get m0) (by rw [e66];rfl) rfl ?_;have S0:=S;replace S:=S.base;simp only [BZ,cQ];refine ab au S ?_;clear S;intro h D S P;simp only [BZ,seval];refine az (stA S (i:=0) t135.2.1) ?_;clear S;rintro h ⟨S,Q⟩;clear Q;simp only [LC,ac,lay,Xh,Xi,seval]at S;simp only [BZ,seval];refine fG S (i:=1) rfl rfl rfl rfl rfl ?_;clear S;intro h S;simp only [LC]at S;simp only [BZ,ws,S.ld (b:=l) (o:=0) m4 rfl,S.ld (b:=D) (o:=2) m0 rfl,seval];refine az (aA S (i:=4) rfl Tryz.t2.2.2.1 aM (Xe (lbt rfl)) ono) ?_;clear S;rintro h ⟨S,_⟩;simp only [LC]at S;simp only [BZ,S.ld (b:=D) (o:=1) m0 rfl,seval];refine az (aA S (i:=3) rfl Tryz.t3.2.2.1 aM (Xe (lbt rfl)) ono) ?_;clear S;rintro h ⟨S,_⟩;simp only [LC]at S;simp only [BZ];refine dC S (i:=1) rfl ?_;clear S;intro h S;simp only [LC]at S;rw [<-en]at S;refine .inl ⟨rfl,_,⟨S0.rebase S.drop1,by omega,by omega,rfl⟩,?_,fun c E=>.inl E⟩;have:=S.fr;simp only [keys,XG,XP,XL,XM]at this;exact this
 refine dh (it B _ _ (fun _ _ h=>h) hJ ?_ h2 [B,z,f,l] ?_ (fun b m=>?_) (fun b m=>?_) ⟨by rw [z0,z1];exact C,Xj _,by rw [z1];exact Xj _,rfl⟩) fun o rc h' y=>iJ y ?_
 . rintro i h F h' ⟨T,a,b,rfl⟩ Q;refine⟨T.step Q (fun c E=>.inr (by subst E;omega)) (fun c E e=>?_),a,b,rfl⟩;subst e;simp only [keys,XG,XP,XL,XM,Xt,Xl,or_false]at E;omega
 . refine⟨C.ok,K.n,fun b m _=>K.get b m,fun b m h=>?_,fun b m=>C.key_lt (by simpa [keys]using m)⟩;simp only [Xt,Xl,or_false]at m;rcases m with rfl|rfl|rfl|rfl
   . omega
   . omega
   . rcases h.2 with e|e|e<;>omega
   . rcases h.2 with e|e|e<;>omega
 . subst m;exact K.get _ M
 . intro e;subst e;simp only [Xt,Xl,or_false]at m;omega
 . rintro F ⟨T,_,_,rfl⟩;rw [Xn]at T;rw [p2,p3]at T;subst hX;refine⟨_,T.get m0,XJ,?_⟩;replace T:=T.dead;have S:=T;have c0: ¬(u:Int)<0:=(by omega);have R: ¬(t:Int)<0:=(by omega);show Run _ _ _ _ _ _ _ _;by_cases v:u=t
   . have U:(u:Int)=(t:Int):=(by omega);simp only [BZ,R,U,S.ld (b:=f) (o:=0) m1 rfl,S.ld (b:=l) (o:=0) m2 rfl,seval];refine az (aA T (i:=2) rfl Tryz.t2.2.2.1 aM (Xe (lbt rfl)) ono) ?_;clear S;rintro h3 ⟨S,_⟩;simp only [LC]at S;simp only [BZ];refine df (gm [z] _ (L:=[(f,_),(l,_)]) S.base fun h4 G=>?_);refine⟨rfl,(bD (by decide) (by simp only [aD,ah,seval];exact iA Tryz.t2.2.1 (G.ld (b:=l) (o:=0) m1 rfl))).2 ((dP (by decide)).2 (cu.2 ⟨(S.rebase G).gr,?_⟩))⟩;rw [decide_eq_true v];rfl
   . have U: ¬(u:Int)=(t:Int):=(by omega);have w0:w=0:=(hw.resolve_left v).2;subst w0;simp only [BZ,Xs,c0,U,S.ld (b:=f) (o:=0) m1 rfl,S.ld (b:=l) (o:=0) m2 rfl,seval];refine az (aA T (i:=2) rfl Tryz.t2.2.2.1 aM (Xe (lbt rfl)) ono) ?_;clear S;rintro h3 ⟨S,_⟩;simp only [LC]at S;simp only [BZ];refine df (gm [z] _ (L:=[(f,_),(l,_)]) S.base fun h4 G=>?_);refine⟨rfl,(bD (by decide) (by simp only [aD,ah,seval];exact iA Tryz.t2.2.1 (G.ld (b:=l) (o:=0) m1 rfl))).2 ((dP (by decide)).2 (cu.2 ⟨(S.rebase G).gr,?_⟩))⟩;rw [decide_eq_false v];rfl
theorem fold_ge(l:List Int)(a:Int):a<=l.foldl max a/\ ∀x∈l,x<=l.foldl max a:=by
 induction l generalizing a with
 |nil=>exact⟨Int.le_refl _,fun x h=>by cases h⟩
 | cons y e c=>
   obtain⟨f,d⟩:=c (max a y);refine⟨by rw [Yu];omega,fun x b=>?_⟩;rw [Yu];rcases List.mem_cons.1 b with rfl|b
   . omega
   . exact d x b
theorem lmax_ge(h:x∈l):x<=ic l:=by
 cases l with
 |nil=>cases h
 | cons y a=>
   rw [ic];rcases List.mem_cons.1 h with rfl|h
   . exact(fold_ge a _).1
   . exact(fold_ge a _).2 x h
theorem slB_of(R:Row h a (eh n f) 1):aw h 1 encB (.slice (some ⟨a,0,none⟩) n n) ((zO n).map f):=by refine .inr ⟨a,0,none,n,by simp,by simp,?_⟩;rw [R.load (by rw [tP];simp),Xz,Xw (by rw [tP];simp),List.flatMap_map];exact congrArg some XX
theorem Db{t:TypeId}{m k v:Operand}:aop E ρ h (.insert t m k v)=gC (ey E h t (ρ m) (ρ k) (ρ v)):=rfl
def uw(okW okF okT okX:Bool):Int:=if okW=true then(if okF=true then(if okT=true then(if okX=true then 0 else 19)else 18)else 17)else 16
theorem firstS_sf:ry (sfRs b1 bq okW okF okT okX)=uw okW okF okT okX:=by cases okW<;>cases okF<;>cases okT<;>cases okX<;>rfl
def sfP(N:Nat)(l:List Int)(R Q:Nat->List Int)(a:List Int)(way:Int)(w:Nat):List Int:=if way=5 then(zO N).map (fun(v:Nat)=>iK N l.length R Q v w a)else []
theorem ER(h:uw okW okF okT okX=0):okW=true/\okF=true/\okT=true/\okX=true:=by cases okW<;>cases okF<;>cases okT<;>cases okX<;>first|exact⟨rfl,rfl,rfl,rfl⟩|(exact absurd h (by decide))
theorem Fv(a:OZ h0):aQ zM 54 [ptrTo bq] h0 (.tuple #[.slice none 0 0,.slice none 0 0]):=by have S:=Si a;refine erA (n:=4) (rs:=[.tmp 2,.tmp 3]) e54 ?_;simp only [BZ,aa,seval];exact S.gr
theorem FD(B:OZ h0){C D j:Value}{a:Int}{w:Nat}(d:Row h0 bq (sfC C D pn j way s w a) 1)(t:TabAt h0 m j N l R Q)(k: ∀i,i<l.length->(R i).length=N)(p: ∀i,i<l.length->(Q i).length=N)(E:l.length<=16)(M:N<=100)(O:s<N)(F:w<N):Ret zM 55 [ptrTo bq] h0 fun r h'=>Gr h0 h'/\ ∃e f,r=.tuple #[e,f]/\aw h' 1 bM e (iw N l.length R Q s w a)/\aw h' 1 (encI .i64) f ((zO N).map fun(v:Nat)=>iK N l.length R Q v w ((iw N l.length R Q s w a).map fun(x:Nat)=>(x:Int)))/\ ∀c,(ar e c\/ar f c)->h0.n<=c:=by
 have S:=Si B;have P:Fl j:=by obtain⟨b,_,_,_,rfl,_⟩:=t.ex;exact bA
 have u:=d.load1 (o:=3) rfl;have G:=d.load1 (o:=5) rfl;have y:=d.load1 (o:=6) rfl;have H:=d.load1 (o:=7) rfl;refine erA (n:=36) (rs:=[.tmp 2,.tmp 3]) e55 ?_;simp only [BZ];refine ao (av rfl) (q:=0) (ps:=[]) (by kernel_rfl) ?_;simp only [BZ,cls,u,G,y,H,seval];refine bO (ua S.ok t k p E) ?_;rintro e h ⟨g,z,I⟩;replace S:=S.call g;have T:(iw N l.length R Q s w a).length<=16:=by unfold iw;rw [XK];omega
 have U:=g.n;simp only [BZ,cls,seval];refine ao (av rfl) (q:=0) (ps:=[]) (by kernel_rfl) ?_;simp only [BZ,cls,g.load u,g.load y,seval];refine bO (bPi_ok S.ok (t.gr g) k p (by omega) (by omega) (z9 z) (by rw [Xn];omega) F) ?_;rintro f V ⟨A,J,K⟩;replace S:=S.call A;simp only [BZ,cls,aa,seval];exact⟨S.gr,_,_,rfl,z.gr A,J,fun c L=>L.elim (I c) (fun h=>by have:=K c h;omega)⟩
theorem FQ(ok:OZ h0){nd:Nat}{j:Gra}(ak:Good j)(hn:aP h0 nb (ptrTo bp) j){pt pc pf:Value}(T:TabQ h0 pt nd l R Q)(hl:l.length<=16)(fc:Fl pc)(ff:Fl pf){A:Bool}(F: ∀h,Gr h0 h->aQ zM 42 [ptrTo bp,pc,pf] h (.bool A)){fp fb Z ad:Nat}{m:List Int}{cf:Nat->Nat}{Bt:Nat->Nat}(P:A=true->ia h0 mb pc j.nodes m cf/\pf=ptrTo fp/\eJ h0 fp fb Z j.arcs.length ad Bt/\Z<=100/\ad=(j.arcs.length+7)/8/\ ∀v,v<j.nodes->cf v<Z){f a:Int}:Ret zM 14 [ptrTo bp,pt,.agg ⟨[pc,pf]⟩,.agg ⟨[.int .i64 way,.int .i64 f,.int .i64 t,.int .i64 a]⟩] h0 fun r h'=>Gr h0 h'/\ ∃c d vA vB vE,r=.tuple #[ow c d vA vB,vE]/\(∀x,(ar vA x\/ar vB x\/ar vE x)->h0.n<=x)/\
  (((uw (decide (way=4\/way=5)) (decide (0<=f/\f<j.nodes)) (decide (0<=t/\t<j.nodes)) (lC A way l.length nd j.nodes)≠0\/f=t)/\c=uw (decide (way=4\/way=5)) (decide (0<=f/\f<j.nodes)) (decide (0<=t/\t<j.nodes)) (lC A way l.length nd j.nodes)/\d=0/\vA=.slice none 0 0/\vB=.slice none 0 0/\vE=.slice none 0 0)\/
   (uw (decide (way=4\/way=5)) (decide (0<=f/\f<j.nodes)) (decide (0<=t/\t<j.nodes)) (lC A way l.length nd j.nodes)=0/\ ∃(s w:Nat) (N:Fd),f=s/\t=w/\s≠w/\s<j.nodes/\w<j.nodes/\
     Ends j.arcs (alF ((zO j.arcs.length).map (gX Bt ad (cf w)))) (piF (sfP j.nodes l R Q ((iw j.nodes l.length R Q f t a).map fun(x:Nat)=>(x:Int)) way w)) w (jY (piF (sfP j.nodes l R Q ((iw j.nodes l.length R Q f t a).map fun(x:Nat)=>(x:Int)) way w)) s) N/\
     aw h' 4 iM vE N.ev/\
     ((FAR<=N.dist/\c=20/\d=0/\vA=.slice none 0 0/\vB=.slice none 0 0)\/
      (N.dist<FAR/\c=0/\d=(N.dist:Nat)/\aw h' 1 bM vA N.arcs/\aw h' 1 bM vB (if way=5 then iw j.nodes l.length R Q f t a else []))))):=by
 have S:=Si ok;have dj:=hU;have To:=T.tabO (by omega);have ft:Fl pt:=To.fl;have n1:=ak.n1;have n2:=ak.n2;have c4:=ak.many;obtain⟨cc,O⟩: ∃cc,uw (decide (way=4\/way=5)) (decide (0<=f/\f<j.nodes)) (decide (0<=t/\t<j.nodes)) (lC A way l.length nd j.nodes)=cc:=⟨_,rfl⟩;refine erA (n:=84) (rs:=[.cell 8 43,.cell 9 44]) e14 ?_;simp only [BZ,seval];refine ab (aW (by intro x e;cases e)) S ?_;clear S;intro h b6 S c5;simp only [ac]at S;simp only [BZ,if_false,seval];refine ab (aW (by intro x e;cases e)) S ?_;clear S;intro h b7 S c6;simp only [ac]at S;simp only [BZ];refine ab au S ?_;clear S;intro h B S c9;simp only [BZ];refine ab au S ?_;clear S;intro h C S da;simp only [BZ,ft,Xz,XF,XU,S.lds (b:=b6) (o:=0) (n:=2) m3 (lbt rfl),S.lds (b:=b7) (o:=0) (n:=4) m2 (lbt rfl),seval];refine ab (aW (by intro x e;cases e)) S ?_;clear S;intro h G S b3;simp only [ac]at S;have Rq:Row h G (sfC pc pf (ptrTo bp) pt way f t a) 1:=S.row (b:=G) m0;have gq:=S.gr;have dm:=S.ok;have R6:=S.row (b:=b6) m4;have R7:=S.row (b:=b7) m3;have R8:=S.row (b:=B) m2;have R9:=S.row (b:=C) m1;have b4:C≠B/\(b7≠B/\b7≠C)/\(b6≠B/\b6≠C)/\G≠B/\G≠C:=by have ap:=S.apart;simp [keys]at ap;omega
 obtain⟨E,n7,n6,nq⟩:=b4;rename Hp=>hq;simp only [BZ,seval];refine step_ret (looks_ok S.ok) ?_;rintro r V ⟨g,b1,rfl,dn,y1⟩;have gA:=gq.trans g;replace Rq:=Rq.gr g;replace R6:=R6.gr g;replace R7:=R7.gr g;replace R8:=R8.gr g;replace R9:=R9.gr g;have al:=gA.ok;clear S;have S:=Si al;have a5:=hn.gr gA;have b5:=(T.gr gA).tabO (show l.length<1000 by omega);have FA: ∀h,Gr V h->aQ zM 42 [ptrTo bp,pc,pf] h (.bool A):=fun h g=>F h (gA.trans g);have s1:=sfNet_ok Rq y1;have s2:=sfWay_ok Rq y1;have s3:=sfFrom_ok a5 Rq y1;have s4:=sfTo_ok a5 Rq y1;have s5:=sfFits_ok a5 b5 Rq fc ff FA;have it:=looks1_it al y1 (okW:=decide (way=4\/way=5)) (okF:=decide (0<=f/\f<j.nodes)) (okT:=decide (0<=t/\t<j.nodes)) (okX:=lC A way l.length nd j.nodes);have e0:=firstS_sf (b1:=b1) (bq:=G) (okW:=decide (way=4\/way=5)) (okF:=decide (0<=f/\f<j.nodes)) (okT:=decide (0<=t/\t<j.nodes)) (okX:=lC A way l.length nd j.nodes);have bL: ∀r∈sfRs b1 G (decide (way=4\/way=5)) (decide (0<=f/\f<j.nodes)) (decide (0<=t/\t<j.nodes)) (lC A way l.length nd j.nodes),∀h,Gr V h->aQ zM r.g (r.pre.toList++r.post.toList) h (.bool r.ok):=by
  intro r hr;simp only [sfRs,Xt,Xl,or_false]at hr;rcases hr with rfl|rfl|rfl|rfl|rfl
  . exact s1
  . exact s2
  . exact s3
  . exact s4
  . exact s5
 clear s1 s2 s3 s4 s5;generalize ca:sfRs b1 G (decide (way=4\/way=5)) (decide (0<=f/\f<j.nodes)) (decide (0<=t/\t<j.nodes)) (lC A way l.length nd j.nodes)=rs at it e0 bL;rw [O]at e0;have k8:=R8.lt al;have k9:=R9.lt al;simp only [BZ];refine gP S (g:=141) (a:=#[]) (b:=#[ptrTo b1]) (by simp [bw,aB,ah]) rfl rfl ?_;intro h2 H lb S' dq ds g2;obtain⟨X,hX,S'⟩: ∃X:fF,X=_/\St NoM V h2 [(lb,.loop X),(H,.dfr)] []:=⟨_,rfl,S'⟩;have hJ :Yld zM lb (fun k h' F=>St NoM V h' [(lb,.loop X),(H,.dfr)] []/\(∀q∈rs.take k,q.ok=true)/\F=keys [(lb,Ob.loop X),(H,.dfr)] [])
  (fun o h'=>o=.ret (.bool false)/\ ∃(Y:fF),cc≠0/\Y.st=2/\Y.pending=some .ret/\St (· ∈[C,B]) V h' [(lb,.loop Y),(H,.dfr),(C,.row [.slice none 0 0] 1),(B,.row [.int .i64 cc,.int .i64 0,.slice none 0 0,.slice none 0 0] 1)] []) (rs.map argS):=by
  refine⟨?_,?_,?_,?_⟩
  . rintro i h F ⟨S,_,rfl⟩;exact⟨S.ok,fun b J=>S.key_lt J⟩
  . rintro i h F h' ⟨S,a,rfl⟩ gg;exact⟨S.call gg,a,rfl⟩
  . rintro h h' ⟨a,Y,e1,e2,e3,S⟩ gg;exact⟨a,Y,e1,e2,e3,S.call gg⟩
  . rintro i x hR F hx ⟨S,ha,rfl⟩;have ax:i<rs.length:=(by have:=(List.getElem?_eq_some_iff.1 hx).1;simpa using this);rw [Xm,Xd ax]at hx;cases hx;have a6:=bL _ (Xk ax);have tk:rs.take (i+1)=rs.take i++[rs[i]]:=Xg ax;have a7:rs[i]? =some rs[i]:=Xd ax;generalize rs[i]=r at a6 tk a7;obtain⟨rg,dc,cb,ch,a8⟩:=r;simp only []at a6;subst hX;refine gK (S.get m0) (by rw [e14];rfl) rfl ?_;have S0:=S;replace S:=S.base;simp only [BZ,seval];refine fG S (i:=0) rfl rfl rfl rfl rfl ?_;clear S;intro h S;simp only [LC]at S;simp only [BZ,seval];have cj:Gr V h:=(S0.rebase S).gr;refine ae (a6 _ cj) ?_;intro h3 g3;replace S:=S.call g3;cases ch with
    | true=>
      simp only [BZ,seval];refine dC S (i:=0) rfl ?_;clear S;intro h S;simp only [LC]at S;refine .inl ⟨rfl,_,⟨S0.rebase S,?_,rfl⟩,S.fr,S.key_new⟩;intro q hq;rw [tk]at hq;rcases List.mem_append.1 hq with hq|hq
      . exact ha q hq
      . rw [List.mem_singleton.1 hq]
    | false=>
      have ec:cc=a8:=(by rw [<-e0];exact firstS_at a7 ha Bool.false_ne_true);have W:cc≠0:=(by rw [ec];have hm:=Yy a7;rw [<-ca]at hm;simp only [sfRs,Xt,Xl,or_false,Rs.mk.injEq]at hm;rcases hm with⟨_,_,_,_,rfl⟩|⟨_,_,_,_,rfl⟩|⟨_,_,_,_,rfl⟩|⟨_,_,_,_,rfl⟩|⟨_,_,_,_,rfl⟩<;>decide);have U:=S0.rebase S;have gU:=U.gr;have ba:=R8.gr gU;have bb:=R9.gr gU;have ks: ∀c∈keys [(lb,Ob.loop _),(H,Ob.dfr)] [],V.n<=c:=fun c p=>(U.key_own p).elim (fun h=>h) (fun h=>h.elim);have U2:=((U.mono (M':=(· ∈[C,B])) (fun _ h=>h.elim)).push (b:=B) (o:=.row _ 1) (.inr (by simp)) ba (fun h=>by have:=ks _ h;omega)).push (b:=C) (o:=.row _ 1) (.inr (by simp)) bb (fun h=>by
       rcases List.mem_cons.1 h with h|h
       . have ap:C≠B:=E;exact ap h
       . have:=ks _ h;omega)
      clear S U;have S:=U2;clear U2;rw [<-ec];simp only [BZ,seval];refine az (stA S (i:=1) t43.2.1) ?_;clear S;rintro h ⟨S,_⟩;simp only [LC,ac,lay,Xh,Xi,seval]at S;simp only [BZ,seval];refine az (aA S (i:=0) rfl t44.2.2.1 bH (Xe (lbt rfl)) ono) ?_;clear S;rintro h ⟨S,_⟩;simp only [LC]at S;simp only [BZ];refine round_ret S (i:=2) rfl ?_;clear S;intro h S;simp only [LC]at S;exact .inr (.inl ⟨rfl,⟨rfl,_,W,rfl,rfl,S.permL (XV (l₁:=[_,_]) (l₂:=[_,_]))⟩,S.ok⟩)
 have bP: ∀(b:Nat),b∈keys [(lb,Ob.loop X),(H,.dfr)] []-> ¬(b<V.n/\b=b1):=fun b J h=>(S'.key_own J).elim (fun h1=>by omega) (fun h=>h.elim);refine dh (it lb _ _ (fun v h hz=>by cases hz.1) hJ h2 _ ?_ ⟨S',by simp,rfl⟩) fun o rc h' y=>?_
 . exact⟨S'.ok,S'.fr.n,fun b J hd=>g2.get b J,bP,fun b J=>S'.key_lt J⟩
 . obtain ⟨_,⟨u,F',rfl,U,ha,rfl⟩|⟨u,rfl,hz,Y,W,st,pe,U⟩|⟨w,rfl,hz,_⟩⟩:=y
   . rw [Xn,XD]at ha;have bc:cc=0:=(by rw [<-e0];exact EI ha);subst hX;refine⟨_,U.get m0,XJ,?_⟩;replace U:=U.dead;show Run _ _ _ _ _ _ _ _;have gU:=U.gr;have ba:=R8.gr gU;have bb:=R9.gr gU;have ks: ∀c∈keys [(H,Ob.dfr)] [],V.n<=c:=fun c p=>(U.key_own p).elim (fun h=>h) (fun h=>h.elim);have U2:=((U.mono (M':=(· ∈[C,B])) (fun _ h=>h.elim)).push (b:=B) (o:=.row _ 1) (.inr (by simp)) ba (fun h=>by have:=ks _ h;omega)).push (b:=C) (o:=.row _ 1) (.inr (by simp)) bb (fun h=>by
      rcases List.mem_cons.1 h with h|h
      . exact E h
      . have:=ks _ h;omega)
     have S:=U2.permL (L':=[(H,.dfr),(C,_),(B,_)]) (XV (l₁:=[_]) (l₂:=[_,_]));clear U U2 R8 R9 hJ it bP;have ay: ∀{x:Hp},Mo (· ∈[C,B]) V x->Gr h0 x:=fun f=>(gA.fr.trans f (fun c p=>.inr (by simp only [Xt,Xl,or_false]at p;omega)):Mo NoM h0 _).gr;have aL: ∀{x:Hp} {b:Nat} {l:List Value},Mo (· ∈[C,B]) V x->Row V b l 1->b≠B/\b≠C->Row x b l 1:=fun {x b l} f r e=>f.has (b:=b) (o:=.row l 1) r (by simp [e.1,e.2]);have a0:=(R7.gr gU).load1 (o:=1) rfl;have a1:=(R7.gr gU).load1 (o:=2) rfl;by_cases bd:f=t
     . subst bd;simp only [BZ,a0,a1,seval];refine az (stA S (i:=2) t43.2.1) ?_;clear S;rintro h3 ⟨S,_⟩;simp only [LC,ac,lay,Xh,Xi,seval]at S;simp only [BZ,seval];refine az (aA S (i:=1) rfl t44.2.2.1 bH (Xe (lbt rfl)) ono) ?_;clear S;rintro h4 ⟨S,_⟩;simp only [LC]at S;simp only [BZ];refine df (gm [H] _ (L:=[(C,_),(B,_)]) S.base fun h5 I=>?_);refine⟨rfl,(bD (by decide) (by simp only [aD,ah,seval];exact bI t43.1 t43.2.1 (I.lds (b:=B) (o:=0) (n:=4) m1 (lbt rfl)))).2 ((bD (by decide) (by simp only [aD,ah,seval];exact iA t44.2.1 (I.ld (b:=C) (o:=0) m0 rfl))).2 (cu.2 ?_))⟩;have gZ:Gr h0 h5:=(gA.fr.trans (S.rebase I).fr (fun c p=>.inr (by simp only [Xt,Xl,or_false]at p;omega)):Mo NoM h0 h5).gr;exact⟨gZ,_,_,_,_,_,rfl,fun x hx=>(by rcases hx with h|h|h<;>exact h.elim),.inl ⟨.inr trivial,by rw [O,bc],rfl,rfl,rfl,rfl⟩⟩
     . obtain⟨w1,w2,w3,w4⟩:=ER (O.trans bc);have w1:=of_decide_eq_true w1;have w2:=of_decide_eq_true w2;have w3:=of_decide_eq_true w3;obtain⟨s,rfl⟩:=XE w2.1;obtain⟨w,rfl⟩:=XE w3.1;have hs:s<j.nodes:=(by omega);have hw:w<j.nodes:=(by omega);have be:s≠w:=fun e=>bd (by rw [e]);unfold lC at w4;rw [Bool.and_eq_true]at w4;obtain⟨ck,cl,bm,bf,bh,cm⟩:=P w4.1;subst cl;simp only [BZ,a0,a1,bd,seval];refine ab lM S ?_;clear S;intro h mm S dd;simp only [BZ,Db,seval];refine az (S.mputI (i:=0) rfl t118.1 Tryz.t3.1 om _) ?_;clear S;rintro h3 ⟨bT,dt,c1,M1,S⟩;simp only [LC]at S;simp only [BZ,Db,seval];refine az (S.mputI (i:=0) rfl t118.1 Tryz.t3.1 M1 _) ?_;clear S bT;rintro h3 ⟨bT,cn,c2,M2,S⟩;simp only [LC]at S;have cp:h3.get mm=some (.map cn c2):=(S.own _ m0).2;have cr:=(aL S.fr R7 n7).load1 (o:=0) rfl;have lk:=lJ (x:=way) t118.1 Tryz.t3.1 (z:=.nilFunc) (by kernel_rfl) cp M2;replace S:=S.drop1;have cs:=ay S.fr;have dv:=S.fr.n;have de:H<h3.n:=S.key_lt (b:=H) (by simp [keys]);have bX:=S.ok;have cv:=aL S.fr Rq nq;have K: ∃gq:FuncId,cM zM h3 118 (.map (some mm)) (.int .i64 way) false=some (.func (.func gq) #[ptrTo G] #[])/\Ret zM gq [ptrTo G] h3 fun r h'=>Gr h3 h'/\ ∃vB vP,r=.tuple #[vB,vP]/\aw h' 1 bM vB (if way=5 then iw j.nodes l.length R Q s w a else [])/\aw h' 1 (encI .i64) vP (sfP j.nodes l R Q ((iw j.nodes l.length R Q s w a).map fun(x:Nat)=>(x:Int)) way w)/\ ∀c,(ar vB c\/ar vP c)->h3.n<=c:=by
        rcases w1 with rfl|rfl
        . refine⟨_,lk,(Fv bX).mono fun r h' ⟨e,g⟩=>⟨g,_,_,e,.inl ⟨rfl,rfl⟩,.inl ⟨rfl,rfl⟩,fun c p=>p.elim (fun h=>h.elim) (fun h=>h.elim)⟩⟩
        . have w5:=w4.2;simp only [ne_eq,not_true_eq_false,decide_false,Bool.false_or,decide_eq_true_eq]at w5;obtain⟨cx,cz⟩:=w5;subst cz;obtain⟨m',t',lR,lQ⟩: ∃m',TabAt h0 m' pt j.nodes l R Q/\(∀i,i<l.length->(R i).length=j.nodes)/\ ∀i,i<l.length->(Q i).length=j.nodes:=by
           rcases T with h|⟨_,_,rfl⟩
           . exact h
           . simp at cx
          exact⟨_,lk,FD bX cv (t'.gr cs) lR lQ hl (by omega) hs hw⟩
       obtain⟨gq,cA,K⟩:=K;simp only [BZ,cr,cA,seval];refine step_ret K ?_;rintro r h4 ⟨g4,vB,vP,rfl,sB,sP,bY⟩;replace S:=S.call g4;have dx:=g4.n;have cN:=S.fr.n;simp only [BZ,seval];have bi:=ay S.fr;have bk:=S.ok;have bn:=aL S.fr R7 n7;have bo:=aL S.fr R6 n6;have p7:=bn.lt bk;have p6:=bo.lt bk;have a0:=bn.load1 (o:=1) rfl;have a1:=bn.load1 (o:=2) rfl;have cO:=bo.load1 (o:=0) rfl;have cT:=bo.load1 (o:=1) rfl;have S0:=S;clear S;have S:=Si bk;rename Hp=>hR;refine ao (jG (ord:=[19,0,1,2,3,4,5,6,7,8,9,10,11,12,13,14,15,16,17,18,20,21]) rfl rfl (by simp only [dW,ou,eX,Yq,Yr,List.map_toArray,XG,XP,cond_true,cond_false,seval];exact rfl)) (q:=1) (ps:=[(0,16),(5,13),(3,13),(0,13),(7,12),(5,12),(3,12),(0,12)]) (by kernel_rfl) ?_;simp only [BZ,cls,seval];refine cV au S ?_;clear S;intro h M S cW br;have cX:=(S.row (b:=M) m0).lt S.ok;have gB:=S.gr;have nB:=gB.n;simp only [BZ,cls,gB.load a0,gB.load a1,gB.load cO,gB.load cT,seval];refine bj (uY S.ok ((ck.gr bi).gr gB) hw) ?_;intro h g;have e1:=ag g (show b6<_ by omega);have e2:=ag g (show b7<_ by omega);have e3:=ag g cX;have dy:=g.n;replace S:=S.call g;simp only [BZ,cls,seval];refine bO (allowF_ok S.ok ((bm.gr bi).gr S.gr) (cm w hw) bf (by omega) bh) ?_;rintro r h ⟨af,bl,rfl,RA,nA⟩;have e4:=ag af (show b6<_ by omega);have e5:=ag af (show b7<_ by omega);have e6:=ag af (show M<_ by omega);have dF:=af.n;replace S:=S.call af;have cY:=slB_of RA;simp only [BZ,cls,sP.fl,seval];refine bO (ug S.ok ak ((hn.gr bi).gr S.gr) hs hw cY (.inr (by simp)) (sP.gr S.gr) (by unfold sfP;split;exact .inr (by simp);exact .inl rfl)) ?_;rintro r h ⟨a2,v,N,rfl,⟨xA,xE,rfl,G1,G2,d1,d2⟩,he⟩;have e7:=ag a2 (show b6<_ by omega);have e8:=ag a2 (show b7<_ by omega);have e9:=ag a2 (show M<_ by omega);have bs:Fl xA:=G1.fl;have bt:Fl xE:=G2.fl;replace S:=S.call a2;simp only [BZ,cls,seval];refine cJ (stA S (i:=0) t96.2.1 (by simp only [ac,Xy,XC,bs.2.1,bt.2.1,Xf];rfl)) ?_;have a4: ∀c,ar xA c\/ar xE c->c≠M:=fun c p e=>(by have h1:_<=c:=p.elim (fun h=>(d1 c h).1) (fun h=>d2 c h);omega);clear S;rintro a3 ⟨S,mo⟩;simp only [LC,ac,lay,Xh,Xi,seval]at S;simp only [BZ,cls,seval];refine⟨by simp only [aI,aO,aF,aK,aH,ne_eq,not_false_eq_true,aU,aY,aN,aJ,bw,bN,aD,Xf,ah,hZ,aq e1,an e1,aq e2,an e2,aq e3,an e3,aq e4,an e4,aq e5,an e5,aq e6,an e6,aq e7,an e7,aq e8,an e8,aq e9,an e9,<-br,seval],?_⟩;have bu:=S.row (b:=M) m0;have c0:aw a3 1 bM xA N.arcs:=(G1.sl rfl dr (by decide)).mo mo (fun c p e=>a4 c (.inl p) e);have b0:aw a3 4 iM xE N.ev:=(G2.sl rfl ru (by decide)).mo mo (fun c p e=>a4 c (.inr p) e);have c3:=sB.gr S.gr;have j0:=bu.load1 (o:=0) rfl;have j1:=bu.load1 (o:=1) rfl;have j2:=bu.load1 (o:=2) rfl;have S1:=S0.call S.gr;have D:M≠B/\M≠C:=⟨fun e=>by omega,fun e=>by omega⟩;clear S;have S:=S1;clear S1;have dO:H<hR.n:=S0.key_lt (b:=H) (by simp [keys]);have d0:V.n<=hR.n:=S0.fr.n;have d3:=gA.n;have b2:=(he.resolve_left (fun h=>be h.1)).2;have W:=O.trans bc;by_cases hd:N.dist<FAR
       . have bv: ¬(72057594037927936:Int)<=(N.dist:Int):=(by omega);simp only [BZ,j0,bv,seval];refine ao (av rfl) (q:=0) (ps:=[(7,8)]) (by kernel_rfl) ?_;simp only [BZ,cls,j0,j1,j2,bs,sB.fl,seval];refine cJ (stA S (i:=2) t43.2.1 (by simp only [ac,Xy,XC,bs.2.1,sB.fl.2.1,Xf];rfl)) ?_;clear S;rintro h5 ⟨S,bx⟩;simp only [LC,ac,lay,Xh,Xi,seval]at S;simp only [BZ,cls,seval];refine cJ (aA S (i:=1) rfl t44.2.2.1 bt (Xe (lbt rfl)) ono) ?_;clear S;rintro h6 ⟨S,bB⟩;simp only [LC]at S;simp only [BZ,seval];refine⟨by simp only [aI,aO,aF,aK,aH,ne_eq,not_false_eq_true,aU,aY,aN,aJ,bw,bN,aD,Xf,ah,hZ,cS D.1,cS D.1.symm,cS D.2,cS D.2.symm,cS E,cS E.symm,seval],?_⟩;refine df (gm [H] _ (L:=[(C,_),(B,_)]) S.base fun h7 I=>?_);refine⟨rfl,(bD (by decide) (by simp only [aD,ah,seval];exact bI t43.1 t43.2.1 (I.lds (b:=B) (o:=0) (n:=4) m1 (lbt rfl)))).2 ((bD (by decide) (by simp only [aD,ah,seval];exact iA t44.2.1 (I.ld (b:=C) (o:=0) m0 rfl))).2 (cu.2 ?_))⟩;have gZ:=ay (S.rebase I).fr;have bE: ∀{α:Type} {k:Nat} {ai:α->List Value} {u:Value} {xs:List α},aw a3 k ai u xs->(∀c,ar u c->c≠B/\c≠C/\c≠H)->aw h7 k ai u xs:=fun s J=>((s.mo bx (fun c p e=>(J c p).1 e)).mo bB (fun c p e=>(J c p).2.1 e)).mo I.fr (fun c p hm=>by
          have:=J c p;simp [keys]at hm;omega)
         have zE:=bE b0 (fun c p=>by have:=d2 c p;exact⟨by omega,by omega,by omega⟩);have zA:=bE c0 (fun c p=>by have:=(d1 c p).1;exact⟨by omega,by omega,by omega⟩);have zB:=bE c3 (fun c p=>by have:=bY c (.inl p);have:=cN;exact⟨by omega,by omega,fun e=>by omega⟩);exact⟨gZ,_,_,_,_,_,rfl,fun x hx=>(by rcases hx with h|h|h;(have:=(d1 x h).1;omega);(have:=bY x (.inl h);omega);(have:=d2 x h;omega)),.inr ⟨W,s,w,N,rfl,rfl,be,hs,hw,b2,zE,.inr ⟨hd,rfl,rfl,zA,zB⟩⟩⟩
       . have bv:(72057594037927936:Int)<=(N.dist:Int):=(by omega);simp only [BZ,j0,bv,seval];refine ao (av rfl) (q:=0) (ps:=[(2,3)]) (by kernel_rfl) ?_;simp only [BZ,cls,j2,seval];refine cJ (S.store (i:=2) rfl t43.2.1 (by intro x e;cases e) rfl (rfl) (lbt rfl) ono) ?_;clear S;rintro h5 ⟨S,bx⟩;simp only [LC,ac,lay,Xh,Xi,seval]at S;simp only [BZ,cls,seval];refine cJ (aA S (i:=1) rfl t44.2.2.1 bt (Xe (lbt rfl)) ono) ?_;clear S;rintro h6 ⟨S,bB⟩;simp only [LC]at S;simp only [BZ,seval];refine⟨by simp only [aI,aO,aF,aK,aH,ne_eq,not_false_eq_true,aU,aY,aN,aJ,bw,bN,aD,Xf,ah,hZ,cS D.1,cS D.1.symm,cS D.2,cS D.2.symm,cS E,cS E.symm,seval],?_⟩;refine df (gm [H] _ (L:=[(C,_),(B,_)]) S.base fun h7 I=>?_);refine⟨rfl,(bD (by decide) (by simp only [aD,ah,seval];exact bI t43.1 t43.2.1 (I.lds (b:=B) (o:=0) (n:=4) m1 (lbt rfl)))).2 ((bD (by decide) (by simp only [aD,ah,seval];exact iA t44.2.1 (I.ld (b:=C) (o:=0) m0 rfl))).2 (cu.2 ?_))⟩;have gZ:=ay (S.rebase I).fr;have bE: ∀{α:Type} {k:Nat} {ai:α->List Value} {u:Value} {xs:List α},aw a3 k ai u xs->(∀c,ar u c->c≠B/\c≠C/\c≠H)->aw h7 k ai u xs:=fun s J=>((s.mo bx (fun c p e=>(J c p).1 e)).mo bB (fun c p e=>(J c p).2.1 e)).mo I.fr (fun c p hm=>by
          have:=J c p;simp [keys]at hm;omega)
         have zE:=bE b0 (fun c p=>by have:=d2 c p;exact⟨by omega,by omega,by omega⟩);exact⟨gZ,_,_,_,_,_,rfl,fun x hx=>(by rcases hx with h|h|h;exact h.elim;exact h.elim;(have:=d2 x h;omega)),.inr ⟨W,s,w,N,rfl,rfl,be,hs,hw,b2,zE,.inl ⟨by omega,rfl,rfl,rfl,rfl⟩⟩⟩
   . refine⟨Y,U.get m0,by rw [st];decide,?_⟩;rw [pe];replace U:=U.dead;show Run _ _ _ _ _ _ _ _;simp only [BZ];refine df (gm [H] _ (L:=[(C,_),(B,_)]) U.base fun h5 I=>?_);refine⟨rfl,(bD (by decide) (by simp only [aD,ah,seval];exact bI t43.1 t43.2.1 (I.lds (b:=B) (o:=0) (n:=4) m1 (lbt rfl)))).2 ((bD (by decide) (by simp only [aD,ah,seval];exact iA t44.2.1 (I.ld (b:=C) (o:=0) m0 rfl))).2 (cu.2 ?_))⟩;have gZ:Gr h0 h5:=(gA.fr.trans (U.rebase I).fr (fun c p=>.inr (by simp only [Xt,Xl,or_false]at p;omega)):Mo NoM h0 h5).gr;exact⟨gZ,_,_,_,_,_,rfl,fun x hx=>(by rcases hx with h|h|h<;>exact h.elim),.inl ⟨.inl (by rw [O];exact W),by rw [O],rfl,rfl,rfl,rfl⟩⟩
   . cases hz
theorem toR_len{a:Gra}:(toR a l i).length=a.nodes:=by unfold toR;exact uB _ _ _
theorem frR_len{a:Gra}:(frR a l i).length=a.nodes:=by unfold frR;exact uB _ _ _
theorem Ff{d:Gra}{l f:Nat}{m:List Int}{p q:Nat->Nat}(b:Good d)(r:aP h0 l (ptrTo j) d)(c:ia h0 n (ptrTo e) d.nodes m p)(i:ic m+1=((f:Nat):Int))(s:eJ h0 k o f d.arcs.length a q): ∀h,Gr h0 h->aQ zM 42 [ptrTo j,ptrTo e,ptrTo k] h (.bool true):=by intro h g;have u:=b.n2;have t:=c.len;have:=xz g.ok (r.gr g) (.inr ⟨⟨_,c.at0.gr g⟩,i.symm⟩:mU h (ptrTo e) m (f:Int)) (s.gr g).bits b.n1 (by omega);rw [t]at this;simpa using this
structure Rl where
 g:FuncId
 post:Array Value
 ok:Bool
 code:Int
def encR(r:Rl):List Value:=[.func (.func r.g) #[] r.post,.int .i64 r.code]
theorem encR_len(r:Rl):(encR r).length=2:=rfl
def qG:List Rl->Int
 | []=>0|r::l=>if r.ok=true then qG l else r.code
theorem Eh{rs:List Rl}(a:i<rs.length):qG (rs.drop i)=if rs[i].ok=true then qG (rs.drop (i+1))else rs[i].code:=by rw [XN a];rfl
theorem Ez(q:OZ h0){rs:List Rl}(g:aw h0 2 encR v rs)(C:rs.length<1000)(s: ∀i (t:i<rs.length),(∀j,j<i->(rs.getD j ⟨0,#[],false,0⟩).ok=true)-> ∀h,Gr h0 h->aQ zM rs[i].g rs[i].post.toList h (.bool rs[i].ok)):aQ zM 106 [v] h0 (.int .i64 (qG rs)):=by
 have S:=Si q;refine erA (n:=18) (rs:=[.tmp 2]) e106 ?_;simp only [BZ,g.lenq,seval];refine aX (fun(i:Nat) d h=>i<=rs.length/\St NoM h0 h [] []/\qG rs=qG (rs.drop i)/\(∀j,j<i->(rs.getD j ⟨0,#[],false,0⟩).ok=true)/\d 5=v/\d 6=.int .i64 (rs.length:Nat)/\d 7=.int .i64 i) (fun i=>rs.length-i) ?_ 0 _ _ ?_
 . clear S;intro i u d h ⟨t,S,e,hb,r5,r6,r7⟩;have w:am .i64 ((i:Int)+1)=((i+1:Nat):Int):=(by rw [wrap64]<;>omega);by_cases hlt:i<rs.length
   . obtain⟨c,o,x,y⟩:=(g.gr S.gr).ix (kd:=.i64) encR_len hlt;have k:=s i hlt hb;have a:rs.getD i ⟨0,#[],false,0⟩=rs[i]:=(by rw [Xa,Xd hlt];rfl);rw [Eh hlt]at e;generalize rs[i]=r at k y e a;have l:=S.gr;have Sx:=S;replace S:=Si S.ok;simp only [BZ,r5,r6,r7,aE,hlt,x,y,encR,seval];refine ab au S ?_;clear S;intro h m S p;simp only [BZ,seval];refine az (stA S (i:=0) t188.2.1) ?_;clear S;rintro h ⟨S,z⟩;clear z;simp only [LC,ac,lay,Xh,Xi,seval]at S;simp only [BZ,S.ld (b:=m) (o:=0) m0 rfl,seval];refine ae (k _ (l.trans S.gr)) ?_;intro D A;replace S:=S.call A;cases f:r.ok with
     | true=>
       rw [f,if_pos rfl]at e;simp only [BZ,r7,w,seval];exact u (i+1) _ _ (by omega) ⟨by omega,Sx.call S.gr,e,fun j B=>by
        rcases Nat.lt_or_ge j i with h|h
        . exact hb j h
        . rw [show j=i by omega,a];exact f,by simp [aB,r5,r6]⟩
     | false=>rw [f,if_neg Bool.false_ne_true]at e;simp only [BZ,aa,S.ld (b:=m) (o:=1) m0 rfl,seval];exact⟨by rw [e],l.trans S.gr⟩
   . simp only [BZ,aa,r6,r7,aE,hlt,seval];have:i=rs.length:=(by omega);subst this;rw [Yn]at e;exact⟨by rw [e];rfl,S.gr⟩
 . exact⟨Xj _,S,rfl,fun j B=>by omega,by simp [aB,cK]⟩
theorem Dn{f:Nat}{j:Gra}(c:aP hq m (ptrTo i) j){v:Int}(a:hq.load b2 0 1=some [.int .i64 v])(b:hq.load f 0 1=some [ptrTo i]): ∀h,Gr hq h->aQ zM 105 [ptrTo b2,ptrTo f] h (.bool (decide (0<=v/\v<j.nodes))):=by
 intro h g;have S:=Si g.ok;have o:=aV g.ok (g.load a);have p:=aV g.ok (g.load b);refine erA (n:=11) (rs:=[.tmp 2]) e105 ?_;simp only [BZ];refine ao (av rfl) (q:=0) (ps:=[(3,5)]) (by kernel_rfl) ?_;by_cases d:0<=v
 . simp only [BZ,cls,g.load a,g.load b,d,seval];refine bj (bC S.ok ((c.gr g).gr S.gr)) ?_;intro r e;have k:=ag e o;have l:=ag e p;replace S:=S.call e;simp only [BZ,cls,aa,seval];refine⟨by simp only [aI,aO,aF,aK,aH,ne_eq,not_false_eq_true,aU,aY,aJ,jD,bw,bN,aD,ah,cL,jC,sJ,Xf,an k,aq k,an l,aq l,seval],S.gr⟩
 . simp only [BZ,cls,aa,g.load a,g.load b,d,seval];refine⟨by simp only [aI,aO,aF,aK,aH,ne_eq,not_false_eq_true,aU,aY,aJ,jD,bw,bN,aD,ah,cL,jC,sJ,Xf,seval],by simp [d],S.gr⟩
theorem node_ok(c:OZ h0){v:Int}:Ret zM 104 [.int .i64 v,ptrTo a] h0 fun r h'=>Gr h0 h'/\ ∃b2,r=.func (.func 105) #[] #[ptrTo b2,ptrTo a]/\h'.load b2 0 1=some [.int .i64 v]:=by have S:=Si c;refine erA (n:=5) (rs:=[.tmp 3]) e104 ?_;simp only [BZ,seval];refine ab (bz (by exact aM)) S ?_;clear S;intro h b2 S b;simp only [BZ,aa,seval];exact⟨S.gr,b2,rfl,S.ld m0 rfl⟩
def isP:Value->Bool
 | .pointer none=>false|_=>true
theorem net2_ok(d:(∃b,p=ptrTo b)\/p=.pointer none)(c:hq.load a 0 1=some [p]): ∀h,Gr hq h->aQ zM 107 [ptrTo a] h (.bool (isP p)):=by
 intro h g;have S:=Si g.ok;refine erA (n:=4) (rs:=[.tmp 1]) e107 ?_;rcases d with⟨e,rfl⟩|rfl
 . simp only [BZ,aa,g.load c,seval];exact⟨rfl,S.gr⟩
 . simp only [BZ,aa,g.load c,seval];exact⟨rfl,S.gr⟩
theorem tab3_ok{p:Nat}{s:Value}{t:Gra}{C:Nat}(c:aP hq C (ptrTo o) t)(T:TabO zM hq s p mk 41 40)(e:hq.load b4 0 1=some [s])(d:hq.load m 0 1=some [ptrTo o]): ∀h,Gr hq h->aQ zM 108 [ptrTo b4,ptrTo m] h (.bool (decide (0<mk/\p=t.nodes))):=by
 intro h g;have D:=T.fl;have S:=Si g.ok;have f:=aV g.ok (g.load e);have i:=aV g.ok (g.load d);refine erA (n:=14) (rs:=[.tmp 2]) e108 ?_;simp only [BZ];refine ao (av rfl) (q:=0) (ps:=[(6,7)]) (by kernel_rfl) ?_;simp only [BZ,cls,g.load e,g.load d,seval];refine bO (T.marks _ (g.trans S.gr)) ?_;rintro r E ⟨a,l,u,F⟩;replace S:=S.call a;have v:=ag a f;have w:=ag a i;by_cases x:0<mk
 . have j:(0:Int)<(l.length:Int):=(by omega);simp only [BZ,cls,u.lenq,j,a.load (g.load e),a.load (g.load d),seval];refine bj (T.nodes _ (g.trans S.gr)) ?_;intro G b;have y:=ag b (Xc f a.n);have z:=ag b (Xc i a.n);replace S:=S.call b;simp only [BZ,cls,b.load (a.load (g.load d)),seval];refine bj (bC S.ok ((c.gr g).gr S.gr)) ?_;intro H k;have A:=ag k (Xc f (a.trans b).n);have B:=ag k (Xc i (a.trans b).n);replace S:=S.call k;simp only [BZ,cls,aa,seval];refine⟨by simp only [aI,aO,aF,aK,aH,ne_eq,not_false_eq_true,aU,aY,aN,aJ,bw,bN,aD,Xf,ah,cL,an w,aq w,an v,aq v,an z,aq z,an y,aq y,an B,aq B,an A,aq A,seval],?_⟩;exact⟨by simp [x,Int.ofNat_inj],S.gr⟩
 . have j: ¬(0:Int)<(l.length:Int):=(by omega);simp only [BZ,cls,aa,u.lenq,j,seval];refine⟨by simp only [aI,aO,aF,aK,aH,ne_eq,not_false_eq_true,jC,sJ,Xf,seval],by simp [x],S.gr⟩
def zC(p:Value)(N a mk:Nat)(f t:Int):Int:=if isP p=true then mQ N a mk f t else 1
theorem TabO.gr{a:Value}{c d:FuncId}(T:TabO E h a b mk c d)(g:Gr h h'):TabO E h' a b mk c d:=⟨T.fl,fun x k=>T.marks x (g.trans k),fun x k=>T.nodes x (g.trans k)⟩
theorem firstC4{f:Int}{d e h:FuncId}{i j k l:Array Value}:qG [⟨d,i,isP p,1⟩,⟨e,j,decide (0<=f/\f<N),17⟩,⟨g,k,decide (0<=t/\t<N),18⟩,⟨h,l,decide (0<mk/\b=N),19⟩]=zC p N b mk f t:=by
 simp only [qG,zC,mQ,decide_eq_true_eq];cases isP p with
 |false=>rfl| true=>
   simp only [if_true];by_cases a:0<=f/\f<(N:Int)
   . by_cases c:0<=t/\t<(N:Int)
     . simp only [a,c,not_true_eq_false,if_false,and_self,if_true]
     . simp only [a,c,not_true_eq_false,not_false_eq_true,if_false,and_self,if_true]
   . simp only [a,not_false_eq_true,if_false,if_true]
theorem DP(ok:OZ h0){L:Value}{A:Nat}{f a:Int}(fq:Fl L)(k:(∃j l w,p=ptrTo j/\aP h0 w (ptrTo j) l/\N=l.nodes)\/p=.pointer none)(T:TabO zM h0 K A mk 41 40):aQ zM 43 [p,K,.agg ⟨[L,.int .i64 f,.int .i64 t,.int .i64 a]⟩] h0 (.int .i64 (zC p N A mk f t)):=by
 have fp:Fl p:=by rcases k with⟨_,_,_,rfl,_⟩|rfl<;>exact bA
 have ft:=T.fl;have S:=Si ok;refine erA (n:=25) (rs:=[.tmp 6]) e43 ?_;simp only [BZ,seval];refine ab (bz (by assumption)) S ?_;clear S;intro h m S M;simp only [BZ,if_false,seval];refine ab (bz (by assumption)) S ?_;clear S;intro h O S P;simp only [BZ,if_false,seval];refine ab (aW (by intro x e;cases e)) S ?_;clear S;intro h r S Q;simp only [ac]at S;have R:=S.gr;have B:=S.ok;have r3:=S.ld (b:=m) (o:=0) m2 rfl;have r4:=S.ld (b:=O) (o:=0) m1 rfl;have C:=S.ld (b:=r) (o:=1) m0 rfl;have D:=S.ld (b:=r) (o:=2) m0 rfl;have U:=(S.row (b:=r) m0).lt S.ok;clear S;rename Hp=>hq;have S:=Si B;simp only [BZ,seval];refine ao (av rfl) (q:=16384) (ps:=[(5,9)]) (by kernel_rfl) ?_;simp only [BZ,cls,C,seval];refine bO (node_ok S.ok) ?_;rintro v1 h ⟨g,x1,rfl,E⟩;have V:leaves _ _ r=true:=ag g U;have k1:=g.n;replace S:=S.call g;simp only [BZ,cls,g.load D,seval];clear g;refine bO (node_ok S.ok) ?_;rintro v2 h ⟨g,x2,rfl,l2⟩;have W:leaves _ _ r=true:=ag g (Xc U k1);replace S:=S.call g;replace E:=g.load E;simp only [BZ,cls,seval];have y:=S.gr;have F:=S.ok;clear S g;rename Hp=>hA;have S:=Si F;refine cV (bZ (by exact t257.1) (by exact e188E) (by decide) (by rfl)) S ?_;clear S;intro h X S Y Z;simp only [LC,bJ,cd,ac,Xp,Xo,Xq,Xv,seval]at S;have s:=S.gr;have G:=S.ok;have d:=s.load (y.load r3);have H:=s.load (y.load r4);have I:=s.load E;have J:=s.load l2;have z:=(R.trans y).trans s;simp only [BZ,cls,seval];refine bj (Ez G (rs:=[⟨107,#[ptrTo m],isP p,1⟩,⟨105,#[ptrTo x1,ptrTo m],decide (0<=f/\f<N),17⟩,⟨105,#[ptrTo x2,ptrTo m],decide (0<=t/\t<N),18⟩,⟨108,#[ptrTo O,ptrTo m],decide (0<mk/\A=N),19⟩]) (.inr ⟨X,0,none,4,rfl,Xr _,S.lds (b:=X) (o:=0) (n:=4*2) m0 (lbt rfl)⟩) (by simp) (fun i hi=>?_)) ?_
 . have ad:i<4:=hi;rcases(by omega:i=0\/i=1\/i=2\/i=3)with rfl|rfl|rfl|rfl
   . intro _;refine net2_ok ?_ d;rcases k with⟨j,_,_,rfl,_⟩|rfl
     . exact .inl ⟨j,rfl⟩
     . exact .inr rfl
   . intro u;have v:isP p=true:=u 0 (by omega);rcases k with⟨j,l,w,rfl,c,rfl⟩|rfl
     . exact Dn (c.gr z) I d
     . cases v
   . intro u;have v:isP p=true:=u 0 (by omega);rcases k with⟨j,l,w,rfl,c,rfl⟩|rfl
     . exact Dn (c.gr z) J d
     . cases v
   . intro u;have v:isP p=true:=u 0 (by omega);rcases k with⟨j,l,w,rfl,c,rfl⟩|rfl
     . exact tab3_ok (c.gr z) (T.gr z) H d
     . cases v
 . intro h g;rw [firstC4];replace S:=S.call g;simp only [BZ,cls,aa,seval];refine⟨by simp only [aI,aO,aF,aK,aH,ne_eq,not_false_eq_true,aU,aY,aN,aJ,bw,bN,aD,Xf,ah,aq V,an V,aq W,an W,seval],?_⟩;exact(R.trans y).trans S.gr
theorem FM(ok:OZ h0){E:Nat}{j:Gra}(K:Good j)(hn:aP h0 nb (ptrTo V) j){W q0:Value}(T:TabQ h0 W E l R Q)(hl:l.length<=16)(fq:Fl q0){f a:Int}:Ret zM 11 [ptrTo V,W,.agg ⟨[q0,.int .i64 f,.int .i64 t,.int .i64 a]⟩] h0 fun r h'=>Gr h0 h'/\ ∃c d vA J vE,r=.tuple #[ow c d vA J,vE]/\(∀x,(ar vA x\/ar J x\/ar vE x)->h0.n<=x)/\
  (((mQ j.nodes E l.length f t≠0\/f=t)/\c=mQ j.nodes E l.length f t/\d=0/\vA=.slice none 0 0/\J=.slice none 0 0/\vE=.slice none 0 0)\/
   (mQ j.nodes E l.length f t=0/\f≠t/\ ∃(s w:Nat) (k:Fd),f=s/\t=w/\s<j.nodes/\w<j.nodes/\E=j.nodes/\
     Ends j.arcs (alF []) (piF ((zO j.nodes).map fun(v:Nat)=>iK j.nodes l.length R Q v w ((iw j.nodes l.length R Q f t a).map fun(x:Nat)=>(x:Int)))) w (jY (piF ((zO j.nodes).map fun(v:Nat)=>iK j.nodes l.length R Q v w ((iw j.nodes l.length R Q f t a).map fun(x:Nat)=>(x:Int)))) s) k/\
     aw h' 4 iM vE k.ev/\
     ((FAR<=k.dist/\c=20/\d=0/\vA=.slice none 0 0/\J=.slice none 0 0)\/
      (k.dist<FAR/\c=0/\d=(k.dist:Nat)/\aw h' 1 bM vA k.arcs/\aw h' 1 bM J (iw j.nodes l.length R Q f t a))))):=by
 have S:=Si ok;have ft:Fl W:=(T.tabO (by omega)).fl;refine erA (n:=64) (rs:=[.cell 6 43,.tmp 7]) e11 ?_;simp only [BZ,seval];refine ab (aW (by intro x e;cases e)) S ?_;clear S;intro h C S a1;simp only [ac]at S;simp only [BZ];refine ab au S ?_;clear S;intro h F S a2;simp only [BZ,Xz,XF,XU,S.lds (b:=C) (o:=0) (n:=4) m1 (lbt rfl),seval];refine ae (DP S.ok fq (.inl ⟨V,j,nb,rfl,hn.gr S.gr,rfl⟩) ((T.gr S.gr).tabO (by omega)) (a:=a) (f:=f) (t:=t)) ?_;intro h g;have eW:zC (.pointer (some ⟨V,0,none⟩)) j.nodes E l.length f t=mQ j.nodes E l.length f t:=rfl;rw [eW];obtain⟨c,p⟩: ∃c,mQ j.nodes E l.length f t=c:=⟨_,rfl⟩;rw [p];replace S:=S.call g;by_cases c0:c=0
 . subst c0;by_cases z:f=t
   . subst z;simp only [BZ,S.ld (b:=C) (o:=1) m1 rfl,S.ld (b:=C) (o:=2) m1 rfl,seval];refine az (stA S (i:=0) t43.2.1) ?_;clear S;rintro X ⟨S,Y⟩;simp only [LC,ac,lay,Xh,Xi,seval]at S;simp only [BZ,aa];refine(bD (by decide) (by simp only [aD,ah,seval];exact bI t43.1 t43.2.1 (S.lds (b:=F) (o:=0) (n:=4) m0 (lbt rfl)))).2 ?_;refine(dP (by decide)).2 (cu.2 ?_);exact⟨S.gr,_,_,_,_,_,rfl,fun x h=>by rcases h with h|h|h<;>exact h.elim,.inl ⟨.inr trivial,rfl,rfl,rfl,rfl,rfl⟩⟩
   . obtain⟨ad,af,ai,ak⟩:=Ft p;obtain⟨s,rfl⟩:=XE ad.1;obtain⟨w,rfl⟩:=XE af.1;have hs:s<j.nodes:=(by omega);have Z:w<j.nodes:=(by omega);have L:s≠w:=fun e=>z (by rw [e]);subst ak;obtain⟨m,t,lR,lQ⟩: ∃m,TabAt h0 m W j.nodes l R Q/\(∀i,i<l.length->(R i).length=j.nodes)/\ ∀i,i<l.length->(Q i).length=j.nodes:=by
      rcases T with h|⟨_,_,rfl⟩
      . exact h
      . simp at ai
     simp only [BZ,z,S.ld (b:=C) (o:=1) m1 rfl,S.ld (b:=C) (o:=2) m1 rfl,S.ld (b:=C) (o:=3) m1 rfl,seval];have k6:=(S.row (b:=F) m0).lt S.ok;have kB:=S.fr.n;refine step_ret (ua S.ok (t.gr S.gr) lR lQ hl) ?_;rintro J h ⟨g,sB,nB⟩;replace S:=S.call g;have la:(iw j.nodes l.length R Q s w a).length<=16:=(by unfold iw;rw [XK];omega);have R5:=S.row (b:=C) m1;have R6:=S.row (b:=F) m0;have S0:=S;have gV:=S.gr;have u:=S.ok;have al:=R5.load1 (o:=1) rfl;have ax:=R5.load1 (o:=2) rfl;have p5:=R5.lt u;have f1:=K.n2;simp only [BZ,seval];clear S;have S:=Si u;rename Hp=>hV;refine ao (jG (ord:=[15,0,1,2,3,4,5,6,7,8,9,10,11,12,13,14,16,17]) rfl rfl (by simp only [dW,ou,eX,Yq,Yr,List.map_toArray,XG,XP,cond_true,cond_false,seval];exact rfl)) (q:=1) (ps:=[(0,12),(5,10),(3,10),(0,10)]) (by kernel_rfl) ?_;simp only [BZ,cls,seval];refine cV au S ?_;clear S;intro h y S ay H;have M:=S.fr.n;have gB:=S.gr;have A:=S.row (b:=y) m0;have N:=A.lt S.ok;simp only [BZ,cls,gB.load al,gB.load ax,seval];refine bO (bPi_ok S.ok ((t.gr gV).gr gB) lR lQ (by omega) (by omega) (z9 (sB.gr gB)) (by rw [Xn];omega) Z) ?_;rintro vP h ⟨g,sP,nP⟩;have e1:leaves _ _ C=true:=ag g (Xc p5 M);have e2:leaves _ _ y=true:=ag g N;have kq:=g.n;replace S:=S.call g;simp only [BZ,cls,sP.fl,seval];refine bO (ug S.ok K ((hn.gr gV).gr S.gr) hs Z (als:=[]) (.inl ⟨rfl,rfl⟩) (.inl rfl) sP (.inr (by simp))) ?_;rintro r h ⟨g,v,k,rfl,⟨xA,O,rfl,G1,G2,d1,P⟩,he⟩;have e3:leaves _ _ C=true:=ag g (Xc p5 (Xb M kq));have e4:leaves _ _ y=true:=ag g (Xc N kq);have y1:Fl xA:=G1.fl;have y2:Fl O:=G2.fl;replace S:=S.call g;simp only [BZ,cls,seval];refine cJ (stA S (i:=0) t96.2.1 (by simp only [ac,Xy,XC,y1.2.1,y2.2.1,Xf];rfl)) ?_;have a3:=S.ok;have G: ∀c,ar xA c\/ar O c->c≠y:=fun c p e=>(by have:=S.fr.n;have h1:_<=c:=p.elim (fun h=>(d1 c h).1) (fun h=>P c h);omega);clear S;rintro X ⟨S,Y⟩;simp only [LC,ac,lay,Xh,Xi,seval]at S;simp only [BZ,cls,seval];refine⟨by simp only [aI,aO,aF,aK,aH,ne_eq,not_false_eq_true,aU,aY,aN,aJ,bw,bN,aD,Xf,ah,hZ,aq e1,an e1,aq e2,an e2,aq e3,an e3,aq e4,an e4,<-H,seval],?_⟩;have A:=S.row (b:=y) m0;have j0:=A.load1 (o:=0) rfl;have j1:=A.load1 (o:=1) rfl;have j2:=A.load1 (o:=2) rfl;have D:F≠y:=fun e=>(by have:=(S0.row (b:=F) m0).lt u;omega);have aL:aw X 1 bM xA k.arcs:=(G1.sl rfl dr (by decide)).mo Y (fun c p e=>G c (.inl p) e);have U:aw X 4 iM O k.ev:=(G2.sl rfl ru (by decide)).mo Y (fun c p e=>G c (.inr p) e);have a0:=sB.gr S.gr;have g3:=S.gr;have S1:=S0.call S.gr;clear S;have S:=S1;clear S1;have a4:=hU;by_cases hd:k.dist<FAR
     . have I: ¬(72057594037927936:Int)<=(k.dist:Int):=(by omega);simp only [BZ,j0,I,seval];refine ao (av rfl) (q:=0) (ps:=[(7,8)]) (by kernel_rfl) ?_;simp only [BZ,cls,j0,j1,j2,y1,sB.fl,seval];refine cJ (stA S (i:=0) t43.2.1 (by simp only [ac,Xy,XC,y1.2.1,y2.2.1,sB.fl.2.1,Xf];rfl)) ?_;clear S;rintro h4 ⟨S,B⟩;simp only [LC,ac,lay,Xh,Xi,seval]at S;simp only [BZ,cls,aa,seval];refine⟨by simp only [aI,aO,aF,aK,aH,ne_eq,not_false_eq_true,aU,aY,aN,aJ,bw,bN,aD,Xf,ah,hZ,cS D,cS D.symm,seval],?_⟩;refine(bD (by decide) (by simp only [aD,ah,seval];exact bI t43.1 t43.2.1 (S.lds (b:=F) (o:=0) (n:=4) m0 (lbt rfl)))).2 ?_;refine(dP (by decide)).2 (cu.2 ?_);have zE:aw h4 4 iM O k.ev:=U.mo B (fun c p e=>by have:=P c p;have:=R6.lt u;omega);have zA:aw h4 1 bM xA k.arcs:=aL.mo B (fun c p e=>by have:=(d1 c p).1;have:=R6.lt u;omega);have zB:=a0.mo B (fun c p e=>by have:=nB c p;omega);exact⟨S.gr,_,_,_,_,_,rfl,fun x h=>(by have:=gV.n;rcases h with h|h|h;have:=(d1 x h).1;omega;have:=nB x h;omega;have:=P x h;omega),.inr ⟨z,s,w,k,rfl,rfl,hs,Z,he.resolve_left (fun h=>L h.1)|>.2,zE,.inr ⟨hd,rfl,rfl,zA,zB⟩⟩⟩
     . have I:(72057594037927936:Int)<=(k.dist:Int):=(by omega);simp only [BZ,j0,I,seval];refine ao (av rfl) (q:=0) (ps:=[(2,3)]) (by kernel_rfl) ?_;simp only [BZ,cls,j2,seval];refine cJ (stA S (i:=0) t43.2.1 (by simp only [ac,Xy,XC,y1.2.1,y2.2.1,Xf];rfl)) ?_;clear S;rintro h4 ⟨S,B⟩;simp only [LC,ac,lay,Xh,Xi,seval]at S;simp only [BZ,cls,aa,seval];refine⟨by simp only [aI,aO,aF,aK,aH,ne_eq,not_false_eq_true,aU,aY,aN,aJ,bw,bN,aD,Xf,ah,hZ,cS D,cS D.symm,seval],?_⟩;refine(bD (by decide) (by simp only [aD,ah,seval];exact bI t43.1 t43.2.1 (S.lds (b:=F) (o:=0) (n:=4) m0 (lbt rfl)))).2 ?_;refine(dP (by decide)).2 (cu.2 ?_);have zE:aw h4 4 iM O k.ev:=U.mo B (fun c p e=>by have:=P c p;have:=R6.lt u;omega);exact⟨S.gr,_,_,_,_,_,rfl,fun x h=>(by have:=gV.n;rcases h with h|h|h;exact h.elim;exact h.elim;have:=P x h;omega),.inr ⟨z,s,w,k,rfl,rfl,hs,Z,he.resolve_left (fun h=>L h.1)|>.2,zE,.inl ⟨by omega,rfl,rfl,rfl,rfl⟩⟩⟩
 . simp only [BZ,c0,seval];refine az (stA S (i:=0) t43.2.1) ?_;clear S;rintro X ⟨S,Y⟩;simp only [LC,ac,lay,Xh,Xi,seval]at S;simp only [BZ,aa];refine(bD (by decide) (by simp only [aD,ah,seval];exact bI t43.1 t43.2.1 (S.lds (b:=F) (o:=0) (n:=4) m0 (lbt rfl)))).2 ?_;refine(dP (by decide)).2 (cu.2 ?_);exact⟨S.gr,_,_,_,_,_,rfl,fun x h=>by rcases h with h|h|h<;>exact h.elim,.inl ⟨.inl c0,rfl,rfl,rfl,rfl,rfl⟩⟩
theorem clr1_ok(k:OZ h0)(R:Row h0 a (jm n B) 1)(f:j<n)(hB:B j<256)(l:i<8)(m:h0.load c 0 1=some [.bool false])(d:c≠a):Ret zM 100 [.pointer (some ⟨a,j,none⟩),.int .u8 ((2 ^i:Nat):Int),ptrTo c] h0 fun r h'=>Mo (· =a) h0 h'/\r=.bool true/\Row h' a (jm n (d9 B j (B j ^^^(B j&&& 2 ^i)))) 1:=by
 have S:=St.init1 k (o:=.row (jm n B) 1) R;have g:=S.ld (b:=a) (o:=j) m0 (wg f);have p:=pow8 l;refine erA (n:=19) (rs:=[.tmp 5]) e100 ?_;simp only [BZ,g,AS hB p,seval];refine az (aA S (i:=0) rfl Tryz.t5.2.2.1 aM (by rw [xP];exact f) ono) ?_;clear S g;rintro h ⟨S,q⟩;simp only [LC]at S;rw [yj]at S;have e:=S.old m d;simp only [BZ,aa,e,seval];exact⟨S.fr,S.row m0⟩
def Tz(b a:Nat)(B:Nat->Nat):Prop:= ∀r i,b<=i->i/8<a->gX B a r i=false
theorem bitB_clr(h:gX B a r i=false):gX (d9 B j (B j ^^^(B j&&& 2 ^k))) a r i=false:=by
 unfold gX d9 at*
 split
 . rename_i e;rw [e]at h;rw [Nat.testBit_xor,Yd,h];rfl
 . exact h
theorem bSetZ_ok(G:OZ h0){w l:Nat}(m:eJ h0 y w l k d B)(A:y≠w)(L:r<l)(N:i<k)(s:l<=100)(t:k<=1000)(u:d=(k+7)/8)(x:Bool):Ret zM 39 [ptrTo y,.int .i64 (r:Nat),.int .i64 (i:Nat),.bool x] h0 fun v h'=>Mo (· =w) h0 h'/\ ∃O,eJ h' y w l k d O/\(Tz k d B->Tz k d O):=by
 cases x with
 |true=>exact(bSet_ok G m A L N s t u).mono fun v h' ⟨a,_,b⟩=>⟨a,_,b,fun z H I F D=>by
  rw [BW (by omega) D,if_neg (fun e=>by omega)];exact z H I F D⟩
 |false=>
 obtain⟨X,Y,Z,n4,P,n6,Q⟩:=uu L N s t u;have pl: ∀{h:Hp} {E:Nat},Gr h0 h->h.load E 0 1=some [.bool false]->E≠w->Ret zM 99 [ptrTo y,.int .i64 (r:Nat),.int .i64 (i:Nat),.func (.func 100) #[] #[ptrTo E]] h fun v h'=>Mo (· =w) h h'/\v=.bool true/\Row h' w (jm (l*d) (d9 B (r*d+i/8) (B (r*d+i/8) ^^^(B (r*d+i/8)&&& 2 ^(i%8))))) 1:=by
  intro h E g l7 h7;have S:=Si g.ok;have C:=m.gr g;have c1: ¬(r:Int)<0:=by omega
  have c2: ¬(l:Int)<=(r:Int):=by omega
  have c3: ¬(i:Int)<0:=by omega
  have c4: ¬(k:Int)<=(i:Int):=by omega
  have l2:=C.r.load1 (o:=2) rfl;have l3:=C.r.load1 (o:=3) rfl;have zp:=C.r.lt g.ok;refine erA (n:=46) (rs:=[.tmp 8]) e99 ?_;simp only [BZ,c1,seval];refine ae (jT S.ok C.bits) ?_;intro F J;replace S:=S.call J;simp only [BZ,c2,c3,seval];refine ae (jN S.ok (C.gr J).bits) ?_;intro D T;replace S:=S.call T;have p:=J.trans T;have k2:=p.load l2;have k3:=p.load l3;simp only [BZ,c4,seval];refine ao (av rfl) (q:=0) (ps:=[]) (by kernel_rfl) ?_;simp only [BZ,cls,k2,k3,X,Y,Z,n4,P,mV (n:=8) (by decide),j8 (n:=8) (by decide),b_shl8 Q,seval];refine bO (clr1_ok S.ok (C.b.gr p) P (C.lt _) Q (p.load l7) h7) ?_;rintro v h3 ⟨U,rfl,R3⟩;have vv:leaves D h3 y=true:=qf (U.get y (Xc zp p.n) A);simp only [BZ,cls,aa,seval];exact⟨(p.fr (M:=(· =w))).trans U (fun c K=>.inl K),R3⟩
 have S:=Si G;have zb:=m.b.lt G;refine erA (n:=14) (rs:=[.tmp 8]) e39 ?_;simp only [BZ,seval];refine ab (bz (by exact oH)) S ?_;clear S;intro h E S V;simp only [BZ,seval];have k7:=S.fr.n;refine step_ret (pl S.gr (S.ld m0 rfl) (by omega)) ?_;rintro v h ⟨f,rfl,R⟩;simp only [BZ,seval];have W:Mo (· =w) h0 h:=(S.gr.fr (M:=(· =w))).trans f (fun c K=>.inl K);refine⟨W,_,⟨W.has (o:=.row _ 1) m.r A,R,fun j=>?_⟩,fun z H I F D=>bitB_clr (z H I F D)⟩;unfold d9
 split
 . exact Ya (n:=8) (m.lt _) (XS X7 (m.lt _))
 . exact m.lt _
def Sep(a:List Value):Prop:= ∀(i j:Nat) (w u:Value) (c:Nat),a[i]? =some w->a[j]? =some u->i≠j->ar w c-> ¬ar u c
theorem xM{b:Type}{l:List b}{x u:b}(h:(l++[x])[j]? =some u):l[j]? =some u\/(j=l.length/\u=x):=by
 by_cases c:j<l.length
 . rw [XB c]at h;exact .inl h
 . rw [XH (by omega)]at h;have a:j-l.length=0:=(by have:=(List.getElem?_eq_some_iff.1 h).1;simp at this;omega);rw [a]at h;cases h;exact .inr ⟨by omega,rfl⟩
theorem Sep.push{f:List Value}{y:Value}(s:Sep f)(h: ∀(j:Nat) u,f[j]? =some u-> ∀c,ar u c-> ¬ar y c):Sep (f++[y]):=by
 intro i j w u c a b g d e;rcases xM a with a|⟨k,l⟩<;>rcases xM b with b|⟨m,e4⟩
 . exact s i j w u c a b g d e
 . rw [e4]at e;exact h i w a c d e
 . rw [l]at d;exact h j u b c e d
 . exact g (k.trans m.symm)
def WrI(h:Hp)(w:Value)(l:List Int):Prop:=aw h 1 (encI .i64) w l/\(l≠ []-> ∃b,w=.slice (some ⟨b,0,some 1⟩) l.length l.length/\Row h b (ints l) 1)
theorem WrI.mo{M:Nat->Prop}{h h':Hp}{w:Value}{l:List Int}(r:WrI h w l)(g:Mo M h h')(a: ∀b,ar w b-> ¬M b):WrI h' w l:=
 ⟨r.1.mo g a,fun c=>by obtain⟨b,e,k⟩:=r.2 c;exact⟨b,e,g.has (o:=.row _ 1) k (a b (by rw [e];rfl))⟩⟩
theorem WrI.gr{w:Value}(r:WrI h w l)(g:Gr h h'):WrI h' w l:=r.mo (M:=NoM) g.fr (fun _ _ h=>h)
theorem DV(l:OZ h0)(m:aw h0 1 (encI .i64) v xs)(q:xs.length<1000000):Ret zM 153 [v] h0 fun r h'=>Gr h0 h'/\WrI h' r xs/\ ∀c,ar r c->h0.n<=c:=by
 have S:=Si l;by_cases f:xs=[]
 . obtain⟨r,h',t,g,u,i⟩:=tN l m q;exact⟨r,h',t,g,⟨u,fun h=>absurd f h⟩,i⟩
 rcases m with⟨rfl,rfl⟩|⟨b,o,s,c,rfl,w,x⟩
 . exact absurd rfl f
 . refine erA (n:=8) (rs:=[.tmp 2]) e153 ?_;simp only [BZ,seval];refine ab (bZ (by exact t23.1) (by exact Yh) (by decide) (by rfl)) S ?_;clear S;intro h z S p;simp only [LC,bJ,cd,ac,Xp,Xo,Xq,Xv,seval]at S;simp only [BZ,seval];have j:aw h 1 (encI .i64) (.slice (some ⟨b,o,s⟩) xs.length c) xs:=.inr ⟨b,o,s,c,rfl,w,S.old x (fun h=>h)⟩;refine dT (S.clone (n:=0) (vs:=[]) t23.1 Yh (by decide) t23.2.2.2.2.2 j.src (cB (bR .i64) xs).symm rfl (by decide) (by rw [cB (bR .i64)];simp;omega) (S.row m0)) ?_;rintro h' v (⟨e,_⟩|⟨a,rfl,k⟩)
   . exact absurd (List.length_eq_zero_iff.1 e) f
   simp only [BZ,aa,seval];have d:Row h' a (ints xs) 1:=k.row m0;have y:h0.n<=a:=(k.own _ m0).1.elim (fun h=>h) (fun h=>h.elim);refine⟨k.gr,⟨.inr ⟨a,0,some 1,xs.length,rfl,Xr _,?_⟩,fun _=>⟨a,rfl,d⟩⟩,fun c i=>?_⟩
   . rw [d.load (by rw [cC];omega),Xz,Xq,<-cC xs,XD];rfl
   . obtain rfl:a=c:=i;exact y
def LLD(h:Hp)(m k:Nat)(v:Value)(n:Nat)(R:Nat->List Int):Prop:=
 ∃a:List Value,aw h 1 encV v a/\a.length=n/\(∀c,ar v c->m<=c/\c<k)/\(∀(i:Nat) w,a[i]? =some w->WrI h w (R i)/\ ∀c,ar w c->m<=c/\c<k/\ ¬ar v c)/\Sep a
theorem LLD.ll(r:LLD h m k v n R):gf h m v n R:=by obtain⟨g,a,b,c,d,_⟩:=r;exact⟨g,a,b,fun x e=>(c x e).1,fun i w f=>⟨(d i w f).1.1,fun x e=>((d i w f).2 x e).1⟩⟩
theorem LLD.mo{M:Nat->Prop}{h h':Hp}{m k n:Nat}{v:Value}{R:Nat->List Int}(r:LLD h m k v n R)(g:Mo M h h')(o: ∀b,M b->b<m\/k<=b):LLD h' m k v n R:=by obtain⟨q,a,b,c,d,e⟩:=r;exact⟨q,a.mo g (fun x f j=>by have:=c x f;have:=o x j;omega),b,c,fun i w l=>⟨(d i w l).1.mo g (fun x f j=>by have p:=(d i w l).2 x f;have s:=p.1;have t:=p.2.1;have:=o x j;omega),(d i w l).2⟩,e⟩
theorem LLD.gr(r:LLD h m k v n R)(g:Gr h h'):LLD h' m k v n R:=r.mo (M:=NoM) g.fr (fun _ h=>h.elim)
theorem LLD.form(r:LLD h m k v n R): ∃a n c,v=.slice a n c:=by obtain⟨_,s,_⟩:=r;rcases s with⟨rfl,_⟩|⟨b,o,s,c,rfl,_⟩<;>exact⟨_,_,_,rfl⟩
theorem mem_gkey{a:List Value}(S:St M h0 h [] [(v,k,a)])(d:ar v c):c∈keys [] [(v,k,a)]:=by
 have f:eH (v,k,a)=some c:=by
  rcases(S.gown (v,k,a) (List.mem_singleton.2 rfl)).1 with⟨e,_⟩|⟨b,n,e,_⟩
  . rw [show v=_ from e]at d;exact d.elim
  . have g:v=.slice (some ⟨b,0,some k⟩) n n:=e;rw [g]at d⊢;exact congrArg some d
 exact List.mem_filterMap.2 ⟨_,List.mem_singleton.2 rfl,f⟩
theorem sq(X:OZ h0)(M:gf h0 m v n R)(hn:n<1000)(Y: ∀i,i<n->(R i).length<1000000):Ret zM 86 [v] h0 fun r h'=>Gr h0 h'/\LLD h' h0.n h'.n r n R:=by
 have S:=Si X;refine erA (n:=18) (rs:=[.tmp 2]) e86 ?_;simp only [BZ,M.lenq,seval];replace S:=S.nilG (k:=1);refine aX (fun(i:Nat) C h=>i<=n/\ ∃(f:List Value) (s:Value),St NoM h0 h [] [(s,1,f)]/\f.length=i/\(∀j w,f[j]? =some w->WrI h w (R j)/\ ∀c,ar w c->h0.n<=c/\c∉keys [] [(s,1,f)])/\Sep f/\C 2=s/\C 5=v/\C 6=.int .i64 n/\C 7=.int .i64 i) (fun i=>n-i) ?_ 0 _ _ ?_
 . clear S;intro i Z C h ⟨hi,f,s,S,t,hc,hd,r2,r5,r6,r7⟩;have ad:Fl s:=by
    rcases(S.gown _ m0).1 with⟨e,_⟩|⟨_,_,e,_⟩
    . rw [show s=_ from e];exact bH
    . rw [show s=_ from e];exact bH
   by_cases hlt:i<n
   . obtain⟨x,⟨q,o,D,G⟩,N,_⟩:=(M.gr S.gr).row hlt;have fx:=N.fl;have w:am .i64 ((i:Int)+1)=((i+1:Nat):Int):=(by rw [wrap64]<;>omega);simp only [BZ,r2,r5,r6,r7,aE,hlt,D,G,seval];have H:=S;refine step_ret (DV S.ok N (Y i hlt)) ?_;rintro y O ⟨g,I,J⟩;have F:=S.call g;obtain⟨z,A,B,rfl⟩:=I.1.form;have fy:Fl (.slice z A B):=bH;have l: ∀(j:Nat) u,(f++[.slice z A B])[j]? =some u->WrI O u (R j)/\ ∀c,ar u c->h0.n<=c/\c∉keys [] [(s,1,f)]/\c<O.n:=fun j u d=>by
      rcases xM d with d|⟨rfl,rfl⟩
      . obtain⟨P,Q⟩:=hc j u d;exact⟨P.gr g,fun c a=>⟨(Q c a).1,(Q c a).2,(P.gr g).1.lt F.ok a⟩⟩
      . rw [t];exact⟨I,fun c a=>⟨Xb H.fr.n (J c a),fun K=>by have:=H.key_lt K;have:=J c a;omega,I.1.lt F.ok a⟩⟩
     have L:=hd.push (y:=.slice z A B) fun j u d c a hy=>(by have:=(hc j u d).1.1.lt H.ok a;have:=J c hy;omega);replace S:=F.base;simp only [BZ,seval];refine ab (bZ (by exact t79.1) (by exact YA) (by decide) (by rfl)) S ?_;clear S;intro h T S U;simp only [LC,bJ,cd,ac,Xp,Xo,Xq,Xv,seval]at S;simp only [BZ,seval];have E:aR h 1 (.slice (some ⟨T,0,none⟩) 1 1)=some (1,[.slice z A B]):=(by simp only [aR];rw [S.lds (b:=T) (o:=0) (n:=1*1) m0 (lbt rfl)];rfl);replace S:=S.drop1;refine dT (S.grow (j:=0) (m:=1) (new:=[.slice z A B]) rfl t79.1 YA (by decide) t79.2.2.2.2.2 E rfl (by decide) (by simp [fy.2.1]) (by simp;omega)) ?_;clear S E;rintro h p S;simp only [LC]at S;have fv:Fl p:=by
      rcases(S.gown _ m0).1 with⟨e,_⟩|⟨_,_,e,_⟩
      . rw [show p=_ from e];exact bH
      . rw [show p=_ from e];exact bH
     simp only [BZ,r7,w,seval];refine Z (i+1) _ _ (by omega) ⟨by omega,f++[.slice z A B],p,F.rebase S,by simp [t],fun j u d=>⟨(l j u d).1.mo S.fr (fun c a=>((l j u d).2 c a).2.1),fun c a=>⟨((l j u d).2 c a).1,fun K=>?_⟩⟩,L,by simp [aB,r5,r6]⟩;rcases S.key_new c K with V|V
     . exact((l j u d).2 c a).2.1 V
     . have:=((l j u d).2 c a).2.2;omega
   . simp only [BZ,aa,r2,r6,r7,aE,hlt,seval];have W:=(S.gown _ m0).1.sl (Bv f).symm uk (by decide);refine⟨S.gr,f,W,by omega,fun c a=>⟨((S.gblk m0 a).1).elim (fun h=>h) (fun h=>h.elim),W.lt S.ok a⟩,fun j u d=>⟨(hc j u d).1,fun c a=>⟨((hc j u d).2 c a).1,(hc j u d).1.1.lt S.ok a,fun hv=>((hc j u d).2 c a).2 ?_⟩⟩,hd⟩;exact mem_gkey S hv
 . exact⟨Xj _,[],_,S,rfl,fun j w t=>by simp at t,fun i j w u c t=>by simp at t,by simp [aB,cK]⟩
end Go.Ab

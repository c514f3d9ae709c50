/- Nets, cells, flags: what the functions do (part 3). -/
import Derived.Test.YtddjlflghenhkaaGreatDoorKatB
open Go.Ab.Tryz
open Go.Ab.Tryz renaming abEnv->zM,e3E->XD,e112->XW,e2E->X7
open Nat renaming le_trans->zO,lt_of_succ_le->Xb,zero_mul->Xl,zero_add->Xm,mul_one->Xo,one_mul->Xq,le_refl->Xs,zero_le->Xt,lt_of_le_of_lt->XB,mul_le_mul_right->XF,and_le_left->XG,testBit_two_pow->XI,xor_lt_two_pow->XK,zero_ne_one->XU,min_eq_left->XY,testBit_and->XZ,land->Yc
open List renaming range->Xa,getD_eq_getElem?_getD->Xc,take_succ_eq_append_getElem->Xd,getElem?_eq_getElem->Xf,mem_cons_of_mem->Xg,take_of_length_le->Xh,take->Xi,drop->Xj,length_range->Xk,flatMap_eq_foldl->Xp,replicate->Xu,length_map->Xv,drop_zero->Xw,mem_append_right->Xx,all_cons->Xy,take_succ_cons->Xz,all_nil->XA,getElem_mem->XC,length_take->XE,map_eq_flatMap->XH,length_append->XJ,getElem?_append_right->XL,getElem?_map->XN,flatMap_cons->XO,drop_eq_getElem_cons->XP,getElem?_append_left->XQ,cons_append->XR,map_map->XS,map_const'->XV,range_succ->XX,length_singleton->X6,mem_append_left->X8,map_cons->X9,mem_cons->Ya,map_congr_left->Yb
open Int renaming cast_ofNat_Int->Xe,toNat_natCast->Xr,tdiv_eq_ediv_of_nonneg->XM,eq_ofNat_of_zero_le->XT
open Bool renaming and_true->Xn
set_option maxHeartbeats 4000000
set_option linter.defProp false
set_option linter.unusedVariables false
set_option linter.unusedSimpArgs false
namespace Go.Ab
variable{N a b b1 b2 b5 c d e i j k m n nb r s:Nat}
variable{h h' h0 hq:Hp}
variable{p pn v vAl vPi:Value}
variable{l xs:List Int}
variable{B:Nat->Nat}
variable{t w x:Int}
variable{E:Env}
variable{D:Nat->Prop}
variable{Q R:Nat->List Int}
variable{f:Nat->Bool}
variable{g:FuncId}
open Go.Proofs
set_option maxRecDepth 10000
def seen(A:List Arc)(fs ft:Arc->Nat):List Arc:=A.map fun a=>⟨fs a,ft a,a.w⟩
def NextF(E:Env)(g:FuncId)(a:Gra)(pn:Value)(fs:Arc->Nat):Prop:= ∀(h:Hp) (d:Nat),OZ h->aS h d pn a-> ∀v,v<a.nodes->Ret E g [pn,.int .i64 (v:Nat)] h fun r b=>Gr h b/\az b 1 bK r (outs a.arcs fs a.arcs.length v)/\ ∀c,aq r c->h.n<=c
def eJ(l:List Nat):List Value:=l.flatMap bK
theorem nR(l:List Nat):eJ l=l.map fun(x:Nat)=>Value.int .i64 x:=by unfold eJ;rw [Xp,XH,Xp];rfl
theorem ints_map(l:List Int):ints l=l.map fun x=>Value.int .i64 x:=by unfold ints;rw [Xp,XH,Xp];rfl
theorem m9(l:List Nat):(eJ l).length=l.length:=by rw [nR,Xv]
theorem A8(l:List Nat)(x:Nat):eJ (l++[x])=eJ l++eJ [x]:=by rw [nR,nR,nR,List.map_append]
theorem seen_at{A:List Arc}{fs ft:Arc->Nat}(a:i<A.length):(seen A fs ft).getD i default=⟨fs (A.getD i default),ft (A.getD i default),(A.getD i default).w⟩/\(seen A fs ft).getD i default∈seen A fs ft:=by
 have e:(seen A fs ft).getD i default=⟨fs (A.getD i default),ft (A.getD i default),(A.getD i default).w⟩:=by unfold seen;simp [Xc,a]
 refine⟨e,?_⟩;rw [Xc,Xf (by unfold seen;simpa using a)];exact XC _
theorem seen_mem{A:List Arc}{fs ft:Arc->Nat}{a:Arc}(c:a∈seen A fs ft): ∃i,i<A.length/\(seen A fs ft).getD i default=a:=by obtain⟨i,b,e⟩:=List.mem_iff_getElem.1 c;exact⟨i,by unfold seen at b;simpa using b,by simp [Xc,b,e]⟩
def yw(h':Hp)(m:Nat)(r:Value)(B:List Arc)(s N:Nat):Prop:= ∃a b d D e O,r=.agg ⟨[a,b,d]⟩/\az h' 1 bK a ((Xa N).map D)/\az h' 1 (encI .i64) b e/\az h' 1 bK d O/\e.length=N/\(∀v,IsD B s v (D v))/\(∀c,aq a c\/aq b c\/aq d c->m<=c)/\O.Nodup/\ ∀v∈O,v<N
theorem wL(c:OZ h0){F:List Nat}{K:Nat->Option Int}(H:cE h0 F p N K)(d:N<=1000):Ret zM 200 [p] h0 fun r h'=> ∃(v:Nat) (k:Int) (b:Bool),r=.tuple #[.int .i64 (v:Nat),.int .i64 k,.bool b]/\Mo (· ∈F) h0 h'/\cE h' F p N (if b=true then dp K v none else K)/\(b=true->K v=some k/\ ∀u k',K u=some k'->k<=k')/\(b=false-> ∀v,K v=none):=by
 refine tP (tS c H d) ?_;rintro r h' (⟨rfl,a,g⟩|⟨v,k,rfl,a,e,f,i⟩)
 . exact⟨0,0,false,rfl,g.fr,H.gr g,fun h=>(by cases h),fun _=>a⟩
 . exact⟨v,k,true,rfl,f,i,fun _=>⟨a,fun u k' h=>by have:=e u k' h;omega⟩,fun h=>(by cases h)⟩
def FloodI(h0:Hp)(B:List Arc)(s N l br g i j m n r:Nat)(x y:FuncId)(O:List Nat)(ρ:Nat->Value)(d:List Deferred)(h:Hp):Prop:=
 ∃ (e:List Nat) (D:Nat->Nat) (K:Nat->Option Int) (F:List Nat) (o:List (Value×Value×Nat)) (c:Nat) (f:Int->Option Value) (p:List Int) (k:Value) (q:Nat) (v:Nat) (a:Int) (b:Bool),d=e.map rZ/\
   St NoM h0 h ([(q,Ob.row [.int .i64 a] 1),(l,.row [ptrTo br] 1),(br,.row [ptrTo n,.slice (some ⟨j,0,none⟩) N N,.slice (some ⟨i,0,none⟩) N N,k,.map (some g)] 1),(g,.map o c),(i,.row (ints p) 1),(j,.row (eJ ((Xa N).map D)) 1),(m,.row [.slice none 0 0,.slice none 0 0,.slice none 0 0] 1)]++dJ e) [(k,1,eJ O)]/\
   (∀t∈F,h0.n<=t/\t∉keys ([(q,Ob.row [.int .i64 a] 1),(l,.row [ptrTo br] 1),(br,.row [ptrTo n,.slice (some ⟨j,0,none⟩) N N,.slice (some ⟨i,0,none⟩) N N,k,.map (some g)] 1),(g,.map o c),(i,.row (ints p) 1),(j,.row (eJ ((Xa N).map D)) 1),(m,.row [.slice none 0 0,.slice none 0 0,.slice none 0 0] 1)]++dJ e) [(k,1,eJ O)])/\
   p.length=N/\dL o c f/\ClF O f/\Dj B s N O D K (fun _=>False)/\cE h F (ptrTo n) N (if b=true then dp K v none else K)/\(b=true->K v=some a/\ ∀u w,K u=some w->a<=w)/\(b=false-> ∀v,K v=none)/\
   ρ 0=ptrTo r/\ρ 2=.func (.func x) #[ptrTo r] #[]/\ρ 3=.func (.func y) #[] #[]/\ρ 8=ptrTo m/\ρ 9=ptrTo l/\ρ 10=.int .i64 v/\ρ 11=ptrTo q/\ρ 12=.bool b
theorem CB  (ok:OZ h0) {l:Gra} (al:Good l)   (hn:aS h0 nb pn l)  (hs:s<l.nodes) {gN gE:FuncId} {fs ft:Arc->Nat} (hN:NextF zM gN l pn fs) (hE:KeyF zM gE ft) (bh: ∀a∈l.arcs,ft a<l.nodes):
 Ret zM 173 [pn,.int .i64 s,.func (.func gN) #[pn] #[],.func (.func gE) #[] #[]] h0 fun r h'=>Gr h0 h'/\yw h' h0.n r (seen l.arcs fs ft) s l.nodes:=by
 have n1:=al.n1;have n2:=al.n2;have S:=Si ok;have c1: ¬((s:Int)<0):=by omega
 have c2: ¬((l.nodes:Int)<=(s:Int)):=by omega
 obtain⟨bp,b0⟩: ∃b,pn=ptrTo b:=by obtain⟨b,_,_,_,_,_,e,_⟩:=hn.ex;exact⟨b,e⟩
 subst b0;refine aa (n:=117) (rs:=[.cell 8 245]) rfl Tryz.e173 rfl rfl rfl (lbt rfl) ?_;simp only [BZ];refine ac aA S ?_;clear S;intro h W S ck;simp only [BZ,c1,seval];refine ag (bM S.ok (hn.gr S.gr)) ?_;intro h g;replace S:=S.call g;clear g;simp only [BZ,c2,seval];refine ag (bM S.ok (hn.gr S.gr)) ?_;intro h g;replace S:=S.call g;clear g;simp only [BZ,seval];have nF:=S.fr.n;have kF:=fun {c} (t:c∈_)=>S.key_lt (b:=c) t;refine step_ret (sX S.ok) ?_;intro v h ⟨g,Fh,H,hFn⟩;replace S:=S.call g;clear g;rename Value=>p;have dF: ∀c∈Fh,c∉keys [(W,Ob.row [.slice none 0 0,.slice none 0 0,.slice none 0 0] 1)] []:=fun c t w=>by have:=kF w;have:=hFn c t;omega
 have lF:=H.lt S.ok;have Y:=S;have gF: ∀c∈Fh,h0.n<=c\/NoM c:=fun c t=>.inl (zO nF (hFn c t));replace S:=S.base;simp only [BZ];refine ac (ce (by exact Tryz.t23.1) (by exact X7) (by decide) (by rfl)) S ?_;clear S;intro h bi S a4;simp only [LC,bH,cg,ae,Xl,Xm,Xo,Xq,seval]at S;simp only [BZ,seval];refine ag (bM S.ok (hn.gr (Y.rebase S).gr)) ?_;intro h g;replace S:=S.call g;clear g;simp only [BZ,seval];have kl:=fun {c} (t:c∈_)=>S.key_lt (b:=c) t;have kn:=S.fr.n;refine step_ret (rep64_ok S.ok (x:=72057594037927936) (.inr ⟨bi,0,none,1,rfl,Xs _,S.lds (b:=bi) (o:=0) (n:=1*1) m0 (lbt rfl)⟩) n1 (by omega)) ?_;intro v h ⟨g,bd,ed,nd,Rd⟩;replace S:=S.call g;clear g;subst ed;replace S:=S.drop1;replace S:=S.push (b:=bd) (o:=.row _ 1) (.inl (zO kn nd)) Rd (fun w=>by have:=kl (Xg _ w);omega);simp only [BZ];refine ac (ce (by exact Tryz.t41.1) (by exact XD) (by decide) (by rfl)) S ?_;clear S;intro h bl S a5;simp only [LC,bH,cg,ae,Xl,Xm,Xo,Xq,seval]at S;simp only [BZ,seval];refine ag (bM S.ok (hn.gr (Y.rebase S).gr)) ?_;intro h g;replace S:=S.call g;clear g;simp only [BZ,seval];have bm:=fun {c} (t:c∈_)=>S.key_lt (b:=c) t;have ax:=S.fr.n;refine step_ret (repI_ok S.ok (x:= -1) (.inr ⟨bl,0,none,1,rfl,Xs _,S.lds (b:=bl) (o:=0) (n:=1*1) m0 (lbt rfl)⟩) n1 (by omega)) ?_;intro v h ⟨g,ba,ea,na,Ra⟩;replace S:=S.call g;clear g;subst ea;replace S:=S.drop1;replace S:=S.push (b:=ba) (o:=.row _ 1) (.inl (zO ax na)) Ra (fun w=>by have:=bm (Xg _ w);omega);have pp: ∃b,p=ptrTo b:=by obtain⟨b,_,_,e,_⟩:=H.ex;exact⟨b,e⟩
 obtain⟨bP,rfl⟩:=pp;simp only [BZ,seval];refine ac oa S ?_;clear S;intro h G S cl;simp only [BZ,seval];refine ac (aV (by intro x e;cases e)) S ?_;clear S;intro h C S cm;simp only [ae]at S;simp only [BZ];refine ac aA S ?_;clear S;intro h I S cn;simp only [BZ,seval];refine aC (aE S (i:=0) rfl ?_ ?_ ?_ ono) ?_
 . exact(by simp only [FA0])
 . exact(by exact bD)
 . exact Xb (lbt rfl)
 clear S;rintro h ⟨S,mo⟩;clear mo;simp only [LC,ae,lay,Xi,Xj,seval]at S;simp only [BZ,S.ld (b:=I) (o:=0) m0 rfl,S.ld (b:=C) (o:=0) m1 rfl,seval];have d8: ∀c∈Fh,c≠W:=fun c t e=>dF c t (by rw [e];simp [keys]);have cA:=zO kn nd;have cN:=zO ax na;clear kl bm kF kn nd ax na Ra Rd;have HA:=H.mo S.fr dF;have bn: ∀c∈Fh,c≠I/\c≠C/\c≠G/\c≠ba/\c≠bd/\c≠W:=fun c t=>by have:=lF c t;have:=d8 c t;omega
 replace S:=Y.rebase S;clear Y dF lF d8 H a4 a5;have T:=S.baseF Fh;have nh:=S.fr.n;have a6: ∀L,(∀c∈keys L [],c=I\/c=C\/c=G\/c=ba\/c=bd\/c=W)-> ∀c∈Fh,c∉keys L []:=fun L hL c t w=>by have:=bn c t;have:=hL c w;omega
 have ps:Ret zM 209 [ptrTo bP,.int .i64 (s:Nat),.int .i64 0] h _:=pH S.ok HA hs (by omega) rfl;refine step_ret ps ?_;rintro r Q ⟨f1,F1,H1,J⟩;replace S:=S.rebaseF gF (T.stepF f1 (fun c t=>⟨.inl (.inr t),a6 _ (fun c t=>by simpa [keys]using t) c t⟩));have P: ∀c∈F1,h0.n<=c/\c∉keys [(I,Ob.row [ptrTo C] 1),(C,.row [ptrTo bP,.slice (some ⟨bd,0,none⟩) l.nodes l.nodes,.slice (some ⟨ba,0,none⟩) l.nodes l.nodes,.slice none 0 0,.map (some G)] 1),(G,.map [] 0),(ba,.row (Xu l.nodes (.int .i64 (-1))) 1),(bd,.row (Xu l.nodes (.int .i64 72057594037927936)) 1),(W,.row [.slice none 0 0,.slice none 0 0,.slice none 0 0] 1)] []:=fun c t=>by
  rcases J c t with h2|h2
  . exact⟨(gF c h2).elim (fun h=>h) (fun h=>h.elim),a6 _ (fun c t=>by simpa [keys]using t) c h2⟩
  . refine⟨zO nh h2,fun w=>?_⟩;have:=T.key_lt (b:=c) (by simpa [keys]using w);omega
 clear T a6 bn hFn gF nF J HA f1;replace S:=S.nilG (k:=1);have dj:=dj_init (B:=seen l.arcs fs ft) hs;have bo:=H1.lt S.ok;have S1:=S;replace S:=S.baseF F1;simp only [BZ,S.ld (b:=I) (o:=0) m0 rfl,S.ld (b:=C) (o:=0) m1 rfl,seval];refine step_ret (wL S.ok H1 (by omega)) ?_;rintro r h2 ⟨v,k,b,rfl,f2,H2,ay,a0⟩;replace S:=S.stepF f2 (fun c t=>⟨.inl (.inr t),fun w=>(P c t).2 (by simpa [keys,eo]using w)⟩);simp only [BZ,seval];have S2:=S;replace S:=S.base;refine ac aA S ?_;clear S;intro h bk S cp;simp only [BZ,seval];refine aC (aE S (i:=0) rfl ?_ ?_ ?_ ono) ?_
 . exact(by simp only [FA0])
 . exact(by exact aZ)
 . exact Xb (lbt rfl)
 clear S;rintro h ⟨S,mo⟩;clear mo;simp only [LC,ae,lay,Xi,Xj,seval]at S;simp only [BZ,seval];have H3:=H2.mo S.fr (fun c t w=>(P c t).2 (by simpa [keys,eo]using w));refine rY (FloodI h0 (seen l.arcs fs ft) s l.nodes I C G ba bd W bP bp gN gE) (fun O=>l.nodes-O.length) ?_ [] _ _ _ ?_
 . clear S S1 S2 H3 ay a0 H2 f2 H1 dj P bo ps;intro O ih ρ d hS ⟨dbs,D,K,F,es,c,f,aL,vO,bk,v,key,b,hd,Y,Z,lA,MI,CF,dj,H,ay,a0,r0,r2,r3,r8,r9,r10,r11,r12⟩;simp only [XR,List.nil_append]at Y Z;have S:=Y.base;cases b with
   | false=>
     simp only [BZ,r8,r9,r12,S.ld (b:=I) (o:=0) m1 rfl,S.lds (b:=C) (o:=1) (n:=3) m2 (lbt rfl),seval];have a7:Fl vO:=by
      rcases(Y.gown _ m0).1 with⟨e,_⟩|⟨_,_,e,_⟩
      . rw [show vO=_ from e];exact aU
      . rw [show vO=_ from e];exact aU
     refine aC (S.store (i:=6) rfl Tryz.t245.2.1 (by intro x e;cases e) rfl (by simp only [ae,List.drop_succ_cons,Xw,Xz,List.take_zero,Xy,XA,a7.2.1,Xn];rfl) (lbt rfl) ono) ?_;clear S;rintro h ⟨S,_⟩;simp only [LC,ae,lay,Xi,Xj,seval]at S;simp only [BZ];replace S:=(Y.rebase S).permL (L':=dJ dbs++[(bk,_),(I,_),(C,_),(G,_),(ba,_),(bd,_),(W,_)]) List.perm_append_comm;subst hd;refine dq (ij dbs _ S fun h' S'=>?_);have lT:=S'.lds (b:=W) (o:=0) (n:=3) m6 (lbt rfl);refine⟨rfl,_,vp (by decide) (by simp only [aD,r8,ah,seval];exact bj Tryz.t245.1 Tryz.t245.2.1 lT),S'.gr,?_⟩;refine⟨_,_,_,D,aL,O,rfl,?_,?_,?_,lA,dj.done (a0 rfl) n2,?_,dj.nd,dj.lt⟩
     . refine .inr ⟨bd,0,none,l.nodes,by rw [Xv,Xk],by rw [Xv,Xk];exact Xs _,?_⟩;have:=(S'.row (b:=bd) m5).load (o:=0) (n:=((Xa l.nodes).map D).length*1) (by rw [m9];omega);rw [this,Xw,Xh (by rw [m9];omega)];rfl
     . refine .inr ⟨ba,0,none,l.nodes,by rw [lA],by rw [lA];exact Xs _,?_⟩;have:=(S'.row (b:=ba) m4).load (o:=0) (n:=aL.length*1) (by rw [cC];omega);rw [this,Xw,Xh (by rw [cC];omega)];rfl
     . exact(S'.gown _ m0).1.sl rfl dC (by decide)
     . rintro c (h|h|h)
       . have h:bd=c:=h;subst h;exact((S'.own _ m5).1).elim (fun h=>h) (fun h=>h.elim)
       . have h:ba=c:=h;subst h;exact((S'.own _ m4).1).elim (fun h=>h) (fun h=>h.elim)
       . exact((S'.gblk m0 h).1).elim (fun h=>h) (fun h=>h.elim)
   | true =>
     simp only [if_true]at H;obtain⟨hk,bq⟩:=ay rfl;obtain⟨_,n,rfl,_,_⟩:=dj.i3 v key hk;obtain⟨b4,b5,a8,cT⟩:=dj.pop hk bq;have lk:=li (x:=(v:Int)) Tryz.t230.1 Tryz.t3.1 (z:=.int .i64 0) (by kernel_rfl) (show hS.get G=some (.map es c)from(S.own _ m3).2) MI;rw [CF v,if_neg b5,Option.getD_none]at lk;have w1:an .i64 1=1:=rfl;simp only [BZ,r9,r10,r12,lk,w1,S.ld (b:=I) (o:=0) m1 rfl,S.ld (b:=C) (o:=4) m2 rfl,seval];refine aC (S.mputI (i:=3) rfl Tryz.t230.1 Tryz.t3.1 MI _) ?_;clear S;rintro h ⟨_,R,c',bt,S⟩;simp only [LC]at S;simp only [BZ];refine ao (av rfl) (q:=0) (ps:=[]) (by kernel_rfl) ?_;simp only [BZ,cls,r9,r10,r11,a8,S.ld (b:=I) (o:=0) m1 rfl,S.ld (b:=C) (o:=1) m2 rfl,S.ld (b:=bk) (o:=0) m0 rfl,seval];refine cM (aE S (i:=5) rfl Tryz.t2.2.2.1 aZ (by rw [m9,Xv,Xk];exact a8) ono) ?_;clear S;rintro h ⟨S,_⟩;simp only [LC]at S;have eD:(eJ ((Xa l.nodes).map D)).set v (.int .i64 (n:Nat))=eJ ((Xa l.nodes).map fun u=>if u=v then n else D u):=(by rw [nR,nR,XS,XS];have:=kU (N:=l.nodes) (k:=v) (F:=(fun(x:Nat)=>Value.int .i64 x)∘D) (F':=(fun(x:Nat)=>Value.int .i64 x)∘fun u=>if u=v then n else D u) (fun u _ hu=>by simp [hu]);rw [<-this];simp);rw [eD]at S;simp only [BZ,seval];refine ao (av rfl) (q:=128) (ps:=[(0,8)]) (by kernel_rfl) ?_;simp only [BZ,cls,r9,r10,S.ld (b:=I) (o:=0) m1 rfl,S.ld (b:=C) (o:=3) m2 rfl,seval];refine df (ce (by exact Tryz.t41.1) (by exact XD) (by decide) (by rfl)) S ?_;clear S;intro h bs S cr cs;simp only [LC,bH,cg,ae,Xl,Xm,Xo,Xq,seval]at S;simp only [BZ,cls,seval];have bu:aK h 1 (.slice (some ⟨bs,0,none⟩) 1 1)=some (1,eJ [v]):=(by simp only [aK];rw [S.lds (b:=bs) (o:=0) (n:=1*1) m0 (lbt rfl)];rfl);replace S:=S.drop1;refine mj (S.grow (j:=0) (m:=1) (new:=eJ [v]) rfl Tryz.t41.1 XD (by decide) Tryz.t41.2.2.2.2.2 bu rfl (by decide) rfl (by rw [m9,m9];have:=dj.len;simp;omega)) ?_;clear S bu;rintro h A S;simp only [LC,<-A8]at S;have a7:Fl A:=by
      rcases(S.gown _ m0).1 with⟨e,_⟩|⟨_,_,e,_⟩
      . rw [show A=_ from e];exact aU
      . rw [show A=_ from e];exact aU
     simp only [BZ,cls,seval];refine cM (aE S (i:=2) rfl Tryz.t41.2.2.1 a7 (Xb (lbt rfl)) ono) ?_;clear S;rintro h ⟨S,_⟩;simp only [LC]at S;simp only [BZ,r0,r2,r10,seval];have pv:vO=.slice none 0 0\/ ∃c n,vO=.slice (some ⟨c,0,some 1⟩) n n/\c≠I:=by
      rcases(Y.gown _ m0).1 with⟨e,_⟩|⟨c,n,e,_⟩
      . exact .inl e
      . refine .inr ⟨c,n,e,fun h=>?_⟩;exact(Y.gblk (c:=c) m0 (by rw [show vO=_ from e];rfl)).2 (by subst h;exact List.mem_map_of_mem (f:=Prod.fst) m1)
     refine⟨?_,?_⟩
     . clear ih;rcases pv with rfl|⟨cO,nO,rfl,bv⟩
       . simp only [aJ,aR,aH,aT,aI,ne_eq,not_false_eq_true,aY,bC,aQ,aN,bF,bW,aD,Xn,r9,ah,Bl,noteSl,pair_x,entry_nl,kw,seval]
       . simp only [aJ,aR,aH,aT,aI,ne_eq,not_false_eq_true,aY,bC,aQ,aN,bF,bW,aD,Xn,r9,ah,Bl,noteSl,c8 bv,c8 bv.symm,seval]
     have kO: ∀c∈keys ((bk,Ob.row [.int .i64 (n:Nat)] 1)::(I,.row [ptrTo C] 1)::(C,.row [ptrTo bP,.slice (some ⟨bd,0,none⟩) l.nodes l.nodes,.slice (some ⟨ba,0,none⟩) l.nodes l.nodes,vO,.map (some G)] 1)::(G,.map es c)::(ba,.row (ints aL) 1)::(bd,.row (eJ ((Xa l.nodes).map D)) 1)::(W,.row [.slice none 0 0,.slice none 0 0,.slice none 0 0] 1)::dJ dbs) [(vO,1,eJ O)],c<hS.n:=fun c t=>Y.key_lt t;have kS:=fun {c} t=>S.key_lt (b:=c) t;have cW:=(Y.rebase S).gr.n;refine step_ret (hN _ nb S.ok (hn.gr (Y.rebase S).gr) v a8) ?_;rintro vl h ⟨g,sl,bx⟩;have kn:=S.fr.n;have gn:=g.n;replace S:=S.call g;clear g;simp only [BZ,r3,seval];have ax:=S.fr.n;have cX:=fun {c} t=>sl.lt S.ok (b:=c) t;refine step_ret (arcs_ok' S.ok bD sl.fl dY) ?_;intro v h ⟨g,b1,b2,b3,e,q1,q2,q3,y1,y2,y3⟩;replace S:=S.call g;replace sl:=sl.gr g;clear g;subst e;simp only [BZ];have hH:=H.mo S.fr (fun c t w=>(Z c t).2 w);have bB:=H.lt Y.ok;refine iz S (g:=263) (a:=#[]) (b:=#[ptrTo b1,ptrTo b2,ptrTo b3]) (by simp [bF,aB,ah]) rfl rfl ?_;intro h2 db lb S' cY c0 g2;have R1:=Y.rebase S';obtain⟨X,hX,R1⟩: ∃X:fS,X=_/\St NoM h0 h2 ((lb,.loop X)::(db,.dfr)::(bk,Ob.row [.int .i64 (n:Nat)] 1)::(I,.row [ptrTo C] 1)::(C,.row [ptrTo bP,.slice (some ⟨bd,0,none⟩) l.nodes l.nodes,.slice (some ⟨ba,0,none⟩) l.nodes l.nodes,A,.map (some G)] 1)::(G,.map R c')::(ba,.row (ints aL) 1)::(bd,.row (eJ ((Xa l.nodes).map fun u=>if u=v then n else D u)) 1)::(W,.row [.slice none 0 0,.slice none 0 0,.slice none 0 0] 1)::dJ dbs) [(A,1,eJ (O++[v]))]:=⟨_,rfl,R1⟩;have bE:ClF (O++[v]) (dS f (v:Int) (some (.int .i64 1))):=fun u=>by
      unfold dS;by_cases e:u=v
      . subst e;simp
      . have e': ¬((u:Int)=(v:Int)):=(by omega);rw [if_neg e',CF u];simp [e]
     have hJ :Yld zM lb (fun k h' F'=> ∃K' Fh E,St NoM h0 h' ((lb,.loop X)::(db,.dfr)::(bk,Ob.row [.int .i64 (n:Nat)] 1)::(I,.row [ptrTo C] 1)::(C,.row [ptrTo bP,.slice (some ⟨bd,0,none⟩) l.nodes l.nodes,.slice (some ⟨ba,0,none⟩) l.nodes l.nodes,A,.map (some G)] 1)::(G,.map R c')::(ba,.row (ints E) 1)::(bd,.row (eJ ((Xa l.nodes).map fun u=>if u=v then n else D u)) 1)::(W,.row [.slice none 0 0,.slice none 0 0,.slice none 0 0] 1)::dJ dbs) [(A,1,eJ (O++[v]))]/\
      cE h' Fh (ptrTo bP) l.nodes K'/\(∀c∈Fh,h0.n<=c/\c∉keys ((lb,.loop X)::(db,.dfr)::(bk,Ob.row [.int .i64 (n:Nat)] 1)::(I,.row [ptrTo C] 1)::(C,.row [ptrTo bP,.slice (some ⟨bd,0,none⟩) l.nodes l.nodes,.slice (some ⟨ba,0,none⟩) l.nodes l.nodes,A,.map (some G)] 1)::(G,.map R c')::(ba,.row (ints E) 1)::(bd,.row (eJ ((Xa l.nodes).map fun u=>if u=v then n else D u)) 1)::(W,.row [.slice none 0 0,.slice none 0 0,.slice none 0 0] 1)::dJ dbs) [(A,1,eJ (O++[v]))])/\
      E.length=l.nodes/\Dj (seen l.arcs fs ft) s l.nodes (O++[v]) (fun u=>if u=v then n else D u) K' (fun a=> ∃id∈(outs l.arcs fs l.arcs.length v).drop k,(seen l.arcs fs ft).getD id default=a)/\
      F'=keys ((lb,.loop X)::(db,.dfr)::(bk,Ob.row [.int .i64 (n:Nat)] 1)::(I,.row [ptrTo C] 1)::(C,.row [ptrTo bP,.slice (some ⟨bd,0,none⟩) l.nodes l.nodes,.slice (some ⟨ba,0,none⟩) l.nodes l.nodes,A,.map (some G)] 1)::(G,.map R c')::(ba,.row (ints E) 1)::(bd,.row (eJ ((Xa l.nodes).map fun u=>if u=v then n else D u)) 1)::(W,.row [.slice none 0 0,.slice none 0 0,.slice none 0 0] 1)::dJ dbs) [(A,1,eJ (O++[v]))]++Fh) (fun _ _=>False) (qH l.arcs ft (outs l.arcs fs l.arcs.length v)):=by
      clear ih S' R1 y1 y2 y3 hH S g2 H Z sl;refine⟨?_,?_,fun _ _ h=>h.elim,?_⟩
      . rintro k h F' ⟨K',Fh,E,S,H,Z,_,_,rfl⟩;exact⟨S.ok,fun b hb=>(List.mem_append.1 hb).elim (fun hb=>S.key_lt hb) (fun hb=>H.lt S.ok b hb)⟩
      . rintro k h F' h' ⟨K',Fh,E,S,H,q⟩ g;exact⟨K',Fh,E,S.call g,H.gr g,q⟩
      . rintro k x h F' hx ⟨K',Fh,E,S,H,Z,bb,U,rfl⟩;have be:k<(outs l.arcs fs l.arcs.length v).length:=(by have:=(List.getElem?_eq_some_iff.1 hx).1;simpa [qH]using this);unfold qH at hx;rw [XN,Xf be]at hx;cases hx;have w:=mg.1 (XC be);rw [XP be]at U;generalize(outs l.arcs fs l.arcs.length v)[k]=id at w U;obtain⟨ad,bf⟩:=w;subst hX;refine iw (S.get m0) (by rw [Tryz.e173];rfl) rfl ?_;have S1:=S;replace S:=S.base;simp only [BZ,seval];refine ac aA S ?_;clear S;intro h bL S b6;simp only [BZ,Xe,c7,seval];refine aC (S.store (i:=0) rfl ?_ ?_ rfl rfl ?_ ono) ?_
        . exact(by exact Tryz.t135.2.1)
        . exact(by intro x e;cases e)
        . exact lbt rfl
        clear S;rintro h ⟨S,mo⟩;clear mo;simp only [LC,ae,lay,Xi,Xj,seval]at S;simp only [BZ];refine gC S (i:=1) rfl rfl rfl rfl rfl ?_;clear S;intro h S;simp only [LC]at S;have af:l.arcs.getD id default∈l.arcs:=(by rw [Xc,Xf ad];exact XC ad);have c3:=al.arcs _ af;have c4:O.length*cH<=12*cH:=XF _ (zO dj.len n2);have cv:=jP;have wn:an .i64 ((n:Int)+((l.arcs.getD id default).w:Int))=((n+(l.arcs.getD id default).w:Nat):Int):=(by rw [wrap64]<;>omega);simp only [BZ,r9,r11,wn,S.ld (b:=I) (o:=0) m4 rfl,S.ld (b:=bL) (o:=1) m0 rfl,S.ld (b:=bL) (o:=2) m0 rfl,S.ld (b:=bk) (o:=0) m3 rfl,seval];have hH:=H.mo S.fr (fun c t w=>(Z c t).2 w);have bT:=H.lt S1.ok;have d3:C≠ba:=fun e=>(by have ap:=S1.apart;subst e;simp only [keys,X9,XR,List.nodup_cons,Ya]at ap;exact ap.2.2.2.2.1 (.inr (.inl trivial)));replace S:=S.mono (M':=fun c=>c∈keys _ _\/c∈Fh) (fun _ h=>.inl h);refine step_ret (reach_ok S.ok (arc:=id) (far:=n+(l.arcs.getD id default).w) (S.row m5) hH (by omega) (S.own _ m6).2 bt bE (S.row m7) bb (bh _ af) (fun h=>(Z ba h).2 (by simp [keys])) (fun h=>(Z C h).2 (by simp [keys])) d3) ?_;rintro r h ⟨f1,F2,b7,H2,ai,ca,cb,c5⟩;have kq:=fun {c} t=>S.key_lt (b:=c) t;have qn:=S.fr.n;have S2:=S.callF (i:=7) (Fh:=Fh) rfl f1 (fun c t=>⟨.inl (.inr t),fun w=>by
         rcases List.mem_cons.1 w with e|w
         . have:=bT c t;omega
         . exact(Z c t).2 w⟩) (o':=.row _ 1) ca
        simp only [List.set_cons_zero,List.set_cons_succ]at S2;clear S;simp only [BZ];have S:=S2.base;refine dV S (i:=1) rfl ?_;clear S;intro h S;simp only [LC]at S;have H3:=H2.mo S.fr (fun c t w=>by
         rcases ai c t with Q|Q
         . rcases List.mem_cons.1 w with e|w
           . have:=bT c Q;omega
           . exact(Z c Q).2 w
         . have:=kq w;omega)
        have S3:=S2.rebase S;refine .inl ⟨rfl,_,⟨_,F2,b7,S1.rebaseF (fun c t=>.inl (Z c t).1) S3.drop1,H3,fun c t=>?_,cb,?_,rfl⟩,S3.fr.mono (fun c t=>List.mem_append.2 t),fun c t=>?_⟩
        . rcases ai c t with Q|Q
          . exact Z c Q
          . refine⟨zO S1.fr.n (zO qn Q),fun w=>?_⟩;have:=kq (Xg _ w);omega
        . obtain⟨e1,e2⟩:=seen_at (fs:=fs) (ft:=ft) ad;have:=U.relaxed (ex':=fun a=> ∃cc∈(outs l.arcs fs l.arcs.length v).drop (k+1),(seen l.arcs fs ft).getD cc default=a) e2 (by rw [e1];show fs _∈_;rw [bf];simp) (by rw [e1];exact bh _ af) (by rw [e1];simp only [bf,if_true];rw [XJ,X6,Nat.succ_mul];omega) (fun b hb hx=>by
           by_cases eb:b=(seen l.arcs fs ft).getD id default
           . exact .inr eb
           . left;rintro⟨i,hi,rfl⟩;rcases List.mem_cons.1 hi with e|hi
             . subst e;exact eb rfl
             . exact hx ⟨i,hi,rfl⟩)
          simp only [e1,bf,if_true]at this;exact this
        . rcases List.mem_append.1 t with t|t
          . exact .inl (X8 _ t)
          . rcases ai c t with Q|Q
            . exact .inl (Xx _ Q)
            . exact .inr (zO qn Q)
     have ak:=(Y.rebase S).gr;have cx:=kI l.arcs fs l.arcs.length v;have c6:=al.many;refine cK (iter_useN (arcs_it (hq:=h0) ok S.ok ak.keep ak.n hn sl (fun id ad=>(mg.1 ad).1) (by omega) hE y1 y2 y3) (fun _ _ h=>h) hJ (h:=h2) (F:=keys ((lb,.loop X)::(db,.dfr)::(bk,Ob.row [.int .i64 (n:Nat)] 1)::(I,.row [ptrTo C] 1)::(C,.row [ptrTo bP,.slice (some ⟨bd,0,none⟩) l.nodes l.nodes,.slice (some ⟨ba,0,none⟩) l.nodes l.nodes,A,.map (some G)] 1)::(G,.map R c')::(ba,.row (ints aL) 1)::(bd,.row (eJ ((Xa l.nodes).map fun u=>if u=v then n else D u)) 1)::(W,.row [.slice none 0 0,.slice none 0 0,.slice none 0 0] 1)::dJ dbs) [(A,1,eJ (O++[v]))]++F) g2.fr (fun b hb hlt=>?_)
      ⟨dp K v none,F,aL,R1,hH.gr g2,fun c t=>⟨(Z c t).1,fun w=>?_⟩,lA,b4.exm (fun a ha hs=>?_),rfl⟩) fun o rc h' y=>jx y ?_
     . rcases List.mem_append.1 hb with V|V
       . have k2:=(R1.key_own V).elim (fun h=>h) (fun h=>h.elim);rcases List.mem_cons.1 V with e|V
         . simp only []at e;omega
         . rcases List.mem_cons.1 V with e|V
           . simp only []at e;omega
           . have k1:=kS V;rintro(h|h|h|h|h)
             . omega
             . omega
             . omega
             . have:=bx b h;omega
             . omega
       . have k1:=bB b V;have k2:=(Z b V).1;rintro(h|h|h|h|h)
         . omega
         . omega
         . omega
         . have:=bx b h;omega
         . omega
     . have k1:=bB c t;have c9:=S.fr.n;rcases List.mem_cons.1 w with e|w
       . simp only []at e;omega
       . rcases List.mem_cons.1 w with e|w
         . simp only []at e;omega
         . rcases S.key_own w with Q|Q
           . omega
           . exact(Z c t).2 Q
     . obtain⟨i,hi,e⟩:=seen_mem ha;refine⟨i,?_,e⟩;rw [Xw];refine mg.2 ⟨hi,?_⟩;have:=(seen_at (fs:=fs) (ft:=ft) hi).1;rw [e]at this;rw [this]at hs;exact hs
     . rintro Fx ⟨K',a1,E,T,H',J,bb,U,rfl⟩;clear hJ R1 y1 y2 y3 hH S' S;rw [show(qH l.arcs ft (outs l.arcs fs l.arcs.length v)).length=(outs l.arcs fs l.arcs.length v).length by simp [qH],List.drop_length]at U;replace U:=U.exm (ex':=fun _=>False) (fun a _ h=>by obtain⟨i,hi,_⟩:=h;cases hi);subst hX;refine⟨_,T.get m0,XU,?_⟩;have ai: ∀c∈a1,c≠lb:=fun c t e=>(J c t).2 (by rw [e];exact m0);have H2:=H'.mo ((Mo.refl (M:=(· =lb)) T.ok).put (.inr rfl) .dead) ai;replace T:=T.dead;replace J:=fun c t=>And.intro (J c t).1 (fun w=>(J c t).2 (Xg _ w));have S:=T.base;show Run _ _ _ _ _ _ _ _;simp only [BZ,if_false,r11,S.ld (b:=bk) (o:=0) m1 rfl,seval];refine ac aA S ?_;clear S;intro h a2 S cf;simp only [BZ,r11,seval];refine aC (aE S (i:=0) rfl ?_ ?_ ?_ ono) ?_
       . exact(by simp only [FA0])
       . exact(by exact aZ)
       . exact Xb (lbt rfl)
       clear S;rintro h ⟨S,mo⟩;clear mo;simp only [LC,ae,lay,Xi,Xj,seval]at S;simp only [BZ,r9,S.ld (b:=I) (o:=0) m3 rfl,S.ld (b:=C) (o:=0) m4 rfl,seval];have H3:=H2.mo S.fr (fun c t w=>(J c t).2 w);have ch:=H2.lt T.ok;have a3: ∀c∈a1,h0.n<=c/\c∉keys ([(a2,Ob.row [.int .i64 (n:Nat)] 1),(I,.row [ptrTo C] 1),(C,.row [ptrTo bP,.slice (some ⟨bd,0,none⟩) l.nodes l.nodes,.slice (some ⟨ba,0,none⟩) l.nodes l.nodes,A,.map (some G)] 1),(G,.map R c'),(ba,.row (ints E) 1),(bd,.row (eJ ((Xa l.nodes).map fun u=>if u=v then n else D u)) 1),(W,.row [.slice none 0 0,.slice none 0 0,.slice none 0 0] 1)]++dJ (db::dbs)) [(A,1,eJ (O++[v]))]:=fun c t=>by
        refine⟨(J c t).1,fun w=>?_⟩;have Q:=(J c t).2;have h2:=ch c t;simp [keys,dJ]at w;rcases w with h|h|h|h|h|h|h|h|h|h
        . omega
        all_goals exact Q (by simp [keys,dJ,h])
       replace S:=(T.rebase S).sub (L':=(a2,Ob.row [.int .i64 (n:Nat)] 1)::(db,.dfr)::(I,.row [ptrTo C] 1)::(C,.row [ptrTo bP,.slice (some ⟨bd,0,none⟩) l.nodes l.nodes,.slice (some ⟨ba,0,none⟩) l.nodes l.nodes,A,.map (some G)] 1)::(G,.map R c')::(ba,.row (ints E) 1)::(bd,.row (eJ ((Xa l.nodes).map fun u=>if u=v then n else D u)) 1)::(W,.row [.slice none 0 0,.slice none 0 0,.slice none 0 0] 1)::dJ dbs) (G':=[(A,1,eJ (O++[v]))]) (.cons_cons _ (.cons_cons _ (List.sublist_cons_self _ _))) (List.Sublist.refl _);replace S:=S.permL (L':=[(a2,Ob.row [.int .i64 (n:Nat)] 1),(I,.row [ptrTo C] 1),(C,.row [ptrTo bP,.slice (some ⟨bd,0,none⟩) l.nodes l.nodes,.slice (some ⟨ba,0,none⟩) l.nodes l.nodes,A,.map (some G)] 1),(G,.map R c'),(ba,.row (ints E) 1),(bd,.row (eJ ((Xa l.nodes).map fun u=>if u=v then n else D u)) 1),(W,.row [.slice none 0 0,.slice none 0 0,.slice none 0 0] 1)]++dJ (db::dbs)) (.cons _ (by
        show(List.append [_,_,_,_,_,_] ((db,Ob.dfr)::dJ dbs)).Perm _;exact List.perm_middle))
       clear T H' H2 J;have T:=S.baseF a1;refine step_ret (wL S.ok H3 (by omega)) ?_;rintro rr h3 ⟨v3,k3,cj,rfl,f3,H4,bX,bY⟩;replace S:=S.rebaseF (fun c t=>.inl (a3 c t).1) (T.stepF f3 (fun c t=>⟨.inl (.inr t),(a3 c t).2⟩));simp only [BZ,r11,seval];clear T;have T:=S;replace S:=S.base;simp only [LC]at S;refine aC (aE S (i:=0) rfl ?_ ?_ ?_ ono) ?_
       . exact(by simp only [FA0])
       . exact(by exact aZ)
       . exact Xb (lbt rfl)
       clear S;rintro h ⟨S,mo⟩;clear mo;simp only [LC,ae,lay,Xi,Xj,seval]at S;simp only [BZ,seval];have H5:=H4.mo S.fr (fun c t w=>(a3 c t).2 w);replace S:=T.rebase S;subst hd;have da:(O++[v]).length=O.length+1:=(by simp);have cz:=U.len;refine ih (O++[v]) _ _ _ (by omega) ⟨db::dbs,_,K',a1,R,c',_,E,A,a2,v3,k3,cj,rfl,S,a3,bb,bt,bE,U,H5,bX,bY,?_⟩;refine(by simp [aB,r0,ah,r2,r3,r8,r9])
 . have e1:eJ ((Xa l.nodes).map fun _=>FAR)=Xu l.nodes (.int .i64 72057594037927936):=(by rw [nR,XV,Xk,List.map_replicate];rfl);have e2:ints (Xu l.nodes (-1))=Xu l.nodes (.int .i64 (-1)):=(by rw [ints_map,List.map_replicate]);have S3:=S1.rebaseF (fun c t=>.inl (P c t).1) (S2.rebase S);have nn:=S2.fr.n;refine⟨[],fun _=>FAR,dp (fun _=>none) s (some 0),F1,[],0,fun _=>none,Xu l.nodes (-1),.slice none 0 0,bk,v,k,b,rfl,?_,?_,by simp,nJ,fun u=>by simp,dj,H3,ay,a0,?_⟩
   . rw [e1,e2];exact S3
   . rw [e1,e2];intro c t;refine⟨(P c t).1,fun w=>?_⟩;have Q:=(P c t).2;have h2:=bo c t;simp [keys,eo,dJ]at w Q;omega
   . refine(by simp [aB,ah,cG,dr])
theorem fromKey:KeyF zM 175 Arc.t:=by intro f a c;have S:=Si c;refine aa (n:=5) (rs:=[.tmp 2]) rfl Tryz.e175 rfl rfl rfl (lbt rfl) ?_;simp only [BZ,c7,seval];refine ac (aV (by intro x e;cases e)) S ?_;clear S;intro h b S d;simp only [ae]at S;simp only [BZ,ab,S.ld (b:=b) (o:=1) m0 rfl,seval];exact S.gr
theorem toKey:KeyF zM 174 Arc.s:=by intro f a c;have S:=Si c;refine aa (n:=5) (rs:=[.tmp 2]) rfl Tryz.e174 rfl rfl rfl (lbt rfl) ?_;simp only [BZ,c7,seval];refine ac (aV (by intro x e;cases e)) S ?_;clear S;intro h b S d;simp only [ae]at S;simp only [BZ,ab,S.ld (b:=b) (o:=0) m0 rfl,seval];exact S.gr
theorem fromNext{b:Gra}(a:Good b):NextF zM 129 b pn Arc.s:=fun h f c d v e=>uw c d (by have:=a.many;omega) e
theorem toNext{b:Gra}(a:Good b):NextF zM 131 b pn Arc.t:=fun h f c d v e=>wS c d (by have:=a.many;omega) e
theorem uE(A:OZ h0){j:Gra}(f:Good j){B:Nat}(C:aS h0 B pn j)(E:s<j.nodes):
 Ret zM 85 [pn,.int .i64 s] h0 fun r h'=>Gr h0 h'/\yw h' h0.n r (seen j.arcs Arc.s Arc.t) s j.nodes:=by
 have S:=Si A;refine aa (n:=10) (rs:=[.cell 4 245]) rfl Tryz.e85 rfl rfl rfl (lbt rfl) ?_;simp only [BZ];refine ac aA S ?_;clear S;intro h k S p;simp only [BZ,seval];have F:=S.fr.n;have G:=(S.row (b:=k) m0).lt S.ok;refine step_ret (CB S.ok f (C.gr S.gr) E (fromNext f) fromKey (fun a H=>(f.arcs a H).2.1)) ?_;intro v h ⟨g,T⟩;replace S:=S.call g;clear g;obtain⟨q,t,u,D,I,O,rfl,w,y,z,t4,t5,t6,t7,t8⟩:=T;have J:=w.fl;have K:=y.fl;have L:=z.fl;have l: ∀c,aq q c\/aq t c\/aq u c->c≠k:=fun c d e=>by have:=t6 c d;omega
 simp only [BZ,seval];refine aC (S.store (i:=0) rfl Tryz.t245.2.1 (by intro x e;cases e) rfl (by simp only [ae,Xy,XA,J.2.1,K.2.1,L.2.1,Xn]) (lbt rfl) ono) ?_;clear S;rintro h ⟨S,m⟩;simp only [LC,ae,lay,Xi,Xj,seval]at S;simp only [BZ,ab];refine(bw (by decide) (by simp only [aD,ah,seval];exact bj Tryz.t245.1 Tryz.t245.2.1 (S.lds (b:=k) (o:=0) (n:=3) m0 (lbt rfl)))).2 (bS.2 ?_);exact⟨S.gr,q,t,u,D,I,O,rfl,w.mo m (fun c d=>l c (.inl d)),y.mo m (fun c d=>l c (.inr (.inl d))),z.mo m (fun c d=>l c (.inr (.inr d))),t4,t5,fun c d=>zO F (t6 c d),t7,t8⟩
theorem tG(A:OZ h0){j:Gra}(f:Good j){B:Nat}(C:aS h0 B pn j)(E:s<j.nodes):
 Ret zM 84 [pn,.int .i64 s] h0 fun r h'=>Gr h0 h'/\yw h' h0.n r (seen j.arcs Arc.t Arc.s) s j.nodes:=by
 have S:=Si A;refine aa (n:=10) (rs:=[.cell 4 245]) rfl Tryz.e84 rfl rfl rfl (lbt rfl) ?_;simp only [BZ];refine ac aA S ?_;clear S;intro h k S p;simp only [BZ,seval];have F:=S.fr.n;have G:=(S.row (b:=k) m0).lt S.ok;refine step_ret (CB S.ok f (C.gr S.gr) E (toNext f) toKey (fun a H=>(f.arcs a H).1)) ?_;intro v h ⟨g,T⟩;replace S:=S.call g;clear g;obtain⟨q,t,u,D,I,O,rfl,w,y,z,t4,t5,t6,t7,t8⟩:=T;have J:=w.fl;have K:=y.fl;have L:=z.fl;have l: ∀c,aq q c\/aq t c\/aq u c->c≠k:=fun c d e=>by have:=t6 c d;omega
 simp only [BZ,seval];refine aC (S.store (i:=0) rfl Tryz.t245.2.1 (by intro x e;cases e) rfl (by simp only [ae,Xy,XA,J.2.1,K.2.1,L.2.1,Xn]) (lbt rfl) ono) ?_;clear S;rintro h ⟨S,m⟩;simp only [LC,ae,lay,Xi,Xj,seval]at S;simp only [BZ,ab];refine(bw (by decide) (by simp only [aD,ah,seval];exact bj Tryz.t245.1 Tryz.t245.2.1 (S.lds (b:=k) (o:=0) (n:=3) m0 (lbt rfl)))).2 (bS.2 ?_);exact⟨S.gr,q,t,u,D,I,O,rfl,w.mo m (fun c d=>l c (.inl d)),y.mo m (fun c d=>l c (.inr (.inl d))),z.mo m (fun c d=>l c (.inr (.inr d))),t4,t5,fun c d=>zO F (t6 c d),t7,t8⟩
def wy(x:Int):Int:=min (max x 0) 72057594037927936
theorem Dd(a:OZ h0)(b:h0.load b1 0 1=some [.int .i64 0])(c:h0.load b2 0 1=some [.int .i64 72057594037927936]):aO zM 275 [.int .i64 x,ptrTo b1,ptrTo b2] h0 (.int .i64 (wy x)):=by have S:=Si a;refine aa (n:=10) (rs:=[.tmp 4]) rfl Tryz.e275 rfl rfl rfl (lbt rfl) ?_;simp only [BZ,ab,b,c,seval];exact⟨rfl,S.gr⟩
theorem Ew(c:OZ h0):Ret zM 254 [.int .i64 0,.int .i64 72057594037927936] h0 fun v h=>Gr h0 h/\ ∃b1 b2,v=.func (.func 275) #[] #[ptrTo b1,ptrTo b2]/\h.load b1 0 1=some [.int .i64 0]/\h.load b2 0 1=some [.int .i64 72057594037927936]:=by have S:=Si c;refine aa (n:=6) (rs:=[.tmp 4]) rfl Tryz.e254 rfl rfl rfl (lbt rfl) ?_;simp only [BZ,seval];refine ac (aV (by intro x e;cases e)) S ?_;clear S;intro h b1 S a;simp only [ae]at S;simp only [BZ,if_false,seval];refine ac (aV (by intro x e;cases e)) S ?_;clear S;intro h b2 S b;simp only [ae]at S;simp only [BZ,ab,seval];exact⟨S.gr,b1,b2,rfl,S.ld m1 rfl,S.ld m0 rfl⟩
theorem mW(a:OZ h0):aO zM 215 [.int .i64 x] h0 (.int .i64 (wy x)):=by have S:=Si a;refine aa (n:=6) (rs:=[.tmp 2]) rfl Tryz.e215 rfl rfl rfl (lbt rfl) ?_;simp only [BZ];refine step_ret (Ew S.ok) ?_;intro v h ⟨g,b1,b2,e,e1,e2⟩;replace S:=S.call g;clear g;subst e;simp only [BZ,seval];refine ag (Dd S.ok e1 e2) ?_;intro h g;replace S:=S.call g;clear g;simp only [BZ,ab,seval];exact S.gr
theorem nZ(a:OZ h0):aO zM 214 [.int .i64 x] h0 (.bool (decide (wy x<72057594037927936))):=by have S:=Si a;refine aa (n:=6) (rs:=[.tmp 2]) rfl Tryz.e214 rfl rfl rfl (lbt rfl) ?_;simp only [BZ,seval];refine ag (mW S.ok) ?_;intro h g;replace S:=S.call g;clear g;simp only [BZ,ab,seval];exact S.gr
theorem s9(x:Int):0<=wy x/\wy x<=72057594037927936:=by unfold wy;omega
theorem wy_id(h0:0<=x)(a:x<=72057594037927936):wy x=x:=by unfold wy;omega
structure YldP(E:Env)(lb:Nat)(J:Nat->Hp->List Nat->Prop)(n:Nat)(P:Nat->Hp->List Nat->List Value->Prop):Prop where
 lt: ∀i h F,J i h F->OZ h/\ ∀b∈F,b<h.n
 gr: ∀i h F h',J i h F->Gr h h'->J i h' F
 round: ∀i x h F,i<n->P i h F x->J i h F->mX E lb x h fun o h'=>o=.ret (.bool true)/\ ∃F',J (i+1) h' F'/\Mo (· ∈F) h h'/\ ∀b∈F',b∈F\/h.n<=b
def IterP(E:Env)(g:FuncId)(post:List Value)(h0:Hp)(D:Nat->Prop)(n:Nat)(P:Nat->Hp->List Nat->List Value->Prop):Prop:=
 ∀a J,YldP E a J n P-> ∀h F,ItS h0 D h F->J 0 h F->ey E g (.func (.yield a) #[] #[]::post) none h fun o b c=>b=none/\ ∃u d,o=.ret u/\J n c d
theorem Db{cx:Cx}{o:Oper}{l:Loc}{K:Ex->Loc->Hp->Prop}{J:Nat->Hp->List Nat->Prop}{P:Nat->Hp->List Nat->List Value->Prop}{x:List Value}{F:List Nat}
 (Y:YldP E d J n P) (s:ItS h0 D h F) (e:J i h F) (f:i<n) (g:P i h F x)
 (j: ∀h' F',J (i+1) h' F'->ItS h0 D h' F'->Mo (· ∈F) h h'->(∀b∈F',b∈F\/h.n<=b)->K .normal (l.put o.dst (.bool true)) h'):gH E cx o l K (some (.yield d x,h)):=by
 refine xS (Y.round i x h F f g e) ?_;rintro q h' ⟨rfl,F',a,b,c⟩;exact j h' F' a (s.mo b c (Y.lt _ _ _ a).2) b c
def encV(w:Value):List Value:=[w]
theorem tH(w:Value):(encV w).length=1:=rfl
theorem Al(l:List Value):l.flatMap encV=l:=by
 induction l with
 |nil=>rfl|cons x l a=>rw [XO,a];rfl
def fG(h:Hp)(m:Nat)(v:Value)(n:Nat)(R:Nat->List Int):Prop:=
 ∃a:List Value,az h 1 encV v a/\a.length=n/\(∀c,aq v c->m<=c)/\ ∀i w,a[i]? =some w->az h 1 (encI .i64) w (R i)/\ ∀c,aq w c->m<=c
theorem fG.mo{M:Nat->Prop}{h h':Hp}{m n:Nat}{v:Value}{R:Nat->List Int}(r:fG h m v n R)(g:Mo M h h')(k: ∀b,M b->b<m):fG h' m v n R:=by obtain⟨l,a,b,c,d⟩:=r;exact⟨l,a.mo g (fun x e f=>by have:=c x e;have:=k x f;omega),b,c,fun i w j=>⟨(d i w j).1.mo g (fun x e f=>by have:=(d i w j).2 x e;have:=k x f;omega),(d i w j).2⟩⟩
theorem fG.gr(r:fG h m v n R)(g:Gr h h'):fG h' m v n R:=r.mo (M:=NoM) g.fr (fun _ h=>h.elim)
theorem fG.low{f:Nat}(r:fG h m v n R)(g:f<=m):fG h f v n R:=by obtain⟨k,a,b,c,d⟩:=r;exact⟨k,a,b,fun x e=>zO g (c x e),fun i w j=>⟨(d i w j).1,fun x e=>zO g ((d i w j).2 x e)⟩⟩
theorem fG.row(r:fG h m v n R)(k:i<n): ∃w,(∃c o,mQ (some 1) v (.int .i64 (i:Nat))=some (.pointer (some ⟨c,o,none⟩))/\h.load c o 1=some [w])/\az h 1 (encI .i64) w (R i)/\ ∀c,aq w c->m<=c:=by obtain⟨e,a,b,c,d⟩:=r;obtain⟨q,o,g,j⟩:=a.ix (kd:=.i64) tH (i:=i) (by omega);have f:e[i]? =some e[i]:=Xf (by omega);exact⟨e[i],⟨q,o,g,j⟩,(d i _ f).1,(d i _ f).2⟩
theorem flat_nat(l:List Nat):l.flatMap bK=(l.map fun(x:Nat)=>(x:Int)).flatMap (encI .i64):=by
 induction l with
 |nil=>rfl|cons x l a=>rw [XO,X9,XO,a];rfl
theorem sG{l:List Nat}(s:az h 1 bK v l):az h 1 (encI .i64) v (l.map fun(x:Nat)=>(x:Int)):=by
 rcases s with⟨rfl,rfl⟩|⟨b,o,s,c,rfl,d,a⟩
 . exact .inl ⟨rfl,rfl⟩
 . refine .inr ⟨b,o,s,c,by grind,by grind,?_⟩;rw [Xv,a,flat_nat]
def iS(N:Nat)(l:List Int):Prop:=l.length<=16/\ ∀i,i<l.length->0<=l.getD i 0/\l.getD i 0<N/\l.getD i 0∉l.take i
theorem iS.push(h:iS N l)(d:l.length<16)(h0:0<=x)(f:x<N)(g:x∉l):iS N (l++[x]):=by
 refine⟨by simp;omega,fun i b=>?_⟩;simp at b;by_cases e:i=l.length
 . grind
 . have a:i<l.length:=(by omega);have c:(l++[x]).getD i 0=l.getD i 0:=(by grind);rw [c,List.take_append_of_le_length (by omega)];exact h.2 i a
theorem mayL_nil(N:Nat):iS N []:=⟨by simp,fun i a=>by simp at a⟩
structure TabAt(h:Hp)(m:Nat)(p:Value)(N:Nat)(marks:List Int)(R Q:Nat->List Int):Prop where
 ex: ∃b vM vT vF,p=ptrTo b/\Row h b [.int .i64 N,vM,vT,vF] 1/\az h 1 (encI .i64) vM marks/\fG h m vT marks.length R/\fG h m vF marks.length Q/\m<=b/\ ∀c,aq vM c->m<=c
theorem TabAt.mo{M:Nat->Prop}{h h':Hp}{m N:Nat}{p:Value}{a:List Int}{R Q:Nat->List Int}(t:TabAt h m p N a R Q)(g:Mo M h h')(c: ∀b,M b->b<m):TabAt h' m p N a R Q:=by obtain⟨b,d,f,i,e,j,k,l,n,q,r⟩:=t.ex;exact⟨b,d,f,i,e,g.has (o:=.row _ 1) j (fun h=>by grind),k.mo g (fun x s u=>by grind),l.mo g c,n.mo g c,q,r⟩
theorem TabAt.gr{a:List Int}(t:TabAt h m p N a R Q)(g:Gr h h'):TabAt h' m p N a R Q:=t.mo (M:=NoM) g.fr (fun _ h=>h.elim)
theorem fG.lenq{h h':Hp}{m n:Nat}{v:Value}{R:Nat->List Int}{e:TypeId}(r:fG h' m v n R):lenQ (some (.slice e)) h v=some (.val (.int .i64 n),h):=by have⟨c,a,b,_⟩:=r;rw [<-b];exact a.lenq
theorem may1_ok(u:OZ h0){p:List (Value×Value×Nat)}{f:Int->Option Value}(e5:h0.load b5 0 1=some [.map (some b)])(v:h0.load b2 0 1=some [.int .i64 N])(q:h0.get b=some (.map p c))(s:dL p c f)(hf:(f x).getD (.int .i64 0)=.int .i64 k)(D:k<=1)(y:b5≠b)(A:b2≠b):
 Ret zM 169 [.int .i64 x,ptrTo b5,ptrTo b2] h0 fun r h'=>Mo (· =b) h0 h'/\r=.bool (decide (x<0\/(N:Int)<=x\/k=1))/\ ∃es' c',h'.get b=some (.map es' c')/\dL es' c' (dS f x (some (.int .i64 (k+1:Nat)))):=by
 have S:=St.init1 u (o:=.map p c) q;have t:=li (x:=x) Tryz.t230.1 Tryz.t3.1 (z:=.int .i64 0) (by kernel_rfl) q s;rw [hf]at t;have w:an .i64 ((k:Int)+1)=((k+1:Nat):Int):=by rw [wrap64]<;>omega
 refine aa (n:=22) (rs:=[.tmp 4]) rfl Tryz.e169 rfl rfl rfl (lbt rfl) ?_;simp only [BZ,e5,t,w,seval];refine aC (S.mputI (i:=0) rfl Tryz.t230.1 Tryz.t3.1 s _) ?_;clear S;rintro h ⟨_,es',c',a,S⟩;simp only [LC]at S;have j:=S.old e5 y;have d:=S.old v A;have l:h.get b=some (.map es' c'):=(S.own _ m0).2;have e:=li (x:=x) Tryz.t230.1 Tryz.t3.1 (z:=.int .i64 0) (by kernel_rfl) l a;rw [show dS f x (some (.int .i64 ((k+1:Nat):Int))) x=some (.int .i64 ((k+1:Nat):Int)) by unfold dS;rw [if_pos rfl],Option.getD_some]at e;by_cases g:x<0
 . simp only [BZ,ab,g,seval];exact⟨S.fr,by simp [g],es',c',l,a⟩
 . by_cases m:(N:Int)<=x
   . simp only [BZ,ab,d,g,m,seval];exact⟨S.fr,by simp [m],es',c',l,a⟩
   . by_cases B:k=1
     . subst B;simp only [BZ,ab,Xe,j,d,g,m,e,seval];exact⟨S.fr,by simp,es',c',l,a⟩
     . have C:k=0:=(by omega);subst C;simp only [BZ,ab,Xe,j,d,g,m,e,seval];exact⟨S.fr,by simp [g,m],es',c',l,a⟩
def OkAt(N:Nat)(l:List Int)(i:Nat):Prop:=0<=l.getD i 0/\l.getD i 0<N/\l.getD i 0∉l.take i
theorem mayIdx_ok  (T:OZ h0)    (y:az h0 1 (encI .i64) v l) (hl:l.length<=1000) (e5:h0.load b5 0 1=some [.map (some a)]) (A:h0.load b2 0 1=some [.int .i64 N]) (J:h0.get a=some (.map [] 0)) (K:b5≠a) (L:b2≠a):
 Ret zM 234 [v,.func (.func 169) #[] #[ptrTo b5,ptrTo b2]] h0 fun r h'=>Mo (· =a) h0 h'/\ ∃z,r=.int .i64 z/\(0<=z↔ ¬ ∀i,i<l.length->OkAt N l i):=by
 have B: ∀c,aq v c-> ¬c=a:=by
  rintro c M rfl;rcases y with⟨rfl,_⟩|⟨b,o,s,O,rfl,_,U⟩
  . exact M.elim
  . have:b=c:=M;subst this;simp [Hp.load,J]at U
 refine aa (n:=19) (rs:=[.tmp 4]) rfl Tryz.e234 rfl rfl rfl (lbt rfl) ?_;simp only [BZ,y.lenq,seval];refine aW (fun(i:Nat) g h=>i<=l.length/\Mo (· =a) h0 h/\(∃C c f,h.get a=some (.map C c)/\dL C c f/\ ∀x,f x=if x∈l.take i then some (.int .i64 1)else none)/\(∀j,j<i->OkAt N l j)/\g 0=v/\g 1=.func (.func 169) #[] #[ptrTo b5,ptrTo b2]/\g 7=.int .i64 l.length/\g 8=.int .i64 i) (fun i=>l.length-i) ?_ 0 _ _ ?_
 . intro i V g h ⟨hi,mo,⟨C,c,f,hg,MI,hf⟩,hok,r0,r1,r7,r8⟩;by_cases hlt:i<l.length
   . obtain ⟨q,o,m,D⟩:=(y.mo mo B).ix (kd:=.i64) (bO .i64) hlt;have w:an .i64 ((i:Int)+1)=((i+1:Nat):Int):=(by rw [wrap64]<;>omega);have P: ∀{b:Nat} {x},b≠a->h0.load b 0 1=some x->h.load b 0 1=some x:=fun E e=>(by have:=mo.get _ (bA mo.ok0 e) E;unfold Hp.load at e⊢;rw [this];exact e);have F:l.getD i 0=l[i]:=(by simp [Xc,hlt]);simp only [BZ,r0,r1,r7,r8,aF,hlt,m,D,encI,seval];refine step_ret (may1_ok mo.ok (x:=l[i]) (N:=N) (k:=if l[i]∈l.take i then 1 else 0) (P K e5) (P L A) hg MI (by rw [hf];split<;>rfl) (by split<;>omega) K L) ?_;rintro r h' ⟨W,rfl,G,O,H,I⟩;have p:=mo.trans W (fun _ h=>.inl h);by_cases d:OkAt N l i
     . have e:decide (l[i]<0\/(N:Int)<=l[i]\/(if l[i]∈l.take i then 1 else 0)=1)=false:=(by obtain⟨X,Y,Q⟩:=d;rw [F]at X Y Q;rw [if_neg Q];simp;omega);rw [e];have t:l[i]∉l.take i:=(by have:=d.2.2;rwa [F]at this);simp only [BZ,r8,w,seval];refine V (i+1) _ _ (by omega) ⟨by omega,p,⟨G,O,_,H,I,fun x=>?_⟩,fun j R=>?_,by simp [aB,r0,r1,ah,r7]⟩
       . have S:=Xd hlt;rw [if_neg t];unfold dS;by_cases u:x=l[i]
         . rw [if_pos u,if_pos (by rw [S];exact Xx _ (List.mem_singleton.2 u))];rfl
         . rw [if_neg u,hf];have:x∈l.take (i+1)↔x∈l.take i:=(by rw [S,List.mem_append,List.mem_singleton];exact⟨fun h=>h.resolve_right u,.inl⟩);simp only [this]
       . by_cases A:j=i
         . subst A;exact d
         . exact hok j (by omega)
     . have e:decide (l[i]<0\/(N:Int)<=l[i]\/(if l[i]∈l.take i then 1 else 0)=1)=true:=by
        unfold OkAt at d;rw [F]at d;simp only [decide_eq_true_eq];by_cases t:l[i]∈l.take i
        . rw [if_pos t];exact .inr (.inr rfl)
        . by_cases Z:l[i]<0
          . exact .inl Z
          . by_cases a2:(N:Int)<=l[i]
            . exact .inr (.inl a2)
            . exact absurd ⟨by omega,by omega,t⟩ d
       rw [e];simp only [BZ,ab,seval];exact⟨p,_,rfl,by simp only [Int.natCast_nonneg,true_iff];exact fun h=>d (h i hlt)⟩
   . simp only [BZ,ab,r7,r8,aF,hlt,seval];exact⟨mo,_,rfl,⟨fun h=>by omega,fun h=>absurd (fun j R=>hok j (by omega)) h⟩⟩
 . exact⟨Xt _,Mo.refl T,⟨[],0,fun _=>none,J,nJ,fun x=>by simp⟩,fun j R=>by omega,by simp [aB,cG,dr,ah]⟩
noncomputable instance mayDec(N:Nat)(l:List Int):Decidable (iS N l):=Classical.propDecidable _
theorem mayCf_ok(g:OZ h0)(j:az h0 1 (encI .i64) v l)(k:l.length<=1000)(e5:h0.load b5 0 1=some [.map (some a)])(m:h0.load b2 0 1=some [.int .i64 N])(o:h0.get a=some (.map [] 0))(p:b5≠a)(q:b2≠a)(d:Decidable (∀i,i<l.length->OkAt N l i)):
 Ret zM 170 [v,.func (.func 169) #[] #[ptrTo b5,ptrTo b2]] h0 fun r h'=>Mo (· =a) h0 h'/\r=.bool (!decide (∀i,i<l.length->OkAt N l i)):=by
 refine aa (n:=9) (rs:=[.tmp 4]) rfl Tryz.e170 rfl rfl rfl (lbt rfl) ?_;simp only [BZ,seval];refine step_ret (mayIdx_ok g j k e5 m o p q) ?_;rintro r h ⟨e,z,rfl,f⟩;by_cases c: ∀i,i<l.length->OkAt N l i
 . have b: ¬(0<=z):=fun h=>f.1 h c;simp only [BZ,ab,b,seval];exact⟨e,by rw [decide_eq_true c];rfl⟩
 . have b:0<=z:=f.2 c;simp only [BZ,ab,b,seval];exact⟨e,by rw [decide_eq_false c];rfl⟩
theorem may_ok(s:OZ h0)(g:az h0 1 (encI .i64) v l)(t:l.length<=1000):aO zM 80 [.int .i64 N,v] h0 (.bool (decide (iS N l))):=by
 have S:=Si s;refine aa (n:=18) (rs:=[.tmp 4]) rfl Tryz.e80 rfl rfl rfl (lbt rfl) ?_;simp only [BZ,seval];refine ac (aV (by intro x e;cases e)) S ?_;clear S;intro h u S p;simp only [ae]at S;simp only [BZ];refine ac oa S ?_;clear S;intro h A S a;simp only [BZ];refine ac aA S ?_;clear S;intro h w S q;simp only [BZ,seval];refine aC (aE S (i:=0) rfl ?_ ?_ ?_ ono) ?_
 . exact(by simp only [FA0])
 . exact(by exact fl_map)
 . exact Xb (lbt rfl)
 clear S;rintro h ⟨S,j⟩;clear j;simp only [LC,ae,lay,Xi,Xj,seval]at S;by_cases f:l.length<=16
 . have k:(l.length:Int)<=16:=(by omega);simp only [BZ,g.lenq,k,seval];have m:=S.apart;simp only [keys,X9,List.map_nil,List.filterMap_nil,List.append_nil,List.nodup_cons,Ya,List.not_mem_nil,or_false,not_or]at m;have d:Decidable (∀i,i<l.length->OkAt N l i):=Classical.propDecidable _;refine step_ret (mayCf_ok S.ok (g.gr S.gr) t (S.ld (b:=w) (o:=0) m0 rfl) (S.ld (b:=u) (o:=0) m2 rfl) (S.own _ m1).2 m.1.1 (fun e=>m.2.1 e.symm) d) ?_;rintro r h ⟨j,rfl⟩;have y:Gr h0 h:=(S.fr.trans j (fun c z=>.inr (by subst z;exact a)):Mo NoM h0 h).gr;simp only [BZ,ab,seval];refine⟨?_,y⟩;congr 1;by_cases c: ∀i,i<l.length->OkAt N l i
   . have:iS N l:=⟨f,c⟩;rw [decide_eq_true c,decide_eq_true this];rfl
   . have: ¬iS N l:=fun h=>c h.2;rw [decide_eq_false c,decide_eq_false this];rfl
 . have k: ¬(l.length:Int)<=16:=(by omega);simp only [BZ,ab,g.lenq,k,seval];exact⟨by have: ¬iS N l:=fun h=>f h.1;simp [this],S.gr⟩
open Classical in
noncomputable def dOf(B:List Arc)(s v:Nat):Nat:=if h: ∃x,IsD B s v x then h.choose else 0
theorem yU{B:List Arc}{v x:Nat}(h:IsD B s v x):dOf B s v=x/\IsD B s v (dOf B s v):=by
 have a: ∃x,IsD B s v x:=⟨x,h⟩;have e:dOf B s v=a.choose:=by unfold dOf;rw [dif_pos a]
 rw [e];exact⟨a.choose_spec.uniq h,a.choose_spec⟩
noncomputable def rowD(B:List Arc)(N s:Nat):List Int:=(Xa N).map fun v=>((dOf B s v:Nat):Int)
theorem rowD_of{B:List Arc}{D:Nat->Nat}(h: ∀v,IsD B s v (D v)):((Xa N).map D).map (fun(x:Nat)=>(x:Int))=rowD B N s:=by unfold rowD;rw [XS];refine Yb fun v _=>?_;show((D v:Nat):Int)=_;rw [(yU (h v)).1]
def RunF(E:Env)(g:FuncId)(a:Gra)(pn:Value)(B:List Arc):Prop:= ∀(h:Hp) (c:Nat),OZ h->aS h c pn a-> ∀s,s<a.nodes->Ret E g [pn,.int .i64 (s:Nat)] h fun r b=>Gr h b/\yw b h.n r B s a.nodes
theorem runTo{a:Gra}(b:Good a):RunF zM 84 a pn (seen a.arcs Arc.t Arc.s):=fun h f c d s e=>tG c b d e
theorem runFrom{a:Gra}(b:Good a):RunF zM 85 a pn (seen a.arcs Arc.s Arc.t):=fun h f c d s e=>uE c b d e
def PRow(m:Nat)(R:Nat->List Int)(i:Nat)(h:Hp)(F:List Nat)(x:List Value):Prop:= ∃w,x=[w]/\az h 1 (encI .i64) w (R i)/\ ∀c,aq w c->m<=c/\c∉F
theorem rows_ok(f:OZ h0){d e:Value}(g:Fl p)(i:Fl d)(j:Fl e):Ret zM 83 [p,d,e] h0 fun v h'=>Gr h0 h'/\ ∃b1 b2 b3,v=.func (.func 172) #[] #[ptrTo b1,ptrTo b2,ptrTo b3]/\h0.n<=b1/\h0.n<=b2/\h0.n<=b3/\h'.load b1 0 1=some [d]/\h'.load b2 0 1=some [e]/\h'.load b3 0 1=some [p]:=by have S:=Si f;refine aa (n:=8) (rs:=[.tmp 6]) rfl Tryz.e83 rfl rfl rfl (lbt rfl) ?_;simp only [BZ,seval];refine ac (bJ (by assumption)) S ?_;clear S;intro h b3 S a;simp only [BZ,if_false,seval];refine ac (bJ (by assumption)) S ?_;clear S;intro h b1 S b;simp only [BZ,if_false,seval];refine ac (bJ (by assumption)) S ?_;clear S;intro h b2 S c;simp only [BZ,ab,seval];exact⟨S.gr,b1,b2,b3,rfl,b,c,a,S.ld m1 rfl,S.ld m0 rfl,S.ld m2 rfl⟩
theorem rows_it(x:OZ hq)(d:OZ h0)(M:eZ hq h0)(N:hq.n<=h0.n){j:Value}{f:Gra}{y b3:Nat}(P:aS hq y pn f)(A:az h0 1 (encI .i64) j l)(z: ∀i,i<l.length->0<=l.getD i 0/\l.getD i 0<f.nodes)(C:l.length<1000){B:List Arc}(Q:RunF zM g f pn B)(R:m<=h0.n)
 (S:h0.load b1 0 1=some [j]) (T:h0.load b2 0 1=some [.func (.func g) #[] #[]]) (U:h0.load b3 0 1=some [pn]):
 IterP zM 172 [ptrTo b1,ptrTo b2,ptrTo b3] h0 (fun c=>c=b1\/c=b2\/c=b3\/aq j c\/c<hq.n) l.length (PRow m fun i=>rowD B f.nodes (l.getD i 0).toNat):=by
 intro V J Y h F s t;refine enter (n:=22) (rs:=[]) rfl Tryz.e172 rfl rfl rfl (lbt rfl) ?_;have E:=s.load d S (.inl rfl);simp only [BZ,E,A.lenq,seval];refine aW (fun(i:Nat) e h=>i<=l.length/\ ∃F,ItS h0 (fun c=>c=b1\/c=b2\/c=b3\/aq j c\/c<hq.n) h F/\J i h F/\e 0=.func (.yield V) #[] #[]/\e 2=ptrTo b2/\e 3=ptrTo b3/\e 7=j/\e 8=.int .i64 l.length/\e 9=.int .i64 i) (fun i=>l.length-i) ?_ 0 _ _ ?_
 . clear E;intro i W e h ⟨hi,F,s,t,r0,r2,r3,r7,r8,r9⟩;by_cases hlt:i<l.length
   . obtain⟨c,o,p,q⟩:=(s.sl d A (fun b h=>.inr (.inr (.inr (.inl h))))).ix (kd:=.i64) (bO .i64) hlt;have X:=s.load d T (.inr (.inl rfl));have Z:=s.load d U (.inr (.inr (.inl rfl)));have nt:aS h y pn f:=P.keep x (s.keep M N (fun c u=>.inr (.inr (.inr (.inr u)))));have w:an .i64 ((i:Int)+1)=((i+1:Nat):Int):=(by rw [wrap64]<;>omega);have G:l.getD i 0=l[i]:=(by simp [Xc,hlt]);have H:=z i hlt;rw [G]at H;obtain⟨mk,r⟩: ∃k:Nat,l[i]=k:=⟨l[i].toNat,by omega⟩;rw [r]at q H;simp only [BZ,r0,r2,r3,r7,r8,r9,aF,hlt,p,q,encI,X,Z,seval];refine step_ret (Q h y s.ok nt mk (by omega)) ?_;rintro v I ⟨K,L,vA,vO,D,aL,O,rfl,s1,s2,s3,t4,t5,t6,t7,t8⟩;simp only [BZ,seval];refine Db Y (s.gr K) (Y.gr _ _ _ _ t K) (i:=i) hlt ⟨L,rfl,?_,fun c u=>⟨?_,fun hF=>?_⟩⟩ ?_
     . have:=sG s1;rw [rowD_of t5]at this;show az I 1 _ L (rowD B f.nodes (l.getD i 0).toNat);rw [G,r];exact this
     . exact zO R (zO s.n (t6 c (.inl u)))
     . have h1:=s.lt c hF;have I:=t6 c (.inl u);omega
     . intro h' F' a s' _ _;simp only [BZ,r9,w,seval];exact W (i+1) _ _ (by omega) ⟨by omega,F',s',a,by simp [aB,r0,r2,ah,r3,r7,r8]⟩
   . simp only [BZ,r8,r9,aF,hlt,seval];have:i=l.length:=(by omega);subst this;exact cy (cd ⟨rfl,_,rfl,rfl,_,F,rfl,t⟩)
 . exact⟨by omega,F,s,t,by simp [aB,dh,ah]⟩
theorem Bq  (ok:OZ h0)  {post:Array Value}    (it:IterP zM g post.toList h0 D n (PRow m R)) (E:m<=h0.n) (hn:n<1000):
 Ret zM 171 [.slice none 0 0,.func (.func g) #[] post] h0 fun r h'=>Gr h0 h'/\fG h' m r n R:=by
 have S:=Si ok;refine aa (n:=13) (rs:=[.tmp 4]) rfl Tryz.e171 rfl rfl rfl (lbt rfl) ?_;simp only [BZ,seval];refine ac (bJ (by exact aU)) S ?_;clear S;intro h t S V;simp only [BZ,if_false,seval];replace S:=S.nilG (k:=1);have g0:=S.gr;refine iz S (g:=g) (a:=#[]) (b:=post) (by simp [bF,aB,cG,dr]) rfl rfl ?_;intro W B v y af ai g2;obtain⟨X,Y,y⟩: ∃X:fS,X=_/\St NoM h0 W [(v,.loop X),(B,.dfr),(t,.row [.slice none 0 0] 1)] [(.slice none 0 0,1,[])]:=⟨_,rfl,y⟩;have hJ:YldP zM v (fun k h' F=> ∃(f:List Value) (p:Value),St NoM h0 h' [(v,.loop X),(B,.dfr),(t,.row [p] 1)] [(p,1,f)]/\f.length=k/\k<=n/\(∀i w,f[i]? =some w->az h' 1 (encI .i64) w (R i)/\ ∀c,aq w c->m<=c/\c∉F)/\F=keys [(v,.loop X),(B,.dfr),(t,.row [p] 1)] [(p,1,f)]) n (PRow m R):=by
  refine⟨?_,?_,?_⟩
  . rintro i h F ⟨f,p,S,_,_,_,rfl⟩;exact⟨S.ok,fun b z=>S.key_lt z⟩
  . rintro i h F h' ⟨f,p,S,a,b,c,rfl⟩ Z;exact⟨f,p,S.call Z,a,b,fun i w l=>⟨(c i w l).1.gr Z,(c i w l).2⟩,rfl⟩
  . rintro i x hR F hi ⟨w,rfl,sw,l⟩ ⟨f,p,S,a,b,c,rfl⟩;subst Y;obtain⟨I,J,K,rfl⟩:=sw.form;have fw:Fl (.slice I J K):=aU;refine iw (S.get m0) (by rw [Tryz.e171];rfl) rfl ?_;have O:=S;replace S:=S.base;simp only [BZ,seval];refine gC S (i:=0) rfl rfl rfl rfl rfl ?_;clear S;intro h S;simp only [LC]at S;simp only [BZ,S.ld (b:=t) (o:=0) m2 rfl,seval];refine ac (ce (by exact Tryz.t79.1) (by exact Tryz.e23E) (by decide) (by rfl)) S ?_;clear S;intro h bs S ad;simp only [LC,bH,cg,ae,Xl,Xm,Xo,Xq,seval]at S;simp only [BZ,seval];have G:aK h 1 (.slice (some ⟨bs,0,none⟩) 1 1)=some (1,[.slice I J K]):=(by simp only [aK];rw [S.lds (b:=bs) (o:=0) (n:=1*1) m0 (lbt rfl)];rfl);replace S:=S.drop1;refine dE (S.grow (j:=0) (m:=1) (new:=[.slice I J K]) rfl Tryz.t79.1 Tryz.e23E (by decide) Tryz.t79.2.2.2.2.2 G rfl (by decide) (by simp [fw.2.1]) (by simp;omega)) ?_;clear S G;rintro h q S;simp only [LC]at S;have fv:Fl q:=by
     rcases(S.gown _ m0).1 with⟨e,_⟩|⟨_,_,e,_⟩
     . rw [show q=_ from e];exact aU
     . rw [show q=_ from e];exact aU
    simp only [BZ,seval];refine aC (aE S (i:=2) rfl Tryz.t79.2.2.1 fv (Xb (lbt rfl)) ono) ?_;clear S;rintro h ⟨S,_⟩;simp only [LC]at S;simp only [BZ];refine dV S (i:=0) rfl ?_;clear S;intro h S;simp only [LC]at S;refine⟨rfl,_,⟨f++[.slice I J K],q,O.rebase S,by simp [a],by omega,fun j u C=>?_,rfl⟩,S.fr,S.key_new⟩;have s:az h 1 (encI .i64) u (R j)/\ ∀c,aq u c->m<=c/\c∉keys [(v,Ob.dfr),(B,.dfr),(t,.dfr)] [(p,1,f)]/\c<hR.n:=by
     by_cases hj:j<f.length
     . rw [XQ hj]at C;obtain⟨N,A⟩:=c j u C;exact⟨N.mo S.fr (fun x d H=>(A x d).2 H),fun x d=>⟨(A x d).1,(A x d).2,N.lt O.ok d⟩⟩
     . rw [XL (by omega)]at C;have P:j-f.length=0:=(by have:=(List.getElem?_eq_some_iff.1 C).1;simp at this;omega);rw [P]at C;cases C;have:j=f.length:=(by omega);subst this;rw [a];exact⟨sw.mo S.fr (fun x d H=>(l x d).2 H),fun x d=>⟨(l x d).1,(l x d).2,sw.lt O.ok d⟩⟩
    refine⟨s.1,fun x d=>⟨(s.2 x d).1,fun E=>?_⟩⟩;rcases S.key_new x E with h1|h1
    . exact(s.2 x d).2.1 h1
    . have:=(s.2 x d).2.2;omega
 refine cK (it v _ hJ W _ ?_ ⟨[],_,y,rfl,Xt _,fun i w l=>by simp at l,rfl⟩) ?_
 . exact⟨y.ok,y.fr.n,fun b z _=>y.gr.get b z,fun b z h=>by have:=(y.key_own z).elim (fun h=>h) (fun h=>h.elim);omega,fun b z=>y.key_lt z⟩
 . rintro o rc h' ⟨rfl,u,F,rfl,f,p,T,a,_,c,rfl⟩;subst Y;refine⟨_,T.get m0,XU,?_⟩;have Q: ∀i w,f[i]? =some w->az (h'.put v .dead) 1 (encI .i64) w (R i)/\ ∀c,aq w c->m<=c/\c∉keys [(B,.dfr),(t,.row [p] 1)] [(p,1,f)]:=fun i w l=>(by obtain⟨N,A⟩:=c i w l;exact⟨N.mo ((Mo.refl (M:=(· =v)) T.ok).put (.inr rfl) .dead) (fun x d e=>(A x d).2 (by rw [e];exact m0)),fun x d=>⟨(A x d).1,fun E=>(A x d).2 (Xg _ E)⟩⟩);replace T:=T.dead;have S:=T;show Run _ _ _ _ _ _ _ _;simp only [BZ,S.ld (b:=t) (o:=0) m1 rfl,seval];refine dq (ij [B] _ (L:=[(t,_)]) T.base fun h3 U=>⟨rfl,_,rfl,?_⟩);refine⟨(T.fr.trans U.fr (fun c hc=>(T.key_own hc).symm):Mo NoM h0 h3).gr,f,?_,a,fun x d=>?_,fun i w l=>⟨(Q i w l).1.mo U.fr (fun x d H=>((Q i w l).2 x d).2 H),fun x d=>((Q i w l).2 x d).1⟩⟩
   . exact(U.gown _ m0).1.sl (Al f).symm tH (by decide)
   . exact zO E (((T.gblk m0 d).1).elim (fun h=>h) (fun h=>h.elim))
theorem xN(a:OZ h0){g:FuncId}{post:Array Value}(b:IterP zM g post.toList h0 D n (PRow m R))(c:m<=h0.n)(d:n<1000):
 Ret zM 82 [.func (.func g) #[] post] h0 fun r h'=>Gr h0 h'/\fG h' m r n R:=by
 have S:=Si a;refine aa (n:=5) (rs:=[.tmp 2]) rfl Tryz.e82 rfl rfl rfl (lbt rfl) ?_;simp only [BZ,seval];refine step_ret (Bq S.ok b c d) ?_;intro v h ⟨g,L⟩;replace S:=S.call g;clear g;simp only [BZ,ab,seval];exact⟨S.gr,L⟩
noncomputable def toR(a:Gra)(l:List Int)(i:Nat):List Int:=rowD (seen a.arcs Arc.t Arc.s) a.nodes (l.getD i 0).toNat
noncomputable def frR(a:Gra)(l:List Int)(i:Nat):List Int:=rowD (seen a.arcs Arc.s Arc.t) a.nodes (l.getD i 0).toNat
theorem tabOf_ok(z:OZ h0){k:Gra}(q:Good k){F:Value}{G:Nat}(t:aS h0 G pn k)(o:az h0 1 (encI .i64) F l)(f:l.length<1000):
 Ret zM 33 [pn,F] h0 fun r h'=>Gr h0 h'/\((¬iS k.nodes l/\r=.pointer none)\/(iS k.nodes l/\TabAt h' h0.n r k.nodes l (toR k l) (frR k l))):=by
 have S:=Si z;obtain⟨L,rfl⟩: ∃b,pn=ptrTo b:=by obtain⟨b,_,_,_,_,_,e,_⟩:=t.ex;exact⟨b,e⟩
 refine aa (n:=28) (rs:=[.tmp 4]) rfl Tryz.e33 rfl rfl rfl (lbt rfl) ?_;simp only [BZ,seval];refine ag (bM S.ok (t.gr S.gr)) ?_;intro h g;replace S:=S.call g;clear g;simp only [BZ,seval];refine ag (may_ok S.ok (o.gr S.gr) (by omega)) ?_;intro h g;replace S:=S.call g;clear g;by_cases j:iS k.nodes l
 . have A:decide (iS k.nodes l)=true:=decide_eq_true j;simp only [BZ,A,seval];refine ag (bM S.ok (t.gr S.gr)) ?_;intro h g;replace S:=S.call g;clear g;simp only [BZ,seval];have H:=S.fr.n;refine step_ret (jE S.ok (bO .i64) (o.gr S.gr) (by omega)) ?_;intro v h ⟨g,d,hM⟩;replace S:=S.call g;clear g;rename Value=>vM;obtain⟨M,N,O,rfl⟩:=d.form;simp only [BZ,seval];refine step_ret (rows_ok S.ok bD o.fl dY) ?_;intro v h ⟨g,b1,b2,b3,e,q1,q2,q3,y1,y2,y3⟩;replace S:=S.call g;replace d:=d.gr g;clear g;subst e;simp only [BZ,seval];have y:=rows_it z S.ok S.gr.keep S.fr.n t (o.gr S.gr) (fun i u=>⟨(j.2 i u).1,(j.2 i u).2.1⟩) f (runTo q) (m:=h0.n) S.fr.n y1 y2 y3;refine step_ret (xN S.ok y S.fr.n f) ?_;intro v h ⟨g,p⟩;replace S:=S.call g;replace d:=d.gr g;clear g;rename Value=>vT;obtain⟨P,Q,R,rfl⟩: ∃a n c,vT=.slice a n c:=(by obtain⟨_,s,_⟩:=p;exact s.form);clear y y1 y2 y3 q1 q2 q3;simp only [BZ,seval];refine step_ret (rows_ok S.ok bD o.fl dY) ?_;intro v h ⟨g,b1,b2,b3,e,q1,q2,q3,y1,y2,y3⟩;replace S:=S.call g;replace d:=d.gr g;replace p:=p.gr g;clear g;subst e;simp only [BZ,seval];have y:=rows_it z S.ok S.gr.keep S.fr.n t (o.gr S.gr) (fun i u=>⟨(j.2 i u).1,(j.2 i u).2.1⟩) f (runFrom q) (m:=h0.n) S.fr.n y1 y2 y3;refine step_ret (xN S.ok y S.fr.n f) ?_;intro v h ⟨g,L2⟩;replace S:=S.call g;replace d:=d.gr g;replace p:=p.gr g;clear g;rename Value=>vF;obtain⟨T,U,V,rfl⟩: ∃a n c,vF=.slice a n c:=(by obtain⟨_,s,_⟩:=L2;exact s.form);simp only [BZ,seval];have I:=S;replace S:=S.base;refine ac (aV (by intro x e;cases e)) S ?_;clear S;intro h b S J;simp only [ae]at S;simp only [BZ,ab,seval];have B:=S.fr;have w:=d.mo B (fun c _ j=>by cases j);have C:=p.mo B (fun c j=>by cases j);have D:=L2.mo B (fun c j=>by cases j);have E:=S.row (b:=b) m0;replace S:=I.rebase S;exact⟨S.gr,.inr ⟨j,⟨b,_,_,_,rfl,E,w,C,D,(S.own _ m0).1.elim (fun h=>h) (fun h=>h.elim),fun c K=>zO H (hM c K)⟩⟩⟩
 . have A:decide (iS k.nodes l)=false:=decide_eq_false j;simp only [BZ,ab,A,seval];exact⟨S.gr,.inl j⟩
theorem lj(a:OZ h0)(t:TabAt h0 m p N l R Q):aO zM 40 [p] h0 (.int .i64 N):=by have S:=Si a;obtain⟨b,e,f,g,rfl,c,_⟩:=t.ex;have d:=c.load1 (o:=0) rfl;refine aa (n:=9) (rs:=[.tmp 2]) rfl Tryz.e40 rfl rfl rfl (lbt rfl) ?_;simp only [BZ,ab,d,seval];exact S.gr
theorem jF(d:OZ h0)(t:TabAt h0 m p N l R Q)(a:l.length<1000):Ret zM 41 [p] h0 fun r h'=>Gr h0 h'/\az h' 1 (encI .i64) r l/\ ∀c,aq r c->h0.n<=c:=by have S:=Si d;obtain⟨b,j,k,q,rfl,e,f,_⟩:=t.ex;have i:=e.load1 (o:=1) rfl;refine aa (n:=10) (rs:=[.tmp 2]) rfl Tryz.e41 rfl rfl rfl (lbt rfl) ?_;simp only [BZ,i,seval];refine step_ret (jE S.ok (bO .i64) f (by omega)) ?_;intro v h ⟨g,sl,hc⟩;replace S:=S.call g;clear g;simp only [BZ,ab,seval];exact⟨S.gr,sl,hc⟩
def jJ(N n:Nat)(R:Nat->List Int)(i v:Int):Int:=if 0<=i/\i<n/\0<=v/\v<N then(R i.toNat).getD v.toNat 0 else 72057594037927936
theorem tos_ok(a:OZ h0)(t:TabAt h0 m p N l R Q):Ret zM 245 [p] h0 fun r h'=>Gr h0 h'/\fG h' m r l.length R:=by have S:=Si a;obtain⟨b,e,f,g,rfl,c,_,L,_⟩:=t.ex;have d:=c.load1 (o:=2) rfl;refine aa (n:=7) (rs:=[.tmp 2]) rfl Tryz.e245 rfl rfl rfl (lbt rfl) ?_;simp only [BZ,ab,d,seval];exact⟨S.gr,L⟩
theorem froms_ok(a:OZ h0)(t:TabAt h0 m p N l R Q):Ret zM 246 [p] h0 fun r h'=>Gr h0 h'/\fG h' m r l.length Q:=by have S:=Si a;obtain⟨b,e,f,g,rfl,c,_,_,L,_⟩:=t.ex;have d:=c.load1 (o:=3) rfl;refine aa (n:=7) (rs:=[.tmp 2]) rfl Tryz.e246 rfl rfl rfl (lbt rfl) ?_;simp only [BZ,ab,d,seval];exact⟨S.gr,L⟩
theorem Cj(y:OZ h0){W:Nat->List Int}(t:TabAt h0 m p N l R Q){g:FuncId}(z: ∀h,Gr h0 h->Ret zM g [p] h fun r h'=>Gr h h'/\fG h' m r l.length W)(A: ∀i,i<l.length->(W i).length=N){i v:Int}:
 aO zM 244 [p,.func (.func g) #[p] #[],.int .i64 i,.int .i64 v] h0 (.int .i64 (jJ N l.length W i v)):=by
 have S:=Si y;obtain⟨b,H,I,J,rfl,s,e,_⟩:=t.ex;have u:=s.load1 (o:=0) rfl;have f:=s.load1 (o:=1) rfl;unfold jJ;refine aa (n:=44) (rs:=[.tmp 8]) rfl Tryz.e244 rfl rfl rfl (lbt rfl) ?_;by_cases a:i<0
 . rw [if_neg (by omega)];simp only [BZ,ab,a,seval];exact S.gr
 . by_cases j:(l.length:Int)<=i
   . rw [if_neg (by omega)];simp only [BZ,ab,f,a,j,e.lenq,seval];exact S.gr
   . by_cases q:v<0
     . rw [if_neg (by omega)];simp only [BZ,ab,f,a,j,q,e.lenq,seval];exact S.gr
     . by_cases x:(N:Int)<=v
       . rw [if_neg (by omega)];simp only [BZ,ab,u,f,a,j,q,x,e.lenq,seval];exact S.gr
       . rw [if_pos (by omega)];obtain⟨d,rfl⟩:=XT (show 0<=i by omega);obtain⟨k,rfl⟩:=XT (show 0<=v by omega);simp only [BZ,u,f,a,j,q,x,e.lenq,seval];refine step_ret (z _ S.gr) ?_;intro v h ⟨g,L⟩;replace S:=S.call g;clear g;obtain⟨w,⟨c,o,B,C⟩,sw,_⟩:=L.row (i:=d) (by omega);have D:=A d (by omega);obtain⟨K,M,E,F⟩:=sw.ix (kd:=.i64) (bO .i64) (i:=k) (by omega);have G:(W d).getD k 0=(W d)[k]:=(by simp [Xc,show k<(W d).length by omega]);simp only [BZ,ab,B,C,E,F,encI,Xr,G,seval];exact S.gr
theorem Bj(a:OZ h0)(t:TabAt h0 m p N l R Q)(b: ∀i,i<l.length->(R i).length=N){i v:Int}:aO zM 191 [p,.int .i64 i,.int .i64 v] h0 (.int .i64 (jJ N l.length R i v)):=by have S:=Si a;refine aa (n:=13) (rs:=[.tmp 6]) rfl Tryz.e191 rfl rfl rfl (lbt rfl) ?_;simp only [BZ,seval];refine ag (Cj S.ok t (fun h g=>tos_ok g.ok (t.gr g)) b) ?_;intro h g;replace S:=S.call g;clear g;simp only [BZ,ab,seval];exact S.gr
theorem yI(a:OZ h0)(t:TabAt h0 m p N l R Q)(b: ∀i,i<l.length->(Q i).length=N){i v:Int}:aO zM 193 [p,.int .i64 i,.int .i64 v] h0 (.int .i64 (jJ N l.length Q i v)):=by have S:=Si a;refine aa (n:=13) (rs:=[.tmp 6]) rfl Tryz.e193 rfl rfl rfl (lbt rfl) ?_;simp only [BZ,seval];refine ag (Cj S.ok t (fun h g=>froms_ok g.ok (t.gr g)) b) ?_;intro h g;replace S:=S.call g;clear g;simp only [BZ,ab,seval];exact S.gr
def lowD(v t:Int):Int:=if wy t<72057594037927936 then(if wy v<72057594037927936 then wy (wy v-wy t)else 72057594037927936)else 0
theorem low_ok(i:OZ h0){v:Int}:aO zM 192 [.int .i64 v,.int .i64 t] h0 (.int .i64 (lowD v t)):=by
 have S:=Si i;have a:=s9 v;have b:=s9 t;have c:wy (wy v)=wy v:=wy_id a.1 a.2;have d:wy (wy t)=wy t:=wy_id b.1 b.2;have w:an .i64 (wy v-wy t)=wy v-wy t:=by rw [wrap64]<;>omega
 refine aa (n:=21) (rs:=[.tmp 4]) rfl Tryz.e192 rfl rfl rfl (lbt rfl) ?_;simp only [BZ,seval];refine ag (mW S.ok) ?_;intro h g;replace S:=S.call g;clear g;simp only [BZ,seval];refine ag (mW S.ok) ?_;intro h g;replace S:=S.call g;clear g;simp only [BZ,seval];refine ag (nZ S.ok) ?_;intro h g;replace S:=S.call g;clear g;unfold lowD;by_cases e:wy t<72057594037927936
 . simp only [BZ,d,e,seval];refine ag (nZ S.ok) ?_;intro h g;replace S:=S.call g;clear g;by_cases f:wy v<72057594037927936
   . simp only [BZ,c,f,w,seval];refine ag (mW S.ok) ?_;intro h g;replace S:=S.call g;clear g;simp only [BZ,ab,seval];exact S.gr
   . simp only [BZ,ab,c,f,seval];exact S.gr
 . simp only [BZ,ab,d,e,seval];exact S.gr
theorem lift_ok(a:OZ h0){v:Int}:aO zM 194 [.int .i64 v,.int .i64 t] h0 (.int .i64 (lowD t v)):=by have S:=Si a;refine aa (n:=8) (rs:=[.tmp 4]) rfl Tryz.e194 rfl rfl rfl (lbt rfl) ?_;simp only [BZ,seval];refine ag (low_ok S.ok) ?_;intro h g;replace S:=S.call g;clear g;simp only [BZ,ab,seval];exact S.gr
theorem iG(a:OZ h0)(t:TabAt h0 m p N l R Q){v:Int}:aO zM 118 [p,.int .i64 v] h0 (.bool (decide (0<=v/\v<N))):=by
 have S:=Si a;refine aa (n:=13) (rs:=[.tmp 4]) rfl Tryz.e118 rfl rfl rfl (lbt rfl) ?_;by_cases c:0<=v
 . simp only [BZ,c,seval];refine ag (lj S.ok (t.gr S.gr)) ?_;intro h g;replace S:=S.call g;clear g;simp only [BZ,ab,seval];exact S.gr
 . simp only [BZ,ab,c,seval];exact⟨by simp,S.gr⟩
theorem wayTo_ok(b:OZ h0)(t:TabAt h0 m p N l R Q)(a: ∀i,i<l.length->(R i).length=N){i v:Int}:
 aO zM 190 [.func (.func 191) #[p] #[],.func (.func 192) #[] #[],.int .i64 i,.int .i64 v,.int .i64 w] h0 (.int .i64 (lowD (jJ N l.length R i v) (jJ N l.length R i w))):=by
 have S:=Si b;refine aa (n:=21) (rs:=[.tmp 10]) rfl Tryz.e190 rfl rfl rfl (lbt rfl) ?_;simp only [BZ,seval];refine ag (Bj S.ok (t.gr S.gr) a) ?_;intro h g;replace S:=S.call g;clear g;simp only [BZ,seval];refine ag (Bj S.ok (t.gr S.gr) a) ?_;intro h g;replace S:=S.call g;clear g;simp only [BZ,seval];refine ag (low_ok S.ok) ?_;intro h g;replace S:=S.call g;clear g;simp only [BZ,ab,seval];exact S.gr
theorem wayFr_ok(b:OZ h0)(t:TabAt h0 m p N l R Q)(a: ∀i,i<l.length->(Q i).length=N){i v:Int}:
 aO zM 190 [.func (.func 193) #[p] #[],.func (.func 194) #[] #[],.int .i64 i,.int .i64 v,.int .i64 w] h0 (.int .i64 (lowD (jJ N l.length Q i w) (jJ N l.length Q i v))):=by
 have S:=Si b;refine aa (n:=21) (rs:=[.tmp 10]) rfl Tryz.e190 rfl rfl rfl (lbt rfl) ?_;simp only [BZ,seval];refine ag (yI S.ok (t.gr S.gr) a) ?_;intro h g;replace S:=S.call g;clear g;simp only [BZ,seval];refine ag (yI S.ok (t.gr S.gr) a) ?_;intro h g;replace S:=S.call g;clear g;simp only [BZ,seval];refine ag (lift_ok S.ok) ?_;intro h g;replace S:=S.call g;clear g;simp only [BZ,ab,seval];exact S.gr
def pZ(N n:Nat)(R Q:Nat->List Int)(i v w:Int):Int:=if(0<=v/\v<N)/\(0<=w/\w<N)/\0<=i/\i<n then max (lowD (jJ N n R i v) (jJ N n R i w)) (lowD (jJ N n Q i w) (jJ N n Q i v))else 0
theorem y8(f:OZ h0)(t:TabAt h0 m p N l R Q)(j: ∀i,i<l.length->(R i).length=N)(k: ∀i,i<l.length->(Q i).length=N)(d:l.length<1000){i v:Int}:
 aO zM 112 [p,.int .i64 i,.int .i64 v,.int .i64 w] h0 (.int .i64 (pZ N l.length R Q i v w)):=by
 have S:=Si f;by_cases a:0<=v/\v<N
 . by_cases b:0<=w/\w<N
   . by_cases c:i<0
     . rw [show pZ N l.length R Q i v w=0 from if_neg (by omega)];refine aa (n:=43) (rs:=[.tmp 8]) rfl XW rfl rfl rfl (lbt rfl) ?_;simp only [BZ,seval];refine ag (iG S.ok (t.gr S.gr)) ?_;intro h g;replace S:=S.call g;clear g;simp only [BZ,a,seval];refine ag (iG S.ok (t.gr S.gr)) ?_;intro h g;replace S:=S.call g;clear g;simp only [BZ,ab,b,c,seval];exact S.gr
     . by_cases e:(l.length:Int)<=i
       . rw [show pZ N l.length R Q i v w=0 from if_neg (by omega)];refine aa (n:=43) (rs:=[.tmp 8]) rfl XW rfl rfl rfl (lbt rfl) ?_;simp only [BZ,seval];refine ag (iG S.ok (t.gr S.gr)) ?_;intro h g;replace S:=S.call g;clear g;simp only [BZ,a,seval];refine ag (iG S.ok (t.gr S.gr)) ?_;intro h g;replace S:=S.call g;clear g;simp only [BZ,b,c,seval];refine step_ret (jF S.ok (t.gr S.gr) d) ?_;intro v h ⟨g,slM,_⟩;replace S:=S.call g;clear g;simp only [BZ,ab,e,slM.lenq,seval];exact S.gr
       . rw [show pZ N l.length R Q i v w=max (lowD (jJ N l.length R i v) (jJ N l.length R i w)) (lowD (jJ N l.length Q i w) (jJ N l.length Q i v))from if_pos ⟨a,b,by omega,by omega⟩];refine aa (n:=43) (rs:=[.tmp 8]) rfl XW rfl rfl rfl (lbt rfl) ?_;simp only [BZ,seval];refine ag (iG S.ok (t.gr S.gr)) ?_;intro h g;replace S:=S.call g;clear g;simp only [BZ,a,seval];refine ag (iG S.ok (t.gr S.gr)) ?_;intro h g;replace S:=S.call g;clear g;simp only [BZ,b,c,seval];refine step_ret (jF S.ok (t.gr S.gr) d) ?_;intro v h ⟨g,slM,_⟩;replace S:=S.call g;clear g;simp only [BZ,e,slM.lenq,seval];refine ag (wayTo_ok S.ok (t.gr S.gr) j) ?_;intro h g;replace S:=S.call g;clear g;simp only [BZ,seval];refine ag (wayFr_ok S.ok (t.gr S.gr) k) ?_;intro h g;replace S:=S.call g;clear g;simp only [BZ,ab,seval];exact S.gr
   . rw [show pZ N l.length R Q i v w=0 from if_neg (fun h=>b h.2.1)];refine aa (n:=43) (rs:=[.tmp 8]) rfl XW rfl rfl rfl (lbt rfl) ?_;simp only [BZ,seval];refine ag (iG S.ok (t.gr S.gr)) ?_;intro h g;replace S:=S.call g;clear g;simp only [BZ,a,seval];refine ag (iG S.ok (t.gr S.gr)) ?_;intro h g;replace S:=S.call g;clear g;simp only [BZ,ab,b,seval];exact S.gr
 . rw [show pZ N l.length R Q i v w=0 from if_neg (fun h=>a h.1)];refine aa (n:=43) (rs:=[.tmp 8]) rfl XW rfl rfl rfl (lbt rfl) ?_;simp only [BZ,seval];refine ag (iG S.ok (t.gr S.gr)) ?_;intro h g;replace S:=S.call g;clear g;simp only [BZ,ab,a,seval];exact S.gr
def iB(N n:Nat)(R Q:Nat->List Int)(v w:Int)(l:List Int):Int:=l.foldl (fun b i=>max b (pZ N n R Q i v w)) 0
theorem xe(q:OZ h0)(t:TabAt h0 m p N l R Q)(r: ∀i,i<l.length->(R i).length=N)(s: ∀i,i<l.length->(Q i).length=N)(u:l.length<1000){e:Value}{a:List Int}(j:az h0 1 (encI .i64) e a)(x:a.length<1000){v:Int}:
 aO zM 121 [p,e,.int .i64 v,.int .i64 w] h0 (.int .i64 (iB N l.length R Q v w a)):=by
 have S:=Si q;refine aa (n:=26) (rs:=[.tmp 8]) rfl Tryz.e121 rfl rfl rfl (lbt rfl) ?_;simp only [BZ,j.lenq,seval];refine aW (fun(k:Nat) b h=>k<=a.length/\Gr h0 h/\b 0=p/\b 2=.int .i64 v/\b 3=.int .i64 w/\b 8=.int .i64 (iB N l.length R Q v w (a.take k))/\b 11=e/\b 12=.int .i64 a.length/\b 13=.int .i64 k) (fun k=>a.length-k) ?_ 0 _ _ ?_
 . clear S;intro k y b h ⟨hk,g0,r0,r2,r3,r8,r11,r12,r13⟩;have z:an .i64 ((k:Int)+1)=((k+1:Nat):Int):=(by rw [wrap64]<;>omega);by_cases hlt:k<a.length
   . obtain⟨c,o,d,f⟩:=(j.gr g0).ix (kd:=.i64) (bO .i64) hlt;simp only [BZ,r0,r2,r3,r8,r11,r12,r13,aF,hlt,d,f,encI,seval];refine ag (y8 g0.ok (t.gr g0) r s u) ?_;intro h g;simp only [BZ,r13,z,seval];refine y (k+1) _ _ (by omega) ⟨by omega,g0.trans g,by simp [aB,r0],by simp [aB,r2],by simp [aB,r3],?_,by simp [aB,r11,r12]⟩;rw [Xd hlt];unfold iB;rw [List.foldl_append];simp [aB]
   . simp only [BZ,ab,r8,r12,r13,aF,hlt,seval];rw [Xh (by omega)];exact⟨rfl,g0⟩
 . exact⟨Xt _,S.gr,by simp [aB,cG,dr,iB]⟩
def keyB(N n:Nat)(R Q:Nat->List Int)(s w:Int)(i:Nat):Int:=pZ N n R Q i s w
def ii(N n:Nat)(R Q:Nat->List Int)(s w a:Int):List Nat:=(j8 (keyB N n R Q s w) (n-1) (Xa n)).take (min (max a 1).toNat n)
theorem DI(t:TabAt hq m p N l R Q)(f: ∀i,i<l.length->(R i).length=N)(k: ∀i,i<l.length->(Q i).length=N)(o:l.length<1000){s:Int}{b4 b6:Nat}(c:hq.load b4 0 1=some [p])(d:hq.load b5 0 1=some [.int .i64 s])(e:hq.load b6 0 1=some [.int .i64 w]):
 CmpF zM hq 110 [ptrTo b4,ptrTo b5,ptrTo b6] l.length (keyB N l.length R Q s w):=by
 intro h g i j C D;have E:Fl p:=by obtain⟨b,_,_,_,rfl,_⟩:=t.ex;exact bD
 have S:=Si g.ok;have r:=bA g.ok (g.load c);have u:=bA g.ok (g.load d);have v:=bA g.ok (g.load e);refine aa (n:=19) (rs:=[.tmp 7]) rfl Tryz.e110 rfl rfl rfl (lbt rfl) ?_;simp only [BZ];refine ao (av rfl) (q:=0) (ps:=[(4,8),(4,7),(4,5)]) (by kernel_rfl) ?_;simp only [BZ,cls,g.load c,g.load d,g.load e,seval];refine bz (y8 S.ok ((t.gr g).gr S.gr) f k o) ?_;intro F a;have x:=am a r;have y:=am a u;have z:=am a v;replace S:=S.call a;simp only [BZ,cls,a.load (g.load c),a.load (g.load d),a.load (g.load e),seval];refine bz (y8 S.ok ((t.gr g).gr S.gr) f k o) ?_;intro G A;replace S:=S.call A;simp only [BZ,cls,seval];refine bz (Bh S.ok) ?_;intro H B;replace S:=S.call B;simp only [BZ,cls,ab,seval];refine⟨by simp only [aJ,aR,aH,aT,aI,ne_eq,not_false_eq_true,aY,bC,aQ,aN,bF,bW,aD,Xn,ah,dh,au x,au y,au z,seval],?_⟩;exact⟨rfl,S.gr⟩
theorem insNil_ok(a:OZ h0):aO zM 269 [.slice none 0 0,.int .i64 0,.int .i64 0,v] h0 (.tuple #[]):=by
 have S:=Si a;have b:an .i64 1=1:=rfl;have c: ¬(1:Int)<0:=by decide
 refine aa (n:=53) (rs:=[]) rfl Tryz.e269 rfl rfl rfl (lbt rfl) ?_;simp only [BZ,b,seval];rw [cD];simp only [BZ,ab,c,seval];exact S.gr
theorem Dc(c:OZ h0){g:FuncId}{post:Array Value}:aO zM 109 [.slice none 0 0,.int .i64 (m:Nat),.func (.func g) #[] post] h0 (.slice none 0 0):=by
 have S:=Si c;have d:aO zM 81 [.slice none 0 0] h0 (.slice none 0 0):=by refine aa (n:=8) (rs:=[.tmp 2]) rfl Tryz.e81 rfl rfl rfl (lbt rfl) ?_;simp only [BZ,ab,seval];exact S.gr
 have e:min (m:Int) 0=0:=by omega
 have f: ¬(20:Int)<=0:=by decide
 have i: ¬(20:Int)<0:=by decide
 have j: ∀{h:Hp},OZ h->aO zM 188 [.slice none 0 0,.func (.func g) #[] post] h (.tuple #[]):=fun {h} a=>by
  have S:=Si a;have k:aO zM 243 [.slice none 0 0,.int .i64 0,.func (.func g) #[] post] h (.tuple #[]):=by refine aa (n:=63) (rs:=[]) rfl Tryz.e243 rfl rfl rfl (lbt rfl) ?_;simp only [BZ,seval];rw [cD];simp only [BZ,f,seval];refine ag (insNil_ok S.ok) ?_;intro h g;replace S:=S.call g;clear g;simp only [BZ];rw [cD];simp only [BZ,ab,i,seval];exact S.gr
  refine aa (n:=9) (rs:=[]) rfl Tryz.e188 rfl rfl rfl (lbt rfl) ?_;simp only [BZ,Xe,seval];refine ag k ?_;intro p l;replace S:=S.call l;simp only [BZ,ab];exact S.gr
 have o:ic zM 41 (.slice none 0 0) none (some (.int .i64 0)) none=some (.slice none 0 0):=by simp only [ic,Tryz.t41.1,Tryz.t3.2.2.1,gY,gL];rfl
 refine aa (n:=18) (rs:=[.tmp 6]) rfl Tryz.e109 rfl rfl rfl (lbt rfl) ?_;simp only [BZ,seval];refine ag d ?_;intro h b;replace S:=S.call b;simp only [BZ,seval];refine ag (j S.ok) ?_;intro h b;replace S:=S.call b;simp only [BZ,ab,Xe,Option.map_some,Option.map_none,e,o,seval];exact S.gr
theorem tO(J:OZ h0)(t:TabAt h0 m p N l R Q)(K: ∀i,i<l.length->(R i).length=N)(L: ∀i,i<l.length->(Q i).length=N)(Y:l.length<=16){s a:Int}:
 Ret zM 44 [p,.int .i64 s,.int .i64 w,.int .i64 a] h0 fun r h'=>Gr h0 h'/\az h' 1 bK r (ii N l.length R Q s w a)/\ ∀c,aq r c->h0.n<=c:=by
 have S:=Si J;have Z:Fl p:=by obtain⟨b,_,_,_,rfl,_⟩:=t.ex;exact bD
 obtain⟨mk,f⟩: ∃k:Nat,max a 1=(k:Int):=⟨(max a 1).toNat,by omega⟩;have q:(max a 1).toNat=mk:=by omega
 refine aa (n:=27) (rs:=[.tmp 8]) rfl Tryz.e44 rfl rfl rfl (lbt rfl) ?_;simp only [BZ,seval];refine ac (bJ (by assumption)) S ?_;clear S;intro h b4 S D;simp only [BZ,if_false,seval];refine ac (bJ (by exact aZ)) S ?_;clear S;intro h b5 S E;simp only [BZ,if_false,seval];refine ac (bJ (by exact aZ)) S ?_;clear S;intro h b6 S F;simp only [BZ,S.ld (b:=b4) (o:=0) m2 rfl,seval];have k0:=S.fr.n;refine step_ret (jF S.ok (t.gr S.gr) (by omega)) ?_;rintro r h ⟨g,M,z⟩;replace S:=S.call g;simp only [BZ,M.lenq,seval];replace S:=S.nilG (k:=1);refine aW (fun(i:Nat) d h=>i<=l.length/\ ∃u,St NoM h0 h [(b6,.row [.int .i64 w] 1),(b5,.row [.int .i64 s] 1),(b4,.row [p] 1)] [(u,1,gK (Xa i))]/\(i=0->u=.slice none 0 0)/\d 3=.int .i64 a/\d 4=ptrTo b4/\d 5=ptrTo b5/\d 6=ptrTo b6/\d 9=u/\d 13=.int .i64 (l.length:Nat)/\d 14=.int .i64 i) (fun i=>l.length-i) ?_ 0 _ _ ?_
 . clear S;intro i O d h ⟨hi,u,S,hv,r3,r4,r5,r6,r9,r13,r14⟩;have P:an .i64 ((i:Int)+1)=((i+1:Nat):Int):=(by rw [wrap64]<;>omega);by_cases hlt:i<l.length
   . simp only [BZ,r9,r13,r14,aF,hlt,seval];refine ac (ce (by exact Tryz.t41.1) (by exact XD) (by decide) (by rfl)) S ?_;clear S;intro h G S H;simp only [LC,bH,cg,ae,Xl,Xm,Xo,Xq,seval]at S;simp only [BZ,seval];have v:aK h 1 (.slice (some ⟨G,0,none⟩) 1 1)=some (1,[.int .i64 (i:Nat)]):=(by simp only [aK];rw [S.lds (b:=G) (o:=0) (n:=1*1) m0 (lbt rfl)];rfl);replace S:=S.drop1;refine dE (S.grow (j:=0) (m:=1) (new:=[.int .i64 (i:Nat)]) rfl Tryz.t41.1 XD (by decide) Tryz.t41.2.2.2.2.2 v rfl (by decide) rfl (by rw [pG];simp;omega)) ?_;clear S v;rintro h A S;simp only [LC]at S;have e:gK (Xa i)++[.int .i64 (i:Nat)]=gK (Xa (i+1)):=(by unfold gK;rw [XX,List.map_append];rfl);rw [e]at S;simp only [BZ,r14,P,seval];exact O (i+1) _ _ (by omega) ⟨by omega,A,S,fun h=>(by omega),by simp [aB,r3,r4,ah,r5,r6,r13]⟩
   . have T:i=l.length:=(by omega);subst T;simp only [BZ,r3,r4,r5,r6,r9,r13,r14,aF,hlt,seval];by_cases B:l.length=0
     . have U:=hv B;subst U;have I:=S.fr.n;rw [f];refine ag (Dc S.ok) ?_;intro h' g;replace S:=S.call g;simp only [BZ,ab,seval];refine⟨S.gr,.inl ⟨rfl,?_⟩,fun c z=>z.elim⟩;unfold ii;rw [B];simp
     . have V:az h 1 bK u (Xa l.length):=(S.gown _ m0).1.sl (u9 _).symm dC (by decide);have I:=S.fr.n;have W:=DI (t.gr S.gr) K L (by omega) (s:=s) (w:=w) (b4:=b4) (b5:=b5) (b6:=b6) (S.ld m2 rfl) (S.ld m1 rfl) (S.ld m0 rfl);rw [f];refine step_ret (first_ok (N:=l.length) (m:=mk) (Gr.refl S.ok) V (by intro e;have:=congrArg List.length e;rw [Xk]at this;exact B this) (by simp;omega) (fun x X=>List.mem_range.1 X) W (by omega)) ?_;rintro r h' ⟨g,y,C⟩;replace S:=S.call g;simp only [BZ,ab,seval];rw [Xk]at y;exact⟨S.gr,by unfold ii;rw [q];exact y,fun c z=>zO I (C c z)⟩
 . exact⟨Xt _,_,S,fun _=>rfl,by simp [aB,dh,ah]⟩
theorem sa{x:Option Tch}:jt none x=true:=by cases x<;>rfl
structure TabO(E:Env)(h0:Hp)(pt:Value)(nd mk:Nat)(gM gN:FuncId):Prop where
 fl:Fl pt
 marks: ∀h,Gr h0 h->Ret E gM [pt] h fun r h'=>Gr h h'/\ ∃l:List Int,az h' 1 (encI .i64) r l/\l.length=mk
 nodes: ∀h,Gr h0 h->aO E gN [pt] h (.int .i64 (nd:Nat))
def lW(N a mk:Nat)(f t:Int):Int:=if¬(0<=f/\f<N)then 17 else if¬(0<=t/\t<N)then 18 else if 0<mk/\a=N then 0 else 19
theorem fG.keep{h h':Hp}{m n:Nat}{v:Value}{R:Nat->List Int}(e:OZ h)(g:eZ h h')(r:fG h m v n R):fG h' m v n R:=by obtain⟨j,a,b,c,d⟩:=r;exact⟨j,a.keep e g,b,c,fun i w f=>⟨(d i w f).1.keep e g,(d i w f).2⟩⟩
theorem TabAt.keep{h h':Hp}{m N:Nat}{p:Value}{l:List Int}{R Q:Nat->List Int}(a:OZ h)(g:eZ h h')(t:TabAt h m p N l R Q):TabAt h' m p N l R Q:=by obtain⟨b,c,d,f,e,i,j,k,n,o,q⟩:=t.ex;exact⟨b,c,d,f,e,g.row a i,j.keep a g,k.keep a g,n.keep a g,o,q⟩
theorem Bg(e:OZ h0){c d:Value}(f:Fl c)(g:Fl d):Ret zM 119 [c,d] h0 fun v h'=>Gr h0 h'/\ ∃b1 b2,v=.func (.func 203) #[] #[ptrTo b1,ptrTo b2]/\h0.n<=b1/\h0.n<=b2/\h'.load b1 0 1=some [c]/\h'.load b2 0 1=some [d]:=by have S:=Si e;refine aa (n:=6) (rs:=[.tmp 4]) rfl Tryz.e119 rfl rfl rfl (lbt rfl) ?_;simp only [BZ,seval];refine ac (bJ (by assumption)) S ?_;clear S;intro h b1 S a;simp only [BZ,if_false,seval];refine ac (bJ (by assumption)) S ?_;clear S;intro h b2 S b;simp only [BZ,ab,seval];exact⟨S.gr,b1,b2,rfl,a,b,S.ld m1 rfl,S.ld m0 rfl⟩
def TellF(E:Env)(hq:Hp)(g:FuncId)(post:List Value)(N:Nat)(f:Nat->Int):Prop:= ∀h,OZ h->eZ hq h-> ∀v,v<N->aO E g ([.int .i64 (v:Nat)]++post) h (.int .i64 (f v))
theorem B9(k:OZ hq)(e:OZ h0)(u:eZ hq h0)(x:hq.n<=h0.n){o:Value}(t:TabAt hq m o N l R Q)(O:N<=1000){post:Array Value}{f:Nat->Int}(hf:TellF zM hq g post.toList N f)
 (C:h0.load b1 0 1=some [o]) (D:h0.load b2 0 1=some [.func (.func g) #[] post]):
 mJ zM 203 [] [ptrTo b1,ptrTo b2] h0 (fun c=>c=b1\/c=b2\/c<hq.n) ((Xa N).map fun(v:Nat)=>[.int .i64 (f v)]):=by
 intro E J Z G Y h F s j;have y:=s.load e C (.inl rfl);have P:Fl o:=by obtain⟨b,_,_,_,rfl,_⟩:=t.ex;exact bD
 refine enter (n:=17) (rs:=[]) rfl Tryz.e203 rfl rfl rfl (lbt rfl) ?_;simp only [BZ,y,seval];refine ag (lj s.ok (t.keep k (s.keep u x (fun c p=>.inr (.inr p))))) ?_;intro S q;have z:=s.gr q;have A:=Y.gr _ _ _ _ j q;simp only [BZ];refine aW (fun(i:Nat) d h=>i<=N/\ ∃F,ItS h0 (fun c=>c=b1\/c=b2\/c<hq.n) h F/\J i h F/\d 0=.func (.yield E) #[] #[]/\d 1=ptrTo b1/\d 2=ptrTo b2/\d 6=.int .i64 (N:Nat)/\d 7=.int .i64 i) (fun i=>N-i) ?_ 0 _ _ ?_
 . clear y s j z A F q h;intro i H d h ⟨hi,F,s,j,r0,r1,r2,r6,r7⟩;have w:an .i64 ((i:Int)+1)=((i+1:Nat):Int):=(by rw [wrap64]<;>omega);by_cases hlt:i<N
   . have I:=s.load e D (.inr (.inl rfl));have K:((Xa N).map fun(v:Nat)=>[Value.int .i64 (f v)])[i]? =some [.int .i64 (f i)]:=(by rw [XN,List.getElem?_range hlt];rfl);simp only [BZ,r0,r2,r6,r7,aF,hlt,I,seval];refine ag (hf _ s.ok (s.keep u x (fun c p=>.inr (.inr p))) i hlt) ?_;intro T B;simp only [BZ,seval];refine dg Y (s.gr B) (Y.gr _ _ _ _ j B) (i:=i) K ?_ ?_ ?_
     . intro r L a M _ _;simp only [BZ,r7,w,seval];exact H (i+1) _ _ (by omega) ⟨by omega,L,M,a,by simp [aB,r0,r1,ah,r2,r6]⟩
     . intro r a _;simp only [BZ,seval];exact ie rfl ⟨rfl,.inr (.inl ⟨_,rfl,a⟩)⟩
     . intro v r a;exact absurd a (G v r)
   . simp only [BZ,r6,r7,aF,hlt,seval];have:i=N:=(by omega);subst this;exact cy (cd ⟨rfl,_,rfl,rfl,.inl ⟨_,F,rfl,by simpa using j⟩⟩)
 . exact⟨Xt _,F,z,A,by simp [aB,dh,ah]⟩
theorem pi1_ok(a:OZ hq)(t:TabAt hq m p N l R Q)(g: ∀i,i<l.length->(R i).length=N)(j: ∀i,i<l.length->(Q i).length=N)(o:l.length<1000){e:Value}{c:List Int}(f:az hq 1 (encI .i64) e c)(d:c.length<1000){b3 b4:Nat}(q:hq.load b3 0 1=some [p])(r:hq.load b4 0 1=some [e])(s:hq.load b5 0 1=some [.int .i64 w]):
 TellF zM hq 120 [ptrTo b3,ptrTo b4,ptrTo b5] N (fun v=>iB N l.length R Q v w c):=by
 intro h u k v y;have z:Fl p:=by obtain⟨b,_,_,_,rfl,_⟩:=t.ex;exact bD
 have A:=f.fl;have S:=Si u;refine aa (n:=11) (rs:=[.tmp 5]) rfl Tryz.e120 rfl rfl rfl (lbt rfl) ?_;simp only [BZ,k.load a q,k.load a r,k.load a s,seval];refine ag (xe S.ok (t.keep a k) g j o (f.keep a k) d) ?_;intro B x;replace S:=S.call x;simp only [BZ,ab,seval];exact S.gr
theorem bPi_ok(ok:OZ h0)(t:TabAt h0 m p N l R Q)(Y: ∀i,i<l.length->(R i).length=N)(hQ: ∀i,i<l.length->(Q i).length=N)(hl:l.length<1000)(hN:N<=1000){Z:Value}{f:List Int}(ha:az h0 1 (encI .i64) Z f)(H:f.length<1000){w:Nat}(hw:w<N):
 Ret zM 46 [p,Z,.int .i64 (w:Nat)] h0 fun r h'=>Gr h0 h'/\az h' 1 (encI .i64) r ((Xa N).map fun(v:Nat)=>iB N l.length R Q v w f)/\ ∀c,aq r c->h0.n<=c:=by
 have fp:Fl p:=by obtain⟨b,_,_,_,rfl,_⟩:=t.ex;exact bD
 have fa:=ha.fl;have S:=Si ok;have c0:0<=(w:Int)/\(w:Int)<(N:Int):=by omega
 refine aa (n:=21) (rs:=[.cell 6 23]) rfl Tryz.e46 rfl rfl rfl (lbt rfl) ?_;simp only [BZ,seval];refine ac (bJ (by assumption)) S ?_;clear S;intro h b3 S ad;simp only [BZ,if_false,seval];refine ac (bJ (by assumption)) S ?_;clear S;intro h b4 S af;simp only [BZ,if_false,seval];refine ac (bJ (by exact aZ)) S ?_;clear S;intro h b5 S ai;have z:=S.gr;have I:=S.ld (b:=b3) (o:=0) m2 rfl;have l4:=S.ld (b:=b4) (o:=0) m1 rfl;have l5:=S.ld (b:=b5) (o:=0) m0 rfl;have q:=S.ok;clear S;rename Hp=>hq;have S:=Si q;simp only [BZ];refine ac aA S ?_;clear S;intro h d S ak;simp only [BZ,S.old I (fun h=>h),S.old l5 (fun h=>h),seval];refine ag (iG S.ok ((t.gr z).gr S.gr)) ?_;intro h g;replace S:=S.call g;clear g;have dc:decide (0<=(w:Int)/\(w:Int)<(N:Int))=true:=decide_eq_true c0;simp only [BZ,dc,S.old I (fun h=>h),seval];have tf:=pi1_ok q (t.gr z) Y hQ hl (ha.gr z) H I l4 l5;have ax:=(S.row (b:=d) m0).lt S.ok;refine step_ret (Bg S.ok fp dY) ?_;rintro r h ⟨g,J,K,rfl,n1,n2,y1,y2⟩;replace S:=S.call g;clear g;have M:=B9 q S.ok S.gr.keep S.fr.n (t.gr z) hN tf y1 y2;have kn:=S.fr.n;have kG:=z.n;have z1:=bA S.ok y1;have z2:=bA S.ok y2;rename Hp=>hE;have S1:=S;have O:=S.ok;have l6:=(S.row (b:=d) m0).lt O;simp only [BZ];replace S:=S.base;replace S:=S.nilG (k:=1);generalize A:((Xa N).map fun(v:Nat)=>iB N l.length R Q v w f)=xs;have ay:xs.length=N:=by rw [<-A];simp
 replace M:mJ zM 203 [] [ptrTo J,ptrTo K] hE (fun c=>c=J\/c=K\/c<hq.n) (xs.map fun x=>[.int .i64 x]):=by rw [<-A,XS];exact M
 refine iz S (g:=203) (a:=#[]) (b:=#[ptrTo J,ptrTo K]) (by simp [bF,aB,ah]) rfl rfl ?_;intro h2 G B s aL a0 g2;obtain⟨X,hX,s⟩: ∃X:fS,X=_/\St (· ∈[d]) hE h2 [(B,.loop X),(G,.dfr),(d,.row [.slice none 0 0] 1)] [(.slice none 0 0,1,[])]:=⟨_,rfl,s⟩;have hJ:Yld zM B (fun k h' F=> ∃(e:Value),St (· ∈[d]) hE h' [(B,.loop X),(G,.dfr),(d,.row [e] 1)] [(e,1,ints (xs.take k))]/\k<=xs.length/\F=keys [(B,.loop X),(G,.dfr),(d,.row [e] 1)] [(e,1,ints (xs.take k))]) (fun _ _=>False) (xs.map fun x=>[.int .i64 x]):=by
  refine⟨?_,?_,fun _ _ h=>h.elim,?_⟩
  . rintro i h F ⟨e,S,_,rfl⟩;exact⟨S.ok,fun b u=>S.key_lt u⟩
  . rintro i h F h' ⟨e,S,a,rfl⟩ gg;exact⟨e,S.call gg,a,rfl⟩
  . rintro i x Y F P ⟨e,S,a,rfl⟩;have C:i<xs.length:=(by have:=(List.getElem?_eq_some_iff.1 P).1;simpa using this);rw [XN,Xf C]at P;cases P;have tk:ints (xs.take (i+1))=ints (xs.take i)++[.int .i64 xs[i]]:=(by rw [List.take_add_one,Xf C];exact iE _ _);have tl:(xs.take i).length<=i:=(by rw [XE];omega);subst hX;refine iw (S.get m0) (by rw [Tryz.e46];rfl) rfl ?_;have S0:=S;replace S:=S.base;simp only [BZ,seval];refine gC S (i:=0) rfl rfl rfl rfl rfl ?_;clear S;intro h S;simp only [LC]at S;simp only [BZ,S.ld (b:=d) (o:=0) m2 rfl,seval];refine ac (ce (by exact Tryz.t23.1) (by exact X7) (by decide) (by rfl)) S ?_;clear S;intro h bs S al;simp only [LC,bH,cg,ae,Xl,Xm,Xo,Xq,seval]at S;simp only [BZ,seval];have D:aK h 1 (.slice (some ⟨bs,0,none⟩) 1 1)=some (1,[.int .i64 xs[i]]):=(by simp only [aK];rw [S.lds (b:=bs) (o:=0) (n:=1*1) m0 (lbt rfl)];rfl);replace S:=S.drop1;refine dE (S.grow (j:=0) (m:=1) (new:=[.int .i64 xs[i]]) rfl Tryz.t23.1 X7 (by decide) Tryz.t23.2.2.2.2.2 D rfl (by decide) rfl (by rw [cC];simp;omega)) ?_;clear S D;rintro h E S;simp only [LC]at S;have U:Fl E:=(S.gown _ m0).1.fl;simp only [BZ,seval];refine aC (aE S (i:=2) rfl Tryz.t23.2.2.1 U (Xb (lbt rfl)) ono) ?_;clear S;rintro h ⟨S,_⟩;simp only [LC]at S;simp only [BZ];refine dV S (i:=0) rfl ?_;clear S;intro h S;simp only [LC]at S;rw [<-tk]at S;exact .inl ⟨rfl,_,⟨E,S0.rebase S,by omega,rfl⟩,S.fr,fun c V=>(S.key_own V).symm⟩
 refine cK (M B _ _ (fun _ _ h=>h) hJ h2 _ ?_ ⟨_,s,Xt _,rfl⟩) fun o rc h' y=>jx y ?_
 . refine⟨s.ok,s.fr.n,fun b u hd=>g2.get b u,fun b u h=>?_,fun b u=>s.key_lt u⟩;rcases s.key_own u with h1|h1
   . omega
   . have:=List.mem_singleton.1 h1;omega
 . rintro F ⟨e,T,b,rfl⟩;rw [Xv,List.take_length]at T;subst hX;refine⟨_,T.get m0,XU,?_⟩;replace T:=T.dead;have S:=T;show Run _ _ _ _ _ _ _ _;simp only [BZ,S.ld (b:=d) (o:=0) m1 rfl,seval];have U:Fl e:=(T.gown _ m0).1.fl;clear S;refine aC (aE T (i:=1) rfl Tryz.t23.2.2.1 U (Xb (lbt rfl)) ono) ?_;clear T;rintro h3 ⟨T,_⟩;simp only [List.set_cons_zero,List.set_cons_succ]at T;simp only [BZ];refine dq (ij [G] _ (L:=[(d,_)]) T.base fun h4 W=>?_);refine⟨rfl,(bw (by decide) (by simp only [aD,ah,seval];exact kW Tryz.t23.2.1 (W.ld (b:=d) (o:=0) m0 rfl))).2 (bS.2 ⟨z.trans ((S1.rebase T).rebase W).gr,(W.gown _ m0).1.sl rfl (fun _=>rfl) (by decide),fun c V=>?_⟩)⟩;rcases(T.gblk m0 V).1 with h|h
   . omega
   . have:=List.mem_singleton.1 h;omega
def zS:SS:=⟨fun _=>none,fun _=>0,fun _=>[],[],[]⟩
def FdAt(h:Hp)(m:Nat)(r:Value)(b:Fd):Prop:= ∃d a,r=.agg ⟨[.int .i64 (b.dist:Nat),d,a]⟩/\ia h (d,1,b.arcs.flatMap bK)/\ia h (a,4,b.ev.flatMap iQ)/\(∀c,aq d c->m<=c/\ ¬aq a c)/\ ∀c,aq a c->m<=c
theorem ev_scanS(A:List Arc)(al:Nat->Bool)(pi:Nat->Int)(v:Nat)(σ:SS):(tg A al pi v σ).ev.length<=σ.ev.length+A.length:=by
 have: ∀(l:List Nat) (σ:SS),(l.foldl (scan1 A al pi v) σ).ev.length<=σ.ev.length+l.length:=by
  intro l
  induction l with
  |nil=>intro σ;simp|cons a l b=>intro σ;have c:=b (scan1 A al pi v σ a);have d:=BE A al pi v σ a;simp only [List.foldl_cons,List.length_cons];omega
 have c:=this (outs A Arc.s A.length v) σ;have d:=kI A Arc.s A.length v;unfold tg;omega
theorem srun_ok  (ad:OZ hq) (gq:Gr hq h0) {g:Gra} (w:Good g) {A:Nat} (hn:aS hq nb (ptrTo A) g) {B0:List Nat} {br u to:Nat} {C D:FuncId} {al:Nat->Bool} {pi:Nat->Int} (R0:iF h0 B0 br (ptrTo A) (.func (.func C) #[] #[ptrTo u]) (.func (.func D) #[] #[ptrTo u]) g.nodes zS) (af: ∀c∈B0,hq.n<=c) (a5:AlF zM hq C u g.arcs.length al) (ai:PiF zM hq D u g.nodes pi) (hp: ∀v,v<g.nodes-> -(FAR:Int)<=pi v)
 (hs:s<g.nodes) (bP:to<g.nodes):
 Ret zM 117 [ptrTo br,.int .i64 (s:Nat),.int .i64 (to:Nat)] h0 fun r h'=>Gr hq h'/\ ∃fd,Ends g.arcs al pi to (oL pi s) fd/\FdAt h' hq.n r fd:=by
 have ok:=gq.ok;have n1:=w.n1;have n2:=w.n2;have bB:=w.many;have wm:=jP;have fr:=gQ;have hA: ∀a∈g.arcs,a.t<g.nodes/\a.w<=cH:=fun a ha=>⟨(w.arcs a ha).2.1,(w.arcs a ha).2.2⟩;have lB:=R0.lt ok;have S:=Si ok;refine aa (n:=79) (rs:=[.cell 6 96]) rfl Tryz.e117 rfl rfl rfl (lbt rfl) ?_;simp only [BZ];refine ac aA S ?_;clear S;intro h l S I;simp only [BZ,seval];have J:=S.row (b:=l) m0;have gA:=S.gr;have a6:=S.ok;have l6:=J.lt a6;have n6:l∉B0:=fun h=>by have:=lB l h;have:=I;omega
 have q6:hq.n<=l:=zO gq.n I;clear S;rename Hp=>hA';have rc:Ret zM 199 [ptrTo br,.int .i64 (s:Nat),.int .i64 0,.int .i64 (-1)] hA' _:=Af (p:=[]) (lab:=0) (gq.trans gA) (R0.gr gA) ai n2 hs (Xt _) (hp s hs) (fun k h=>by cases h);refine step_ret rc ?_;rintro r h1 ⟨f1,B1,R1,ak⟩;clear rc;simp only [BZ];refine aW (fun(σ:SS) ρ h=> ∃B,Mo (fun c=>c∈B0\/c=l) hA' h/\Row h l [.int .i64 0,.slice none 0 0,.slice none 0 0] 1/\iF h B br (ptrTo A) (.func (.func C) #[] #[ptrTo u]) (.func (.func D) #[] #[ptrTo u]) g.nodes σ/\(∀c∈B,c∈B0\/hA'.n<=c)/\Sv g.arcs g.nodes s al pi σ/\σ.ev.length<=σ.O.length*200/\(∀r,Ends g.arcs al pi to σ r->Ends g.arcs al pi to (oL pi s) r)/\ρ 0=ptrTo br/\ρ 1=.int .i64 (s:Nat)/\ρ 2=.int .i64 (to:Nat)/\ρ 6=ptrTo l) (fun σ=>g.nodes-σ.O.length) ?_ (oL pi s) _ _ ?_
 . clear R1 f1 ak B1 h1;intro σ ih ρ hS ⟨B,f,row6',R,hB,sv,hev,hE,r0,r1,r2,r6⟩;have O: ∀c∈B,hq.n<=c:=fun c d=>(hB c d).elim (af c) (fun h=>by have:=(gq.trans gA).n;omega);have gh:Gr hq hS:=(((gq.trans gA).fr (M:=NoM)).trans f (fun c d=>.inr (d.elim (af c) (fun e=>by subst e;exact q6)))).gr;have P:l∉B:=fun h=>(hB l h).elim n6 (fun h=>by omega);have ol:=sv.len;have bT:σ.O.length*cH<=12*cH:=XF _ (zO ol n2);obtain⟨K,bb,bk,Q,F,vE,ax,S,H,hF⟩:=R.open f.ok;have ay: ∀c∈keys (srL br K bb bk g.nodes (ptrTo A) (ptrTo Q) (.func (.func C) #[] #[ptrTo u]) (.func (.func D) #[] #[ptrTo u]) vE σ) (srG vE σ),c∈B:=fun c d=>(by rw [ax];exact X8 _ d);have T: ∀c∈F,c∈B:=fun c d=>(by rw [ax];exact Xx _ d);have lF:=H.lt f.ok;replace S:=(S.base.mono (M':=fun c=>c∈B\/c=l) (fun c d=>.inl (ay c d))).push (b:=l) (o:=.row _ 1) (.inr (.inr rfl)) row6' (fun h=>P (ay l h));have a7: ∀c∈F,c≠l:=fun c d e=>P (by rw [<-e];exact T c d);have U: ∀c∈F,c∉keys ((l,Ob.row [.int .i64 0,.slice none 0 0,.slice none 0 0] 1)::srL br K bb bk g.nodes (ptrTo A) (ptrTo Q) (.func (.func C) #[] #[ptrTo u]) (.func (.func D) #[] #[ptrTo u]) vE σ) (srG vE σ):=fun c d V=>(List.mem_cons.1 V).elim (a7 c d) (hF c d);unfold srL srG at S;simp only [BZ,r0,S.ld (b:=br) (o:=1) m1 rfl,seval];refine step_ret (tS S.ok H (by omega)) ?_;rintro rv h2 (⟨rfl,W,a8⟩|⟨v,k,rfl,hk,aL,f2,H2⟩)
   . replace S:=S.call a8;have X:Fl vE:=(S.gown _ m0).1.fl;simp only [BZ,r0,r6,X,S.ld (b:=br) (o:=7) m1 rfl,seval];refine aC (S.store (i:=0) rfl Tryz.t96.2.1 (by intro x e;cases e) rfl (by simp only [ae,Xy,XA,X.2.1,Xn];rfl) (lbt rfl) ono) ?_;clear S;rintro h3 ⟨S,mo⟩;simp only [LC,ae,lay,Xi,Xj,seval]at S;simp only [BZ,ab];refine(bw (by decide) (by simp only [aD,r6,ah,seval];exact bj Tryz.t96.1 Tryz.t96.2.1 (S.lds (b:=l) (o:=0) (n:=3) m0 (lbt rfl)))).2 (bS.2 ?_);refine⟨(gh.fr (M:=NoM)).trans S.fr (fun c d=>.inr (d.elim (O c) (fun e=>by subst e;exact q6)))|>.gr,_,hE _ (.none W),.slice none 0 0,vE,rfl,.inl ⟨rfl,rfl⟩,(S.gown _ m0).1,fun c d=>d.elim,fun c d=>?_⟩;have:=(S.gown _ m0).2 c (mD (S.gown _ m0).1 d);exact this.elim (fun h=>zO gh.n h) (fun h=>h.elim (O c) (fun e=>by subst e;exact q6))
   . have N:nj σ.K v k:=⟨hk,aL⟩;obtain⟨Y,nO,pv,ek⟩:=sv.op v k hk;replace S:=S.stepF f2 (fun c d=>⟨.inl (.inl (T c d)),U c d⟩);have bv:=(sv.bd v).1;have Z:=S;have bc:=H2.lt Z.ok;have kp: ∀c∈keys ((l,Ob.row [.int .i64 0,.slice none 0 0,.slice none 0 0] 1)::srL br K bb bk g.nodes (ptrTo A) (ptrTo Q) (.func (.func C) #[] #[ptrTo u]) (.func (.func D) #[] #[ptrTo u]) vE σ) (srG vE σ),hS.n<=c\/c∈B\/c=l:=fun c d=>Z.key_own d;have kl:=fun {c} d=>Z.key_lt (b:=c) d;have np:=Z.fr.n;replace S:=S.base;have X:Fl vE:=(S.gown _ m0).1.fl;simp only [BZ,r0,Y,S.ld (b:=br) (o:=4) m1 rfl,seval];refine aC (aE S (i:=4) rfl Tryz.t4.2.2.1 og (by rw [clC_len];exact Y) ono) ?_;clear S;rintro h3 ⟨S,bX⟩;simp only [LC]at S;rw [clC_set]at S;have lL:=(S.row (b:=K) m2).load1 (vz (L:=σ.L) Y);simp only [BZ];refine ao (av rfl) (q:=16384) (ps:=[]) (by kernel_rfl) ?_;simp only [BZ,cls,r0,Y,lL,S.ld (b:=br) (o:=7) m1 rfl,S.ld (b:=br) (o:=2) m1 rfl,seval];refine df (ce (by exact Tryz.t44.1) (by exact Tryz.e143E) (by decide) (by rfl)) S ?_;clear S;intro h bs S bE bL;simp only [LC,bH,cg,ae,Xl,Xm,Xo,Xq,seval]at S;simp only [BZ,cls,seval];have a0:aK h 4 (.slice (some ⟨bs,0,none⟩) 1 1)=some (1,iQ ⟨0,v,σ.L v⟩):=(by simp only [aK];rw [S.lds (b:=bs) (o:=0) (n:=1*4) m0 (lbt rfl)];rfl);replace S:=S.drop1;refine mj (S.grow (j:=0) (m:=1) (new:=iQ ⟨0,v,σ.L v⟩) rfl Tryz.t44.1 Tryz.e143E (by decide) Tryz.t44.2.2.2.2.2 a0 rfl (by decide) rfl (by rw [cB qS];show(_+4)*_<=_;omega)) ?_;clear S a0;rintro h2 t S;simp only [LC]at S;have z:Fl t:=(S.gown _ m0).1.fl;simp only [BZ,cls,seval];refine cM (aE S (i:=1) rfl Tryz.t44.2.2.1 z (Xb (lbt rfl)) ono) ?_;clear S;rintro h3 ⟨S,_⟩;simp only [LC]at S;have eE:(σ.ev++[(⟨0,v,σ.L v⟩:Ev)]).flatMap iQ=σ.ev.flatMap iQ++iQ ⟨0,v,σ.L v⟩:=(by rw [List.flatMap_append];simp);rw [<-eE]at S;have bq: ∀c,hS.n<=c\/c∈B\/c=l->hq.n<=c:=fun c d=>d.elim (fun h=>zO gh.n h) (fun h=>h.elim (O c) (fun e=>by subst e;exact q6));have wq:=(((gh.fr (M:=NoM)).trans Z.fr (fun c d=>.inr (bq c (.inr d)))).trans S.fr (fun c d=>.inr (bq c (kp c d)))).gr;have E:=sv.close hk;have kn:=fun {c} d=>S.key_own (b:=c) d;have nS:=S.fr.n;have bd: ∀c∈F,c∉keys (srL br K bb bk g.nodes (ptrTo A) (ptrTo Q) (.func (.func C) #[] #[ptrTo u]) (.func (.func D) #[] #[ptrTo u]) t (gm σ v)) (srG t (gm σ v)):=fun c d V=>by
      rcases kn (Xg _ V)with h|h
      . have:=bc c d;omega
      . exact U c d h
     have Hc:cE _ F (ptrTo Q) g.nodes (gm σ v).K:=H2.mo S.fr (fun c d V=>U c d V);have Rc:=iF.close (σ:=gm σ v) (vE:=t) S.drop1 Hc bd;have G: ∀c∈keys (srL br K bb bk g.nodes (ptrTo A) (ptrTo Q) (.func (.func C) #[] #[ptrTo u]) (.func (.func D) #[] #[ptrTo u]) t (gm σ v)) (srG t (gm σ v))++F,hS.n<=c\/c∈B:=fun c d=>by
      rcases List.mem_append.1 d with d|d
      . have ne:c≠l:=fun e=>(by subst e;exact(List.nodup_cons.1 S.apart).1 d);rcases kn (Xg _ d)with h|h
        . exact .inl (by omega)
        . exact(kp c h).imp (fun h=>h) (fun h=>h.elim (fun h=>h) (fun e=>absurd e ne))
      . exact .inr (T c d)
     have a1: ∀c∈keys (srL br K bb bk g.nodes (ptrTo A) (ptrTo Q) (.func (.func C) #[] #[ptrTo u]) (.func (.func D) #[] #[ptrTo u]) t (gm σ v)) (srG t (gm σ v))++F,hq.n<=c:=fun c d=>bq c ((G c d).imp (fun h=>h) .inl);have be:=S.ok;have k3:=fun {c} d=>S.key_lt (b:=c) d;have bo: ∀c,hS.n<=c\/c∈B\/c=l->(c∈B0\/c=l)\/hA'.n<=c:=fun c d=>d.elim (fun h=>.inr (zO f.n h)) (fun h=>h.elim (fun h=>(hB c h).imp .inl (fun h=>h)) (fun e=>.inl (.inr e)));have bf:=Rc.lt be;by_cases hv:v=to
     . subst hv;simp only [BZ,r0,r2,seval];refine step_ret (sback_ok S.ok) ?_;rintro rv h4 ⟨g4,b1,b2,rfl,bY,bh,nb,e1,e2⟩;replace S:=S.call g4;have b0:=g4.n;simp only [BZ,seval];have pl:=(E.bd v).2;have b3:=E.len;refine step_ret (sb S.ok (back_it ad (wq.trans g4) w hn (Rc.gr g4) E (Xx _ (by simp)) e1 e2 (fun h=>by have:=bf b2 h;omega) nb (zO wq.n bh)) (fun b hb=>by subst hb;exact e2.lt g4.ok) (by omega)) ?_;rintro vA h5 ⟨fW,bi,y⟩;replace S:=S.step fW (fun c d=>.inr (by subst d;omega)) (fun c d e=>by subst e;have:=k3 d;omega);simp only [BZ,seval];refine step_ret (wP S.ok bi (by omega)) ?_;rintro rv h6 ⟨fR,gR⟩;have b4:=fW.n;have b5: ∀c,aq vA c->_<=c:=y;replace S:=S.step fR (fun c d=>.inr (by have:=y c d;omega)) (fun c d hb=>by have:=k3 d;have:=y c hb;omega);have a2:Fl vA:=gR.fl;have lL:=(S.row (b:=K) m2).load1 (vz (L:=σ.L) Y);simp only [BZ];refine ao (av rfl) (q:=0) (ps:=[]) (by kernel_rfl) ?_;simp only [BZ,cls,r0,r2,r6,Y,lL,z,a2,S.ld (b:=br) (o:=2) m1 rfl,S.ld (b:=br) (o:=7) m1 rfl,seval];refine cM (S.store (i:=0) rfl Tryz.t96.2.1 (by intro x e;cases e) rfl (by simp only [ae,Xy,XA,z.2.1,a2.2.1,Xn];rfl) (lbt rfl) ono) ?_;have bm: ∀c,aq vA c->c≠l:=fun c d e=>(by have:=y c d;have:=k3 (c:=l) (by simp [keys]);omega);have kA: ∀c,aq vA c-> ¬aq t c:=fun c d he=>(by have:=y c d;have:=k3 (fk (p:=(t,4,_)) m0 (mD (S.gown _ m0).1 he));omega);clear S;rintro h7 ⟨S,mo⟩;simp only [LC,ae,lay,Xi,Xj,seval]at S;simp only [BZ,ab,seval];refine(bw (by decide) (by simp only [aD,r6,ah,seval];exact bj Tryz.t96.1 Tryz.t96.2.1 (S.lds (b:=l) (o:=0) (n:=3) m0 (lbt rfl)))).2 (bS.2 ?_);have bn:=(((gh.fr (M:=NoM)).trans Z.fr (fun c d=>.inr (bq c (.inr d)))).trans S.fr (fun c d=>.inr (bq c (kp c d)))).gr;refine⟨bn,_,hE _ (.hit N),vA,t,rfl,gR.of_get (fun c d=>mo.get c (gR.lt fR.ok d) ?_),(S.gown _ m0).1,fun c d=>⟨by have:=y c d;have:=wq.n;omega,kA c d⟩,fun c d=>?_⟩
       . obtain⟨a',n',e',_⟩: ∃a' n',vA=Value.slice (some ⟨a',0,some 1⟩) n' n'/\a'=c:=by
          rcases gR with⟨e,_⟩|⟨b',n',e,_⟩
          . simp only []at e;rw [e]at d;cases d
          . simp only []at e;rw [e]at d;cases d;exact⟨_,_,e,rfl⟩
         exact bm c (by rw [e'];assumption)
       . exact bq c (((S.gown _ m0).2 c (mD (S.gown _ m0).1 d)).elim (fun h=>.inl (zO np h)) (fun h=>kp c h))
     . have bt: ¬((v:Int)=(to:Int)):=(by omega);simp only [BZ,r0,r2,bt,seval];obtain⟨a3,bu⟩:=sv.next hA hk
       refine step_ret (sscan_ok ad wq w hn Rc a1 a5 ai hp Y E (sv.room v) (by show(σ.ev++[_]).length<=10000;simp;omega)) ?_;rintro rv h4 ⟨f4,B4,R4,bx⟩;simp only [BZ];have es:=ev_scanS g.arcs al pi v (gm σ v);have eO:(tg g.arcs al pi v (gm σ v)).O=σ.O++[v]:=bu.O;have ec:(gm σ v).ev.length=σ.ev.length+1:=(by show(σ.ev++[_]).length=_;simp);have a4:=a3.len;rw [eO]at a4;simp at a4;refine ih _ _ _ (by rw [eO];simp;omega) ⟨B4,?_,?_,R4,?_,a3,by rw [eO];simp;omega,fun r hr=>hE r (.step N hv hr),by simp [aB,r0,ah,r1,r2,r6]⟩
       . exact((f.trans Z.fr (fun c d=>bo c (.inr d))).trans S.fr (fun c d=>bo c (kp c d))).trans f4 (fun c d=>bo c ((G c d).imp (fun h=>h) .inl))
       . exact f4.has (o:=.row _ 1) (S.row m0) (fun V=>(G l V).elim (fun h=>by have:=f.n;omega) P)
       . exact fun c d=>(bx c d).elim (fun h=>(G c h).elim (fun h=>.inr (zO f.n h)) (hB c)) (fun h=>.inr (by have:=f.n;omega))
 . have k0:(oL pi s).ev.length=0:=(by unfold oL;rw [Cs];rfl);exact⟨B1,f1.mono (fun c d=>.inl d),f1.has (o:=.row _ 1) J n6,R1,ak,sv_init hs,by omega,fun r hr=>hr,by simp [aB,cG,ah,dr]⟩
theorem kJ(d:OZ h0){a:Gra}(c:aS h0 e p a):aO zM 28 [p] h0 (.int .i64 a.arcs.length):=by have S:=Si d;obtain⟨b,h,i,j,k,l,rfl,r,f,_⟩:=c.ex;have g:=r.load1 (o:=3) rfl;refine aa (n:=11) (rs:=[.tmp 2]) rfl Tryz.e28 rfl rfl rfl (lbt rfl) ?_;simp only [BZ,ab,g,f.A.lenq,seval];exact S.gr
def alF(als:List Bool)(a:Nat):Bool:=als.isEmpty||als.getD a false
def piF(pis:List Int)(v:Nat):Int:=if pis=[]then 0 else max (-72057594037927936) (pis.getD v 0)
theorem piF_lo(pis:List Int)(v:Nat): -(FAR:Int)<=piF pis v:=by
 have:=gQ;unfold piF
 split<;>omega
theorem al_ok{als:List Bool}(q:hq.load k 2 1=some [vAl])(r:az hq 1 encB vAl als)(m:als=[]\/als.length=n):AlF zM hq 197 k n (alF als):=by
 intro h g a t;have S:=Si g.ok;have p:=g.load q;have d:=r.gr g;rcases m with rfl|m
 . refine aa (n:=15) (rs:=[.tmp 3]) rfl Tryz.e197 rfl rfl rfl (lbt rfl) ?_;simp only [BZ,ab,Xe,p,d.lenq,seval];exact⟨rfl,S.gr⟩
 . have s: ¬((als.length:Int)=0):=(by omega);have f:a<als.length:=(by omega);obtain⟨c,o,i,j⟩:=d.ix (kd:=.i64) Ba f;have e:alF als a=als[a]:=by
    unfold alF;cases als with
    |nil=>simp at f| cons b l=>show(false||(b::l).getD a false)=_;rw [Xc,Xf f];rfl
   rw [e];refine aa (n:=15) (rs:=[.tmp 3]) rfl Tryz.e197 rfl rfl rfl (lbt rfl) ?_;simp only [BZ,ab,p,d.lenq,s,i,j,encB,seval];exact S.gr
theorem pi_ok{pis:List Int}(m:hq.load j 3 1=some [vPi])(p:az hq 1 (encI .i64) vPi pis)(k:pis=[]\/pis.length=n):PiF zM hq 198 j n (piF pis):=by
 intro h g a r;have S:=Si g.ok;have l:=g.load m;have b:=p.gr g;rcases k with rfl|k
 . refine aa (n:=14) (rs:=[.tmp 3]) rfl Tryz.e198 rfl rfl rfl (lbt rfl) ?_;simp only [BZ,ab,Xe,l,b.lenq,seval];exact⟨rfl,S.gr⟩
 . have q: ¬((pis.length:Int)=0):=(by omega);have d:a<pis.length:=(by omega);obtain⟨c,o,f,i⟩:=b.ix (kd:=.i64) (bO .i64) d;have e:piF pis a=max (-72057594037927936) pis[a]:=(by unfold piF;rw [if_neg (by intro e;subst e;simp at d)];simp [Xc,d]);rw [e];refine aa (n:=14) (rs:=[.tmp 3]) rfl Tryz.e198 rfl rfl rfl (lbt rfl) ?_;simp only [BZ,ab,l,b.lenq,q,f,i,encI,seval];exact S.gr
theorem sstart_ok(P:OZ h0){d:Gra}(l:Good d){Q p:Nat}(j:aS h0 Q (ptrTo p) d){s to:Int}(fA:Fl vAl)(fP:Fl vPi):
 Ret zM 116 [ptrTo p,.agg ⟨[.int .i64 s,.int .i64 to,vAl,vPi]⟩] h0 fun r h'=> ∃br f hq B,r=ptrTo br/\Gr h0 hq/\Gr hq h'/\hq.load f 2 1=some [vAl]/\hq.load f 3 1=some [vPi]/\iF h' B br (ptrTo p) (.func (.func 197) #[] #[ptrTo f]) (.func (.func 198) #[] #[ptrTo f]) d.nodes zS/\ ∀c∈B,hq.n<=c:=by
 have R:=l.n1;have n2:=l.n2;have S:=Si P;refine aa (n:=34) (rs:=[.tmp 4]) rfl Tryz.e116 rfl rfl rfl (lbt rfl) ?_;simp only [BZ,seval];refine ac (aV (by intro x e;cases e)) S ?_;clear S;intro h f S C;simp only [ae]at S;have u:=S.gr;have T:=S.ld (b:=f) (o:=2) m0 rfl;have U:=S.ld (b:=f) (o:=3) m0 rfl;clear S;rename Hp=>hq;replace j:=j.gr u;have S:=Si u.ok;simp only [BZ];refine ao (av rfl) (q:=2880) (ps:=[]) (by kernel_rfl) ?_;simp only [BZ,cls,seval];refine bz (bM S.ok (j.gr S.gr)) ?_;intro h g;replace S:=S.call g;clear g;simp only [BZ,cls,seval];refine bU (sX S.ok) ?_;rintro V h ⟨g,F,H,W⟩;have X:=S.fr.n;replace S:=S.call g;clear g;have Y: ∃b,V=ptrTo b:=by obtain⟨b,_,_,e,_⟩:=H.ex;exact⟨b,e⟩
 obtain⟨D,rfl⟩:=Y;have k:=S;have Z:=H.lt k.ok;rename Hp=>h_H;replace S:=S.base;simp only [BZ,cls,seval];refine bz (bM S.ok (j.gr (k.rebase S).gr)) ?_;intro h g;replace S:=S.call g;clear g;simp only [BZ,cls,seval];refine df (lZ (by exact Tryz.t23.1) (by exact X7) (by omega) (by omega)) S ?_;clear S;intro h w S E G;simp only [BZ,cls,Xr,seval];refine vg (bM (h0:={h with lo:=h.n}) S.ok ((j.gr (k.rebase S).gr).keep S.ok (fun _ _=>rfl))) ?_;intro h g;replace S:=S.call g;clear g;simp only [BZ,cls,seval];refine df (lZ (by exact Tryz.t100.1) (by exact Tryz.e4E) (by omega) (by omega)) S ?_;clear S;intro h y S I J;simp only [BZ,cls,Xr,seval];refine df (aV (by intro x e;cases e)) S ?_;clear S;intro h br S K L;simp only [ae]at S;simp only [BZ,cls,seval];refine ac (ce (by exact Tryz.t41.1) (by exact XD) (by decide) (by rfl)) S ?_;clear S;intro h M S N;simp only [LC,bH,cg,ae,Xl,Xm,Xo,Xq,seval]at S;simp only [BZ,seval];refine ag (bM S.ok (j.gr (k.rebase S).gr)) ?_;intro h g;replace S:=S.call g;clear g;simp only [BZ,seval];have z:=fun {c} (a:c∈_)=>S.key_lt (b:=c) a;have kn:=S.fr.n;refine step_ret (repI_ok S.ok (x:= -1) (.inr ⟨M,0,none,1,rfl,Xs _,S.lds (b:=M) (o:=0) (n:=1*1) m0 (lbt rfl)⟩) R (by omega)) ?_;intro v h ⟨g,t,eb,nb',Rb⟩;replace S:=S.call g;clear g;subst eb;replace S:=S.drop1;replace S:=S.push (b:=t) (o:=.row _ 1) (.inl (zO kn nb')) Rb (fun A=>by have:=z (Xg _ A);omega);simp only [BZ,seval];refine aC (aE S (i:=1) rfl ?_ ?_ ?_ ono) ?_
 . exact(by simp only [FA0])
 . exact(by exact aU)
 . exact Xb (lbt rfl)
 clear S;rintro h ⟨S,m⟩;clear m;simp only [LC,ae,lay,Xi,Xj,seval]at S;simp only [BZ,seval];refine aC (aE S (i:=1) rfl ?_ ?_ ?_ ono) ?_
 . exact(by simp only [FA0])
 . exact(by exact dY)
 . exact Xb (lbt rfl)
 clear S;rintro h ⟨S,m⟩;clear m;simp only [LC,ae,lay,Xi,Xj,seval]at S;simp only [BZ,seval];refine aC (aE S (i:=1) rfl ?_ ?_ ?_ ono) ?_
 . exact(by simp only [FA0])
 . exact(by exact dY)
 . exact Xb (lbt rfl)
 clear S;rintro h ⟨S,m⟩;clear m;simp only [LC,ae,lay,Xi,Xj,seval]at S;simp only [BZ,ab,seval];have e1:bH [Value.int .i64 0] ((d.nodes:Int)).toNat=labC d.nodes zS.L:=by rw [sK];rfl
 have e2:bH [Value.bool false] ((d.nodes:Int)).toNat=clC d.nodes zS.O:=by rw [sK];unfold clC zS;exact Yb fun v _=>by simp
 have e3:Xu d.nodes (Value.int .i64 (-1))=byC d.nodes zS.P:=by show _=(Xa d.nodes).map fun _=>Value.int .i64 (-1);rw [XV,Xk]
 rw [e1,e2,e3]at S;have ap:=S.apart;have z:=fun {c} a=>S.key_own (b:=c) a;have n0:=k.fr.n;have O: ∀c∈keys (srL br w t y d.nodes (ptrTo p) (ptrTo D) (.func (.func 197) #[] #[ptrTo f]) (.func (.func 198) #[] #[ptrTo f]) (.slice none 0 0) zS) (srG (.slice none 0 0) zS),h_H.n<=c:=fun c a=>by
  have:c=t\/c=br\/c=y\/c=w:=by simp [srL,srG,keys,eo]at a;omega
  rcases z (c:=c) (by simp [keys];omega)with h|h
  . exact h
  . simp [keys]at h
 refine⟨br,f,hq,_,rfl,u,(k.rebase S).gr,T,U,⟨w,t,y,D,F,.slice none 0 0,rfl,fun q hq=>?_,.inl ⟨rfl,rfl⟩,?_,H.mo S.fr (fun c _ h=>by simp [keys]at h),fun c a A=>?_⟩,fun c a=>?_⟩
 . simp only [srL,Ya,List.not_mem_nil,or_false]at hq;rcases hq with rfl|rfl|rfl|rfl
   . exact S.row m1
   . exact S.row m3
   . exact S.row m0
   . exact S.row m2
 . simp [srL,srG,keys,eo]at ap⊢;exact⟨by omega,by omega,by omega,.nil⟩
 . have:=Z c a;have:=O c A;omega
 . rcases List.mem_append.1 a with a|a
   . exact zO n0 (O c a)
   . exact zO X (W c a)
theorem fitsB_ok(d:OZ h0){xs:List Bool}(b:az h0 1 encB v xs)(e:xs=[]\/xs.length=n):aO zM 114 [v,.int .i64 n] h0 (.bool true):=by
 have S:=Si d;by_cases a:(xs.length:Int)=0
 . refine aa (n:=14) (rs:=[.tmp 4]) rfl Tryz.e114 rfl rfl rfl (lbt rfl) ?_;simp only [BZ,ab,b.lenq,a,seval];exact S.gr
 . have c:(xs.length:Int)=(n:Int):=by
    rcases e with rfl|h
    . simp at a
    . omega
   rw [c]at a;refine aa (n:=14) (rs:=[.tmp 4]) rfl Tryz.e114 rfl rfl rfl (lbt rfl) ?_;simp only [BZ,ab,b.lenq,a,c,seval];exact S.gr
theorem fitsI_ok(d:OZ h0)(b:az h0 1 (encI .i64) v xs)(e:xs=[]\/xs.length=n):aO zM 115 [v,.int .i64 n] h0 (.bool true):=by
 have S:=Si d;by_cases a:(xs.length:Int)=0
 . refine aa (n:=14) (rs:=[.tmp 4]) rfl Tryz.e115 rfl rfl rfl (lbt rfl) ?_;simp only [BZ,ab,b.lenq,a,seval];exact S.gr
 . have c:(xs.length:Int)=(n:Int):=by
    rcases e with rfl|h
    . simp at a
    . omega
   rw [c]at a;refine aa (n:=14) (rs:=[.tmp 4]) rfl Tryz.e115 rfl rfl rfl (lbt rfl) ?_;simp only [BZ,ab,b.lenq,a,c,seval];exact S.gr
theorem xV(d:OZ h0){b:Gra}(c:aS h0 e (ptrTo a) b)(l:h0.load b2 0 1=some [ptrTo a]){v:Nat}(f:v<b.nodes):aO zM 113 [.int .i64 (v:Nat),ptrTo b2] h0 (.bool true):=by
 have S:=Si d;have i:(0:Int)<=(v:Int):=by omega
 refine aa (n:=12) (rs:=[.tmp 3]) rfl Tryz.e113 rfl rfl rfl (lbt rfl) ?_;simp only [BZ,l,i,seval];refine ag (bM S.ok (c.gr S.gr)) ?_;intro h g;replace S:=S.call g;clear g;simp only [BZ,ab,aF,f,seval];exact S.gr
theorem tR(ok:OZ h0){m:Gra}(t:Good m){T:Nat}(u:aS h0 nb (ptrTo T) m){to:Nat}(U:s<m.nodes)(w:to<m.nodes){als:List Bool}{pis:List Int}(I:az h0 1 encB vAl als)(y:als=[]\/als.length=m.arcs.length)(J:az h0 1 (encI .i64) vPi pis)(z:pis=[]\/pis.length=m.nodes):
 Ret zM 45 [ptrTo T,.agg ⟨[.int .i64 (s:Nat),.int .i64 (to:Nat),vAl,vPi]⟩] h0 fun r h'=>Gr h0 h'/\ ∃v A,r=.tuple #[v,.int .i64 0]/\FdAt h' h0.n v A/\((s=to/\A=⟨0,[],[]⟩)\/(s≠to/\Ends m.arcs (alF als) (piF pis) to (oL (piF pis) s) A)):=by
 have S:=Si ok;have fA:=I.fl;have fP:=J.fl;refine aa (n:=57) (rs:=[.cell 4 96,.tmp 5]) rfl Tryz.e45 rfl rfl rfl (lbt rfl) ?_;simp only [BZ,seval];refine ac (bJ (by exact bD)) S ?_;clear S;intro h d S V;simp only [BZ,if_false,seval];refine ac (aV (by intro x e;cases e)) S ?_;clear S;intro h a S W;simp only [ae]at S;simp only [BZ];refine ac aA S ?_;clear S;intro h K S X;simp only [BZ,S.ld (b:=d) (o:=0) m2 rfl,seval];refine ao (av rfl) (q:=0) (ps:=[(22,24),(14,16)]) (by kernel_rfl) ?_;simp only [BZ,cls,S.ld (b:=d) (o:=0) m2 rfl,S.ld (b:=a) (o:=0) m1 rfl,seval];have Y:=(S.row (b:=d) m2).lt S.ok;have Z:=(S.row (b:=a) m1).lt S.ok;refine bz (xV S.ok (u.gr S.gr) (S.ld (b:=d) (o:=0) m2 rfl) U) ?_;intro h g;have L:=am g Y;have v1:=am g Z;replace S:=S.call g;clear g;simp only [BZ,cls,S.ld (b:=d) (o:=0) m2 rfl,S.ld (b:=a) (o:=1) m1 rfl,seval];have p2:=(S.row (b:=d) m2).lt S.ok;have q2:=(S.row (b:=a) m1).lt S.ok;refine bz (xV S.ok (u.gr S.gr) (S.ld (b:=d) (o:=0) m2 rfl) w) ?_;intro h g;have u2:=am g p2;have v2:=am g q2;replace S:=S.call g;clear g;simp only [BZ,cls,S.ld (b:=d) (o:=0) m2 rfl,S.ld (b:=a) (o:=2) m1 rfl,seval];have H:=(S.row (b:=d) m2).lt S.ok;have q3:=(S.row (b:=a) m1).lt S.ok;refine bz (kJ S.ok (u.gr S.gr)) ?_;intro h g;have u3:=am g H;have v3:=am g q3;replace S:=S.call g;clear g;simp only [BZ,cls,seval];have p4:=(S.row (b:=d) m2).lt S.ok;have q4:=(S.row (b:=a) m1).lt S.ok;refine bz (fitsB_ok S.ok (I.gr S.gr) y) ?_;intro h g;have u4:=am g p4;have v4:=am g q4;replace S:=S.call g;clear g;simp only [BZ,cls,S.ld (b:=d) (o:=0) m2 rfl,S.ld (b:=a) (o:=3) m1 rfl,seval];have p5:=(S.row (b:=d) m2).lt S.ok;have q5:=(S.row (b:=a) m1).lt S.ok;refine bz (bM S.ok (u.gr S.gr)) ?_;intro h g;have u5:=am g p5;have v5:=am g q5;replace S:=S.call g;clear g;simp only [BZ,cls,seval];have p6:=(S.row (b:=d) m2).lt S.ok;have q6:=(S.row (b:=a) m1).lt S.ok;refine bz (fitsI_ok S.ok (J.gr S.gr) z) ?_;intro h g;have u6:=am g p6;have v6:=am g q6;replace S:=S.call g;clear g;simp only [BZ,cls,seval];refine⟨by simp only [aJ,aR,aH,aT,aI,ne_eq,not_false_eq_true,aY,bC,aQ,aN,bF,bW,aD,Xn,ah,ar v3,ar v5,seval],?_⟩;clear Y p2 H p4 p5 p6 Z q2 q3 q4 q5 q6 L u2 u3 u4 u5 u6 v1 v2 v3 v4 v5 v6;by_cases C:s=to
 . subst C;simp only [BZ,S.ld (b:=a) (o:=0) m1 rfl,S.ld (b:=a) (o:=1) m1 rfl,seval];refine aC (S.store (i:=0) rfl Tryz.t96.2.1 (by intro x e;cases e) rfl rfl (lbt rfl) ono) ?_;clear S;rintro h3 ⟨S,mo⟩;simp only [LC,ae,lay,Xi,Xj,seval]at S;simp only [BZ,ab];refine(bw (by decide) (by simp only [aD,ah,seval];exact bj Tryz.t96.1 Tryz.t96.2.1 (S.lds (b:=K) (o:=0) (n:=3) m0 (lbt rfl)))).2 ?_;refine(dX (by decide)).2 (bS.2 ?_);exact⟨S.gr,_,⟨0,[],[]⟩,rfl,⟨_,_,rfl,.inl ⟨rfl,rfl⟩,.inl ⟨rfl,rfl⟩,fun c f=>f.elim,fun c f=>f.elim⟩,.inl rfl⟩
 . have D: ¬((s:Int)=(to:Int)):=(by omega);simp only [BZ,D,S.ld (b:=a) (o:=0) m1 rfl,S.ld (b:=a) (o:=1) m1 rfl,seval];refine ao (av rfl) (q:=0) (ps:=[(2,6),(2,4)]) (by kernel_rfl) ?_;simp only [BZ,cls,Xw,Xz,List.take_zero,S.ld (b:=d) (o:=0) m2 rfl,S.lds (b:=a) (o:=0) (n:=4) m1 (lbt rfl),seval];have E:=u.gr S.gr;have kS:=S.fr.n;have H:=(S.row (b:=a) m1).lt S.ok;refine bU (sstart_ok S.ok t E fA fP) ?_;rintro r h5 ⟨br,ba,hq,B,rfl,j,M,l2,l3,R,hB⟩;have L:=am (j.trans M) H;have Aq:=I.gr (S.gr.trans j);have Pq:=J.gr (S.gr.trans j);have N:=S.call j;have ad:=(N.row (b:=K) m0).lt N.ok;replace S:=S.call (j.trans M);simp only [BZ,cls,S.ld (b:=a) (o:=0) m1 rfl,S.ld (b:=a) (o:=1) m1 rfl,seval];have kq:=j.n;have O:=E.gr j;refine bU (srun_ok j.ok M t O R hB (al_ok l2 Aq y) (pi_ok l3 Pq z) (fun v _=>piF_lo pis v) U w) ?_;rintro rv h6 ⟨g6,A,he,vA,vE,rfl,G1,G2,P,d2⟩;replace S:=N.call g6;have f1:Fl vA:=G1.fl;have f2:Fl vE:=G2.fl;simp only [BZ,cls,seval];refine cM (S.store (i:=0) rfl Tryz.t96.2.1 (by intro x e;cases e) rfl (by simp only [ae,Xy,XA,f1.2.1,f2.2.1,Xn];rfl) (lbt rfl) ono) ?_;clear S;rintro h7 ⟨S,mo⟩;simp only [LC,ae,lay,Xi,Xj,seval]at S;simp only [BZ,cls,ab,seval];refine⟨by simp only [aJ,aR,aH,aT,aI,ne_eq,not_false_eq_true,aY,bC,aQ,aN,bF,bW,aD,Xn,ah,au L,seval],?_⟩;refine(bw (by decide) (by simp only [aD,ah,seval];exact bj Tryz.t96.1 Tryz.t96.2.1 (S.lds (b:=K) (o:=0) (n:=3) m0 (lbt rfl)))).2 ?_;refine(dX (by decide)).2 (bS.2 ?_);have l: ∀{p:GL},ia h6 p->(∀c,aq p.1 c->hq.n<=c)->ia h7 p:=fun {p} G f=>G.of_get fun c Q=>mo.get c (G.lt g6.ok Q) fun e=>by
    have:=f c (by
     rcases G with⟨F,_⟩|⟨b',n',F,_⟩
     . obtain⟨v,k,vs⟩:=p;simp only []at F;subst F;cases Q
     . obtain⟨v,k,vs⟩:=p;simp only []at F;subst F;cases Q;rfl)
    omega
   exact⟨S.gr,_,A,rfl,⟨vA,vE,rfl,l G1 (fun c f=>(P c f).1),l G2 d2,fun c f=>⟨zO kS (zO kq (P c f).1),(P c f).2⟩,fun c f=>zO kS (zO kq (d2 c f))⟩,.inr ⟨C,he⟩⟩
theorem CP(a:OZ h0):Ret zM 41 [.pointer none] h0 fun r h'=>Gr h0 h'/\ ∃l:List Int,az h' 1 (encI .i64) r l/\l.length=0:=by have S:=Si a;refine aa (n:=10) (rs:=[.tmp 2]) rfl Tryz.e41 rfl rfl rfl (lbt rfl) ?_;simp only [BZ,ab,seval];exact⟨S.gr,[],.inl ⟨rfl,rfl⟩,rfl⟩
theorem CX(a:OZ h0):aO zM 40 [.pointer none] h0 (.int .i64 ((0:Nat):Int)):=by have S:=Si a;refine aa (n:=9) (rs:=[.tmp 2]) rfl Tryz.e40 rfl rfl rfl (lbt rfl) ?_;simp only [BZ,ab,Xe,seval];exact S.gr
def TabQ(h:Hp)(b:Value)(a:Nat)(l:List Int)(R Q:Nat->List Int):Prop:=(∃m,TabAt h m b a l R Q/\(∀i,i<l.length->(R i).length=a)/\ ∀i,i<l.length->(Q i).length=a)\/(b=.pointer none/\a=0/\l=[])
theorem TabQ.gr{h h':Hp}{c:Value}{d:Nat}{l:List Int}{R Q:Nat->List Int}(t:TabQ h c d l R Q)(g:Gr h h'):TabQ h' c d l R Q:=t.imp (fun⟨m,a,b⟩=>⟨m,a.gr g,b⟩) (fun h=>h)
theorem TabQ.tabO{d:Value}(t:TabQ h d e l R Q)(f:l.length<1000):TabO zM h d e l.length 41 40:=by
 rcases t with⟨m,t,_,_⟩|⟨rfl,rfl,rfl⟩
 . refine⟨by obtain⟨b,_,_,_,rfl,_⟩:=t.ex;exact bD,fun x k=>(jF k.ok (t.gr k) f).mono fun r g ⟨a,b,c⟩=>⟨a,l,b,rfl⟩,fun x k=>lj k.ok (t.gr k)⟩
 . exact⟨bD,fun x k=>CP k.ok,fun x k=>CX k.ok⟩
theorem EG{mk:Nat}{f:Int}(h:lW N a mk f t=0):(0<=f/\f<N)/\(0<=t/\t<N)/\0<mk/\a=N:=by
 unfold lW at h
 split at h
 . cases h
 . split at h
   . cases h
   . split at h
     . rename_i c d b;exact⟨by omega,by omega,b⟩
     . cases h
def ansV(c:Int)(d:Int)(vA a:Value):Value:=.agg ⟨[.int .i64 c,.int .i64 d,vA,a]⟩
def pos:List Int->Int->Option Nat
 | [],_=>none|y::a,x=>if x=y then some 0 else(pos a x).map (· +1)
def kM:Nat->List Int->List (Value×Value×Nat)
 |_,[]=>[]|o,x::a=>(.int .i64 x,.int .i64 (o:Nat),o)::kM (o+1) a
theorem ents_app(o:Nat)(l:List Int)(x:Int):kM o (l++[x])=kM o l++[(.int .i64 x,.int .i64 ((o+l.length:Nat):Int),o+l.length)]:=by
 induction l generalizing o with
 |nil=>rfl| cons y a b=>show _::kM (o+1) (a++[x])=_::(kM (o+1) a++_);rw [b,List.length_cons,show o+1+a.length=o+(a.length+1) by omega]
theorem ents_len(o:Nat)(l:List Int):(kM o l).length=l.length:=by
 induction l generalizing o with
 |nil=>rfl|cons y a b=>show(kM (o+1) a).length+1=_;rw [b];rfl
theorem keq_int{y:Int}:cF (.int .i64 x) (.int .i64 y)=some (decide (x=y)):=by show some (jg x y)=_;congr 1;rw [pD]
theorem xR(o:Nat)(l:List Int)(x:Int):bI (.int .i64 x) (kM o l)=some ((pos l x).map fun i=>(.int .i64 ((o+i:Nat):Int),o+i)):=by
 induction l generalizing o with
 |nil=>rfl| cons y a b=>
   show(match cF (.int .i64 x) (.int .i64 y)with|none=>none|some true=>some (some (Value.int .i64 (o:Nat),o))|some false=>bI (.int .i64 x) (kM (o+1) a))=_;rw [keq_int,pos];by_cases h:x=y
   . rw [if_pos h,decide_eq_true h];rfl
   . rw [if_neg h,decide_eq_false h];show bI (.int .i64 x) (kM (o+1) a)=_;rw [b];cases pos a x with
     |none=>rfl|some i=>simp;omega
theorem St.mput{M:Nat->Prop}{L:List (Nat×Ob)}{G:List GL}(S:St M h0 h L G){t kt el:TypeId}{a:List (Value×Value×Nat)}{k:Value}(d:L[i]? =some (b,.map a c))(f:E.und t=some (.map kt el))(hf:bQ E kt k=true)(g:bI k a=some none):
 ∃h',d6 E h t (.map (some b)) k v=some h'/\St M h0 h' (L.set i (b,.map (a++[(k,v,c)]) (c+1))) G:=by
 have e:h.get b=some (.map a c):=(S.own _ (List.mem_of_getElem? d)).2;refine⟨h.put b (.map (a++[(k,v,c)]) (c+1)),?_,S.put d ?_⟩
 . simp only [d6,kP,f,hf,cond_true,e,g]
 . show(h.put b _).get b=_;rw [Hp.get_put,if_pos ⟨rfl,by rw [e];rfl⟩]
theorem Di{t kt el:TypeId}(a:E.und t=some (.map kt el))(d:E.und kt=some (.int .i64))(e:E.zeroV el=some (.int .i64 0))(f:h.get b=some (.map (kM 0 l) c)):
 dw E h t (.map (some b)) (.int .i64 x) true=some (match pos l x with|some i=>.tuple #[.int .i64 (i:Nat),.bool true]|none=>.tuple #[.int .i64 0,.bool false]):=by
 have hf:bQ E kt (.int .i64 x)=true:=by simp only [bQ,d];rfl
 simp only [dw,a,hf,cond_true,f,xR,e];cases pos l x with
 |none=>rfl|some i=>simp
def pS(ks:List Int)(x:Int):Nat:=match pos ks x with|some i=>i|none=>ks.length
def pL(ks:List Int)(x:Int):List Int:=match pos ks x with|some _=>ks|none=>ks++[x]
def norm:List Int->List Int->List Int
 |_,[]=>[]|a,x::b=>(pS a x:Int)::norm (pL a x) b
theorem name_ok(j:OZ h0){ks:List Int}(k:Row h0 e [.map (some a)] 1)(b:h0.get a=some (.map (kM 0 ks) ks.length)):
 Ret zM 238 [.int .i64 x,ptrTo e] h0 fun v h'=>Mo (· =a) h0 h'/\v=.int .i64 (pS ks x)/\h'.get a=some (.map (kM 0 (pL ks x)) (pL ks x).length):=by
 have S:=St.init1 j (o:=.map (kM 0 ks) ks.length) b;have f:=k.load1 (o:=0) rfl;have c:=Di (x:=x) Tryz.t230.1 Tryz.t3.1 (by kernel_rfl) b;have g:lenQ (some (.map 3 3)) h0 (.map (some a))=some (.val (.int .i64 (kM 0 ks).length),h0):=lenq_map b;rw [ents_len]at g;unfold pS pL;cases d:pos ks x with
 | some i=>rw [d]at c;refine aa (n:=20) (rs:=[.tmp 3]) rfl Tryz.e238 rfl rfl rfl (lbt rfl) ?_;simp only [BZ,ab,f,c,seval];exact⟨S.fr,b⟩| none=>rw [d]at c;refine aa (n:=20) (rs:=[.tmp 3]) rfl Tryz.e238 rfl rfl rfl (lbt rfl) ?_;simp only [BZ,f,c,g,seval];refine aC (S.mput (i:=0) rfl Tryz.t230.1 (by simp only [bQ,Tryz.t3.1];rfl) (by rw [xR,d];rfl)) ?_;clear S;intro h S;simp only [LC]at S;simp only [BZ,ab,seval];have l:h.get a=some (.map (kM 0 ks++[(.int .i64 x,.int .i64 ks.length,ks.length)]) (ks.length+1)):=(S.own _ m0).2;refine⟨S.fr,?_⟩;rw [ents_app,XJ,Xm];exact l
theorem namer_ok(e:OZ h0):Ret zM 179 [] h0 fun v h'=>Gr h0 h'/\ ∃a b,v=.func (.func 238) #[] #[ptrTo a]/\h0.n<=a/\h0.n<=b/\Row h' a [.map (some b)] 1/\h'.get b=some (.map [] 0):=by
 have S:=Si e;refine aa (n:=4) (rs:=[.tmp 0]) rfl Tryz.e179 rfl rfl rfl (lbt rfl) ?_;simp only [BZ];refine ac oa S ?_;clear S;intro h b S c;simp only [BZ];refine ac aA S ?_;clear S;intro h a S d;simp only [BZ,seval];refine aC (aE S (i:=0) rfl ?_ ?_ ?_ ono) ?_
 . exact(by simp only [FA0])
 . exact(by exact fl_map)
 . exact Xb (lbt rfl)
 clear S;rintro h ⟨S,f⟩;clear f;simp only [LC,ae,lay,Xi,Xj,seval]at S;simp only [BZ,ab,seval];exact⟨S.gr,a,b,rfl,d,c,S.row m0,(S.own _ m1).2⟩
theorem each_ok(H:OZ h0){x:Nat}{ks:List Int}(E:Row h0 x [.map (some d)] 1)(y:h0.get d=some (.map (kM 0 ks) ks.length))(z:az h0 1 (encI .i64) v l)(M:l.length<1000):
 Ret zM 178 [v,.func (.func 238) #[] #[ptrTo x]] h0 fun r h'=>Mo (· =d) h0 h'/\az h' 1 (encI .i64) r (norm ks l)/\ ∀c,aq r c->h0.n<=c:=by
 have S:=St.init1 H (o:=.map (kM 0 ks) ks.length) y;have A: ∀c,aq v c-> ¬c=d:=by
  rintro c p rfl;rcases z with⟨rfl,_⟩|⟨b,o,s,N,rfl,_,I⟩
  . exact p.elim
  . have:b=c:=p;subst this;simp [Hp.load,y]at I
 have B: ¬x=d:=by rintro rfl;obtain⟨t,O,e,_⟩:=E;rw [y]at e;cases e
 refine aa (n:=21) (rs:=[.tmp 4]) rfl Tryz.e178 rfl rfl rfl (lbt rfl) ?_;simp only [BZ,z.lenq,seval];replace S:=S.nilG (k:=1);refine aW (fun(i:Nat) g h=>i<=l.length/\ ∃(a done:List Int) (C:Value),norm ks l=done++norm a (l.drop i)/\done.length=i/\St (· =d) h0 h [(d,.map (kM 0 a) a.length)] [(C,1,ints done)]/\
  g 1=.func (.func 238) #[] #[ptrTo x]/\g 4=C/\g 7=v/\g 8=.int .i64 l.length/\g 9=.int .i64 i) (fun i=>l.length-i) ?_ 0 _ _ ?_
 . clear S;intro i J g h ⟨hi,a,done,C,hn,hd,S,r1,r4,r7,r8,r9⟩;by_cases hlt:i<l.length
   . obtain⟨c,o,q,u⟩:=(z.mo S.fr A).ix (kd:=.i64) (bO .i64) hlt;have w:an .i64 ((i:Int)+1)=((i+1:Nat):Int):=(by rw [wrap64]<;>omega);simp only [BZ,r1,r4,r7,r8,r9,aF,hlt,q,u,encI,seval];refine step_ret (name_ok S.ok (S.fr.has (o:=.row _ 1) E B) (S.own _ m0).2) ?_;rintro r h ⟨f,rfl,F⟩;replace S:=S.call1 (i:=0) rfl f (o':=.map _ _) F;simp only [LC]at S;simp only [BZ,seval];refine ac (ce (by exact Tryz.t41.1) (by exact XD) (by decide) (by rfl)) S ?_;clear S;intro h K S G;simp only [LC,bH,cg,ae,Xl,Xm,Xo,Xq,seval]at S;simp only [BZ,seval];refine dE (S.grow (j:=0) (m:=1) (new:=ints [(pS a l[i]:Int)]) rfl Tryz.t41.1 XD (by decide) Tryz.t41.2.2.2.2.2 (by simp only [aK];rw [S.lds (b:=K) (o:=0) (n:=1*1) m0 (lbt rfl)];rfl) rfl (by decide) rfl (by rw [cC,cC];simp;omega)) ?_;clear S f F u;rintro h L S;simp only [LC]at S;replace S:=S.drop1;rw [<-iE]at S;simp only [BZ,r9,w,seval];refine J (i+1) _ _ (by omega) ⟨by omega,_,_,_,?_,?_,S,by simp [aB,r1,ah,r7,r8]⟩
     . rw [hn,XP hlt,norm,List.append_assoc];rfl
     . simp [hd]
   . have D:i=l.length:=(by omega);simp only [BZ,ab,r4,r8,r9,aF,hlt,seval];have e:norm ks l=done:=(by rw [hn,D,List.drop_length,norm,List.append_nil]);rw [e];exact⟨S.fr,(S.gown _ m0).1.sl rfl (bO .i64) (by decide),fun c p=>((S.gblk m0 p).1).elim (fun h=>h) (fun h=>((S.gblk m0 p).2 (by simp [h])).elim)⟩
 . exact⟨Xt _,ks,[],_,rfl,rfl,S,by simp [aB,cG,dr,ah]⟩
theorem norm_ok(b:OZ h0)(a:az h0 1 (encI .i64) v l)(d:l.length<1000):
 Ret zM 93 [v] h0 fun r h'=>Gr h0 h'/\az h' 1 (encI .i64) r (norm [] l)/\ ∀c,aq r c->h0.n<=c:=by
 have S:=Si b;refine aa (n:=6) (rs:=[.tmp 2]) rfl Tryz.e93 rfl rfl rfl (lbt rfl) ?_;simp only [BZ,seval];refine step_ret (namer_ok S.ok) ?_;intro v h ⟨g,bx,bm,j,n1,n2,R,hg⟩;replace S:=S.call g;replace a:=a.gr g;clear g;subst j;simp only [BZ,seval];refine step_ret (each_ok (ks:=[]) S.ok R hg a d) ?_;rintro r h ⟨f,k,m⟩;simp only [BZ,ab,seval];exact⟨(S.fr.trans f (fun i e=>.inr (by subst e;exact n2))).gr,k,fun c h=>zO S.fr.n (m c h)⟩
theorem BF  (s:OZ h0) {u:Value} {m:List Int} (p:az h0 1 (encI .i64) u l) (r:az h0 1 (encI .i64) v m) (A:l.length<1000000):aO zM 92 [u,v] h0 (.bool (decide (l=m))):=by
 have S:=Si s;by_cases a:l.length=m.length
 . have hle:((l.length:Int)=(m.length:Int)):=(by omega);refine aa (n:=26) (rs:=[.tmp 4]) rfl Tryz.e92 rfl rfl rfl (lbt rfl) ?_;simp only [BZ,p.lenq,r.lenq,hle,seval];refine aW (fun(i:Nat) g h=>i<=l.length/\l.take i=m.take i/\Gr h0 h/\g 0=u/\g 1=v/\g 12=.int .i64 l.length/\g 13=.int .i64 i) (fun i=>l.length-i) ?_ 0 _ _ ?_
   . clear S;intro i t g h ⟨hi,ht,S,r0,r1,r12,r13⟩;by_cases hlt:i<l.length
     . obtain⟨c,o,d,j⟩:=(p.gr S).ix (kd:=.i64) (bO .i64) hlt;obtain⟨B,C,b,e⟩:=(r.gr S).ix (kd:=.i64) (bO .i64) (a▸hlt);have w:an .i64 ((i:Int)+1)=((i+1:Nat):Int):=(by rw [wrap64]<;>omega);by_cases k:l[i]=m[i]
       . simp only [BZ,r12,r13,aF,hlt,seval];refine ao (av rfl) (q:=0) (ps:=[]) (by kernel_rfl) ?_;simp only [BZ,cls,r0,r1,r13,d,j,b,e,encI,k,w,seval];refine t (i+1) _ _ (by omega) ⟨by omega,?_,S,by simp [aB,r0,r1,r12]⟩;rw [Xd hlt,Xd (a▸hlt),ht,k]
       . have f:l≠m:=(by rintro rfl;exact k rfl);simp only [BZ,r12,r13,aF,hlt,seval];refine ao (av rfl) (q:=0) (ps:=[]) (by kernel_rfl) ?_;simp only [BZ,cls,ab,r0,r1,d,j,b,e,encI,k,f,seval];exact S
     . have x:l=m:=(by have y:l.take i=l:=Xh (by omega);have z:m.take i=m:=Xh (by omega);rw [y,z]at ht;exact ht);subst x;simp only [BZ,ab,r12,r13,aF,hlt,seval];exact S
   . exact⟨Xt _,rfl,Gr.refl s,by simp [aB,cG,dr,a]⟩
 . have f:l≠m:=(by rintro rfl;exact a rfl);have hle: ¬((l.length:Int)=(m.length:Int)):=(by omega);refine aa (n:=26) (rs:=[.tmp 4]) rfl Tryz.e92 rfl rfl rfl (lbt rfl) ?_;simp only [BZ,ab,p.lenq,r.lenq,hle,f,seval];exact S.gr
def gP:List Int->Int
 | []=>0|x::a=>a.foldl max x
theorem lmax_succ(a:1<=i)(hlt:i<l.length):gP (l.take (i+1))=max (gP (l.take i)) l[i]:=by
 cases l with
 |nil=>cases hlt
 | cons x b=>
   obtain⟨j,rfl⟩: ∃j,i=j+1:=⟨i-1,by omega⟩;rw [Xz,Xz,gP,gP,List.getElem_cons_succ,Xd (by simpa using hlt),List.foldl_append];rfl
theorem lmax_one(a:0<l.length):gP (l.take 1)=l[0]:=by
 cases l with
 |nil=>cases a
 |cons x b=>rfl
theorem maxInt_ok(m:OZ h0)(f:az h0 1 (encI .i64) v l)(j:1<=l.length)(s:l.length<1000000):aO zM 94 [v] h0 (.int .i64 (gP l)):=by
 have S:=Si m;have k: ¬((l.length:Int)<1):=by omega
 obtain⟨c,o,a,b⟩:=f.ix (kd:=.i64) (bO .i64) (i:=0) (by omega);have d:mQ (some 1) v (.int .i64 0)=_:=a;have p:=lmax_one (l:=l) (by omega);generalize l[0]=x at b p;refine aa (n:=25) (rs:=[.tmp 2]) rfl Tryz.e94 rfl rfl rfl (lbt rfl) ?_;simp only [BZ,f.lenq,k,d,b,encI,seval];refine aW (fun(i:Nat) g h=>1<=i/\i<=l.length/\Gr h0 h/\g 0=v/\g 3=.int .i64 (gP (l.take i))/\g 4=.int .i64 i) (fun i=>l.length-i) ?_ 1 _ _ ?_
 . clear S;intro i r g h ⟨j,hi,S,r0,r3,r4⟩;by_cases hlt:i<l.length
   . obtain⟨c,o,a,b⟩:=(f.gr S).ix (kd:=.i64) (bO .i64) hlt;have w:an .i64 ((i:Int)+1)=((i+1:Nat):Int):=(by rw [wrap64]<;>omega);have q:=lmax_succ j hlt;generalize l[i]=y at b q;simp only [BZ,r0,r3,r4,(f.gr S).lenq,aF,hlt,a,b,encI,w,seval];refine r (i+1) _ _ (by omega) ⟨by omega,by omega,S,by simp [aB,r0],?_,by simp [aB]⟩;simp only [aD,seval];rw [q]
   . simp only [BZ,ab,r0,r3,r4,(f.gr S).lenq,aF,hlt,seval];have e:l.take i=l:=Xh (by omega);rw [e];exact⟨rfl,S⟩
 . exact⟨Xs _,j,Gr.refl m,by simp [aB,cG,p]⟩
theorem Ca(ks l:List Int):(norm ks l).length=l.length:=by
 induction l generalizing ks with
 |nil=>rfl|cons x a b=>show(norm _ a).length+1=_;rw [b];rfl
def j7(h:Hp)(n:Nat)(p:Value)(m:List Int):Prop:= ∃b v,p=ptrTo b/\Row h b [v,.int .i64 (gP m+1)] 1/\az h 1 (encI .i64) v m/\n<=b/\ ∀c,aq v c->n<=c
theorem j7.mo{M:Nat->Prop}{h h':Hp}{n:Nat}{p:Value}{m:List Int}(c:j7 h n p m)(g:Mo M h h')(a: ∀b,M b->b<n):j7 h' n p m:=by obtain⟨b,v,e,r,s,f,d⟩:=c;exact⟨b,v,e,g.has (o:=.row _ 1) r (fun h=>by have:=a _ h;omega),s.mo g (fun c i j=>by have:=a _ j;have:=d c i;omega),f,d⟩
theorem j7.gr{m:List Int}(c:j7 h n p m)(g:Gr h h'):j7 h' n p m:=c.mo (M:=NoM) g.fr (fun _ h=>h.elim)
def yE(m:List Int):Prop:=m=[]\/norm [] m≠m\/256<gP m+1
theorem Ej(y:OZ h0){m:List Int}(d:az h0 1 (encI .i64) v m)(z:m.length<1000)(F:0<=gP m/\gP m<=1000000):
 Ret zM 36 [v] h0 fun r h'=>Gr h0 h'/\((yE m/\r=.pointer none)\/(¬yE m/\j7 h' h0.n r m)):=by
 have S:=Si y;have G:=Ca [] m;by_cases s:m=[]
 . subst s;refine aa (n:=27) (rs:=[.tmp 2]) rfl Tryz.e36 rfl rfl rfl (lbt rfl) ?_;simp only [BZ,ab,Xe,d.lenq,seval];exact⟨S.gr,.inl (.inl rfl)⟩
 . have A:1<=m.length:=by cases m with
    |nil=>exact absurd rfl s|cons a l=>simp
   have B: ¬((m.length:Int)=0):=(by omega);refine aa (n:=27) (rs:=[.tmp 2]) rfl Tryz.e36 rfl rfl rfl (lbt rfl) ?_;simp only [BZ,d.lenq,B,seval];refine step_ret (norm_ok S.ok d z) ?_;intro v h ⟨g,sl,fr⟩;replace S:=S.call g;replace d:=d.gr g;clear g;by_cases k:norm [] m=m
   . simp only [BZ,seval];refine ag (BF S.ok sl d (by omega)) ?_;intro h g;replace S:=S.call g;replace d:=d.gr g;clear g;simp only [BZ,k,seval];have C:=S.fr.n;refine step_ret (jE S.ok (bO .i64) d (by omega)) ?_;intro t h ⟨g,i,p⟩;replace S:=S.call g;replace d:=d.gr g;clear g;have D:Fl t:=i.fl;simp only [BZ,seval];refine ag (maxInt_ok S.ok d A (by omega)) ?_;intro h g;replace S:=S.call g;replace d:=d.gr g;replace i:=i.gr g;clear g;have w:an .i64 (gP m+1)=gP m+1:=(by rw [wrap64]<;>omega);have j:=S.gr;clear S;have S:=Si j.ok;simp only [BZ,w,D,seval];refine ac (aV (by intro x e;cases e)) S ?_;clear S;intro h b S q;simp only [ae]at S;have u:=S.ld (b:=b) (o:=1) m0 rfl;by_cases f:256<gP m+1
     . simp only [BZ,ab,f,u,seval];exact⟨j.trans S.gr,.inl (.inr (.inr f))⟩
     . simp only [BZ,ab,f,u,seval];exact⟨j.trans S.gr,.inr ⟨by rintro(h|h|h)<;>contradiction,b,t,rfl,S.row m0,i.gr S.gr,zO j.n q,fun c E=>zO C (p c E)⟩⟩
   . simp only [BZ,seval];refine ag (BF S.ok sl d (by omega)) ?_;intro h g;replace S:=S.call g;replace d:=d.gr g;clear g;simp only [BZ,ab,k,seval];exact⟨S.gr,.inl (.inr (.inl k))⟩
def mP(h:Hp)(p:Value)(m:List Int)(n:Int):Prop:=(p=.pointer none/\m=[]/\n=0)\/((∃k,j7 h k p m)/\n=gP m+1)
theorem mP.gr{h h':Hp}{p:Value}{m:List Int}{n:Int}(g:Gr h h')(c:mP h p m n):mP h' p m n:=c.imp (fun h=>h) (fun⟨⟨k,h⟩,e⟩=>⟨⟨k,h.gr g⟩,e⟩)
theorem map_ok(a:OZ h0){m:List Int}{n:Int}(c:mP h0 p m n)(d:m.length<1000000):Ret zM 180 [p] h0 fun r h'=>Gr h0 h'/\az h' 1 (encI .i64) r m:=by
 have S:=Si a;rcases c with⟨rfl,rfl,rfl⟩|⟨⟨_,b,v,rfl,r,s,_,_⟩,rfl⟩
 . refine aa (n:=10) (rs:=[.tmp 2]) rfl Tryz.e180 rfl rfl rfl (lbt rfl) ?_;simp only [BZ,ab,seval];exact⟨S.gr,.inl ⟨rfl,rfl⟩⟩
 . have e:=r.load1 (o:=0) rfl;refine aa (n:=10) (rs:=[.tmp 2]) rfl Tryz.e180 rfl rfl rfl (lbt rfl) ?_;simp only [BZ,e,seval];refine step_ret (jE S.ok (bO .i64) s d) ?_;intro v h ⟨g,sl,_⟩;replace S:=S.call g;clear g;simp only [BZ,ab,seval];exact⟨S.gr,sl⟩
theorem zj(a:OZ h0){m:List Int}{n:Int}(c:mP h0 p m n):aO zM 97 [p] h0 (.int .i64 n):=by
 have S:=Si a;rcases c with⟨rfl,rfl,rfl⟩|⟨⟨_,b,v,rfl,r,s,_,_⟩,rfl⟩
 . refine aa (n:=9) (rs:=[.tmp 2]) rfl Tryz.e97 rfl rfl rfl (lbt rfl) ?_;simp only [BZ,ab,seval];exact S.gr
 . have d:=r.load1 (o:=1) rfl;refine aa (n:=9) (rs:=[.tmp 2]) rfl Tryz.e97 rfl rfl rfl (lbt rfl) ?_;simp only [BZ,ab,d,seval];exact S.gr
def ru(h:Hp)(p:Value)(a w:Int)(c:Bool):Prop:=(p=.pointer none/\a=0/\w=0/\c=false)\/ ∃b x y,p=ptrTo b/\Row h b [.int .i64 a,.int .i64 w,x,y] 1/\c=true
theorem ru.gr{h h':Hp}{p:Value}{a w:Int}{d:Bool}(g:Gr h h')(c:ru h p a w d):ru h' p a w d:=c.imp (fun h=>h) (fun⟨b,x,y,e,r,n⟩=>⟨b,x,y,e,r.gr g,n⟩)
theorem jD(d:OZ h0){a:Int}{e:Bool}(c:ru h0 p a w e):aO zM 102 [p] h0 (.int .i64 a):=by
 have S:=Si d;rcases c with⟨rfl,rfl,rfl,rfl⟩|⟨b,x,y,rfl,r,rfl⟩
 . refine aa (n:=9) (rs:=[.tmp 2]) rfl Tryz.e102 rfl rfl rfl (lbt rfl) ?_;simp only [BZ,ab,seval];exact S.gr
 . have f:=r.load1 (o:=0) rfl;refine aa (n:=9) (rs:=[.tmp 2]) rfl Tryz.e102 rfl rfl rfl (lbt rfl) ?_;simp only [BZ,ab,f,seval];exact S.gr
theorem jH(d:OZ h0){a:Int}{e:Bool}(c:ru h0 p a w e):aO zM 103 [p] h0 (.int .i64 w):=by
 have S:=Si d;rcases c with⟨rfl,rfl,rfl,rfl⟩|⟨b,x,y,rfl,r,rfl⟩
 . refine aa (n:=9) (rs:=[.tmp 2]) rfl Tryz.e103 rfl rfl rfl (lbt rfl) ?_;simp only [BZ,ab,seval];exact S.gr
 . have f:=r.load1 (o:=1) rfl;refine aa (n:=9) (rs:=[.tmp 2]) rfl Tryz.e103 rfl rfl rfl (lbt rfl) ?_;simp only [BZ,ab,f,seval];exact S.gr
theorem allB_ok(g:OZ h0){l:List Bool}(j:az h0 1 encB v l)(m:l.length<1000):aO zM 101 [v] h0 (.bool (l.all id)):=by
 have S:=Si g;refine aa (n:=14) (rs:=[.tmp 2]) rfl Tryz.e101 rfl rfl rfl (lbt rfl) ?_;simp only [BZ,j.lenq,seval];refine aW (fun(i:Nat) d h=>i<=l.length/\(l.take i).all id=true/\Gr h0 h/\d 5=v/\d 6=.int .i64 l.length/\d 7=.int .i64 i) (fun i=>l.length-i) ?_ 0 _ _ ?_
 . clear S;intro i k d h ⟨hi,ht,S,r5,r6,r7⟩;by_cases hlt:i<l.length
   . obtain⟨c,o,a,b⟩:=(j.gr S).ix (kd:=.i64) Ba hlt;have w:an .i64 ((i:Int)+1)=((i+1:Nat):Int):=(by rw [wrap64]<;>omega);cases f:l[i]with
     | true=>simp only [BZ,r5,r6,r7,aF,hlt,a,b,encB,f,w,seval];refine k (i+1) _ _ (by omega) ⟨by omega,?_,S,by simp [aB,r5,r6]⟩;rw [Xd hlt,List.all_append,ht,f];rfl| false=>have e:l.all id=false:=(by rw [List.all_eq_false];exact⟨_,XC hlt,by simp [f]⟩);simp only [BZ,ab,r5,r6,r7,aF,hlt,a,b,encB,f,seval];rw [e];exact⟨rfl,S⟩
   . simp only [BZ,ab,r6,r7,aF,hlt,seval];rw [Xh (by omega)]at ht;rw [ht];exact⟨rfl,S⟩
 . exact⟨Xt _,rfl,Gr.refl g,by simp [aB,cG]⟩
theorem AS(f:OZ h0){q:Value}{b:Gra}{m:List Int}{n:Int}(c:aS h0 i p b)(d:mP h0 q m n)(k:1<=b.nodes)(j:m.length<1000000):aO zM 95 [p,q] h0 (.bool (decide (m.length=b.nodes))):=by
 have S:=Si f;have a:(0:Int)<(b.nodes:Int):=by omega
 have e:(b.nodes:Int)>0:=a;refine aa (n:=16) (rs:=[.tmp 4]) rfl Tryz.e95 rfl rfl rfl (lbt rfl) ?_;simp only [BZ,seval];refine ag (bM S.ok c) ?_;intro h g;replace S:=S.call g;replace c:=c.gr g;replace d:=d.gr g;clear g;simp only [BZ,a,seval];refine step_ret (map_ok S.ok d j) ?_;intro v h ⟨g,sl⟩;replace S:=S.call g;replace c:=c.gr g;replace d:=d.gr g;clear g;simp only [BZ,sl.lenq,seval];refine ag (bM S.ok c) ?_;intro h g;replace S:=S.call g;replace c:=c.gr g;replace d:=d.gr g;clear g;simp only [BZ,ab,seval];refine⟨?_,S.gr⟩;congr 1;by_cases h:m.length=b.nodes
 . simp [h]
 . have: ¬((m.length:Int)=(b.nodes:Int)):=(by omega);simp [h,this]
theorem wI(s:OZ h0){q r:Value}{f:Gra}{m:List Int}{n a:Int}{i:Bool}{t:Nat}(c:aS h0 t p f)(d:mP h0 q m n)(e:ru h0 r a w i)(u:1<=f.nodes)(v:m.length<1000000):
 aO zM 42 [p,q,r] h0 (.bool (decide (m.length=f.nodes)&&i&&decide (a=n)&&decide (w=f.arcs.length))):=by
 have S:=Si s;have z: ∀E:Env,qw E 34=true-> ∀x y,bV E .neq 34 x y r (.pointer none)=some (.bool i):=by
  intro E j x y;rcases e with⟨rfl,_,_,rfl⟩|⟨b,_,_,rfl,_,rfl⟩
  . exact n_pnil j
  . exact n_ptr j
 refine aa (n:=24) (rs:=[.tmp 6]) rfl Tryz.e42 rfl rfl rfl (lbt rfl) ?_;simp only [BZ,seval];refine ag (AS S.ok c d u v) ?_;intro h g;replace S:=S.call g;replace c:=c.gr g;replace d:=d.gr g;replace e:=e.gr g;clear g;simp only [BZ,z zM Tryz.t34.2.2.2.2.1,seval];refine ag (jD S.ok e) ?_;intro h g;replace S:=S.call g;replace c:=c.gr g;replace d:=d.gr g;replace e:=e.gr g;clear g;simp only [BZ,seval];refine ag (zj S.ok d) ?_;intro h g;replace S:=S.call g;replace c:=c.gr g;replace d:=d.gr g;replace e:=e.gr g;clear g;simp only [BZ,seval];refine ag (jH S.ok e) ?_;intro h g;replace S:=S.call g;replace c:=c.gr g;replace d:=d.gr g;replace e:=e.gr g;clear g;simp only [BZ,seval];refine ag (kJ S.ok c) ?_;intro h g;replace S:=S.call g;replace c:=c.gr g;replace d:=d.gr g;replace e:=e.gr g;clear g;simp only [BZ,seval];refine ac (ce (by exact Tryz.t100.1) (by exact Tryz.e4E) (by decide) (by rfl)) S ?_;clear S;intro h A S k;simp only [LC,bH,cg,ae,Xl,Xm,Xo,Xq,seval]at S;simp only [BZ,seval];refine ag (allB_ok (l:=[decide (m.length=f.nodes),i,decide (a=n),decide (w=f.arcs.length)]) S.ok (.inr ⟨A,0,none,4,rfl,Xs _,S.lds (o:=0) (n:=4) m0 (lbt rfl)⟩) (by simp)) ?_;intro h g;replace S:=S.call g;clear g;simp only [BZ,ab,seval];exact⟨by simp [Bool.and_assoc],S.gr⟩
def SlW(h:Hp)(kd:IntKind)(v:Value)(xs:List Int):Prop:=(v=.slice none 0 0/\xs=[])\/ ∃b o c,v=.slice (some ⟨b,o,none⟩) xs.length c/\xs.length<=c/\h.load b o (xs.length*1)=some (xs.flatMap (encI kd))
theorem SlW.sl{kd:IntKind}(s:SlW h kd v xs):az h 1 (encI kd) v xs:=s.imp (fun h=>h) (fun⟨b,o,c,a,d,e⟩=>⟨b,o,none,c,a,d,e⟩)
theorem SlW.low{kd kd':IntKind}{t e:TypeId}(g:E.und t=some (.slice e))(j:E.sz e=some 1)(s:SlW h kd v xs)(a:n<=xs.length):
 ∃v',ic E t v none (some (.int kd' (n:Int))) none=some v'/\az h 1 (encI kd) v' (xs.take n)/\ ∀c,aq v' c->aq v c:=by
 have f: ∀n:Nat,jf (n:Int)=some n:=fun n=>rfl;rcases s with⟨rfl,rfl⟩|⟨b,o,c,rfl,k,p⟩
 . have:n=0:=(by simpa using a);subst this;refine⟨.slice none 0 0,?_,.inl ⟨rfl,rfl⟩,fun c d=>d⟩;simp only [ic,g,gY,gL,f,j];rfl
 . refine⟨.slice (some ⟨b,o,none⟩) n c,?_,.inr ⟨b,o,none,c,?_,?_,?_⟩,fun c d=>d⟩
   . simp only [ic,g,gY,gL,f,Nat.ble_eq_true_of_le (zO a k),cond_true,j,Option.isSome_none,cond_false,Nat.sub_zero,ig,Xl,Nat.add_zero];by_cases d:c=0
     . subst d;rfl
     . rw [show Nat.beq c 0=false by cases c with|zero=>exact absurd rfl d|succ c=>rfl];rfl
   . rw [XE,XY a]
   . rw [XE,XY a];exact zO a k
   . rw [XE,XY a];have:=qU p (i:=0) (m:=n*1) (by omega);rw [Nat.add_zero,Xw]at this;rw [this];congr 1;refine List.ext_getElem? fun i=>?_;have e4: ∀l:List Int,l.flatMap (encI kd)=l.map fun x=>.int kd x:=fun l=>(by rw [Xp,XH,Xp];rfl);rw [e4,e4,Xo,List.map_take]
def iota(k:Nat):List Int:=(Xa k).map fun(i:Nat)=>(i:Int)
theorem AM(k:Nat):(iota k).length=k:=by simp [iota]
theorem Ak(k:Nat):iota (k+1)=iota k++[(k:Int)]:=by simp [iota,XX]
theorem pos_app(l:List Int)(x y:Int):pos (l++[y]) x=match pos l x with|some i=>some i|none=>if x=y then some l.length else none:=by
 induction l with
 |nil=>simp [pos]| cons z a b=>
   rw [XR,pos,pos];by_cases h:x=z
   . rw [if_pos h,if_pos h]
   . rw [if_neg h,if_neg h,b];cases pos a x with
     |some i=>rfl|none=>by_cases c:x=y<;>simp [c]
theorem AQ(k j:Nat):pos (iota k) (j:Int)=if j<k then some j else none:=by
 induction k with
 |zero=>rfl| succ k a=>
   rw [Ak,pos_app,a,AM];by_cases h:j<k
   . rw [if_pos h,if_pos (show j<k+1 by omega)]
   . rw [if_neg h];by_cases b:j=k
     . subst b;simp
     . have: ¬((j:Int)=(k:Int)):=(by omega);simp only [this,if_false];rw [if_neg (by omega)]
theorem pos_lt(h:pos l x=some i):i<l.length:=by
 induction l generalizing i with
 |nil=>cases h
 | cons y b c=>
   rw [pos]at h;by_cases e:x=y
   . rw [if_pos e]at h;cases h;simp
   . rw [if_neg e]at h;cases a:pos b x with
     |none=>rw [a]at h;cases h
     |some j=>rw [a]at h;cases h;have:=c a;simp;omega
theorem norm_idem(ks l:List Int):norm (iota ks.length) (norm ks l)=norm ks l:=by
 induction l generalizing ks with
 |nil=>rfl| cons x c a=>
   rw [norm,norm];unfold pS pL;cases b:pos ks x with
   | some i=>simp only [];rw [AQ,if_pos (pos_lt b)];simp only [];rw [a]| none=>simp only [];rw [AQ,if_neg (by omega)];simp only [];rw [AM,<-Ak];have:=a (ks++[x]);rw [XJ,X6]at this;rw [this]
theorem norm_bd(ks l:List Int): ∀x∈norm ks l,0<=x/\x<=((ks.length+l.length:Nat):Int):=by
 induction l generalizing ks with
 |nil=>intro x a;cases a
 | cons y e b=>
   intro x a;rw [norm]at a;rcases List.mem_cons.1 a with rfl|a
   . have:pS ks y<=ks.length:=by
      unfold pS;cases c:pos ks y with
      |some i=>exact Nat.le_of_lt (pos_lt c)|none=>exact Xs _
     simp;omega
   . have d:=b _ x a;have:(pL ks y).length<=ks.length+1:=(by unfold pL;cases pos ks y<;>simp);simp at d⊢;omega
theorem fold_bd(K:Int)(l:List Int)(a:Int)(b:0<=a/\a<=K)(h: ∀x∈l,0<=x/\x<=K):0<=l.foldl max a/\l.foldl max a<=K:=by
 induction l generalizing a with
 |nil=>exact b| cons x e c=>
   have f:=h x (by simp);exact c (max a x) (by omega) (fun y d=>h y (by simp [d]))
theorem lmax_bd{K:Int}(a:0<=K)(h: ∀x∈l,0<=x/\x<=K):0<=gP l/\gP l<=K:=by
 cases l with
 |nil=>exact⟨Int.le_refl _,a⟩|cons x b=>exact fold_bd K b x (h x (by simp)) (fun y c=>h y (by simp [c]))
theorem az.blt{a:Type}{enc:a->List Value}{xs:List a}(f:OZ h)(s:az h k enc v xs)(d:aq v c):c<h.n:=by
 rcases s with⟨rfl,_⟩|⟨b,o,_,_,rfl,_,g⟩
 . exact d.elim
 . have:b=c:=d;subst this;cases e:h.get b with
   |none=>simp [Hp.load,e]at g|some x=>exact iu f e
theorem uh{z:Nat}(h:z<256):an .u8 (z:Int)=(z:Int):=by
 show an .u8 (.ofNat z)=_;unfold an;simp only [hf,sgn,pw];have:Nat.blt z 256=true:=by rw [Nat.blt_eq];exact h
 rw [this];rfl
section
variable{E:Env}{t:TypeId}{p q:Operand}{x y i:Nat}
theorem bits8(op:BinOp)(a:x<256)(b:y<256):jv op .u8 (x:Int) (y:Int)=match op with
 | .and=>some (an .u8 ((Yc x y:Nat):Int))| .or=>some (an .u8 ((Nat.lor x y:Nat):Int))| .xor=>some (an .u8 ((Nat.xor x y:Nat):Int))| .andNot=>some (an .u8 ((Nat.xor x (Yc x y):Nat):Int))|_=>none:=by
 show jv op .u8 (.ofNat x) (.ofNat y)=_;have c:Nat.blt x (pw .u8)=true:=by rw [Nat.blt_eq];exact a
 have d:Nat.blt y (pw .u8)=true:=by rw [Nat.blt_eq];exact b
 unfold jv;simp only [c,d,Bool.and_self,cond_true];cases op<;>rfl
theorem b_and8(a:x<256)(b:y<256):bV E .and t p q (.int .u8 (x:Int)) (.int .u8 (y:Int))=some (.int .u8 ((x&&& y:Nat):Int)):=by show(bif jO .u8 .u8 then(jv .and .u8 (x:Int) (y:Int)).map (Value.int .u8 ·)else none)=_;rw [bits8 .and a b];simp only [];rw [show Yc x y=x&&& y from rfl,uh (XB XG a)];rfl
theorem b_or8(a:x<256)(b:y<256):bV E .or t p q (.int .u8 (x:Int)) (.int .u8 (y:Int))=some (.int .u8 ((x|||y:Nat):Int)):=by show(bif jO .u8 .u8 then(jv .or .u8 (x:Int) (y:Int)).map (Value.int .u8 ·)else none)=_;rw [bits8 .or a b];simp only [];rw [show Nat.lor x y=x|||y from rfl,uh (Nat.or_lt_two_pow (n:=8) a b)];rfl
theorem Ap(a:x<256)(b:y<256):bV E .andNot t p q (.int .u8 (x:Int)) (.int .u8 (y:Int))=some (.int .u8 ((x ^^^(x&&& y):Nat):Int)):=by show(bif jO .u8 .u8 then(jv .andNot .u8 (x:Int) (y:Int)).map (Value.int .u8 ·)else none)=_;rw [bits8 .andNot a b];simp only [];rw [show Nat.xor x (Yc x y)=x ^^^(x&&& y)from rfl,uh (XK (n:=8) a (XB XG a))];rfl
theorem b_shl8{k:IntKind}(a:i<8):bV E .shl t p q (.int .u8 1) (.int k (i:Int))=some (.int .u8 ((2 ^i:Nat):Int)):=by
 have:i=0\/i=1\/i=2\/i=3\/i=4\/i=5\/i=6\/i=7:=by omega
 rcases this with rfl|rfl|rfl|rfl|rfl|rfl|rfl|rfl<;>rfl
end
theorem pow8(h:i<8):2 ^i<256:=Nat.pow_lt_pow_right (by decide) h
theorem and_pow{x:Nat}:(x&&& 2 ^i=0)↔x.testBit i=false:=by
 constructor
 . intro h;have:=congrArg (fun z=>z.testBit i) h;simpa [XZ,XI]using this
 . intro h;refine Nat.eq_of_testBit_eq fun j=>?_;rw [XZ,XI,Nat.zero_testBit];by_cases e:i=j
   . subst e;rw [h];rfl
   . simp [e]
def setB(x i:Nat):Nat:=(x ^^^(x&&& 2 ^i))|||2 ^i
theorem setB_at(x i j:Nat):(setB x i).testBit j=if j=i then true else x.testBit j:=by
 unfold setB;rw [Nat.testBit_or,Nat.testBit_xor,XZ,XI];by_cases e:j=i
 . subst e;simp
 . have a: ¬i=j:=fun h=>e h.symm;simp [e,a]
theorem setB_lt{x:Nat}(a:x<256)(b:i<8):setB x i<256:=
 Nat.or_lt_two_pow (n:=8) (XK (n:=8) a (XB XG a)) (pow8 b)
def ja(n:Nat)(B:Nat->Nat):List Value:=(Xa n).map fun j=>.int .u8 (B j:Nat)
theorem xK:(ja n B).length=n:=by simp [ja]
theorem vt(h:j<n):(ja n B)[j]? =some (.int .u8 (B j:Nat)):=lE (F:=fun j=>Value.int .u8 ((B j:Nat):Int)) h
theorem wU{x:Nat}:(ja n B).set j (.int .u8 (x:Nat))=ja n (dU B j x):=by have:=kU (N:=n) (k:=j) (F:=fun j=>Value.int .u8 ((B j:Nat):Int)) (F':=fun u=>Value.int .u8 ((dU B j x u:Nat):Int)) (fun i _ a=>by simp [dU,a]);unfold ja;rw [<-this];simp [dU]
structure eu(h:Hp)(bp bb rows wide long:Nat)(B:Nat->Nat):Prop where
 r:Row h bp [.int .i64 rows,.int .i64 wide,.int .i64 long,.slice (some ⟨bb,0,none⟩) (rows*long) (rows*long)] 1
 b:Row h bb (ja (rows*long) B) 1
 lt: ∀j,B j<256
theorem eu.gr{h h':Hp}{d e a b c:Nat}{B:Nat->Nat}(m:eu h d e a b c B)(g:Gr h h'):eu h' d e a b c B:=⟨m.r.gr g,m.b.gr g,m.lt⟩
theorem eu.bits(m:eu h d e a b c B):ru h (ptrTo d) a b true:=.inr ⟨d,_,_,rfl,m.r,rfl⟩
def gu(B:Nat->Nat)(a r i:Nat):Bool:=(B (r*a+i/8)).testBit (i%8)
theorem CD(g:i/8<b)(j:c/8<b):gu (dU B (r*b+i/8) (setB (B (r*b+i/8)) (i%8))) b d c=if d=r/\c=i then true else gu B b d c:=by
 unfold gu dU;by_cases e:d*b+c/8=r*b+i/8
 . rw [if_pos e,setB_at];have k:d=r:=(by have a:(d*b+c/8)/b=(r*b+i/8)/b:=(by rw [e]);rw [Nat.mul_comm d,Nat.mul_comm r,Nat.mul_add_div (by omega),Nat.mul_add_div (by omega),Nat.div_eq_of_lt g,Nat.div_eq_of_lt j]at a;omega);subst k;have e8:c/8=i/8:=(by omega);rw [e];by_cases f:c%8=i%8
   . rw [if_pos f,if_pos ⟨rfl,by omega⟩]
   . rw [if_neg f,if_neg (fun h=>f (by rw [h.2]))]
 . rw [if_neg e,if_neg (fun h=>e (by rw [h.1,h.2]))]
theorem bmNew_ok(t:OZ h0){w:Nat}(u:a<=100)(B:w<=1000):Ret zM 96 [.int .i64 (a:Nat),.int .i64 (w:Nat)] h0 fun r h'=>Gr h0 h'/\ ∃c d,r=ptrTo c/\h0.n<=c/\h0.n<=d/\c≠d/\eu h' c d a w ((w+7)/8) (fun _=>0):=by
 have S:=Si t;have k: ¬((a:Int)<0):=by omega
 have l: ¬((w:Int)<0):=by omega
 have m: ¬((67108864:Int)<(w:Int)):=by omega
 have o:an .i64 ((w:Int)+8)=(w:Int)+8:=by rw [wrap64]<;>omega
 have p:an .i64 ((w:Int)+8-1)=((w+7:Nat):Int):=by rw [wrap64]<;>omega
 have g:(w+7)/8<=126:=by omega
 have i:an .i64 ((((w+7:Nat):Int)).tdiv 8)=(((w+7)/8:Nat):Int):=by rw [XM (by omega),show(((w+7:Nat):Int)/8)=(((w+7)/8:Nat):Int) by omega,wrap64]<;>omega
 generalize C:(w+7)/8=K at g i;have D:a*K<=100*126:=Nat.mul_le_mul u g;have q:an .i64 ((a:Int)*(K:Int))=((a*K:Nat):Int):=by rw [<-Int.natCast_mul,wrap64]<;>omega
 have mk: ∀(n:Nat),bH [Value.int .u8 0] n=ja n (fun _=>0):=fun n=>by rw [px];unfold ja;rw [XV,Xk];rfl
 by_cases s:0<(K:Int)
 . have v:(268435456:Int).tdiv (K:Int)=((268435456/K:Nat):Int):=(by rw [XM (by decide)];rfl);have E:268435456/126<=268435456/K:=Nat.div_le_div_left g (by omega);have F:268435456/K<=268435456:=Nat.div_le_self _ _;have G:(268435456/126:Nat)=2130440:=rfl;have y:an .i64 ((268435456:Int).tdiv (K:Int))=(268435456:Int).tdiv (K:Int):=(by rw [v,wrap64]<;>omega);have z: ¬((268435456:Int).tdiv (K:Int)<(a:Int)):=(by omega);have A:(K:Int)≠0:=(by omega);refine aa (n:=37) (rs:=[.tmp 4]) rfl Tryz.e96 rfl rfl rfl (lbt rfl) ?_;simp only [BZ,k,l,m,o,p,i,y,q,s,z,mL (n:=8) (by decide),mL (n:=(K:Int)) A,seval];refine ac (lZ (by exact Tryz.t22.1) (by exact Tryz.e5E) (by omega) (by omega)) S ?_;clear S;intro h d S b;rw [Xr,mk]at S;simp only [BZ,Xr,seval];refine ac (aV (by intro x e;cases e)) S ?_;clear S;intro h c S f;simp only [ae]at S;simp only [BZ,ab,seval];have j:=S.apart;exact⟨S.gr,c,d,rfl,by have:=S.fr.n;omega,b,fun e=>(by subst e;simp [keys]at j),⟨S.row m0,S.row m1,fun _=>Nat.zero_lt_succ _⟩⟩
 . refine aa (n:=37) (rs:=[.tmp 4]) rfl Tryz.e96 rfl rfl rfl (lbt rfl) ?_;simp only [BZ,k,l,m,o,p,i,q,s,mL (n:=8) (by decide),seval];refine ac (lZ (by exact Tryz.t22.1) (by exact Tryz.e5E) (by omega) (by omega)) S ?_;clear S;intro h d S b;rw [Xr,mk]at S;simp only [BZ,Xr,seval];refine ac (aV (by intro x e;cases e)) S ?_;clear S;intro h c S f;simp only [ae]at S;simp only [BZ,ab,seval];have j:=S.apart;exact⟨S.gr,c,d,rfl,by have:=S.fr.n;omega,b,fun e=>(by subst e;simp [keys]at j),⟨S.row m0,S.row m1,fun _=>Nat.zero_lt_succ _⟩⟩
theorem set1_ok(m:OZ h0)(R:Row h0 a (ja n B) 1)(c:j<n)(hB:B j<256)(p:i<8)(q:h0.load d 0 1=some [.bool true])(e:d≠a):
 Ret zM 100 [.pointer (some ⟨a,j,none⟩),.int .u8 ((2 ^i:Nat):Int),ptrTo d] h0 fun r h'=>Mo (· =a) h0 h'/\r=.bool true/\Row h' a (ja n (dU B j (setB (B j) i))) 1:=by
 have S:=St.init1 m (o:=.row (ja n B) 1) R;have k:=S.ld (b:=a) (o:=j) m0 (vt c);have l:=pow8 p;have s:(B j ^^^(B j&&& 2 ^i))<256:=XK (n:=8) hB (XB XG hB);refine aa (n:=19) (rs:=[.tmp 5]) rfl Tryz.e100 rfl rfl rfl (lbt rfl) ?_;simp only [BZ,k,Ap hB l,seval];refine aC (aE S (i:=0) rfl Tryz.t5.2.2.1 aZ (by rw [xK];exact c) ono) ?_;clear S k;rintro h ⟨S,t⟩;simp only [LC]at S;rw [wU]at S;have f:=S.ld (b:=a) (o:=j) m0 (vt c);have v:dU B j (B j ^^^(B j&&& 2 ^i)) j=(B j ^^^(B j&&& 2 ^i)):=by simp [dU]
 rw [v]at f;have g:=S.old q e;simp only [BZ,g,f,b_or8 s l,seval];refine aC (aE S (i:=0) rfl Tryz.t5.2.2.1 aZ (by rw [xK];exact c) ono) ?_;clear S f;rintro h ⟨S,t⟩;simp only [LC]at S;rw [show(((B j ^^^(B j&&& 2 ^i))|||2 ^i:Nat):Int)=((setB (B j) i:Nat):Int)from rfl,wU]at S;have w:dU (dU B j (B j ^^^(B j&&& 2 ^i))) j (setB (B j) i)=dU B j (setB (B j) i):=by funext u;unfold dU;split<;>rfl
 rw [w]at S;simp only [BZ,ab,seval];exact⟨S.fr,S.row m0⟩
section
variable{h0:Hp}{bp bb rows wide long:Nat}{B:Nat->Nat}
theorem tK(e:r<rows)(g:i<wide)(a:rows<=100)(b:wide<=1000)(c:long=(wide+7)/8):
 an .i64 ((r:Int)*(long:Int))=((r*long:Nat):Int)/\an .i64 ((i:Int).tdiv 8)=((i/8:Nat):Int)/\an .i64 (((r*long:Nat):Int)+((i/8:Nat):Int))=((r*long+i/8:Nat):Int)/\(i:Int).tmod 8=((i%8:Nat):Int)/\r*long+i/8<rows*long/\i/8<long/\i%8<8:=by
 have f:long<=126:=by omega
 have h:r*long<=100*126:=Nat.mul_le_mul (by omega) f;have d:i/8<long:=by omega
 have j:r*long+long<=rows*long:=by rw [<-Nat.succ_mul];exact XF _ e
 refine⟨by rw [<-Int.natCast_mul,wrap64]<;>omega,?_,by rw [wrap64]<;>omega,rfl,by omega,d,by omega⟩;rw [show(i:Int).tdiv 8=((i/8:Nat):Int)from rfl,wrap64]<;>omega
theorem bSet_ok(w:OZ h0)(m:eu h0 bp bb rows wide long B)(l:bp≠bb)(D:r<rows)(E:i<wide)(b:rows<=100)(d:wide<=1000)(e:long=(wide+7)/8):
 Ret zM 39 [ptrTo bp,.int .i64 (r:Nat),.int .i64 (i:Nat),.bool true] h0 fun v h'=>Mo (· =bb) h0 h'/\v=.bool true/\eu h' bp bb rows wide long (dU B (r*long+i/8) (setB (B (r*long+i/8)) (i%8))):=by
 obtain⟨F,G,H,I,x,n6,s⟩:=tK D E b d e;have J: ∀{h:Hp} {p:Nat},Gr h0 h->h.load p 0 1=some [.bool true]->p≠bb->Ret zM 99 [ptrTo bp,.int .i64 (r:Nat),.int .i64 (i:Nat),.func (.func 100) #[] #[ptrTo p]] h fun v h'=>Mo (· =bb) h h'/\v=.bool true/\Row h' bb (ja (rows*long) (dU B (r*long+i/8) (setB (B (r*long+i/8)) (i%8)))) 1:=by
  intro h p g K L;have S:=Si g.ok;have k:=m.gr g;have N: ¬(r:Int)<0:=by omega
  have O: ¬(rows:Int)<=(r:Int):=by omega
  have P: ¬(i:Int)<0:=by omega
  have Q: ¬(wide:Int)<=(i:Int):=by omega
  have T:=k.r.load1 (o:=2) rfl;have U:=k.r.load1 (o:=3) rfl;have V:=k.r.lt g.ok;refine aa (n:=46) (rs:=[.tmp 8]) rfl Tryz.e99 rfl rfl rfl (lbt rfl) ?_;simp only [BZ,N,seval];refine ag (jD S.ok k.bits) ?_;intro h1 t;replace S:=S.call t;simp only [BZ,O,P,seval];refine ag (jH S.ok (k.gr t).bits) ?_;intro W y;replace S:=S.call y;have a:=t.trans y;have X:=a.load T;have Y:=a.load U;simp only [BZ,Q,seval];refine ao (av rfl) (q:=0) (ps:=[]) (by kernel_rfl) ?_;simp only [BZ,cls,X,Y,F,G,H,I,x,mL (n:=8) (by decide),jL (n:=8) (by decide),b_shl8 s,seval];refine bU (set1_ok S.ok (k.b.gr a) x (k.lt _) s (a.load K) L) ?_;rintro v Z ⟨z,rfl,R3⟩;have vv:leaves W Z bp=true:=pR (z.get bp (Nat.lt_of_lt_of_le V a.n) l);simp only [BZ,cls,ab,seval];exact⟨(a.fr (M:=(· =bb))).trans z (fun c u=>.inl u),R3⟩
 have S:=Si w;have zb:=m.b.lt w;refine aa (n:=14) (rs:=[.tmp 8]) rfl Tryz.e39 rfl rfl rfl (lbt rfl) ?_;simp only [BZ,seval];refine ac (bJ (by exact og)) S ?_;clear S;intro h p S A;simp only [BZ,seval];have k7:=S.fr.n;refine step_ret (J S.gr (S.ld m0 rfl) (by omega)) ?_;rintro v h ⟨f,rfl,R⟩;simp only [BZ,ab,seval];have C:Mo (· =bb) h0 h:=(S.gr.fr (M:=(· =bb))).trans f (fun c u=>.inl u);refine⟨C,C.has (o:=.row _ 1) m.r l,R,fun j=>?_⟩;unfold dU
 split
 . exact setB_lt (m.lt _) s
 . exact m.lt _
end
theorem jc:(Xa (n+1)).filter f=(Xa n).filter f++if f n=true then [n]else []:=by
 rw [XX,List.filter_append];congr 1;by_cases h:f n=true
 . simp [h]
 . simp [h]
theorem sU(h:f i=true): ∀n,i<n->((Xa n).filter f)[((Xa i).filter f).length]? =some i:=by
 intro n
 induction n with
 |zero=>intro a;omega| succ n b=>
   intro a;rw [jc];by_cases c:i<n
   . have:=b c;rw [XQ (List.getElem?_eq_some_iff.1 this).1];exact this
   . have:i=n:=(by omega);subst this;rw [XL (Xs _),if_pos h];simp
theorem sJ:((Xa n).filter f).length<=n:=by have:=List.length_filter_le f (Xa n);rwa [Xk]at this
theorem Ee(q:OZ h0){a b:Int}(c:az h0 1 (encI .i64) v [a,b]):aO zM 285 [.func (.func 215) #[] #[],v] h0 (.int .i64 (wy (wy (wy a)+wy b))):=by
 have S:=Si q;have k:=s9 a;have x:=s9 b;have y:=s9 (wy a);have r:an .i64 1=1:=rfl;have s:an .i64 2=2:=rfl;have t:an .i64 (wy a)=wy a:=by rw [wrap64]<;>omega
 have u:wy (wy a)=wy a:=wy_id k.1 k.2;have w:an .i64 (wy a+wy b)=wy a+wy b:=by rw [wrap64]<;>omega
 refine aa (n:=22) (rs:=[.tmp 4]) rfl Tryz.e285 rfl rfl rfl (lbt rfl) ?_;simp only [BZ,Xe,c.lenq,seval];rw [cD];obtain⟨l,m,d,e⟩:=c.ix (kd:=.i64) (bO .i64) (i:=0) (by simp);replace d:mQ (some 1) v (.int .i64 0)=some (.pointer (some ⟨l,m,none⟩)):=d;replace e:h0.load l m 1=some [.int .i64 a]:=e;simp only [BZ,d,e,seval];refine ag (mW S.ok) ?_;intro h g;replace S:=S.call g;clear g;simp only [BZ,t,Int.zero_add,seval];refine ag (mW S.ok) ?_;intro h g;replace S:=S.call g;clear g;simp only [BZ,r,u,Int.zero_add,seval];rw [cD];obtain⟨o,p,f,j⟩:=(c.gr S.gr).ix (kd:=.i64) (bO .i64) (i:=1) (by simp);replace f:mQ (some 1) v (.int .i64 1)=some (.pointer (some ⟨o,p,none⟩)):=f;replace j:h.load o p 1=some [.int .i64 b]:=j;simp only [BZ,f,j,seval];refine ag (mW S.ok) ?_;intro h g;replace S:=S.call g;clear g;simp only [BZ,w,seval];refine ag (mW S.ok) ?_;intro h g;replace S:=S.call g;clear g;simp only [BZ,s,seval];rw [cD];simp only [BZ,ab,seval];exact S.gr
theorem add_ok(e:OZ h0){a b:Int}:aO zM 280 [.int .i64 a,.int .i64 b] h0 (.int .i64 (wy (wy (wy a)+wy b))):=by have S:=Si e;refine aa (n:=9) (rs:=[.tmp 4]) rfl Tryz.e280 rfl rfl rfl (lbt rfl) ?_;simp only [BZ,seval];refine ac (ce (by exact Tryz.t23.1) (by exact X7) (by decide) (by rfl)) S ?_;clear S;intro h c S d;simp only [LC,bH,cg,ae,Xl,Xm,Xo,Xq,seval]at S;simp only [BZ,seval];refine ag (Ee S.ok (a:=a) (b:=b) (.inr ⟨c,0,none,2,rfl,Xs _,S.lds (b:=c) (o:=0) (n:=2*1) m0 (lbt rfl)⟩)) ?_;intro h g;replace S:=S.call g;clear g;simp only [BZ,ab,seval];exact S.gr
end Go.Ab

/- Nets, cells, flags: what the functions do (part 3). -/
import Derived.Test.YtddjlflghenhkaaGreatDoorKctB
open Go.Ab.Tryz
open Go.Ab.Tryz renaming abEnv->zM,e3E->XD,e112->XW,e2E->X7
open Nat renaming le_trans->zO,lt_of_succ_le->Xb,zero_mul->Xl,zero_add->Xm,mul_one->Xo,one_mul->Xq,le_refl->Xs,zero_le->Xt,lt_of_le_of_lt->XB,mul_le_mul_right->XF,and_le_left->XG,testBit_two_pow->XI,xor_lt_two_pow->XK,zero_ne_one->XU,min_eq_left->XY,testBit_and->XZ,land->Yc
open List renaming range->Xa,getD_eq_getElem?_getD->Xc,take_succ_eq_append_getElem->Xd,getElem?_eq_getElem->Xf,mem_cons_of_mem->Xg,take_of_length_le->Xh,take->Xi,drop->Xj,length_range->Xk,flatMap_eq_foldl->Xp,replicate->Xu,length_map->Xv,drop_zero->Xw,mem_append_right->Xx,all_cons->Xy,take_succ_cons->Xz,all_nil->XA,getElem_mem->XC,length_take->XE,map_eq_flatMap->XH,length_append->XJ,getElem?_append_right->XL,getElem?_map->XN,flatMap_cons->XO,drop_eq_getElem_cons->XP,getElem?_append_left->XQ,cons_append->XR,map_map->XS,map_const'->XV,range_succ->XX,length_singleton->X6,mem_append_left->X8,map_cons->X9,mem_cons->Ya,map_congr_left->Yb
open Int renaming cast_ofNat_Int->Xe,toNat_natCast->Xr,tdiv_eq_ediv_of_nonneg->XM,eq_ofNat_of_zero_le->XT
open Bool renaming and_true->Xn
set_option maxHeartbeats 4000000
set_option linter.defProp false
set_option linter.unusedVariables false
set_option linter.unusedSimpArgs false
namespace Go.Ab
variable{N a b b1 b2 b5 c d i j k m n nb r s:Nat}
variable{h h' h0 hq:Hp}
variable{e p pn v vAl vPi:Value}
variable{γ:Gra}
variable{t w x:Int}
variable{E:Env}
variable{l xs:List Int}
variable{D:Nat->Prop}
variable{Q R:Nat->List Int}
variable{f:Nat->Bool}
variable{B:Nat->Nat}
variable{g:FuncId}
open Go.Proofs
set_option maxRecDepth 10000
def seen(A:List Arc)(fs ft:Arc->Nat):List Arc:=A.map fun a=>⟨fs a,ft a,a.w⟩
def NextF(E:Env)(g:FuncId)(γ:Gra)(pn:Value)(fs:Arc->Nat):Prop:= ∀(h:Hp) (b:Nat),OZ h->aX h b pn γ-> ∀v,v<γ.nodes->Ret E g [pn,.int .i64 (v:Nat)] h fun r a=>Gr h a/\az a 1 bO r (outs γ.arcs fs γ.arcs.length v)/\ ∀c,av r c->h.n<=c
def eX(l:List Nat):List Value:=l.flatMap bO
theorem nI(l:List Nat):eX l=l.map fun(x:Nat)=>Value.int .i64 x:=by unfold eX;rw [Xp,XH,Xp];rfl
theorem ints_map(l:List Int):ints l=l.map fun x=>Value.int .i64 x:=by unfold ints;rw [Xp,XH,Xp];rfl
theorem nT(l:List Nat):(eX l).length=l.length:=by rw [nI,Xv]
theorem A8(l:List Nat)(x:Nat):eX (l++[x])=eX l++eX [x]:=by rw [nI,nI,nI,List.map_append]
theorem seen_at{A:List Arc}{fs ft:Arc->Nat}(a:i<A.length):(seen A fs ft).getD i default=⟨fs (A.getD i default),ft (A.getD i default),(A.getD i default).w⟩/\(seen A fs ft).getD i default∈seen A fs ft:=by
 have e:(seen A fs ft).getD i default=⟨fs (A.getD i default),ft (A.getD i default),(A.getD i default).w⟩:=by unfold seen;simp [Xc,a]
 refine⟨e,?_⟩;rw [Xc,Xf (by unfold seen;simpa using a)];exact XC _
theorem seen_mem{A:List Arc}{fs ft:Arc->Nat}{a:Arc}(c:a∈seen A fs ft): ∃i,i<A.length/\(seen A fs ft).getD i default=a:=by obtain⟨i,b,e⟩:=List.mem_iff_getElem.1 c;exact⟨i,by unfold seen at b;simpa using b,by simp [Xc,b,e]⟩
def yF(h':Hp)(m:Nat)(r:Value)(B:List Arc)(s N:Nat):Prop:= ∃a b d D e O,r=.agg ⟨[a,b,d]⟩/\az h' 1 bO a ((Xa N).map D)/\az h' 1 (encI .i64) b e/\az h' 1 bO d O/\e.length=N/\(∀v,IsD B s v (D v))/\(∀c,av a c\/av b c\/av d c->m<=c)/\O.Nodup/\ ∀v∈O,v<N
theorem wR(c:OZ h0){F:List Nat}{K:Nat->Option Int}(H:cG h0 F p N K)(d:N<=1000):Ret zM 200 [p] h0 fun r h'=> ∃(v:Nat) (k:Int) (b:Bool),r=.tuple #[.int .i64 (v:Nat),.int .i64 k,.bool b]/\Mo (· ∈F) h0 h'/\cG h' F p N (if b=true then dq K v none else K)/\(b=true->K v=some k/\ ∀u k',K u=some k'->k<=k')/\(b=false-> ∀v,K v=none):=by
 refine ug (sZ c H d) ?_;rintro r h' (⟨rfl,a,g⟩|⟨v,k,rfl,a,e,f,i⟩)
 . exact⟨0,0,false,rfl,g.fr,H.gr g,fun h=>(by cases h),fun _=>a⟩
 . exact⟨v,k,true,rfl,f,i,fun _=>⟨a,fun u k' h=>by have:=e u k' h;omega⟩,fun h=>(by cases h)⟩
def FloodI(h0:Hp)(B:List Arc)(s N l br g i j m n r:Nat)(x y:FuncId)(O:List Nat)(ρ:Nat->Value)(d:List Deferred)(h:Hp):Prop:=
 ∃ (e:List Nat) (D:Nat->Nat) (K:Nat->Option Int) (F:List Nat) (o:List (Value×Value×Nat)) (c:Nat) (f:Int->Option Value) (p:List Int) (k:Value) (q:Nat) (v:Nat) (a:Int) (b:Bool),d=e.map rX/\
   St NoM h0 h ([(q,Ob.row [.int .i64 a] 1),(l,.row [ptrTo br] 1),(br,.row [ptrTo n,.slice (some ⟨j,0,none⟩) N N,.slice (some ⟨i,0,none⟩) N N,k,.map (some g)] 1),(g,.map o c),(i,.row (ints p) 1),(j,.row (eX ((Xa N).map D)) 1),(m,.row [.slice none 0 0,.slice none 0 0,.slice none 0 0] 1)]++dP e) [(k,1,eX O)]/\
   (∀t∈F,h0.n<=t/\t∉keys ([(q,Ob.row [.int .i64 a] 1),(l,.row [ptrTo br] 1),(br,.row [ptrTo n,.slice (some ⟨j,0,none⟩) N N,.slice (some ⟨i,0,none⟩) N N,k,.map (some g)] 1),(g,.map o c),(i,.row (ints p) 1),(j,.row (eX ((Xa N).map D)) 1),(m,.row [.slice none 0 0,.slice none 0 0,.slice none 0 0] 1)]++dP e) [(k,1,eX O)])/\
   p.length=N/\dN o c f/\ClF O f/\Dj B s N O D K (fun _=>False)/\cG h F (ptrTo n) N (if b=true then dq K v none else K)/\(b=true->K v=some a/\ ∀u w,K u=some w->a<=w)/\(b=false-> ∀v,K v=none)/\
   ρ 0=ptrTo r/\ρ 2=.func (.func x) #[ptrTo r] #[]/\ρ 3=.func (.func y) #[] #[]/\ρ 8=ptrTo m/\ρ 9=ptrTo l/\ρ 10=.int .i64 v/\ρ 11=ptrTo q/\ρ 12=.bool b
theorem Cg  (ok:OZ h0)  (ak:Good γ)   (hn:aX h0 nb pn γ)  (hs:s<γ.nodes) {gN gE:FuncId} {fs ft:Arc->Nat} (hN:NextF zM gN γ pn fs) (hE:KeyF zM gE ft) (bf: ∀a∈γ.arcs,ft a<γ.nodes):
 Ret zM 173 [pn,.int .i64 s,.func (.func gN) #[pn] #[],.func (.func gE) #[] #[]] h0 fun r h'=>Gr h0 h'/\yF h' h0.n r (seen γ.arcs fs ft) s γ.nodes:=by
 have n1:=ak.n1;have n2:=ak.n2;have S:=Si ok;have c1: ¬((s:Int)<0):=by omega
 have c2: ¬((γ.nodes:Int)<=(s:Int)):=by omega
 obtain⟨bp,bX⟩: ∃b,pn=ptrTo b:=by obtain⟨b,_,_,_,_,_,e,_⟩:=hn.ex;exact⟨b,e⟩
 subst bX;refine aa (n:=117) (rs:=[.cell 8 245]) rfl Tryz.e173 rfl rfl rfl (lbt rfl) ?_;simp only [BZ];refine ae aA S ?_;clear S;intro h V S ch;simp only [BZ,c1,seval];refine am (bM S.ok (hn.gr S.gr)) ?_;intro h g;replace S:=S.call g;clear g;simp only [BZ,c2,seval];refine am (bM S.ok (hn.gr S.gr)) ?_;intro h g;replace S:=S.call g;clear g;simp only [BZ,seval];have nF:=S.fr.n;have kF:=fun {c} (l:c∈_)=>S.key_lt (b:=c) l;refine step_ret (ue S.ok) ?_;intro v h ⟨g,Fh,H,hFn⟩;replace S:=S.call g;clear g;rename Value=>p;have dF: ∀c∈Fh,c∉keys [(V,Ob.row [.slice none 0 0,.slice none 0 0,.slice none 0 0] 1)] []:=fun c l t=>by have:=kF t;have:=hFn c l;omega
 have lF:=H.lt S.ok;have W:=S;have gF: ∀c∈Fh,h0.n<=c\/NoM c:=fun c l=>.inl (zO nF (hFn c l));replace S:=S.base;simp only [BZ];refine ae (ce (by exact Tryz.t23.1) (by exact X7) (by decide) (by rfl)) S ?_;clear S;intro h bh S a3;simp only [LC,bJ,cq,ag,Xl,Xm,Xo,Xq,seval]at S;simp only [BZ,seval];refine am (bM S.ok (hn.gr (W.rebase S).gr)) ?_;intro h g;replace S:=S.call g;clear g;simp only [BZ,seval];have kl:=fun {c} (l:c∈_)=>S.key_lt (b:=c) l;have kn:=S.fr.n;refine step_ret (rep64_ok S.ok (x:=72057594037927936) (.inr ⟨bh,0,none,1,rfl,Xs _,S.lds (b:=bh) (o:=0) (n:=1*1) m0 (lbt rfl)⟩) n1 (by omega)) ?_;intro v h ⟨g,bd,ed,nd,Rd⟩;replace S:=S.call g;clear g;subst ed;replace S:=S.drop1;replace S:=S.push (b:=bd) (o:=.row _ 1) (.inl (zO kn nd)) Rd (fun t=>by have:=kl (Xg _ t);omega);simp only [BZ];refine ae (ce (by exact Tryz.t41.1) (by exact XD) (by decide) (by rfl)) S ?_;clear S;intro h bi S a4;simp only [LC,bJ,cq,ag,Xl,Xm,Xo,Xq,seval]at S;simp only [BZ,seval];refine am (bM S.ok (hn.gr (W.rebase S).gr)) ?_;intro h g;replace S:=S.call g;clear g;simp only [BZ,seval];have bl:=fun {c} (l:c∈_)=>S.key_lt (b:=c) l;have al:=S.fr.n;refine step_ret (repI_ok S.ok (x:= -1) (.inr ⟨bi,0,none,1,rfl,Xs _,S.lds (b:=bi) (o:=0) (n:=1*1) m0 (lbt rfl)⟩) n1 (by omega)) ?_;intro v h ⟨g,ba,ea,na,Ra⟩;replace S:=S.call g;clear g;subst ea;replace S:=S.drop1;replace S:=S.push (b:=ba) (o:=.row _ 1) (.inl (zO al na)) Ra (fun t=>by have:=bl (Xg _ t);omega);have pp: ∃b,p=ptrTo b:=by obtain⟨b,_,_,e,_⟩:=H.ex;exact⟨b,e⟩
 obtain⟨Z,rfl⟩:=pp;simp only [BZ,seval];refine ae oq S ?_;clear S;intro h E S cj;simp only [BZ,seval];refine ae (bA (by intro x e;cases e)) S ?_;clear S;intro h A S ck;simp only [ag]at S;simp only [BZ];refine ae aA S ?_;clear S;intro h G S cl;simp only [BZ,seval];refine aE (aF S (i:=0) rfl ?_ ?_ ?_ ono) ?_
 . exact(by simp only [FA0])
 . exact(by exact bH)
 . exact Xb (lbt rfl)
 clear S;rintro h ⟨S,mo⟩;clear mo;simp only [LC,ag,lay,Xi,Xj,seval]at S;simp only [BZ,S.ld (b:=G) (o:=0) m0 rfl,S.ld (b:=A) (o:=0) m1 rfl,seval];have d8: ∀c∈Fh,c≠V:=fun c l e=>dF c l (by rw [e];simp [keys]);have cx:=zO kn nd;have cz:=zO al na;clear kl bl kF kn nd al na Ra Rd;have HA:=H.mo S.fr dF;have bm: ∀c∈Fh,c≠G/\c≠A/\c≠E/\c≠ba/\c≠bd/\c≠V:=fun c l=>by have:=lF c l;have:=d8 c l;omega
 replace S:=W.rebase S;clear W dF lF d8 H a3 a4;have T:=S.baseF Fh;have nh:=S.fr.n;have a5: ∀L,(∀c∈keys L [],c=G\/c=A\/c=E\/c=ba\/c=bd\/c=V)-> ∀c∈Fh,c∉keys L []:=fun L hL c l t=>by have:=bm c l;have:=hL c t;omega
 have ps:Ret zM 209 [ptrTo Z,.int .i64 (s:Nat),.int .i64 0] h _:=pN S.ok HA hs (by omega) rfl;refine step_ret ps ?_;rintro r P ⟨f1,F1,H1,I⟩;replace S:=S.rebaseF gF (T.stepF f1 (fun c l=>⟨.inl (.inr l),a5 _ (fun c l=>by simpa [keys]using l) c l⟩));have J: ∀c∈F1,h0.n<=c/\c∉keys [(G,Ob.row [ptrTo A] 1),(A,.row [ptrTo Z,.slice (some ⟨bd,0,none⟩) γ.nodes γ.nodes,.slice (some ⟨ba,0,none⟩) γ.nodes γ.nodes,.slice none 0 0,.map (some E)] 1),(E,.map [] 0),(ba,.row (Xu γ.nodes (.int .i64 (-1))) 1),(bd,.row (Xu γ.nodes (.int .i64 72057594037927936)) 1),(V,.row [.slice none 0 0,.slice none 0 0,.slice none 0 0] 1)] []:=fun c l=>by
  rcases I c l with h2|h2
  . exact⟨(gF c h2).elim (fun h=>h) (fun h=>h.elim),a5 _ (fun c l=>by simpa [keys]using l) c h2⟩
  . refine⟨zO nh h2,fun t=>?_⟩;have:=T.key_lt (b:=c) (by simpa [keys]using t);omega
 clear T a5 bm hFn gF nF I HA f1;replace S:=S.nilG (k:=1);have dj:=dj_init (B:=seen γ.arcs fs ft) hs;have bn:=H1.lt S.ok;have S1:=S;replace S:=S.baseF F1;simp only [BZ,S.ld (b:=G) (o:=0) m0 rfl,S.ld (b:=A) (o:=0) m1 rfl,seval];refine step_ret (wR S.ok H1 (by omega)) ?_;rintro r h2 ⟨v,k,b,rfl,f2,H2,ax,ay⟩;replace S:=S.stepF f2 (fun c l=>⟨.inl (.inr l),fun t=>(J c l).2 (by simpa [keys,eH]using t)⟩);simp only [BZ,seval];have S2:=S;replace S:=S.base;refine ae aA S ?_;clear S;intro h bk S cm;simp only [BZ,seval];refine aE (aF S (i:=0) rfl ?_ ?_ ?_ ono) ?_
 . exact(by simp only [FA0])
 . exact(by exact aU)
 . exact Xb (lbt rfl)
 clear S;rintro h ⟨S,mo⟩;clear mo;simp only [LC,ag,lay,Xi,Xj,seval]at S;simp only [BZ,seval];have H3:=H2.mo S.fr (fun c l t=>(J c l).2 (by simpa [keys,eH]using t));refine rV (FloodI h0 (seen γ.arcs fs ft) s γ.nodes G A E ba bd V Z bp gN gE) (fun O=>γ.nodes-O.length) ?_ [] _ _ _ ?_
 . clear S S1 S2 H3 ax ay H2 f2 H1 dj J bn ps;intro O ih ρ d hS ⟨dbs,D,K,F,es,c,f,aL,vO,bk,v,key,b,hd,W,Y,lA,MI,CF,dj,H,ax,ay,r0,r2,r3,r8,r9,r10,r11,r12⟩;simp only [XR,List.nil_append]at W Y;have S:=W.base;cases b with
   | false=>
     simp only [BZ,r8,r9,r12,S.ld (b:=G) (o:=0) m1 rfl,S.lds (b:=A) (o:=1) (n:=3) m2 (lbt rfl),seval];have a6:Fl vO:=by
      rcases(W.gown _ m0).1 with⟨e,_⟩|⟨_,_,e,_⟩
      . rw [show vO=_ from e];exact aW
      . rw [show vO=_ from e];exact aW
     refine aE (S.store (i:=6) rfl Tryz.t245.2.1 (by intro x e;cases e) rfl (by simp only [ag,List.drop_succ_cons,Xw,Xz,List.take_zero,Xy,XA,a6.2.1,Xn];rfl) (lbt rfl) ono) ?_;clear S;rintro h ⟨S,_⟩;simp only [LC,ag,lay,Xi,Xj,seval]at S;simp only [BZ];replace S:=(W.rebase S).permL (L':=dP dbs++[(bk,_),(G,_),(A,_),(E,_),(ba,_),(bd,_),(V,_)]) List.perm_append_comm;subst hd;refine dz (ir dbs _ S fun h' S'=>?_);have lT:=S'.lds (b:=V) (o:=0) (n:=3) m6 (lbt rfl);refine⟨rfl,_,wz (by decide) (by simp only [aC,r8,an,seval];exact bD Tryz.t245.1 Tryz.t245.2.1 lT),S'.gr,?_⟩;refine⟨_,_,_,D,aL,O,rfl,?_,?_,?_,lA,dj.done (ay rfl) n2,?_,dj.nd,dj.lt⟩
     . refine .inr ⟨bd,0,none,γ.nodes,by rw [Xv,Xk],by rw [Xv,Xk];exact Xs _,?_⟩;have:=(S'.row (b:=bd) m5).load (o:=0) (n:=((Xa γ.nodes).map D).length*1) (by rw [nT];omega);rw [this,Xw,Xh (by rw [nT];omega)];rfl
     . refine .inr ⟨ba,0,none,γ.nodes,by rw [lA],by rw [lA];exact Xs _,?_⟩;have:=(S'.row (b:=ba) m4).load (o:=0) (n:=aL.length*1) (by rw [cD];omega);rw [this,Xw,Xh (by rw [cD];omega)];rfl
     . exact(S'.gown _ m0).1.sl rfl dr (by decide)
     . rintro c (h|h|h)
       . have h:bd=c:=h;subst h;exact((S'.own _ m5).1).elim (fun h=>h) (fun h=>h.elim)
       . have h:ba=c:=h;subst h;exact((S'.own _ m4).1).elim (fun h=>h) (fun h=>h.elim)
       . exact((S'.gblk m0 h).1).elim (fun h=>h) (fun h=>h.elim)
   | true =>
     simp only [if_true]at H;obtain⟨hk,bo⟩:=ax rfl;obtain⟨_,n,rfl,_,_⟩:=dj.i3 v key hk;obtain⟨bY,b0,a7,cA⟩:=dj.pop hk bo;have lk:=lG (x:=(v:Int)) Tryz.t230.1 Tryz.t3.1 (z:=.int .i64 0) (by kernel_rfl) (show hS.get E=some (.map es c)from(S.own _ m3).2) MI;rw [CF v,if_neg b0,Option.getD_none]at lk;have w1:au .i64 1=1:=rfl;simp only [BZ,r9,r10,r12,lk,w1,S.ld (b:=G) (o:=0) m1 rfl,S.ld (b:=A) (o:=4) m2 rfl,seval];refine aE (S.mputI (i:=3) rfl Tryz.t230.1 Tryz.t3.1 MI _) ?_;clear S;rintro h ⟨_,Q,c',bq,S⟩;simp only [LC]at S;simp only [BZ];refine ar (aw rfl) (q:=0) (ps:=[]) (by kernel_rfl) ?_;simp only [BZ,cls,r9,r10,r11,a7,S.ld (b:=G) (o:=0) m1 rfl,S.ld (b:=A) (o:=1) m2 rfl,S.ld (b:=bk) (o:=0) m0 rfl,seval];refine cM (aF S (i:=5) rfl Tryz.t2.2.2.1 aU (by rw [nT,Xv,Xk];exact a7) ono) ?_;clear S;rintro h ⟨S,_⟩;simp only [LC]at S;have eD:(eX ((Xa γ.nodes).map D)).set v (.int .i64 (n:Nat))=eX ((Xa γ.nodes).map fun u=>if u=v then n else D u):=(by rw [nI,nI,XS,XS];have:=kX (N:=γ.nodes) (k:=v) (F:=(fun(x:Nat)=>Value.int .i64 x)∘D) (F':=(fun(x:Nat)=>Value.int .i64 x)∘fun u=>if u=v then n else D u) (fun u _ hu=>by simp [hu]);rw [<-this];simp);rw [eD]at S;simp only [BZ,seval];refine ar (aw rfl) (q:=128) (ps:=[(0,8)]) (by kernel_rfl) ?_;simp only [BZ,cls,r9,r10,S.ld (b:=G) (o:=0) m1 rfl,S.ld (b:=A) (o:=3) m2 rfl,seval];refine cL (ce (by exact Tryz.t41.1) (by exact XD) (by decide) (by rfl)) S ?_;clear S;intro h bs S cn cp;simp only [LC,bJ,cq,ag,Xl,Xm,Xo,Xq,seval]at S;simp only [BZ,cls,seval];have bt:aR h 1 (.slice (some ⟨bs,0,none⟩) 1 1)=some (1,eX [v]):=(by simp only [aR];rw [S.lds (b:=bs) (o:=0) (n:=1*1) m0 (lbt rfl)];rfl);replace S:=S.drop1;refine mI (S.grow (j:=0) (m:=1) (new:=eX [v]) rfl Tryz.t41.1 XD (by decide) Tryz.t41.2.2.2.2.2 bt rfl (by decide) rfl (by rw [nT,nT];have:=dj.len;simp;omega)) ?_;clear S bt;rintro h w S;simp only [LC,<-A8]at S;have a6:Fl w:=by
      rcases(S.gown _ m0).1 with⟨e,_⟩|⟨_,_,e,_⟩
      . rw [show w=_ from e];exact aW
      . rw [show w=_ from e];exact aW
     simp only [BZ,cls,seval];refine cM (aF S (i:=2) rfl Tryz.t41.2.2.1 a6 (Xb (lbt rfl)) ono) ?_;clear S;rintro h ⟨S,_⟩;simp only [LC]at S;simp only [BZ,r0,r2,r10,seval];have pv:vO=.slice none 0 0\/ ∃c n,vO=.slice (some ⟨c,0,some 1⟩) n n/\c≠G:=by
      rcases(W.gown _ m0).1 with⟨e,_⟩|⟨c,n,e,_⟩
      . exact .inl e
      . refine .inr ⟨c,n,e,fun h=>?_⟩;exact(W.gblk (c:=c) m0 (by rw [show vO=_ from e];rfl)).2 (by subst h;exact List.mem_map_of_mem (f:=Prod.fst) m1)
     refine⟨?_,?_⟩
     . clear ih;rcases pv with rfl|⟨cO,nO,rfl,bu⟩
       . simp only [aK,aO,aH,aQ,aJ,ne_eq,not_false_eq_true,aS,bz,aN,aM,bG,bS,aC,Xn,r9,an,Bn,noteSl,pair_x,entry_nl,jv,seval]
       . simp only [aK,aO,aH,aQ,aJ,ne_eq,not_false_eq_true,aS,bz,aN,aM,bG,bS,aC,Xn,r9,an,Bn,noteSl,dh bu,dh bu.symm,seval]
     have kO: ∀c∈keys ((bk,Ob.row [.int .i64 (n:Nat)] 1)::(G,.row [ptrTo A] 1)::(A,.row [ptrTo Z,.slice (some ⟨bd,0,none⟩) γ.nodes γ.nodes,.slice (some ⟨ba,0,none⟩) γ.nodes γ.nodes,vO,.map (some E)] 1)::(E,.map es c)::(ba,.row (ints aL) 1)::(bd,.row (eX ((Xa γ.nodes).map D)) 1)::(V,.row [.slice none 0 0,.slice none 0 0,.slice none 0 0] 1)::dP dbs) [(vO,1,eX O)],c<hS.n:=fun c l=>W.key_lt l;have kS:=fun {c} l=>S.key_lt (b:=c) l;have cI:=(W.rebase S).gr.n;refine step_ret (hN _ nb S.ok (hn.gr (W.rebase S).gr) v a7) ?_;rintro vl h ⟨g,sl,bv⟩;have kn:=S.fr.n;have gn:=g.n;replace S:=S.call g;clear g;simp only [BZ,r3,seval];have al:=S.fr.n;have cN:=fun {c} l=>sl.lt S.ok (b:=c) l;refine step_ret (arcs_ok' S.ok bH sl.fl eh) ?_;intro v h ⟨g,b1,b2,b3,e,q1,q2,q3,y1,y2,y3⟩;replace S:=S.call g;replace sl:=sl.gr g;clear g;subst e;simp only [BZ];have hH:=H.mo S.fr (fun c l t=>(Y c l).2 t);have bw:=H.lt W.ok;refine iD S (g:=263) (a:=#[]) (b:=#[ptrTo b1,ptrTo b2,ptrTo b3]) (by simp [bG,aD,an]) rfl rfl ?_;intro h2 db lb S' cT cW g2;have R1:=W.rebase S';obtain⟨X,hX,R1⟩: ∃X:gu,X=_/\St NoM h0 h2 ((lb,.loop X)::(db,.dfr)::(bk,Ob.row [.int .i64 (n:Nat)] 1)::(G,.row [ptrTo A] 1)::(A,.row [ptrTo Z,.slice (some ⟨bd,0,none⟩) γ.nodes γ.nodes,.slice (some ⟨ba,0,none⟩) γ.nodes γ.nodes,w,.map (some E)] 1)::(E,.map Q c')::(ba,.row (ints aL) 1)::(bd,.row (eX ((Xa γ.nodes).map fun u=>if u=v then n else D u)) 1)::(V,.row [.slice none 0 0,.slice none 0 0,.slice none 0 0] 1)::dP dbs) [(w,1,eX (O++[v]))]:=⟨_,rfl,R1⟩;have bx:ClF (O++[v]) (dY f (v:Int) (some (.int .i64 1))):=fun u=>by
      unfold dY;by_cases e:u=v
      . subst e;simp
      . have e': ¬((u:Int)=(v:Int)):=(by omega);rw [if_neg e',CF u];simp [e]
     have hJ :Yld zM lb (fun k h' F'=> ∃K' Fh C,St NoM h0 h' ((lb,.loop X)::(db,.dfr)::(bk,Ob.row [.int .i64 (n:Nat)] 1)::(G,.row [ptrTo A] 1)::(A,.row [ptrTo Z,.slice (some ⟨bd,0,none⟩) γ.nodes γ.nodes,.slice (some ⟨ba,0,none⟩) γ.nodes γ.nodes,w,.map (some E)] 1)::(E,.map Q c')::(ba,.row (ints C) 1)::(bd,.row (eX ((Xa γ.nodes).map fun u=>if u=v then n else D u)) 1)::(V,.row [.slice none 0 0,.slice none 0 0,.slice none 0 0] 1)::dP dbs) [(w,1,eX (O++[v]))]/\
      cG h' Fh (ptrTo Z) γ.nodes K'/\(∀c∈Fh,h0.n<=c/\c∉keys ((lb,.loop X)::(db,.dfr)::(bk,Ob.row [.int .i64 (n:Nat)] 1)::(G,.row [ptrTo A] 1)::(A,.row [ptrTo Z,.slice (some ⟨bd,0,none⟩) γ.nodes γ.nodes,.slice (some ⟨ba,0,none⟩) γ.nodes γ.nodes,w,.map (some E)] 1)::(E,.map Q c')::(ba,.row (ints C) 1)::(bd,.row (eX ((Xa γ.nodes).map fun u=>if u=v then n else D u)) 1)::(V,.row [.slice none 0 0,.slice none 0 0,.slice none 0 0] 1)::dP dbs) [(w,1,eX (O++[v]))])/\
      C.length=γ.nodes/\Dj (seen γ.arcs fs ft) s γ.nodes (O++[v]) (fun u=>if u=v then n else D u) K' (fun a=> ∃id∈(outs γ.arcs fs γ.arcs.length v).drop k,(seen γ.arcs fs ft).getD id default=a)/\
      F'=keys ((lb,.loop X)::(db,.dfr)::(bk,Ob.row [.int .i64 (n:Nat)] 1)::(G,.row [ptrTo A] 1)::(A,.row [ptrTo Z,.slice (some ⟨bd,0,none⟩) γ.nodes γ.nodes,.slice (some ⟨ba,0,none⟩) γ.nodes γ.nodes,w,.map (some E)] 1)::(E,.map Q c')::(ba,.row (ints C) 1)::(bd,.row (eX ((Xa γ.nodes).map fun u=>if u=v then n else D u)) 1)::(V,.row [.slice none 0 0,.slice none 0 0,.slice none 0 0] 1)::dP dbs) [(w,1,eX (O++[v]))]++Fh) (fun _ _=>False) (qM γ.arcs ft (outs γ.arcs fs γ.arcs.length v)):=by
      clear ih S' R1 y1 y2 y3 hH S g2 H Y sl;refine⟨?_,?_,fun _ _ h=>h.elim,?_⟩
      . rintro k h F' ⟨K',Fh,C,S,H,Y,_,_,rfl⟩;exact⟨S.ok,fun b hb=>(List.mem_append.1 hb).elim (fun hb=>S.key_lt hb) (fun hb=>H.lt S.ok b hb)⟩
      . rintro k h F' h' ⟨K',Fh,C,S,H,q⟩ g;exact⟨K',Fh,C,S.call g,H.gr g,q⟩
      . rintro k x h F' hx ⟨K',Fh,C,S,H,Y,a8,R,rfl⟩;have bb:k<(outs γ.arcs fs γ.arcs.length v).length:=(by have:=(List.getElem?_eq_some_iff.1 hx).1;simpa [qM]using this);unfold qM at hx;rw [XN,Xf bb]at hx;cases hx;have t:=mL.1 (XC bb);rw [XP bb]at R;generalize(outs γ.arcs fs γ.arcs.length v)[k]=id at t R;obtain⟨ac,be⟩:=t;subst hX;refine iB (S.get m0) (by rw [Tryz.e173];rfl) rfl ?_;have S1:=S;replace S:=S.base;simp only [BZ,seval];refine ae aA S ?_;clear S;intro h bB S b4;simp only [BZ,Xe,di,seval];refine aE (S.store (i:=0) rfl ?_ ?_ rfl rfl ?_ ono) ?_
        . exact(by exact Tryz.t135.2.1)
        . exact(by intro x e;cases e)
        . exact lbt rfl
        clear S;rintro h ⟨S,mo⟩;clear mo;simp only [LC,ag,lay,Xi,Xj,seval]at S;simp only [BZ];refine ib S (i:=1) rfl rfl rfl rfl rfl ?_;clear S;intro h S;simp only [LC]at S;have ad:γ.arcs.getD id default∈γ.arcs:=(by rw [Xc,Xf ac];exact XC ac);have cX:=ak.arcs _ ad;have cY:O.length*cH<=12*cH:=XF _ (zO dj.len n2);have cr:=jT;have wn:au .i64 ((n:Int)+((γ.arcs.getD id default).w:Int))=((n+(γ.arcs.getD id default).w:Nat):Int):=(by rw [wrap64]<;>omega);simp only [BZ,r9,r11,wn,S.ld (b:=G) (o:=0) m4 rfl,S.ld (b:=bB) (o:=1) m0 rfl,S.ld (b:=bB) (o:=2) m0 rfl,S.ld (b:=bk) (o:=0) m3 rfl,seval];have hH:=H.mo S.fr (fun c l t=>(Y c l).2 t);have bE:=H.lt S1.ok;have d3:A≠ba:=fun e=>(by have ap:=S1.apart;subst e;simp only [keys,X9,XR,List.nodup_cons,Ya]at ap;exact ap.2.2.2.2.1 (.inr (.inl trivial)));replace S:=S.mono (M':=fun c=>c∈keys _ _\/c∈Fh) (fun _ h=>.inl h);refine step_ret (reach_ok S.ok (arc:=id) (far:=n+(γ.arcs.getD id default).w) (S.row m5) hH (by omega) (S.own _ m6).2 bq bx (S.row m7) a8 (bf _ ad) (fun h=>(Y ba h).2 (by simp [keys])) (fun h=>(Y A h).2 (by simp [keys])) d3) ?_;rintro r h ⟨f1,F2,b5,H2,af,b6,b7,c0⟩;have kq:=fun {c} l=>S.key_lt (b:=c) l;have qn:=S.fr.n;have S2:=S.callF (i:=7) (Fh:=Fh) rfl f1 (fun c l=>⟨.inl (.inr l),fun t=>by
         rcases List.mem_cons.1 t with e|t
         . have:=bE c l;omega
         . exact(Y c l).2 t⟩) (o':=.row _ 1) b6
        simp only [List.set_cons_zero,List.set_cons_succ]at S2;clear S;simp only [BZ];have S:=S2.base;refine d6 S (i:=1) rfl ?_;clear S;intro h S;simp only [LC]at S;have H3:=H2.mo S.fr (fun c l t=>by
         rcases af c l with P|P
         . rcases List.mem_cons.1 t with e|t
           . have:=bE c P;omega
           . exact(Y c P).2 t
         . have:=kq t;omega)
        have S3:=S2.rebase S;refine .inl ⟨rfl,_,⟨_,F2,b5,S1.rebaseF (fun c l=>.inl (Y c l).1) S3.drop1,H3,fun c l=>?_,b7,?_,rfl⟩,S3.fr.mono (fun c l=>List.mem_append.2 l),fun c l=>?_⟩
        . rcases af c l with P|P
          . exact Y c P
          . refine⟨zO S1.fr.n (zO qn P),fun t=>?_⟩;have:=kq (Xg _ t);omega
        . obtain⟨e1,e2⟩:=seen_at (fs:=fs) (ft:=ft) ac;have:=R.relaxed (ex':=fun a=> ∃ca∈(outs γ.arcs fs γ.arcs.length v).drop (k+1),(seen γ.arcs fs ft).getD ca default=a) e2 (by rw [e1];show fs _∈_;rw [be];simp) (by rw [e1];exact bf _ ad) (by rw [e1];simp only [be,if_true];rw [XJ,X6,Nat.succ_mul];omega) (fun b hb hx=>by
           by_cases eb:b=(seen γ.arcs fs ft).getD id default
           . exact .inr eb
           . left;rintro⟨i,hi,rfl⟩;rcases List.mem_cons.1 hi with e|hi
             . subst e;exact eb rfl
             . exact hx ⟨i,hi,rfl⟩)
          simp only [e1,be,if_true]at this;exact this
        . rcases List.mem_append.1 l with l|l
          . exact .inl (X8 _ l)
          . rcases af c l with P|P
            . exact .inl (Xx _ P)
            . exact .inr (zO qn P)
     have ai:=(W.rebase S).gr;have cs:=kK γ.arcs fs γ.arcs.length v;have c3:=ak.many;refine cR (iter_useN (arcs_it (hq:=h0) ok S.ok ai.keep ai.n hn sl (fun id ac=>(mL.1 ac).1) (by omega) hE y1 y2 y3) (fun _ _ h=>h) hJ (h:=h2) (F:=keys ((lb,.loop X)::(db,.dfr)::(bk,Ob.row [.int .i64 (n:Nat)] 1)::(G,.row [ptrTo A] 1)::(A,.row [ptrTo Z,.slice (some ⟨bd,0,none⟩) γ.nodes γ.nodes,.slice (some ⟨ba,0,none⟩) γ.nodes γ.nodes,w,.map (some E)] 1)::(E,.map Q c')::(ba,.row (ints aL) 1)::(bd,.row (eX ((Xa γ.nodes).map fun u=>if u=v then n else D u)) 1)::(V,.row [.slice none 0 0,.slice none 0 0,.slice none 0 0] 1)::dP dbs) [(w,1,eX (O++[v]))]++F) g2.fr (fun b hb hlt=>?_)
      ⟨dq K v none,F,aL,R1,hH.gr g2,fun c l=>⟨(Y c l).1,fun t=>?_⟩,lA,bY.exm (fun a ha hs=>?_),rfl⟩) fun o rc h' y=>jt y ?_
     . rcases List.mem_append.1 hb with U|U
       . have k2:=(R1.key_own U).elim (fun h=>h) (fun h=>h.elim);rcases List.mem_cons.1 U with e|U
         . simp only []at e;omega
         . rcases List.mem_cons.1 U with e|U
           . simp only []at e;omega
           . have k1:=kS U;rintro(h|h|h|h|h)
             . omega
             . omega
             . omega
             . have:=bv b h;omega
             . omega
       . have k1:=bw b U;have k2:=(Y b U).1;rintro(h|h|h|h|h)
         . omega
         . omega
         . omega
         . have:=bv b h;omega
         . omega
     . have k1:=bw c l;have c4:=S.fr.n;rcases List.mem_cons.1 t with e|t
       . simp only []at e;omega
       . rcases List.mem_cons.1 t with e|t
         . simp only []at e;omega
         . rcases S.key_own t with P|P
           . omega
           . exact(Y c l).2 P
     . obtain⟨i,hi,e⟩:=seen_mem ha;refine⟨i,?_,e⟩;rw [Xw];refine mL.2 ⟨hi,?_⟩;have:=(seen_at (fs:=fs) (ft:=ft) hi).1;rw [e]at this;rw [this]at hs;exact hs
     . rintro Fx ⟨K',a0,C,T,H',I,a8,R,rfl⟩;clear hJ R1 y1 y2 y3 hH S' S;rw [show(qM γ.arcs ft (outs γ.arcs fs γ.arcs.length v)).length=(outs γ.arcs fs γ.arcs.length v).length by simp [qM],List.drop_length]at R;replace R:=R.exm (ex':=fun _=>False) (fun a _ h=>by obtain⟨i,hi,_⟩:=h;cases hi);subst hX;refine⟨_,T.get m0,XU,?_⟩;have af: ∀c∈a0,c≠lb:=fun c l e=>(I c l).2 (by rw [e];exact m0);have H2:=H'.mo ((Mo.refl (M:=(· =lb)) T.ok).put (.inr rfl) .dead) af;replace T:=T.dead;replace I:=fun c l=>And.intro (I c l).1 (fun t=>(I c l).2 (Xg _ t));have S:=T.base;show Run _ _ _ _ _ _ _ _;simp only [BZ,if_false,r11,S.ld (b:=bk) (o:=0) m1 rfl,seval];refine ae aA S ?_;clear S;intro h a1 S cb;simp only [BZ,r11,seval];refine aE (aF S (i:=0) rfl ?_ ?_ ?_ ono) ?_
       . exact(by simp only [FA0])
       . exact(by exact aU)
       . exact Xb (lbt rfl)
       clear S;rintro h ⟨S,mo⟩;clear mo;simp only [LC,ag,lay,Xi,Xj,seval]at S;simp only [BZ,r9,S.ld (b:=G) (o:=0) m3 rfl,S.ld (b:=A) (o:=0) m4 rfl,seval];have H3:=H2.mo S.fr (fun c l t=>(I c l).2 t);have cc:=H2.lt T.ok;have a2: ∀c∈a0,h0.n<=c/\c∉keys ([(a1,Ob.row [.int .i64 (n:Nat)] 1),(G,.row [ptrTo A] 1),(A,.row [ptrTo Z,.slice (some ⟨bd,0,none⟩) γ.nodes γ.nodes,.slice (some ⟨ba,0,none⟩) γ.nodes γ.nodes,w,.map (some E)] 1),(E,.map Q c'),(ba,.row (ints C) 1),(bd,.row (eX ((Xa γ.nodes).map fun u=>if u=v then n else D u)) 1),(V,.row [.slice none 0 0,.slice none 0 0,.slice none 0 0] 1)]++dP (db::dbs)) [(w,1,eX (O++[v]))]:=fun c l=>by
        refine⟨(I c l).1,fun t=>?_⟩;have P:=(I c l).2;have h2:=cc c l;simp [keys,dP]at t;rcases t with h|h|h|h|h|h|h|h|h|h
        . omega
        all_goals exact P (by simp [keys,dP,h])
       replace S:=(T.rebase S).sub (L':=(a1,Ob.row [.int .i64 (n:Nat)] 1)::(db,.dfr)::(G,.row [ptrTo A] 1)::(A,.row [ptrTo Z,.slice (some ⟨bd,0,none⟩) γ.nodes γ.nodes,.slice (some ⟨ba,0,none⟩) γ.nodes γ.nodes,w,.map (some E)] 1)::(E,.map Q c')::(ba,.row (ints C) 1)::(bd,.row (eX ((Xa γ.nodes).map fun u=>if u=v then n else D u)) 1)::(V,.row [.slice none 0 0,.slice none 0 0,.slice none 0 0] 1)::dP dbs) (G':=[(w,1,eX (O++[v]))]) (.cons_cons _ (.cons_cons _ (List.sublist_cons_self _ _))) (List.Sublist.refl _);replace S:=S.permL (L':=[(a1,Ob.row [.int .i64 (n:Nat)] 1),(G,.row [ptrTo A] 1),(A,.row [ptrTo Z,.slice (some ⟨bd,0,none⟩) γ.nodes γ.nodes,.slice (some ⟨ba,0,none⟩) γ.nodes γ.nodes,w,.map (some E)] 1),(E,.map Q c'),(ba,.row (ints C) 1),(bd,.row (eX ((Xa γ.nodes).map fun u=>if u=v then n else D u)) 1),(V,.row [.slice none 0 0,.slice none 0 0,.slice none 0 0] 1)]++dP (db::dbs)) (.cons _ (by
        show(List.append [_,_,_,_,_,_] ((db,Ob.dfr)::dP dbs)).Perm _;exact List.perm_middle))
       clear T H' H2 I;have T:=S.baseF a0;refine step_ret (wR S.ok H3 (by omega)) ?_;rintro rr h3 ⟨v3,k3,cf,rfl,f3,H4,bL,bT⟩;replace S:=S.rebaseF (fun c l=>.inl (a2 c l).1) (T.stepF f3 (fun c l=>⟨.inl (.inr l),(a2 c l).2⟩));simp only [BZ,r11,seval];clear T;have T:=S;replace S:=S.base;simp only [LC]at S;refine aE (aF S (i:=0) rfl ?_ ?_ ?_ ono) ?_
       . exact(by simp only [FA0])
       . exact(by exact aU)
       . exact Xb (lbt rfl)
       clear S;rintro h ⟨S,mo⟩;clear mo;simp only [LC,ag,lay,Xi,Xj,seval]at S;simp only [BZ,seval];have H5:=H4.mo S.fr (fun c l t=>(a2 c l).2 t);replace S:=T.rebase S;subst hd;have c5:(O++[v]).length=O.length+1:=(by simp);have cv:=R.len;refine ih (O++[v]) _ _ _ (by omega) ⟨db::dbs,_,K',a0,Q,c',_,C,w,a1,v3,k3,cf,rfl,S,a2,a8,bq,bx,R,H5,bL,bT,?_⟩;refine(by simp [aD,r0,an,r2,r3,r8,r9])
 . have e1:eX ((Xa γ.nodes).map fun _=>FAR)=Xu γ.nodes (.int .i64 72057594037927936):=(by rw [nI,XV,Xk,List.map_replicate];rfl);have e2:ints (Xu γ.nodes (-1))=Xu γ.nodes (.int .i64 (-1)):=(by rw [ints_map,List.map_replicate]);have S3:=S1.rebaseF (fun c l=>.inl (J c l).1) (S2.rebase S);have nn:=S2.fr.n;refine⟨[],fun _=>FAR,dq (fun _=>none) s (some 0),F1,[],0,fun _=>none,Xu γ.nodes (-1),.slice none 0 0,bk,v,k,b,rfl,?_,?_,by simp,nJ,fun u=>by simp,dj,H3,ax,ay,?_⟩
   . rw [e1,e2];exact S3
   . rw [e1,e2];intro c l;refine⟨(J c l).1,fun t=>?_⟩;have P:=(J c l).2;have h2:=bn c l;simp [keys,eH,dP]at t P;omega
   . refine(by simp [aD,an,cK,dw])
theorem fromKey:KeyF zM 175 Arc.t:=by intro f a c;have S:=Si c;refine aa (n:=5) (rs:=[.tmp 2]) rfl Tryz.e175 rfl rfl rfl (lbt rfl) ?_;simp only [BZ,di,seval];refine ae (bA (by intro x e;cases e)) S ?_;clear S;intro h b S d;simp only [ag]at S;simp only [BZ,ab,S.ld (b:=b) (o:=1) m0 rfl,seval];exact S.gr
theorem toKey:KeyF zM 174 Arc.s:=by intro f a c;have S:=Si c;refine aa (n:=5) (rs:=[.tmp 2]) rfl Tryz.e174 rfl rfl rfl (lbt rfl) ?_;simp only [BZ,di,seval];refine ae (bA (by intro x e;cases e)) S ?_;clear S;intro h b S d;simp only [ag]at S;simp only [BZ,ab,S.ld (b:=b) (o:=0) m0 rfl,seval];exact S.gr
theorem fromNext(a:Good γ):NextF zM 129 γ pn Arc.s:=fun h e b c v d=>uR b c (by have:=a.many;omega) d
theorem toNext(a:Good γ):NextF zM 131 γ pn Arc.t:=fun h e b c v d=>xt b c (by have:=a.many;omega) d
theorem uu(z:OZ h0)(f:Good γ){A:Nat}(B:aX h0 A pn γ)(C:s<γ.nodes):
 Ret zM 85 [pn,.int .i64 s] h0 fun r h'=>Gr h0 h'/\yF h' h0.n r (seen γ.arcs Arc.s Arc.t) s γ.nodes:=by
 have S:=Si z;refine aa (n:=10) (rs:=[.cell 4 245]) rfl Tryz.e85 rfl rfl rfl (lbt rfl) ?_;simp only [BZ];refine ae aA S ?_;clear S;intro h j S m;simp only [BZ,seval];have E:=S.fr.n;have F:=(S.row (b:=j) m0).lt S.ok;refine step_ret (Cg S.ok f (B.gr S.gr) C (fromNext f) fromKey (fun a G=>(f.arcs a G).2.1)) ?_;intro v h ⟨g,T⟩;replace S:=S.call g;clear g;obtain⟨p,q,t,D,H,O,rfl,u,w,y,t4,t5,t6,t7,t8⟩:=T;have I:=u.fl;have J:=w.fl;have K:=y.fl;have k: ∀c,av p c\/av q c\/av t c->c≠j:=fun c d e=>by have:=t6 c d;omega
 simp only [BZ,seval];refine aE (S.store (i:=0) rfl Tryz.t245.2.1 (by intro x e;cases e) rfl (by simp only [ag,Xy,XA,I.2.1,J.2.1,K.2.1,Xn]) (lbt rfl) ono) ?_;clear S;rintro h ⟨S,l⟩;simp only [LC,ag,lay,Xi,Xj,seval]at S;simp only [BZ,ab];refine(bF (by decide) (by simp only [aC,an,seval];exact bD Tryz.t245.1 Tryz.t245.2.1 (S.lds (b:=j) (o:=0) (n:=3) m0 (lbt rfl)))).2 (cg.2 ?_);exact⟨S.gr,p,q,t,D,H,O,rfl,u.mo l (fun c d=>k c (.inl d)),w.mo l (fun c d=>k c (.inr (.inl d))),y.mo l (fun c d=>k c (.inr (.inr d))),t4,t5,fun c d=>zO E (t6 c d),t7,t8⟩
theorem tQ(z:OZ h0)(f:Good γ){A:Nat}(B:aX h0 A pn γ)(C:s<γ.nodes):
 Ret zM 84 [pn,.int .i64 s] h0 fun r h'=>Gr h0 h'/\yF h' h0.n r (seen γ.arcs Arc.t Arc.s) s γ.nodes:=by
 have S:=Si z;refine aa (n:=10) (rs:=[.cell 4 245]) rfl Tryz.e84 rfl rfl rfl (lbt rfl) ?_;simp only [BZ];refine ae aA S ?_;clear S;intro h j S m;simp only [BZ,seval];have E:=S.fr.n;have F:=(S.row (b:=j) m0).lt S.ok;refine step_ret (Cg S.ok f (B.gr S.gr) C (toNext f) toKey (fun a G=>(f.arcs a G).1)) ?_;intro v h ⟨g,T⟩;replace S:=S.call g;clear g;obtain⟨p,q,t,D,H,O,rfl,u,w,y,t4,t5,t6,t7,t8⟩:=T;have I:=u.fl;have J:=w.fl;have K:=y.fl;have k: ∀c,av p c\/av q c\/av t c->c≠j:=fun c d e=>by have:=t6 c d;omega
 simp only [BZ,seval];refine aE (S.store (i:=0) rfl Tryz.t245.2.1 (by intro x e;cases e) rfl (by simp only [ag,Xy,XA,I.2.1,J.2.1,K.2.1,Xn]) (lbt rfl) ono) ?_;clear S;rintro h ⟨S,l⟩;simp only [LC,ag,lay,Xi,Xj,seval]at S;simp only [BZ,ab];refine(bF (by decide) (by simp only [aC,an,seval];exact bD Tryz.t245.1 Tryz.t245.2.1 (S.lds (b:=j) (o:=0) (n:=3) m0 (lbt rfl)))).2 (cg.2 ?_);exact⟨S.gr,p,q,t,D,H,O,rfl,u.mo l (fun c d=>k c (.inl d)),w.mo l (fun c d=>k c (.inr (.inl d))),y.mo l (fun c d=>k c (.inr (.inr d))),t4,t5,fun c d=>zO E (t6 c d),t7,t8⟩
def wy(x:Int):Int:=min (max x 0) 72057594037927936
theorem Dr(a:OZ h0)(b:h0.load b1 0 1=some [.int .i64 0])(c:h0.load b2 0 1=some [.int .i64 72057594037927936]):aT zM 275 [.int .i64 x,ptrTo b1,ptrTo b2] h0 (.int .i64 (wy x)):=by have S:=Si a;refine aa (n:=10) (rs:=[.tmp 4]) rfl Tryz.e275 rfl rfl rfl (lbt rfl) ?_;simp only [BZ,ab,b,c,seval];exact⟨rfl,S.gr⟩
theorem DP(c:OZ h0):Ret zM 254 [.int .i64 0,.int .i64 72057594037927936] h0 fun v h=>Gr h0 h/\ ∃b1 b2,v=.func (.func 275) #[] #[ptrTo b1,ptrTo b2]/\h.load b1 0 1=some [.int .i64 0]/\h.load b2 0 1=some [.int .i64 72057594037927936]:=by have S:=Si c;refine aa (n:=6) (rs:=[.tmp 4]) rfl Tryz.e254 rfl rfl rfl (lbt rfl) ?_;simp only [BZ,seval];refine ae (bA (by intro x e;cases e)) S ?_;clear S;intro h b1 S a;simp only [ag]at S;simp only [BZ,if_false,seval];refine ae (bA (by intro x e;cases e)) S ?_;clear S;intro h b2 S b;simp only [ag]at S;simp only [BZ,ab,seval];exact⟨S.gr,b1,b2,rfl,S.ld m1 rfl,S.ld m0 rfl⟩
theorem nw(a:OZ h0):aT zM 215 [.int .i64 x] h0 (.int .i64 (wy x)):=by have S:=Si a;refine aa (n:=6) (rs:=[.tmp 2]) rfl Tryz.e215 rfl rfl rfl (lbt rfl) ?_;simp only [BZ];refine step_ret (DP S.ok) ?_;intro v h ⟨g,b1,b2,e,e1,e2⟩;replace S:=S.call g;clear g;subst e;simp only [BZ,seval];refine am (Dr S.ok e1 e2) ?_;intro h g;replace S:=S.call g;clear g;simp only [BZ,ab,seval];exact S.gr
theorem ow(a:OZ h0):aT zM 214 [.int .i64 x] h0 (.bool (decide (wy x<72057594037927936))):=by have S:=Si a;refine aa (n:=6) (rs:=[.tmp 2]) rfl Tryz.e214 rfl rfl rfl (lbt rfl) ?_;simp only [BZ,seval];refine am (nw S.ok) ?_;intro h g;replace S:=S.call g;clear g;simp only [BZ,ab,seval];exact S.gr
theorem tS(x:Int):0<=wy x/\wy x<=72057594037927936:=by unfold wy;omega
theorem wy_id(h0:0<=x)(a:x<=72057594037927936):wy x=x:=by unfold wy;omega
structure YldP(E:Env)(lb:Nat)(J:Nat->Hp->List Nat->Prop)(n:Nat)(P:Nat->Hp->List Nat->List Value->Prop):Prop where
 lt: ∀i h F,J i h F->OZ h/\ ∀b∈F,b<h.n
 gr: ∀i h F h',J i h F->Gr h h'->J i h' F
 round: ∀i x h F,i<n->P i h F x->J i h F->nu E lb x h fun o h'=>o=.ret (.bool true)/\ ∃F',J (i+1) h' F'/\Mo (· ∈F) h h'/\ ∀b∈F',b∈F\/h.n<=b
def IterP(E:Env)(g:FuncId)(post:List Value)(h0:Hp)(D:Nat->Prop)(n:Nat)(P:Nat->Hp->List Nat->List Value->Prop):Prop:=
 ∀a J,YldP E a J n P-> ∀h F,ItS h0 D h F->J 0 h F->eJ E g (.func (.yield a) #[] #[]::post) none h fun o b c=>b=none/\ ∃u d,o=.ret u/\J n c d
theorem DB{cx:Cx}{o:Oper}{l:Loc}{K:Ex->Loc->Hp->Prop}{J:Nat->Hp->List Nat->Prop}{P:Nat->Hp->List Nat->List Value->Prop}{x:List Value}{F:List Nat}
 (Y:YldP E d J n P) (s:ItS h0 D h F) (e:J i h F) (f:i<n) (g:P i h F x)
 (j: ∀h' F',J (i+1) h' F'->ItS h0 D h' F'->Mo (· ∈F) h h'->(∀b∈F',b∈F\/h.n<=b)->K .normal (l.put o.dst (.bool true)) h'):hU E cx o l K (some (.yield d x,h)):=by
 refine ym (Y.round i x h F f g e) ?_;rintro q h' ⟨rfl,F',a,b,c⟩;exact j h' F' a (s.mo b c (Y.lt _ _ _ a).2) b c
def encV(w:Value):List Value:=[w]
theorem tM(w:Value):(encV w).length=1:=rfl
theorem Au(l:List Value):l.flatMap encV=l:=by
 induction l with
 |nil=>rfl|cons x l a=>rw [XO,a];rfl
def fV(h:Hp)(m:Nat)(v:Value)(n:Nat)(R:Nat->List Int):Prop:=
 ∃a:List Value,az h 1 encV v a/\a.length=n/\(∀c,av v c->m<=c)/\ ∀i w,a[i]? =some w->az h 1 (encI .i64) w (R i)/\ ∀c,av w c->m<=c
theorem fV.mo{M:Nat->Prop}{h h':Hp}{m n:Nat}{v:Value}{R:Nat->List Int}(r:fV h m v n R)(g:Mo M h h')(k: ∀b,M b->b<m):fV h' m v n R:=by obtain⟨l,a,b,c,d⟩:=r;exact⟨l,a.mo g (fun x e f=>by have:=c x e;have:=k x f;omega),b,c,fun i w j=>⟨(d i w j).1.mo g (fun x e f=>by have:=(d i w j).2 x e;have:=k x f;omega),(d i w j).2⟩⟩
theorem fV.gr(r:fV h m v n R)(g:Gr h h'):fV h' m v n R:=r.mo (M:=NoM) g.fr (fun _ h=>h.elim)
theorem fV.low{f:Nat}(r:fV h m v n R)(g:f<=m):fV h f v n R:=by obtain⟨k,a,b,c,d⟩:=r;exact⟨k,a,b,fun x e=>zO g (c x e),fun i w j=>⟨(d i w j).1,fun x e=>zO g ((d i w j).2 x e)⟩⟩
theorem fV.row(r:fV h m v n R)(k:i<n): ∃w,(∃c o,m9 (some 1) v (.int .i64 (i:Nat))=some (.pointer (some ⟨c,o,none⟩))/\h.load c o 1=some [w])/\az h 1 (encI .i64) w (R i)/\ ∀c,av w c->m<=c:=by obtain⟨e,a,b,c,d⟩:=r;obtain⟨q,o,g,j⟩:=a.ix (kd:=.i64) tM (i:=i) (by omega);have f:e[i]? =some e[i]:=Xf (by omega);exact⟨e[i],⟨q,o,g,j⟩,(d i _ f).1,(d i _ f).2⟩
theorem flat_nat(l:List Nat):l.flatMap bO=(l.map fun(x:Nat)=>(x:Int)).flatMap (encI .i64):=by
 induction l with
 |nil=>rfl|cons x l a=>rw [XO,X9,XO,a];rfl
theorem yh{l:List Nat}(s:az h 1 bO v l):az h 1 (encI .i64) v (l.map fun(x:Nat)=>(x:Int)):=by
 rcases s with⟨rfl,rfl⟩|⟨b,o,s,c,rfl,d,a⟩
 . exact .inl ⟨rfl,rfl⟩
 . refine .inr ⟨b,o,s,c,by grind,by grind,?_⟩;rw [Xv,a,flat_nat]
def iT(N:Nat)(l:List Int):Prop:=l.length<=16/\ ∀i,i<l.length->0<=l.getD i 0/\l.getD i 0<N/\l.getD i 0∉l.take i
theorem iT.push(h:iT N l)(d:l.length<16)(h0:0<=x)(f:x<N)(g:x∉l):iT N (l++[x]):=by
 refine⟨by simp;omega,fun i b=>?_⟩;simp at b;by_cases e:i=l.length
 . grind
 . have a:i<l.length:=(by omega);have c:(l++[x]).getD i 0=l.getD i 0:=(by grind);rw [c,List.take_append_of_le_length (by omega)];exact h.2 i a
theorem mayL_nil(N:Nat):iT N []:=⟨by simp,fun i a=>by simp at a⟩
structure TabAt(h:Hp)(m:Nat)(p:Value)(N:Nat)(marks:List Int)(R Q:Nat->List Int):Prop where
 ex: ∃b vM vT vF,p=ptrTo b/\Row h b [.int .i64 N,vM,vT,vF] 1/\az h 1 (encI .i64) vM marks/\fV h m vT marks.length R/\fV h m vF marks.length Q/\m<=b/\ ∀c,av vM c->m<=c
theorem TabAt.mo{M:Nat->Prop}{h h':Hp}{m N:Nat}{p:Value}{a:List Int}{R Q:Nat->List Int}(t:TabAt h m p N a R Q)(g:Mo M h h')(c: ∀b,M b->b<m):TabAt h' m p N a R Q:=by obtain⟨b,d,f,i,e,j,k,l,n,q,r⟩:=t.ex;exact⟨b,d,f,i,e,g.has (o:=.row _ 1) j (fun h=>by grind),k.mo g (fun x s u=>by grind),l.mo g c,n.mo g c,q,r⟩
theorem TabAt.gr{a:List Int}(t:TabAt h m p N a R Q)(g:Gr h h'):TabAt h' m p N a R Q:=t.mo (M:=NoM) g.fr (fun _ h=>h.elim)
theorem fV.lenq{h h':Hp}{m n:Nat}{v:Value}{R:Nat->List Int}{e:TypeId}(r:fV h' m v n R):lenQ (some (.slice e)) h v=some (.val (.int .i64 n),h):=by have⟨c,a,b,_⟩:=r;rw [<-b];exact a.lenq
theorem may1_ok(u:OZ h0){p:List (Value×Value×Nat)}{f:Int->Option Value}(e5:h0.load b5 0 1=some [.map (some b)])(v:h0.load b2 0 1=some [.int .i64 N])(q:h0.get b=some (.map p c))(s:dN p c f)(hf:(f x).getD (.int .i64 0)=.int .i64 k)(D:k<=1)(y:b5≠b)(A:b2≠b):
 Ret zM 169 [.int .i64 x,ptrTo b5,ptrTo b2] h0 fun r h'=>Mo (· =b) h0 h'/\r=.bool (decide (x<0\/(N:Int)<=x\/k=1))/\ ∃es' c',h'.get b=some (.map es' c')/\dN es' c' (dY f x (some (.int .i64 (k+1:Nat)))):=by
 have S:=St.init1 u (o:=.map p c) q;have t:=lG (x:=x) Tryz.t230.1 Tryz.t3.1 (z:=.int .i64 0) (by kernel_rfl) q s;rw [hf]at t;have w:au .i64 ((k:Int)+1)=((k+1:Nat):Int):=by rw [wrap64]<;>omega
 refine aa (n:=22) (rs:=[.tmp 4]) rfl Tryz.e169 rfl rfl rfl (lbt rfl) ?_;simp only [BZ,e5,t,w,seval];refine aE (S.mputI (i:=0) rfl Tryz.t230.1 Tryz.t3.1 s _) ?_;clear S;rintro h ⟨_,es',c',a,S⟩;simp only [LC]at S;have j:=S.old e5 y;have d:=S.old v A;have l:h.get b=some (.map es' c'):=(S.own _ m0).2;have e:=lG (x:=x) Tryz.t230.1 Tryz.t3.1 (z:=.int .i64 0) (by kernel_rfl) l a;rw [show dY f x (some (.int .i64 ((k+1:Nat):Int))) x=some (.int .i64 ((k+1:Nat):Int)) by unfold dY;rw [if_pos rfl],Option.getD_some]at e;by_cases g:x<0
 . simp only [BZ,ab,g,seval];exact⟨S.fr,by simp [g],es',c',l,a⟩
 . by_cases m:(N:Int)<=x
   . simp only [BZ,ab,d,g,m,seval];exact⟨S.fr,by simp [m],es',c',l,a⟩
   . by_cases B:k=1
     . subst B;simp only [BZ,ab,Xe,j,d,g,m,e,seval];exact⟨S.fr,by simp,es',c',l,a⟩
     . have C:k=0:=(by omega);subst C;simp only [BZ,ab,Xe,j,d,g,m,e,seval];exact⟨S.fr,by simp [g,m],es',c',l,a⟩
def OkAt(N:Nat)(l:List Int)(i:Nat):Prop:=0<=l.getD i 0/\l.getD i 0<N/\l.getD i 0∉l.take i
theorem mayIdx_ok  (T:OZ h0)    (y:az h0 1 (encI .i64) v l) (hl:l.length<=1000) (e5:h0.load b5 0 1=some [.map (some a)]) (A:h0.load b2 0 1=some [.int .i64 N]) (J:h0.get a=some (.map [] 0)) (K:b5≠a) (L:b2≠a):
 Ret zM 234 [v,.func (.func 169) #[] #[ptrTo b5,ptrTo b2]] h0 fun r h'=>Mo (· =a) h0 h'/\ ∃z,r=.int .i64 z/\(0<=z↔ ¬ ∀i,i<l.length->OkAt N l i):=by
 have B: ∀c,av v c-> ¬c=a:=by
  rintro c M rfl;rcases y with⟨rfl,_⟩|⟨b,o,s,O,rfl,_,U⟩
  . exact M.elim
  . have:b=c:=M;subst this;simp [Hp.load,J]at U
 refine aa (n:=19) (rs:=[.tmp 4]) rfl Tryz.e234 rfl rfl rfl (lbt rfl) ?_;simp only [BZ,y.lenq,seval];refine bj (fun(i:Nat) g h=>i<=l.length/\Mo (· =a) h0 h/\(∃C c f,h.get a=some (.map C c)/\dN C c f/\ ∀x,f x=if x∈l.take i then some (.int .i64 1)else none)/\(∀j,j<i->OkAt N l j)/\g 0=v/\g 1=.func (.func 169) #[] #[ptrTo b5,ptrTo b2]/\g 7=.int .i64 l.length/\g 8=.int .i64 i) (fun i=>l.length-i) ?_ 0 _ _ ?_
 . intro i V g h ⟨hi,mo,⟨C,c,f,hg,MI,hf⟩,hok,r0,r1,r7,r8⟩;by_cases hlt:i<l.length
   . obtain ⟨q,o,m,D⟩:=(y.mo mo B).ix (kd:=.i64) (bV .i64) hlt;have w:au .i64 ((i:Int)+1)=((i+1:Nat):Int):=(by rw [wrap64]<;>omega);have P: ∀{b:Nat} {x},b≠a->h0.load b 0 1=some x->h.load b 0 1=some x:=fun E e=>(by have:=mo.get _ (bC mo.ok0 e) E;unfold Hp.load at e⊢;rw [this];exact e);have F:l.getD i 0=l[i]:=(by simp [Xc,hlt]);simp only [BZ,r0,r1,r7,r8,aG,hlt,m,D,encI,seval];refine step_ret (may1_ok mo.ok (x:=l[i]) (N:=N) (k:=if l[i]∈l.take i then 1 else 0) (P K e5) (P L A) hg MI (by rw [hf];split<;>rfl) (by split<;>omega) K L) ?_;rintro r h' ⟨W,rfl,G,O,H,I⟩;have p:=mo.trans W (fun _ h=>.inl h);by_cases d:OkAt N l i
     . have e:decide (l[i]<0\/(N:Int)<=l[i]\/(if l[i]∈l.take i then 1 else 0)=1)=false:=(by obtain⟨X,Y,Q⟩:=d;rw [F]at X Y Q;rw [if_neg Q];simp;omega);rw [e];have t:l[i]∉l.take i:=(by have:=d.2.2;rwa [F]at this);simp only [BZ,r8,w,seval];refine V (i+1) _ _ (by omega) ⟨by omega,p,⟨G,O,_,H,I,fun x=>?_⟩,fun j R=>?_,by simp [aD,r0,r1,an,r7]⟩
       . have S:=Xd hlt;rw [if_neg t];unfold dY;by_cases u:x=l[i]
         . rw [if_pos u,if_pos (by rw [S];exact Xx _ (List.mem_singleton.2 u))];rfl
         . rw [if_neg u,hf];have:x∈l.take (i+1)↔x∈l.take i:=(by rw [S,List.mem_append,List.mem_singleton];exact⟨fun h=>h.resolve_right u,.inl⟩);simp only [this]
       . by_cases A:j=i
         . subst A;exact d
         . exact hok j (by omega)
     . have e:decide (l[i]<0\/(N:Int)<=l[i]\/(if l[i]∈l.take i then 1 else 0)=1)=true:=by
        unfold OkAt at d;rw [F]at d;simp only [decide_eq_true_eq];by_cases t:l[i]∈l.take i
        . rw [if_pos t];exact .inr (.inr rfl)
        . by_cases Z:l[i]<0
          . exact .inl Z
          . by_cases a2:(N:Int)<=l[i]
            . exact .inr (.inl a2)
            . exact absurd ⟨by omega,by omega,t⟩ d
       rw [e];simp only [BZ,ab,seval];exact⟨p,_,rfl,by simp only [Int.natCast_nonneg,true_iff];exact fun h=>d (h i hlt)⟩
   . simp only [BZ,ab,r7,r8,aG,hlt,seval];exact⟨mo,_,rfl,⟨fun h=>by omega,fun h=>absurd (fun j R=>hok j (by omega)) h⟩⟩
 . exact⟨Xt _,Mo.refl T,⟨[],0,fun _=>none,J,nJ,fun x=>by simp⟩,fun j R=>by omega,by simp [aD,cK,dw,an]⟩
noncomputable instance mayDec(N:Nat)(l:List Int):Decidable (iT N l):=Classical.propDecidable _
theorem mayCf_ok(g:OZ h0)(j:az h0 1 (encI .i64) v l)(k:l.length<=1000)(e5:h0.load b5 0 1=some [.map (some a)])(m:h0.load b2 0 1=some [.int .i64 N])(o:h0.get a=some (.map [] 0))(p:b5≠a)(q:b2≠a)(d:Decidable (∀i,i<l.length->OkAt N l i)):
 Ret zM 170 [v,.func (.func 169) #[] #[ptrTo b5,ptrTo b2]] h0 fun r h'=>Mo (· =a) h0 h'/\r=.bool (!decide (∀i,i<l.length->OkAt N l i)):=by
 refine aa (n:=9) (rs:=[.tmp 4]) rfl Tryz.e170 rfl rfl rfl (lbt rfl) ?_;simp only [BZ,seval];refine step_ret (mayIdx_ok g j k e5 m o p q) ?_;rintro r h ⟨e,z,rfl,f⟩;by_cases c: ∀i,i<l.length->OkAt N l i
 . have b: ¬(0<=z):=fun h=>f.1 h c;simp only [BZ,ab,b,seval];exact⟨e,by rw [decide_eq_true c];rfl⟩
 . have b:0<=z:=f.2 c;simp only [BZ,ab,b,seval];exact⟨e,by rw [decide_eq_false c];rfl⟩
theorem may_ok(s:OZ h0)(g:az h0 1 (encI .i64) v l)(t:l.length<=1000):aT zM 80 [.int .i64 N,v] h0 (.bool (decide (iT N l))):=by
 have S:=Si s;refine aa (n:=18) (rs:=[.tmp 4]) rfl Tryz.e80 rfl rfl rfl (lbt rfl) ?_;simp only [BZ,seval];refine ae (bA (by intro x e;cases e)) S ?_;clear S;intro h u S p;simp only [ag]at S;simp only [BZ];refine ae oq S ?_;clear S;intro h A S a;simp only [BZ];refine ae aA S ?_;clear S;intro h w S q;simp only [BZ,seval];refine aE (aF S (i:=0) rfl ?_ ?_ ?_ ono) ?_
 . exact(by simp only [FA0])
 . exact(by exact fl_map)
 . exact Xb (lbt rfl)
 clear S;rintro h ⟨S,j⟩;clear j;simp only [LC,ag,lay,Xi,Xj,seval]at S;by_cases f:l.length<=16
 . have k:(l.length:Int)<=16:=(by omega);simp only [BZ,g.lenq,k,seval];have m:=S.apart;simp only [keys,X9,List.map_nil,List.filterMap_nil,List.append_nil,List.nodup_cons,Ya,List.not_mem_nil,or_false,not_or]at m;have d:Decidable (∀i,i<l.length->OkAt N l i):=Classical.propDecidable _;refine step_ret (mayCf_ok S.ok (g.gr S.gr) t (S.ld (b:=w) (o:=0) m0 rfl) (S.ld (b:=u) (o:=0) m2 rfl) (S.own _ m1).2 m.1.1 (fun e=>m.2.1 e.symm) d) ?_;rintro r h ⟨j,rfl⟩;have y:Gr h0 h:=(S.fr.trans j (fun c z=>.inr (by subst z;exact a)):Mo NoM h0 h).gr;simp only [BZ,ab,seval];refine⟨?_,y⟩;congr 1;by_cases c: ∀i,i<l.length->OkAt N l i
   . have:iT N l:=⟨f,c⟩;rw [decide_eq_true c,decide_eq_true this];rfl
   . have: ¬iT N l:=fun h=>c h.2;rw [decide_eq_false c,decide_eq_false this];rfl
 . have k: ¬(l.length:Int)<=16:=(by omega);simp only [BZ,ab,g.lenq,k,seval];exact⟨by have: ¬iT N l:=fun h=>f h.1;simp [this],S.gr⟩
open Classical in
noncomputable def dOf(B:List Arc)(s v:Nat):Nat:=if h: ∃x,IsD B s v x then h.choose else 0
theorem xU{B:List Arc}{v x:Nat}(h:IsD B s v x):dOf B s v=x/\IsD B s v (dOf B s v):=by
 have a: ∃x,IsD B s v x:=⟨x,h⟩;have e:dOf B s v=a.choose:=by unfold dOf;rw [dif_pos a]
 rw [e];exact⟨a.choose_spec.uniq h,a.choose_spec⟩
noncomputable def rowD(B:List Arc)(N s:Nat):List Int:=(Xa N).map fun v=>((dOf B s v:Nat):Int)
theorem rowD_of{B:List Arc}{D:Nat->Nat}(h: ∀v,IsD B s v (D v)):((Xa N).map D).map (fun(x:Nat)=>(x:Int))=rowD B N s:=by unfold rowD;rw [XS];refine Yb fun v _=>?_;show((D v:Nat):Int)=_;rw [(xU (h v)).1]
def RunF(E:Env)(g:FuncId)(γ:Gra)(pn:Value)(B:List Arc):Prop:= ∀(h:Hp) (b:Nat),OZ h->aX h b pn γ-> ∀s,s<γ.nodes->Ret E g [pn,.int .i64 (s:Nat)] h fun r a=>Gr h a/\yF a h.n r B s γ.nodes
theorem runTo(a:Good γ):RunF zM 84 γ pn (seen γ.arcs Arc.t Arc.s):=fun h e b c s d=>tQ b a c d
theorem runFrom(a:Good γ):RunF zM 85 γ pn (seen γ.arcs Arc.s Arc.t):=fun h e b c s d=>uu b a c d
def PRow(m:Nat)(R:Nat->List Int)(i:Nat)(h:Hp)(F:List Nat)(x:List Value):Prop:= ∃w,x=[w]/\az h 1 (encI .i64) w (R i)/\ ∀c,av w c->m<=c/\c∉F
theorem rows_ok(g:OZ h0){f:Value}(i:Fl p)(j:Fl e)(k:Fl f):Ret zM 83 [p,e,f] h0 fun v h'=>Gr h0 h'/\ ∃b1 b2 a,v=.func (.func 172) #[] #[ptrTo b1,ptrTo b2,ptrTo a]/\h0.n<=b1/\h0.n<=b2/\h0.n<=a/\h'.load b1 0 1=some [e]/\h'.load b2 0 1=some [f]/\h'.load a 0 1=some [p]:=by have S:=Si g;refine aa (n:=8) (rs:=[.tmp 6]) rfl Tryz.e83 rfl rfl rfl (lbt rfl) ?_;simp only [BZ,seval];refine ae (bN (by assumption)) S ?_;clear S;intro h a S b;simp only [BZ,if_false,seval];refine ae (bN (by assumption)) S ?_;clear S;intro h b1 S c;simp only [BZ,if_false,seval];refine ae (bN (by assumption)) S ?_;clear S;intro h b2 S d;simp only [BZ,ab,seval];exact⟨S.gr,b1,b2,a,rfl,c,d,b,S.ld m1 rfl,S.ld m0 rfl,S.ld m2 rfl⟩
theorem rows_it(x:OZ hq)(d:OZ h0)(M:fU hq h0)(N:hq.n<=h0.n){f:Value}{y:Nat}(P:aX hq y pn γ)(A:az h0 1 (encI .i64) f l)(z: ∀i,i<l.length->0<=l.getD i 0/\l.getD i 0<γ.nodes)(C:l.length<1000){B:List Arc}(Q:RunF zM g γ pn B)(R:m<=h0.n)
 (S:h0.load b1 0 1=some [f]) (T:h0.load b2 0 1=some [.func (.func g) #[] #[]]) (e3:h0.load j 0 1=some [pn]):
 IterP zM 172 [ptrTo b1,ptrTo b2,ptrTo j] h0 (fun c=>c=b1\/c=b2\/c=j\/av f c\/c<hq.n) l.length (PRow m fun i=>rowD B γ.nodes (l.getD i 0).toNat):=by
 intro U J Y h F s t;refine enter (n:=22) (rs:=[]) rfl Tryz.e172 rfl rfl rfl (lbt rfl) ?_;have E:=s.load d S (.inl rfl);simp only [BZ,E,A.lenq,seval];refine bj (fun(i:Nat) e h=>i<=l.length/\ ∃F,ItS h0 (fun c=>c=b1\/c=b2\/c=j\/av f c\/c<hq.n) h F/\J i h F/\e 0=.func (.yield U) #[] #[]/\e 2=ptrTo b2/\e 3=ptrTo j/\e 7=f/\e 8=.int .i64 l.length/\e 9=.int .i64 i) (fun i=>l.length-i) ?_ 0 _ _ ?_
 . clear E;intro i V e h ⟨hi,F,s,t,r0,r2,r3,r7,r8,r9⟩;by_cases hlt:i<l.length
   . obtain⟨c,o,p,q⟩:=(s.sl d A (fun b h=>.inr (.inr (.inr (.inl h))))).ix (kd:=.i64) (bV .i64) hlt;have W:=s.load d T (.inr (.inl rfl));have X:=s.load d e3 (.inr (.inr (.inl rfl)));have Z:aX h y pn γ:=P.keep x (s.keep M N (fun c u=>.inr (.inr (.inr (.inr u)))));have w:au .i64 ((i:Int)+1)=((i+1:Nat):Int):=(by rw [wrap64]<;>omega);have G:l.getD i 0=l[i]:=(by simp [Xc,hlt]);have H:=z i hlt;rw [G]at H;obtain⟨mk,r⟩: ∃k:Nat,l[i]=k:=⟨l[i].toNat,by omega⟩;rw [r]at q H;simp only [BZ,r0,r2,r3,r7,r8,r9,aG,hlt,p,q,encI,W,X,seval];refine step_ret (Q h y s.ok Z mk (by omega)) ?_;rintro v I ⟨K,L,vA,vO,D,aL,O,rfl,s1,s2,s3,t4,t5,t6,t7,t8⟩;simp only [BZ,seval];refine DB Y (s.gr K) (Y.gr _ _ _ _ t K) (i:=i) hlt ⟨L,rfl,?_,fun c u=>⟨?_,fun hF=>?_⟩⟩ ?_
     . have:=yh s1;rw [rowD_of t5]at this;show az I 1 _ L (rowD B γ.nodes (l.getD i 0).toNat);rw [G,r];exact this
     . exact zO R (zO s.n (t6 c (.inl u)))
     . have h1:=s.lt c hF;have I:=t6 c (.inl u);omega
     . intro h' F' a s' _ _;simp only [BZ,r9,w,seval];exact V (i+1) _ _ (by omega) ⟨by omega,F',s',a,by simp [aD,r0,r2,an,r3,r7,r8]⟩
   . simp only [BZ,r8,r9,aG,hlt,seval];have:i=l.length:=(by omega);subst this;exact cE (cu ⟨rfl,_,rfl,rfl,_,F,rfl,t⟩)
 . exact⟨by omega,F,s,t,by simp [aD,c8,an]⟩
theorem A9  (ok:OZ h0)  {post:Array Value}    (it:IterP zM g post.toList h0 D n (PRow m R)) (E:m<=h0.n) (hn:n<1000):
 Ret zM 171 [.slice none 0 0,.func (.func g) #[] post] h0 fun r h'=>Gr h0 h'/\fV h' m r n R:=by
 have S:=Si ok;refine aa (n:=13) (rs:=[.tmp 4]) rfl Tryz.e171 rfl rfl rfl (lbt rfl) ?_;simp only [BZ,seval];refine ae (bN (by exact aW)) S ?_;clear S;intro h t S V;simp only [BZ,if_false,seval];replace S:=S.nilG (k:=1);have g0:=S.gr;refine iD S (g:=g) (a:=#[]) (b:=post) (by simp [bG,aD,cK,dw]) rfl rfl ?_;intro W B v y ad af g2;obtain⟨X,Y,y⟩: ∃X:gu,X=_/\St NoM h0 W [(v,.loop X),(B,.dfr),(t,.row [.slice none 0 0] 1)] [(.slice none 0 0,1,[])]:=⟨_,rfl,y⟩;have hJ:YldP zM v (fun k h' F=> ∃(f:List Value) (p:Value),St NoM h0 h' [(v,.loop X),(B,.dfr),(t,.row [p] 1)] [(p,1,f)]/\f.length=k/\k<=n/\(∀i w,f[i]? =some w->az h' 1 (encI .i64) w (R i)/\ ∀c,av w c->m<=c/\c∉F)/\F=keys [(v,.loop X),(B,.dfr),(t,.row [p] 1)] [(p,1,f)]) n (PRow m R):=by
  refine⟨?_,?_,?_⟩
  . rintro i h F ⟨f,p,S,_,_,_,rfl⟩;exact⟨S.ok,fun b z=>S.key_lt z⟩
  . rintro i h F h' ⟨f,p,S,a,b,c,rfl⟩ Z;exact⟨f,p,S.call Z,a,b,fun i w l=>⟨(c i w l).1.gr Z,(c i w l).2⟩,rfl⟩
  . rintro i x hR F hi ⟨w,rfl,sw,l⟩ ⟨f,p,S,a,b,c,rfl⟩;subst Y;obtain⟨I,J,K,rfl⟩:=sw.form;have fw:Fl (.slice I J K):=aW;refine iB (S.get m0) (by rw [Tryz.e171];rfl) rfl ?_;have O:=S;replace S:=S.base;simp only [BZ,seval];refine ib S (i:=0) rfl rfl rfl rfl rfl ?_;clear S;intro h S;simp only [LC]at S;simp only [BZ,S.ld (b:=t) (o:=0) m2 rfl,seval];refine ae (ce (by exact Tryz.t79.1) (by exact Tryz.e23E) (by decide) (by rfl)) S ?_;clear S;intro h bs S ac;simp only [LC,bJ,cq,ag,Xl,Xm,Xo,Xq,seval]at S;simp only [BZ,seval];have G:aR h 1 (.slice (some ⟨bs,0,none⟩) 1 1)=some (1,[.slice I J K]):=(by simp only [aR];rw [S.lds (b:=bs) (o:=0) (n:=1*1) m0 (lbt rfl)];rfl);replace S:=S.drop1;refine dQ (S.grow (j:=0) (m:=1) (new:=[.slice I J K]) rfl Tryz.t79.1 Tryz.e23E (by decide) Tryz.t79.2.2.2.2.2 G rfl (by decide) (by simp [fw.2.1]) (by simp;omega)) ?_;clear S G;rintro h q S;simp only [LC]at S;have fv:Fl q:=by
     rcases(S.gown _ m0).1 with⟨e,_⟩|⟨_,_,e,_⟩
     . rw [show q=_ from e];exact aW
     . rw [show q=_ from e];exact aW
    simp only [BZ,seval];refine aE (aF S (i:=2) rfl Tryz.t79.2.2.1 fv (Xb (lbt rfl)) ono) ?_;clear S;rintro h ⟨S,_⟩;simp only [LC]at S;simp only [BZ];refine d6 S (i:=0) rfl ?_;clear S;intro h S;simp only [LC]at S;refine⟨rfl,_,⟨f++[.slice I J K],q,O.rebase S,by simp [a],by omega,fun j u C=>?_,rfl⟩,S.fr,S.key_new⟩;have s:az h 1 (encI .i64) u (R j)/\ ∀c,av u c->m<=c/\c∉keys [(v,Ob.dfr),(B,.dfr),(t,.dfr)] [(p,1,f)]/\c<hR.n:=by
     by_cases hj:j<f.length
     . rw [XQ hj]at C;obtain⟨N,A⟩:=c j u C;exact⟨N.mo S.fr (fun x d H=>(A x d).2 H),fun x d=>⟨(A x d).1,(A x d).2,N.lt O.ok d⟩⟩
     . rw [XL (by omega)]at C;have P:j-f.length=0:=(by have:=(List.getElem?_eq_some_iff.1 C).1;simp at this;omega);rw [P]at C;cases C;have:j=f.length:=(by omega);subst this;rw [a];exact⟨sw.mo S.fr (fun x d H=>(l x d).2 H),fun x d=>⟨(l x d).1,(l x d).2,sw.lt O.ok d⟩⟩
    refine⟨s.1,fun x d=>⟨(s.2 x d).1,fun E=>?_⟩⟩;rcases S.key_new x E with h1|h1
    . exact(s.2 x d).2.1 h1
    . have:=(s.2 x d).2.2;omega
 refine cR (it v _ hJ W _ ?_ ⟨[],_,y,rfl,Xt _,fun i w l=>by simp at l,rfl⟩) ?_
 . exact⟨y.ok,y.fr.n,fun b z _=>y.gr.get b z,fun b z h=>by have:=(y.key_own z).elim (fun h=>h) (fun h=>h.elim);omega,fun b z=>y.key_lt z⟩
 . rintro o rc h' ⟨rfl,u,F,rfl,f,p,T,a,_,c,rfl⟩;subst Y;refine⟨_,T.get m0,XU,?_⟩;have Q: ∀i w,f[i]? =some w->az (h'.put v .dead) 1 (encI .i64) w (R i)/\ ∀c,av w c->m<=c/\c∉keys [(B,.dfr),(t,.row [p] 1)] [(p,1,f)]:=fun i w l=>(by obtain⟨N,A⟩:=c i w l;exact⟨N.mo ((Mo.refl (M:=(· =v)) T.ok).put (.inr rfl) .dead) (fun x d e=>(A x d).2 (by rw [e];exact m0)),fun x d=>⟨(A x d).1,fun E=>(A x d).2 (Xg _ E)⟩⟩);replace T:=T.dead;have S:=T;show Run _ _ _ _ _ _ _ _;simp only [BZ,S.ld (b:=t) (o:=0) m1 rfl,seval];refine dz (ir [B] _ (L:=[(t,_)]) T.base fun h3 U=>⟨rfl,_,rfl,?_⟩);refine⟨(T.fr.trans U.fr (fun c hc=>(T.key_own hc).symm):Mo NoM h0 h3).gr,f,?_,a,fun x d=>?_,fun i w l=>⟨(Q i w l).1.mo U.fr (fun x d H=>((Q i w l).2 x d).2 H),fun x d=>((Q i w l).2 x d).1⟩⟩
   . exact(U.gown _ m0).1.sl (Au f).symm tM (by decide)
   . exact zO E (((T.gblk m0 d).1).elim (fun h=>h) (fun h=>h.elim))
theorem yt(a:OZ h0){g:FuncId}{post:Array Value}(b:IterP zM g post.toList h0 D n (PRow m R))(c:m<=h0.n)(d:n<1000):
 Ret zM 82 [.func (.func g) #[] post] h0 fun r h'=>Gr h0 h'/\fV h' m r n R:=by
 have S:=Si a;refine aa (n:=5) (rs:=[.tmp 2]) rfl Tryz.e82 rfl rfl rfl (lbt rfl) ?_;simp only [BZ,seval];refine step_ret (A9 S.ok b c d) ?_;intro v h ⟨g,L⟩;replace S:=S.call g;clear g;simp only [BZ,ab,seval];exact⟨S.gr,L⟩
noncomputable def toR(γ:Gra)(l:List Int)(i:Nat):List Int:=rowD (seen γ.arcs Arc.t Arc.s) γ.nodes (l.getD i 0).toNat
noncomputable def frR(γ:Gra)(l:List Int)(i:Nat):List Int:=rowD (seen γ.arcs Arc.s Arc.t) γ.nodes (l.getD i 0).toNat
theorem tabOf_ok(y:OZ h0)(p:Good γ){E:Value}{F:Nat}(q:aX h0 F pn γ)(k:az h0 1 (encI .i64) E l)(f:l.length<1000):
 Ret zM 33 [pn,E] h0 fun r h'=>Gr h0 h'/\((¬iT γ.nodes l/\r=.pointer none)\/(iT γ.nodes l/\TabAt h' h0.n r γ.nodes l (toR γ l) (frR γ l))):=by
 have S:=Si y;obtain⟨K,rfl⟩: ∃b,pn=ptrTo b:=by obtain⟨b,_,_,_,_,_,e,_⟩:=q.ex;exact⟨b,e⟩
 refine aa (n:=28) (rs:=[.tmp 4]) rfl Tryz.e33 rfl rfl rfl (lbt rfl) ?_;simp only [BZ,seval];refine am (bM S.ok (q.gr S.gr)) ?_;intro h g;replace S:=S.call g;clear g;simp only [BZ,seval];refine am (may_ok S.ok (k.gr S.gr) (by omega)) ?_;intro h g;replace S:=S.call g;clear g;by_cases j:iT γ.nodes l
 . have z:decide (iT γ.nodes l)=true:=decide_eq_true j;simp only [BZ,z,seval];refine am (bM S.ok (q.gr S.gr)) ?_;intro h g;replace S:=S.call g;clear g;simp only [BZ,seval];have G:=S.fr.n;refine step_ret (jK S.ok (bV .i64) (k.gr S.gr) (by omega)) ?_;intro v h ⟨g,d,hM⟩;replace S:=S.call g;clear g;rename Value=>vM;obtain⟨L,M,N,rfl⟩:=d.form;simp only [BZ,seval];refine step_ret (rows_ok S.ok bH k.fl eh) ?_;intro v h ⟨g,b1,b2,b3,e,q1,q2,q3,y1,y2,y3⟩;replace S:=S.call g;replace d:=d.gr g;clear g;subst e;simp only [BZ,seval];have w:=rows_it y S.ok S.gr.keep S.fr.n q (k.gr S.gr) (fun i t=>⟨(j.2 i t).1,(j.2 i t).2.1⟩) f (runTo p) (m:=h0.n) S.fr.n y1 y2 y3;refine step_ret (yt S.ok w S.fr.n f) ?_;intro v h ⟨g,o⟩;replace S:=S.call g;replace d:=d.gr g;clear g;rename Value=>vT;obtain⟨O,P,Q,rfl⟩: ∃a n c,vT=.slice a n c:=(by obtain⟨_,s,_⟩:=o;exact s.form);clear w y1 y2 y3 q1 q2 q3;simp only [BZ,seval];refine step_ret (rows_ok S.ok bH k.fl eh) ?_;intro v h ⟨g,b1,b2,b3,e,q1,q2,q3,y1,y2,y3⟩;replace S:=S.call g;replace d:=d.gr g;replace o:=o.gr g;clear g;subst e;simp only [BZ,seval];have w:=rows_it y S.ok S.gr.keep S.fr.n q (k.gr S.gr) (fun i t=>⟨(j.2 i t).1,(j.2 i t).2.1⟩) f (runFrom p) (m:=h0.n) S.fr.n y1 y2 y3;refine step_ret (yt S.ok w S.fr.n f) ?_;intro v h ⟨g,L2⟩;replace S:=S.call g;replace d:=d.gr g;replace o:=o.gr g;clear g;rename Value=>vF;obtain⟨R,T,U,rfl⟩: ∃a n c,vF=.slice a n c:=(by obtain⟨_,s,_⟩:=L2;exact s.form);simp only [BZ,seval];have H:=S;replace S:=S.base;refine ae (bA (by intro x e;cases e)) S ?_;clear S;intro h b S I;simp only [ag]at S;simp only [BZ,ab,seval];have A:=S.fr;have u:=d.mo A (fun c _ j=>by cases j);have B:=o.mo A (fun c j=>by cases j);have C:=L2.mo A (fun c j=>by cases j);have D:=S.row (b:=b) m0;replace S:=H.rebase S;exact⟨S.gr,.inr ⟨j,⟨b,_,_,_,rfl,D,u,B,C,(S.own _ m0).1.elim (fun h=>h) (fun h=>h.elim),fun c J=>zO G (hM c J)⟩⟩⟩
 . have z:decide (iT γ.nodes l)=false:=decide_eq_false j;simp only [BZ,ab,z,seval];exact⟨S.gr,.inl j⟩
theorem lI(a:OZ h0)(t:TabAt h0 m p N l R Q):aT zM 40 [p] h0 (.int .i64 N):=by have S:=Si a;obtain⟨b,e,f,g,rfl,c,_⟩:=t.ex;have d:=c.load1 (o:=0) rfl;refine aa (n:=9) (rs:=[.tmp 2]) rfl Tryz.e40 rfl rfl rfl (lbt rfl) ?_;simp only [BZ,ab,d,seval];exact S.gr
theorem jG(d:OZ h0)(t:TabAt h0 m p N l R Q)(a:l.length<1000):Ret zM 41 [p] h0 fun r h'=>Gr h0 h'/\az h' 1 (encI .i64) r l/\ ∀c,av r c->h0.n<=c:=by have S:=Si d;obtain⟨b,j,k,q,rfl,e,f,_⟩:=t.ex;have i:=e.load1 (o:=1) rfl;refine aa (n:=10) (rs:=[.tmp 2]) rfl Tryz.e41 rfl rfl rfl (lbt rfl) ?_;simp only [BZ,i,seval];refine step_ret (jK S.ok (bV .i64) f (by omega)) ?_;intro v h ⟨g,sl,hc⟩;replace S:=S.call g;clear g;simp only [BZ,ab,seval];exact⟨S.gr,sl,hc⟩
def jN(N n:Nat)(R:Nat->List Int)(i v:Int):Int:=if 0<=i/\i<n/\0<=v/\v<N then(R i.toNat).getD v.toNat 0 else 72057594037927936
theorem tos_ok(a:OZ h0)(t:TabAt h0 m p N l R Q):Ret zM 245 [p] h0 fun r h'=>Gr h0 h'/\fV h' m r l.length R:=by have S:=Si a;obtain⟨b,e,f,g,rfl,c,_,L,_⟩:=t.ex;have d:=c.load1 (o:=2) rfl;refine aa (n:=7) (rs:=[.tmp 2]) rfl Tryz.e245 rfl rfl rfl (lbt rfl) ?_;simp only [BZ,ab,d,seval];exact⟨S.gr,L⟩
theorem froms_ok(a:OZ h0)(t:TabAt h0 m p N l R Q):Ret zM 246 [p] h0 fun r h'=>Gr h0 h'/\fV h' m r l.length Q:=by have S:=Si a;obtain⟨b,e,f,g,rfl,c,_,_,L,_⟩:=t.ex;have d:=c.load1 (o:=3) rfl;refine aa (n:=7) (rs:=[.tmp 2]) rfl Tryz.e246 rfl rfl rfl (lbt rfl) ?_;simp only [BZ,ab,d,seval];exact⟨S.gr,L⟩
theorem Cv(y:OZ h0){W:Nat->List Int}(t:TabAt h0 m p N l R Q){g:FuncId}(z: ∀h,Gr h0 h->Ret zM g [p] h fun r h'=>Gr h h'/\fV h' m r l.length W)(A: ∀i,i<l.length->(W i).length=N){i v:Int}:
 aT zM 244 [p,.func (.func g) #[p] #[],.int .i64 i,.int .i64 v] h0 (.int .i64 (jN N l.length W i v)):=by
 have S:=Si y;obtain⟨b,H,I,J,rfl,s,e,_⟩:=t.ex;have u:=s.load1 (o:=0) rfl;have f:=s.load1 (o:=1) rfl;unfold jN;refine aa (n:=44) (rs:=[.tmp 8]) rfl Tryz.e244 rfl rfl rfl (lbt rfl) ?_;by_cases a:i<0
 . rw [if_neg (by omega)];simp only [BZ,ab,a,seval];exact S.gr
 . by_cases j:(l.length:Int)<=i
   . rw [if_neg (by omega)];simp only [BZ,ab,f,a,j,e.lenq,seval];exact S.gr
   . by_cases q:v<0
     . rw [if_neg (by omega)];simp only [BZ,ab,f,a,j,q,e.lenq,seval];exact S.gr
     . by_cases x:(N:Int)<=v
       . rw [if_neg (by omega)];simp only [BZ,ab,u,f,a,j,q,x,e.lenq,seval];exact S.gr
       . rw [if_pos (by omega)];obtain⟨d,rfl⟩:=XT (show 0<=i by omega);obtain⟨k,rfl⟩:=XT (show 0<=v by omega);simp only [BZ,u,f,a,j,q,x,e.lenq,seval];refine step_ret (z _ S.gr) ?_;intro v h ⟨g,L⟩;replace S:=S.call g;clear g;obtain⟨w,⟨c,o,B,C⟩,sw,_⟩:=L.row (i:=d) (by omega);have D:=A d (by omega);obtain⟨K,M,E,F⟩:=sw.ix (kd:=.i64) (bV .i64) (i:=k) (by omega);have G:(W d).getD k 0=(W d)[k]:=(by simp [Xc,show k<(W d).length by omega]);simp only [BZ,ab,B,C,E,F,encI,Xr,G,seval];exact S.gr
theorem CK(a:OZ h0)(t:TabAt h0 m p N l R Q)(b: ∀i,i<l.length->(R i).length=N){i v:Int}:aT zM 191 [p,.int .i64 i,.int .i64 v] h0 (.int .i64 (jN N l.length R i v)):=by have S:=Si a;refine aa (n:=13) (rs:=[.tmp 6]) rfl Tryz.e191 rfl rfl rfl (lbt rfl) ?_;simp only [BZ,seval];refine am (Cv S.ok t (fun h g=>tos_ok g.ok (t.gr g)) b) ?_;intro h g;replace S:=S.call g;clear g;simp only [BZ,ab,seval];exact S.gr
theorem yM(a:OZ h0)(t:TabAt h0 m p N l R Q)(b: ∀i,i<l.length->(Q i).length=N){i v:Int}:aT zM 193 [p,.int .i64 i,.int .i64 v] h0 (.int .i64 (jN N l.length Q i v)):=by have S:=Si a;refine aa (n:=13) (rs:=[.tmp 6]) rfl Tryz.e193 rfl rfl rfl (lbt rfl) ?_;simp only [BZ,seval];refine am (Cv S.ok t (fun h g=>froms_ok g.ok (t.gr g)) b) ?_;intro h g;replace S:=S.call g;clear g;simp only [BZ,ab,seval];exact S.gr
def lowD(v t:Int):Int:=if wy t<72057594037927936 then(if wy v<72057594037927936 then wy (wy v-wy t)else 72057594037927936)else 0
theorem low_ok(i:OZ h0){v:Int}:aT zM 192 [.int .i64 v,.int .i64 t] h0 (.int .i64 (lowD v t)):=by
 have S:=Si i;have a:=tS v;have b:=tS t;have c:wy (wy v)=wy v:=wy_id a.1 a.2;have d:wy (wy t)=wy t:=wy_id b.1 b.2;have w:au .i64 (wy v-wy t)=wy v-wy t:=by rw [wrap64]<;>omega
 refine aa (n:=21) (rs:=[.tmp 4]) rfl Tryz.e192 rfl rfl rfl (lbt rfl) ?_;simp only [BZ,seval];refine am (nw S.ok) ?_;intro h g;replace S:=S.call g;clear g;simp only [BZ,seval];refine am (nw S.ok) ?_;intro h g;replace S:=S.call g;clear g;simp only [BZ,seval];refine am (ow S.ok) ?_;intro h g;replace S:=S.call g;clear g;unfold lowD;by_cases e:wy t<72057594037927936
 . simp only [BZ,d,e,seval];refine am (ow S.ok) ?_;intro h g;replace S:=S.call g;clear g;by_cases f:wy v<72057594037927936
   . simp only [BZ,c,f,w,seval];refine am (nw S.ok) ?_;intro h g;replace S:=S.call g;clear g;simp only [BZ,ab,seval];exact S.gr
   . simp only [BZ,ab,c,f,seval];exact S.gr
 . simp only [BZ,ab,d,e,seval];exact S.gr
theorem lift_ok(a:OZ h0){v:Int}:aT zM 194 [.int .i64 v,.int .i64 t] h0 (.int .i64 (lowD t v)):=by have S:=Si a;refine aa (n:=8) (rs:=[.tmp 4]) rfl Tryz.e194 rfl rfl rfl (lbt rfl) ?_;simp only [BZ,seval];refine am (low_ok S.ok) ?_;intro h g;replace S:=S.call g;clear g;simp only [BZ,ab,seval];exact S.gr
theorem iI(a:OZ h0)(t:TabAt h0 m p N l R Q){v:Int}:aT zM 118 [p,.int .i64 v] h0 (.bool (decide (0<=v/\v<N))):=by
 have S:=Si a;refine aa (n:=13) (rs:=[.tmp 4]) rfl Tryz.e118 rfl rfl rfl (lbt rfl) ?_;by_cases c:0<=v
 . simp only [BZ,c,seval];refine am (lI S.ok (t.gr S.gr)) ?_;intro h g;replace S:=S.call g;clear g;simp only [BZ,ab,seval];exact S.gr
 . simp only [BZ,ab,c,seval];exact⟨by simp,S.gr⟩
theorem wayTo_ok(b:OZ h0)(t:TabAt h0 m p N l R Q)(a: ∀i,i<l.length->(R i).length=N){i v:Int}:
 aT zM 190 [.func (.func 191) #[p] #[],.func (.func 192) #[] #[],.int .i64 i,.int .i64 v,.int .i64 w] h0 (.int .i64 (lowD (jN N l.length R i v) (jN N l.length R i w))):=by
 have S:=Si b;refine aa (n:=21) (rs:=[.tmp 10]) rfl Tryz.e190 rfl rfl rfl (lbt rfl) ?_;simp only [BZ,seval];refine am (CK S.ok (t.gr S.gr) a) ?_;intro h g;replace S:=S.call g;clear g;simp only [BZ,seval];refine am (CK S.ok (t.gr S.gr) a) ?_;intro h g;replace S:=S.call g;clear g;simp only [BZ,seval];refine am (low_ok S.ok) ?_;intro h g;replace S:=S.call g;clear g;simp only [BZ,ab,seval];exact S.gr
theorem wayFr_ok(b:OZ h0)(t:TabAt h0 m p N l R Q)(a: ∀i,i<l.length->(Q i).length=N){i v:Int}:
 aT zM 190 [.func (.func 193) #[p] #[],.func (.func 194) #[] #[],.int .i64 i,.int .i64 v,.int .i64 w] h0 (.int .i64 (lowD (jN N l.length Q i w) (jN N l.length Q i v))):=by
 have S:=Si b;refine aa (n:=21) (rs:=[.tmp 10]) rfl Tryz.e190 rfl rfl rfl (lbt rfl) ?_;simp only [BZ,seval];refine am (yM S.ok (t.gr S.gr) a) ?_;intro h g;replace S:=S.call g;clear g;simp only [BZ,seval];refine am (yM S.ok (t.gr S.gr) a) ?_;intro h g;replace S:=S.call g;clear g;simp only [BZ,seval];refine am (lift_ok S.ok) ?_;intro h g;replace S:=S.call g;clear g;simp only [BZ,ab,seval];exact S.gr
def qm(N n:Nat)(R Q:Nat->List Int)(i v w:Int):Int:=if(0<=v/\v<N)/\(0<=w/\w<N)/\0<=i/\i<n then max (lowD (jN N n R i v) (jN N n R i w)) (lowD (jN N n Q i w) (jN N n Q i v))else 0
theorem zK(f:OZ h0)(t:TabAt h0 m p N l R Q)(j: ∀i,i<l.length->(R i).length=N)(k: ∀i,i<l.length->(Q i).length=N)(d:l.length<1000){i v:Int}:
 aT zM 112 [p,.int .i64 i,.int .i64 v,.int .i64 w] h0 (.int .i64 (qm N l.length R Q i v w)):=by
 have S:=Si f;by_cases a:0<=v/\v<N
 . by_cases b:0<=w/\w<N
   . by_cases c:i<0
     . rw [show qm N l.length R Q i v w=0 from if_neg (by omega)];refine aa (n:=43) (rs:=[.tmp 8]) rfl XW rfl rfl rfl (lbt rfl) ?_;simp only [BZ,seval];refine am (iI S.ok (t.gr S.gr)) ?_;intro h g;replace S:=S.call g;clear g;simp only [BZ,a,seval];refine am (iI S.ok (t.gr S.gr)) ?_;intro h g;replace S:=S.call g;clear g;simp only [BZ,ab,b,c,seval];exact S.gr
     . by_cases e:(l.length:Int)<=i
       . rw [show qm N l.length R Q i v w=0 from if_neg (by omega)];refine aa (n:=43) (rs:=[.tmp 8]) rfl XW rfl rfl rfl (lbt rfl) ?_;simp only [BZ,seval];refine am (iI S.ok (t.gr S.gr)) ?_;intro h g;replace S:=S.call g;clear g;simp only [BZ,a,seval];refine am (iI S.ok (t.gr S.gr)) ?_;intro h g;replace S:=S.call g;clear g;simp only [BZ,b,c,seval];refine step_ret (jG S.ok (t.gr S.gr) d) ?_;intro v h ⟨g,slM,_⟩;replace S:=S.call g;clear g;simp only [BZ,ab,e,slM.lenq,seval];exact S.gr
       . rw [show qm N l.length R Q i v w=max (lowD (jN N l.length R i v) (jN N l.length R i w)) (lowD (jN N l.length Q i w) (jN N l.length Q i v))from if_pos ⟨a,b,by omega,by omega⟩];refine aa (n:=43) (rs:=[.tmp 8]) rfl XW rfl rfl rfl (lbt rfl) ?_;simp only [BZ,seval];refine am (iI S.ok (t.gr S.gr)) ?_;intro h g;replace S:=S.call g;clear g;simp only [BZ,a,seval];refine am (iI S.ok (t.gr S.gr)) ?_;intro h g;replace S:=S.call g;clear g;simp only [BZ,b,c,seval];refine step_ret (jG S.ok (t.gr S.gr) d) ?_;intro v h ⟨g,slM,_⟩;replace S:=S.call g;clear g;simp only [BZ,e,slM.lenq,seval];refine am (wayTo_ok S.ok (t.gr S.gr) j) ?_;intro h g;replace S:=S.call g;clear g;simp only [BZ,seval];refine am (wayFr_ok S.ok (t.gr S.gr) k) ?_;intro h g;replace S:=S.call g;clear g;simp only [BZ,ab,seval];exact S.gr
   . rw [show qm N l.length R Q i v w=0 from if_neg (fun h=>b h.2.1)];refine aa (n:=43) (rs:=[.tmp 8]) rfl XW rfl rfl rfl (lbt rfl) ?_;simp only [BZ,seval];refine am (iI S.ok (t.gr S.gr)) ?_;intro h g;replace S:=S.call g;clear g;simp only [BZ,a,seval];refine am (iI S.ok (t.gr S.gr)) ?_;intro h g;replace S:=S.call g;clear g;simp only [BZ,ab,b,seval];exact S.gr
 . rw [show qm N l.length R Q i v w=0 from if_neg (fun h=>a h.1)];refine aa (n:=43) (rs:=[.tmp 8]) rfl XW rfl rfl rfl (lbt rfl) ?_;simp only [BZ,seval];refine am (iI S.ok (t.gr S.gr)) ?_;intro h g;replace S:=S.call g;clear g;simp only [BZ,ab,a,seval];exact S.gr
def iF(N n:Nat)(R Q:Nat->List Int)(v w:Int)(l:List Int):Int:=l.foldl (fun b i=>max b (qm N n R Q i v w)) 0
theorem xS(q:OZ h0)(t:TabAt h0 m p N l R Q)(r: ∀i,i<l.length->(R i).length=N)(s: ∀i,i<l.length->(Q i).length=N)(u:l.length<1000){a:List Int}(j:az h0 1 (encI .i64) e a)(x:a.length<1000){v:Int}:
 aT zM 121 [p,e,.int .i64 v,.int .i64 w] h0 (.int .i64 (iF N l.length R Q v w a)):=by
 have S:=Si q;refine aa (n:=26) (rs:=[.tmp 8]) rfl Tryz.e121 rfl rfl rfl (lbt rfl) ?_;simp only [BZ,j.lenq,seval];refine bj (fun(k:Nat) b h=>k<=a.length/\Gr h0 h/\b 0=p/\b 2=.int .i64 v/\b 3=.int .i64 w/\b 8=.int .i64 (iF N l.length R Q v w (a.take k))/\b 11=e/\b 12=.int .i64 a.length/\b 13=.int .i64 k) (fun k=>a.length-k) ?_ 0 _ _ ?_
 . clear S;intro k y b h ⟨hk,g0,r0,r2,r3,r8,r11,r12,r13⟩;have z:au .i64 ((k:Int)+1)=((k+1:Nat):Int):=(by rw [wrap64]<;>omega);by_cases hlt:k<a.length
   . obtain⟨c,o,d,f⟩:=(j.gr g0).ix (kd:=.i64) (bV .i64) hlt;simp only [BZ,r0,r2,r3,r8,r11,r12,r13,aG,hlt,d,f,encI,seval];refine am (zK g0.ok (t.gr g0) r s u) ?_;intro h g;simp only [BZ,r13,z,seval];refine y (k+1) _ _ (by omega) ⟨by omega,g0.trans g,by simp [aD,r0],by simp [aD,r2],by simp [aD,r3],?_,by simp [aD,r11,r12]⟩;rw [Xd hlt];unfold iF;rw [List.foldl_append];simp [aD]
   . simp only [BZ,ab,r8,r12,r13,aG,hlt,seval];rw [Xh (by omega)];exact⟨rfl,g0⟩
 . exact⟨Xt _,S.gr,by simp [aD,cK,dw,iF]⟩
def keyB(N n:Nat)(R Q:Nat->List Int)(s w:Int)(i:Nat):Int:=qm N n R Q i s w
def gK(N n:Nat)(R Q:Nat->List Int)(s w a:Int):List Nat:=(jV (keyB N n R Q s w) (n-1) (Xa n)).take (min (max a 1).toNat n)
theorem EJ(t:TabAt hq m p N l R Q)(f: ∀i,i<l.length->(R i).length=N)(k: ∀i,i<l.length->(Q i).length=N)(o:l.length<1000){s:Int}{b4 b6:Nat}(c:hq.load b4 0 1=some [p])(d:hq.load b5 0 1=some [.int .i64 s])(e:hq.load b6 0 1=some [.int .i64 w]):
 CmpF zM hq 110 [ptrTo b4,ptrTo b5,ptrTo b6] l.length (keyB N l.length R Q s w):=by
 intro h g i j C D;have E:Fl p:=by obtain⟨b,_,_,_,rfl,_⟩:=t.ex;exact bH
 have S:=Si g.ok;have r:=bC g.ok (g.load c);have u:=bC g.ok (g.load d);have v:=bC g.ok (g.load e);refine aa (n:=19) (rs:=[.tmp 7]) rfl Tryz.e110 rfl rfl rfl (lbt rfl) ?_;simp only [BZ];refine ar (aw rfl) (q:=0) (ps:=[(4,8),(4,7),(4,5)]) (by kernel_rfl) ?_;simp only [BZ,cls,g.load c,g.load d,g.load e,seval];refine bg (zK S.ok ((t.gr g).gr S.gr) f k o) ?_;intro F a;have x:=ah a r;have y:=ah a u;have z:=ah a v;replace S:=S.call a;simp only [BZ,cls,a.load (g.load c),a.load (g.load d),a.load (g.load e),seval];refine bg (zK S.ok ((t.gr g).gr S.gr) f k o) ?_;intro G A;replace S:=S.call A;simp only [BZ,cls,seval];refine bg (Ce S.ok) ?_;intro H B;replace S:=S.call B;simp only [BZ,cls,ab,seval];refine⟨by simp only [aK,aO,aH,aQ,aJ,ne_eq,not_false_eq_true,aS,bz,aN,aM,bG,bS,aC,Xn,an,c8,aq x,aq y,aq z,seval],?_⟩;exact⟨rfl,S.gr⟩
theorem insNil_ok(a:OZ h0):aT zM 269 [.slice none 0 0,.int .i64 0,.int .i64 0,v] h0 (.tuple #[]):=by
 have S:=Si a;have b:au .i64 1=1:=rfl;have c: ¬(1:Int)<0:=by decide
 refine aa (n:=53) (rs:=[]) rfl Tryz.e269 rfl rfl rfl (lbt rfl) ?_;simp only [BZ,b,seval];rw [cF];simp only [BZ,ab,c,seval];exact S.gr
theorem Do(c:OZ h0){g:FuncId}{post:Array Value}:aT zM 109 [.slice none 0 0,.int .i64 (m:Nat),.func (.func g) #[] post] h0 (.slice none 0 0):=by
 have S:=Si c;have d:aT zM 81 [.slice none 0 0] h0 (.slice none 0 0):=by refine aa (n:=8) (rs:=[.tmp 2]) rfl Tryz.e81 rfl rfl rfl (lbt rfl) ?_;simp only [BZ,ab,seval];exact S.gr
 have e:min (m:Int) 0=0:=by omega
 have f: ¬(20:Int)<=0:=by decide
 have i: ¬(20:Int)<0:=by decide
 have j: ∀{h:Hp},OZ h->aT zM 188 [.slice none 0 0,.func (.func g) #[] post] h (.tuple #[]):=fun {h} a=>by
  have S:=Si a;have k:aT zM 243 [.slice none 0 0,.int .i64 0,.func (.func g) #[] post] h (.tuple #[]):=by refine aa (n:=63) (rs:=[]) rfl Tryz.e243 rfl rfl rfl (lbt rfl) ?_;simp only [BZ,seval];rw [cF];simp only [BZ,f,seval];refine am (insNil_ok S.ok) ?_;intro h g;replace S:=S.call g;clear g;simp only [BZ];rw [cF];simp only [BZ,ab,i,seval];exact S.gr
  refine aa (n:=9) (rs:=[]) rfl Tryz.e188 rfl rfl rfl (lbt rfl) ?_;simp only [BZ,Xe,seval];refine am k ?_;intro p l;replace S:=S.call l;simp only [BZ,ab];exact S.gr
 have o:ik zM 41 (.slice none 0 0) none (some (.int .i64 0)) none=some (.slice none 0 0):=by simp only [ik,Tryz.t41.1,Tryz.t3.2.2.1,ie,hZ];rfl
 refine aa (n:=18) (rs:=[.tmp 6]) rfl Tryz.e109 rfl rfl rfl (lbt rfl) ?_;simp only [BZ,seval];refine am d ?_;intro h b;replace S:=S.call b;simp only [BZ,seval];refine am (j S.ok) ?_;intro h b;replace S:=S.call b;simp only [BZ,ab,Xe,Option.map_some,Option.map_none,e,o,seval];exact S.gr
theorem tD(J:OZ h0)(t:TabAt h0 m p N l R Q)(K: ∀i,i<l.length->(R i).length=N)(L: ∀i,i<l.length->(Q i).length=N)(Y:l.length<=16){s a:Int}:
 Ret zM 44 [p,.int .i64 s,.int .i64 w,.int .i64 a] h0 fun r h'=>Gr h0 h'/\az h' 1 bO r (gK N l.length R Q s w a)/\ ∀c,av r c->h0.n<=c:=by
 have S:=Si J;have Z:Fl p:=by obtain⟨b,_,_,_,rfl,_⟩:=t.ex;exact bH
 obtain⟨mk,f⟩: ∃k:Nat,max a 1=(k:Int):=⟨(max a 1).toNat,by omega⟩;have q:(max a 1).toNat=mk:=by omega
 refine aa (n:=27) (rs:=[.tmp 8]) rfl Tryz.e44 rfl rfl rfl (lbt rfl) ?_;simp only [BZ,seval];refine ae (bN (by assumption)) S ?_;clear S;intro h b4 S D;simp only [BZ,if_false,seval];refine ae (bN (by exact aU)) S ?_;clear S;intro h b5 S E;simp only [BZ,if_false,seval];refine ae (bN (by exact aU)) S ?_;clear S;intro h b6 S F;simp only [BZ,S.ld (b:=b4) (o:=0) m2 rfl,seval];have k0:=S.fr.n;refine step_ret (jG S.ok (t.gr S.gr) (by omega)) ?_;rintro r h ⟨g,M,z⟩;replace S:=S.call g;simp only [BZ,M.lenq,seval];replace S:=S.nilG (k:=1);refine bj (fun(i:Nat) d h=>i<=l.length/\ ∃u,St NoM h0 h [(b6,.row [.int .i64 w] 1),(b5,.row [.int .i64 s] 1),(b4,.row [p] 1)] [(u,1,hI (Xa i))]/\(i=0->u=.slice none 0 0)/\d 3=.int .i64 a/\d 4=ptrTo b4/\d 5=ptrTo b5/\d 6=ptrTo b6/\d 9=u/\d 13=.int .i64 (l.length:Nat)/\d 14=.int .i64 i) (fun i=>l.length-i) ?_ 0 _ _ ?_
 . clear S;intro i O d h ⟨hi,u,S,hv,r3,r4,r5,r6,r9,r13,r14⟩;have P:au .i64 ((i:Int)+1)=((i+1:Nat):Int):=(by rw [wrap64]<;>omega);by_cases hlt:i<l.length
   . simp only [BZ,r9,r13,r14,aG,hlt,seval];refine ae (ce (by exact Tryz.t41.1) (by exact XD) (by decide) (by rfl)) S ?_;clear S;intro h G S H;simp only [LC,bJ,cq,ag,Xl,Xm,Xo,Xq,seval]at S;simp only [BZ,seval];have v:aR h 1 (.slice (some ⟨G,0,none⟩) 1 1)=some (1,[.int .i64 (i:Nat)]):=(by simp only [aR];rw [S.lds (b:=G) (o:=0) (n:=1*1) m0 (lbt rfl)];rfl);replace S:=S.drop1;refine dQ (S.grow (j:=0) (m:=1) (new:=[.int .i64 (i:Nat)]) rfl Tryz.t41.1 XD (by decide) Tryz.t41.2.2.2.2.2 v rfl (by decide) rfl (by rw [pK];simp;omega)) ?_;clear S v;rintro h A S;simp only [LC]at S;have e:hI (Xa i)++[.int .i64 (i:Nat)]=hI (Xa (i+1)):=(by unfold hI;rw [XX,List.map_append];rfl);rw [e]at S;simp only [BZ,r14,P,seval];exact O (i+1) _ _ (by omega) ⟨by omega,A,S,fun h=>(by omega),by simp [aD,r3,r4,an,r5,r6,r13]⟩
   . have T:i=l.length:=(by omega);subst T;simp only [BZ,r3,r4,r5,r6,r9,r13,r14,aG,hlt,seval];by_cases B:l.length=0
     . have U:=hv B;subst U;have I:=S.fr.n;rw [f];refine am (Do S.ok) ?_;intro h' g;replace S:=S.call g;simp only [BZ,ab,seval];refine⟨S.gr,.inl ⟨rfl,?_⟩,fun c z=>z.elim⟩;unfold gK;rw [B];simp
     . have V:az h 1 bO u (Xa l.length):=(S.gown _ m0).1.sl (wj _).symm dr (by decide);have I:=S.fr.n;have W:=EJ (t.gr S.gr) K L (by omega) (s:=s) (w:=w) (b4:=b4) (b5:=b5) (b6:=b6) (S.ld m2 rfl) (S.ld m1 rfl) (S.ld m0 rfl);rw [f];refine step_ret (first_ok (N:=l.length) (m:=mk) (Gr.refl S.ok) V (by intro e;have:=congrArg List.length e;rw [Xk]at this;exact B this) (by simp;omega) (fun x X=>List.mem_range.1 X) W (by omega)) ?_;rintro r h' ⟨g,y,C⟩;replace S:=S.call g;simp only [BZ,ab,seval];rw [Xk]at y;exact⟨S.gr,by unfold gK;rw [q];exact y,fun c z=>zO I (C c z)⟩
 . exact⟨Xt _,_,S,fun _=>rfl,by simp [aD,c8,an]⟩
theorem rH{x:Option Tch}:js none x=true:=by cases x<;>rfl
structure TabO(E:Env)(h0:Hp)(pt:Value)(nd mk:Nat)(gM gN:FuncId):Prop where
 fl:Fl pt
 marks: ∀h,Gr h0 h->Ret E gM [pt] h fun r h'=>Gr h h'/\ ∃l:List Int,az h' 1 (encI .i64) r l/\l.length=mk
 nodes: ∀h,Gr h0 h->aT E gN [pt] h (.int .i64 (nd:Nat))
def jQ(N a mk:Nat)(f t:Int):Int:=if¬(0<=f/\f<N)then 17 else if¬(0<=t/\t<N)then 18 else if 0<mk/\a=N then 0 else 19
theorem fV.keep{h h':Hp}{m n:Nat}{v:Value}{R:Nat->List Int}(e:OZ h)(g:fU h h')(r:fV h m v n R):fV h' m v n R:=by obtain⟨j,a,b,c,d⟩:=r;exact⟨j,a.keep e g,b,c,fun i w f=>⟨(d i w f).1.keep e g,(d i w f).2⟩⟩
theorem TabAt.keep{h h':Hp}{m N:Nat}{p:Value}{l:List Int}{R Q:Nat->List Int}(a:OZ h)(g:fU h h')(t:TabAt h m p N l R Q):TabAt h' m p N l R Q:=by obtain⟨b,c,d,f,e,i,j,k,n,o,q⟩:=t.ex;exact⟨b,c,d,f,e,g.row a i,j.keep a g,k.keep a g,n.keep a g,o,q⟩
theorem BI(e:OZ h0){c d:Value}(f:Fl c)(g:Fl d):Ret zM 119 [c,d] h0 fun v h'=>Gr h0 h'/\ ∃b1 b2,v=.func (.func 203) #[] #[ptrTo b1,ptrTo b2]/\h0.n<=b1/\h0.n<=b2/\h'.load b1 0 1=some [c]/\h'.load b2 0 1=some [d]:=by have S:=Si e;refine aa (n:=6) (rs:=[.tmp 4]) rfl Tryz.e119 rfl rfl rfl (lbt rfl) ?_;simp only [BZ,seval];refine ae (bN (by assumption)) S ?_;clear S;intro h b1 S a;simp only [BZ,if_false,seval];refine ae (bN (by assumption)) S ?_;clear S;intro h b2 S b;simp only [BZ,ab,seval];exact⟨S.gr,b1,b2,rfl,a,b,S.ld m1 rfl,S.ld m0 rfl⟩
def TellF(E:Env)(hq:Hp)(g:FuncId)(post:List Value)(N:Nat)(f:Nat->Int):Prop:= ∀h,OZ h->fU hq h-> ∀v,v<N->aT E g ([.int .i64 (v:Nat)]++post) h (.int .i64 (f v))
theorem Bo(k:OZ hq)(e:OZ h0)(u:fU hq h0)(x:hq.n<=h0.n){o:Value}(t:TabAt hq m o N l R Q)(O:N<=1000){post:Array Value}{f:Nat->Int}(hf:TellF zM hq g post.toList N f)
 (C:h0.load b1 0 1=some [o]) (D:h0.load b2 0 1=some [.func (.func g) #[] post]):
 nG zM 203 [] [ptrTo b1,ptrTo b2] h0 (fun c=>c=b1\/c=b2\/c<hq.n) ((Xa N).map fun(v:Nat)=>[.int .i64 (f v)]):=by
 intro E J Z G Y h F s j;have y:=s.load e C (.inl rfl);have P:Fl o:=by obtain⟨b,_,_,_,rfl,_⟩:=t.ex;exact bH
 refine enter (n:=17) (rs:=[]) rfl Tryz.e203 rfl rfl rfl (lbt rfl) ?_;simp only [BZ,y,seval];refine am (lI s.ok (t.keep k (s.keep u x (fun c p=>.inr (.inr p))))) ?_;intro S q;have z:=s.gr q;have A:=Y.gr _ _ _ _ j q;simp only [BZ];refine bj (fun(i:Nat) d h=>i<=N/\ ∃F,ItS h0 (fun c=>c=b1\/c=b2\/c<hq.n) h F/\J i h F/\d 0=.func (.yield E) #[] #[]/\d 1=ptrTo b1/\d 2=ptrTo b2/\d 6=.int .i64 (N:Nat)/\d 7=.int .i64 i) (fun i=>N-i) ?_ 0 _ _ ?_
 . clear y s j z A F q h;intro i H d h ⟨hi,F,s,j,r0,r1,r2,r6,r7⟩;have w:au .i64 ((i:Int)+1)=((i+1:Nat):Int):=(by rw [wrap64]<;>omega);by_cases hlt:i<N
   . have I:=s.load e D (.inr (.inl rfl));have K:((Xa N).map fun(v:Nat)=>[Value.int .i64 (f v)])[i]? =some [.int .i64 (f i)]:=(by rw [XN,List.getElem?_range hlt];rfl);simp only [BZ,r0,r2,r6,r7,aG,hlt,I,seval];refine am (hf _ s.ok (s.keep u x (fun c p=>.inr (.inr p))) i hlt) ?_;intro T B;simp only [BZ,seval];refine du Y (s.gr B) (Y.gr _ _ _ _ j B) (i:=i) K ?_ ?_ ?_
     . intro r L a M _ _;simp only [BZ,r7,w,seval];exact H (i+1) _ _ (by omega) ⟨by omega,L,M,a,by simp [aD,r0,r1,an,r2,r6]⟩
     . intro r a _;simp only [BZ,seval];exact iE rfl ⟨rfl,.inr (.inl ⟨_,rfl,a⟩)⟩
     . intro v r a;exact absurd a (G v r)
   . simp only [BZ,r6,r7,aG,hlt,seval];have:i=N:=(by omega);subst this;exact cE (cu ⟨rfl,_,rfl,rfl,.inl ⟨_,F,rfl,by simpa using j⟩⟩)
 . exact⟨Xt _,F,z,A,by simp [aD,c8,an]⟩
theorem pi1_ok(a:OZ hq)(t:TabAt hq m p N l R Q)(j: ∀i,i<l.length->(R i).length=N)(o: ∀i,i<l.length->(Q i).length=N)(q:l.length<1000){c:List Int}(f:az hq 1 (encI .i64) e c)(d:c.length<1000){g b4:Nat}(r:hq.load g 0 1=some [p])(s:hq.load b4 0 1=some [e])(u:hq.load b5 0 1=some [.int .i64 w]):
 TellF zM hq 120 [ptrTo g,ptrTo b4,ptrTo b5] N (fun v=>iF N l.length R Q v w c):=by
 intro h x k v z;have A:Fl p:=by obtain⟨b,_,_,_,rfl,_⟩:=t.ex;exact bH
 have B:=f.fl;have S:=Si x;refine aa (n:=11) (rs:=[.tmp 5]) rfl Tryz.e120 rfl rfl rfl (lbt rfl) ?_;simp only [BZ,k.load a r,k.load a s,k.load a u,seval];refine am (xS S.ok (t.keep a k) j o q (f.keep a k) d) ?_;intro C y;replace S:=S.call y;simp only [BZ,ab,seval];exact S.gr
theorem bPi_ok(ok:OZ h0)(t:TabAt h0 m p N l R Q)(Y: ∀i,i<l.length->(R i).length=N)(hQ: ∀i,i<l.length->(Q i).length=N)(hl:l.length<1000)(hN:N<=1000){Z:Value}{f:List Int}(ha:az h0 1 (encI .i64) Z f)(H:f.length<1000){w:Nat}(hw:w<N):
 Ret zM 46 [p,Z,.int .i64 (w:Nat)] h0 fun r h'=>Gr h0 h'/\az h' 1 (encI .i64) r ((Xa N).map fun(v:Nat)=>iF N l.length R Q v w f)/\ ∀c,av r c->h0.n<=c:=by
 have fp:Fl p:=by obtain⟨b,_,_,_,rfl,_⟩:=t.ex;exact bH
 have fa:=ha.fl;have S:=Si ok;have c0:0<=(w:Int)/\(w:Int)<(N:Int):=by omega
 refine aa (n:=21) (rs:=[.cell 6 23]) rfl Tryz.e46 rfl rfl rfl (lbt rfl) ?_;simp only [BZ,seval];refine ae (bN (by assumption)) S ?_;clear S;intro h b3 S ac;simp only [BZ,if_false,seval];refine ae (bN (by assumption)) S ?_;clear S;intro h b4 S ad;simp only [BZ,if_false,seval];refine ae (bN (by exact aU)) S ?_;clear S;intro h b5 S af;have z:=S.gr;have I:=S.ld (b:=b3) (o:=0) m2 rfl;have l4:=S.ld (b:=b4) (o:=0) m1 rfl;have l5:=S.ld (b:=b5) (o:=0) m0 rfl;have q:=S.ok;clear S;rename Hp=>hq;have S:=Si q;simp only [BZ];refine ae aA S ?_;clear S;intro h d S ai;simp only [BZ,S.old I (fun h=>h),S.old l5 (fun h=>h),seval];refine am (iI S.ok ((t.gr z).gr S.gr)) ?_;intro h g;replace S:=S.call g;clear g;have dc:decide (0<=(w:Int)/\(w:Int)<(N:Int))=true:=decide_eq_true c0;simp only [BZ,dc,S.old I (fun h=>h),seval];have tf:=pi1_ok q (t.gr z) Y hQ hl (ha.gr z) H I l4 l5;have al:=(S.row (b:=d) m0).lt S.ok;refine step_ret (BI S.ok fp eh) ?_;rintro r h ⟨g,J,K,rfl,n1,n2,y1,y2⟩;replace S:=S.call g;clear g;have M:=Bo q S.ok S.gr.keep S.fr.n (t.gr z) hN tf y1 y2;have kn:=S.fr.n;have kG:=z.n;have z1:=bC S.ok y1;have z2:=bC S.ok y2;rename Hp=>hE;have S1:=S;have O:=S.ok;have l6:=(S.row (b:=d) m0).lt O;simp only [BZ];replace S:=S.base;replace S:=S.nilG (k:=1);generalize A:((Xa N).map fun(v:Nat)=>iF N l.length R Q v w f)=xs;have ax:xs.length=N:=by rw [<-A];simp
 replace M:nG zM 203 [] [ptrTo J,ptrTo K] hE (fun c=>c=J\/c=K\/c<hq.n) (xs.map fun x=>[.int .i64 x]):=by rw [<-A,XS];exact M
 refine iD S (g:=203) (a:=#[]) (b:=#[ptrTo J,ptrTo K]) (by simp [bG,aD,an]) rfl rfl ?_;intro h2 G B s ay aL g2;obtain⟨X,hX,s⟩: ∃X:gu,X=_/\St (· ∈[d]) hE h2 [(B,.loop X),(G,.dfr),(d,.row [.slice none 0 0] 1)] [(.slice none 0 0,1,[])]:=⟨_,rfl,s⟩;have hJ:Yld zM B (fun k h' F=> ∃(e:Value),St (· ∈[d]) hE h' [(B,.loop X),(G,.dfr),(d,.row [e] 1)] [(e,1,ints (xs.take k))]/\k<=xs.length/\F=keys [(B,.loop X),(G,.dfr),(d,.row [e] 1)] [(e,1,ints (xs.take k))]) (fun _ _=>False) (xs.map fun x=>[.int .i64 x]):=by
  refine⟨?_,?_,fun _ _ h=>h.elim,?_⟩
  . rintro i h F ⟨e,S,_,rfl⟩;exact⟨S.ok,fun b u=>S.key_lt u⟩
  . rintro i h F h' ⟨e,S,a,rfl⟩ gg;exact⟨e,S.call gg,a,rfl⟩
  . rintro i x Y F P ⟨e,S,a,rfl⟩;have C:i<xs.length:=(by have:=(List.getElem?_eq_some_iff.1 P).1;simpa using this);rw [XN,Xf C]at P;cases P;have tk:ints (xs.take (i+1))=ints (xs.take i)++[.int .i64 xs[i]]:=(by rw [List.take_add_one,Xf C];exact iH _ _);have tl:(xs.take i).length<=i:=(by rw [XE];omega);subst hX;refine iB (S.get m0) (by rw [Tryz.e46];rfl) rfl ?_;have S0:=S;replace S:=S.base;simp only [BZ,seval];refine ib S (i:=0) rfl rfl rfl rfl rfl ?_;clear S;intro h S;simp only [LC]at S;simp only [BZ,S.ld (b:=d) (o:=0) m2 rfl,seval];refine ae (ce (by exact Tryz.t23.1) (by exact X7) (by decide) (by rfl)) S ?_;clear S;intro h bs S ak;simp only [LC,bJ,cq,ag,Xl,Xm,Xo,Xq,seval]at S;simp only [BZ,seval];have D:aR h 1 (.slice (some ⟨bs,0,none⟩) 1 1)=some (1,[.int .i64 xs[i]]):=(by simp only [aR];rw [S.lds (b:=bs) (o:=0) (n:=1*1) m0 (lbt rfl)];rfl);replace S:=S.drop1;refine dQ (S.grow (j:=0) (m:=1) (new:=[.int .i64 xs[i]]) rfl Tryz.t23.1 X7 (by decide) Tryz.t23.2.2.2.2.2 D rfl (by decide) rfl (by rw [cD];simp;omega)) ?_;clear S D;rintro h E S;simp only [LC]at S;have U:Fl E:=(S.gown _ m0).1.fl;simp only [BZ,seval];refine aE (aF S (i:=2) rfl Tryz.t23.2.2.1 U (Xb (lbt rfl)) ono) ?_;clear S;rintro h ⟨S,_⟩;simp only [LC]at S;simp only [BZ];refine d6 S (i:=0) rfl ?_;clear S;intro h S;simp only [LC]at S;rw [<-tk]at S;exact .inl ⟨rfl,_,⟨E,S0.rebase S,by omega,rfl⟩,S.fr,fun c V=>(S.key_own V).symm⟩
 refine cR (M B _ _ (fun _ _ h=>h) hJ h2 _ ?_ ⟨_,s,Xt _,rfl⟩) fun o rc h' y=>jt y ?_
 . refine⟨s.ok,s.fr.n,fun b u hd=>g2.get b u,fun b u h=>?_,fun b u=>s.key_lt u⟩;rcases s.key_own u with h1|h1
   . omega
   . have:=List.mem_singleton.1 h1;omega
 . rintro F ⟨e,T,b,rfl⟩;rw [Xv,List.take_length]at T;subst hX;refine⟨_,T.get m0,XU,?_⟩;replace T:=T.dead;have S:=T;show Run _ _ _ _ _ _ _ _;simp only [BZ,S.ld (b:=d) (o:=0) m1 rfl,seval];have U:Fl e:=(T.gown _ m0).1.fl;clear S;refine aE (aF T (i:=1) rfl Tryz.t23.2.2.1 U (Xb (lbt rfl)) ono) ?_;clear T;rintro h3 ⟨T,_⟩;simp only [List.set_cons_zero,List.set_cons_succ]at T;simp only [BZ];refine dz (ir [G] _ (L:=[(d,_)]) T.base fun h4 W=>?_);refine⟨rfl,(bF (by decide) (by simp only [aC,an,seval];exact kY Tryz.t23.2.1 (W.ld (b:=d) (o:=0) m0 rfl))).2 (cg.2 ⟨z.trans ((S1.rebase T).rebase W).gr,(W.gown _ m0).1.sl rfl (fun _=>rfl) (by decide),fun c V=>?_⟩)⟩;rcases(T.gblk m0 V).1 with h|h
   . omega
   . have:=List.mem_singleton.1 h;omega
def zS:SS:=⟨fun _=>none,fun _=>0,fun _=>[],[],[]⟩
def FdAt(h:Hp)(m:Nat)(r:Value)(b:Fd):Prop:= ∃d a,r=.agg ⟨[.int .i64 (b.dist:Nat),d,a]⟩/\ig h (d,1,b.arcs.flatMap bO)/\ig h (a,4,b.ev.flatMap iU)/\(∀c,av d c->m<=c/\ ¬av a c)/\ ∀c,av a c->m<=c
theorem Cf(A:List Arc)(al:Nat->Bool)(pi:Nat->Int)(v:Nat)(σ:SS):(tC A al pi v σ).ev.length<=σ.ev.length+A.length:=by
 have: ∀(l:List Nat) (σ:SS),(l.foldl (scan1 A al pi v) σ).ev.length<=σ.ev.length+l.length:=by
  intro l
  induction l with
  |nil=>intro σ;simp|cons a l b=>intro σ;have c:=b (scan1 A al pi v σ a);have d:=BF A al pi v σ a;simp only [List.foldl_cons,List.length_cons];omega
 have c:=this (outs A Arc.s A.length v) σ;have d:=kK A Arc.s A.length v;unfold tC;omega
theorem srun_ok  (ac:OZ hq) (gq:Gr hq h0)  (u:Good γ) {z:Nat} (hn:aX hq nb (ptrTo z) γ) {Z:List Nat} {br t to:Nat} {A C:FuncId} {al:Nat->Bool} {pi:Nat->Int} (R0:iJ h0 Z br (ptrTo z) (.func (.func A) #[] #[ptrTo t]) (.func (.func C) #[] #[ptrTo t]) γ.nodes zS) (ad: ∀c∈Z,hq.n<=c) (a4:AlF zM hq A t γ.arcs.length al) (af:PiF zM hq C t γ.nodes pi) (hp: ∀v,v<γ.nodes-> -(FAR:Int)<=pi v)
 (hs:s<γ.nodes) (bE:to<γ.nodes):
 Ret zM 117 [ptrTo br,.int .i64 (s:Nat),.int .i64 (to:Nat)] h0 fun r h'=>Gr hq h'/\ ∃fd,Ends γ.arcs al pi to (lW pi s) fd/\FdAt h' hq.n r fd:=by
 have ok:=gq.ok;have n1:=u.n1;have n2:=u.n2;have bw:=u.many;have wm:=jT;have fr:=gX;have hA: ∀a∈γ.arcs,a.t<γ.nodes/\a.w<=cH:=fun a ha=>⟨(u.arcs a ha).2.1,(u.arcs a ha).2.2⟩;have lB:=R0.lt ok;have S:=Si ok;refine aa (n:=79) (rs:=[.cell 6 96]) rfl Tryz.e117 rfl rfl rfl (lbt rfl) ?_;simp only [BZ];refine ae aA S ?_;clear S;intro h g S G;simp only [BZ,seval];have I:=S.row (b:=g) m0;have gA:=S.gr;have a5:=S.ok;have l6:=I.lt a5;have n6:g∉Z:=fun h=>by have:=lB g h;have:=G;omega
 have q6:hq.n<=g:=zO gq.n G;clear S;rename Hp=>hA';have rc:Ret zM 199 [ptrTo br,.int .i64 (s:Nat),.int .i64 0,.int .i64 (-1)] hA' _:=Af (p:=[]) (lab:=0) (gq.trans gA) (R0.gr gA) af n2 hs (Xt _) (hp s hs) (fun k h=>by cases h);refine step_ret rc ?_;rintro r h1 ⟨f1,B1,R1,ai⟩;clear rc;simp only [BZ];refine bj (fun(σ:SS) ρ h=> ∃B,Mo (fun c=>c∈Z\/c=g) hA' h/\Row h g [.int .i64 0,.slice none 0 0,.slice none 0 0] 1/\iJ h B br (ptrTo z) (.func (.func A) #[] #[ptrTo t]) (.func (.func C) #[] #[ptrTo t]) γ.nodes σ/\(∀c∈B,c∈Z\/hA'.n<=c)/\Sv γ.arcs γ.nodes s al pi σ/\σ.ev.length<=σ.O.length*200/\(∀r,Ends γ.arcs al pi to σ r->Ends γ.arcs al pi to (lW pi s) r)/\ρ 0=ptrTo br/\ρ 1=.int .i64 (s:Nat)/\ρ 2=.int .i64 (to:Nat)/\ρ 6=ptrTo g) (fun σ=>γ.nodes-σ.O.length) ?_ (lW pi s) _ _ ?_
 . clear R1 f1 ai B1 h1;intro σ ih ρ hS ⟨B,f,row6',R,hB,sv,hev,hE,r0,r1,r2,r6⟩;have N: ∀c∈B,hq.n<=c:=fun c d=>(hB c d).elim (ad c) (fun h=>by have:=(gq.trans gA).n;omega);have gh:Gr hq hS:=(((gq.trans gA).fr (M:=NoM)).trans f (fun c d=>.inr (d.elim (ad c) (fun e=>by subst e;exact q6)))).gr;have O:g∉B:=fun h=>(hB g h).elim n6 (fun h=>by omega);have ol:=sv.len;have bL:σ.O.length*cH<=12*cH:=XF _ (zO ol n2);obtain⟨J,bb,bk,P,F,vE,ak,S,H,hF⟩:=R.open f.ok;have ax: ∀c∈keys (srL br J bb bk γ.nodes (ptrTo z) (ptrTo P) (.func (.func A) #[] #[ptrTo t]) (.func (.func C) #[] #[ptrTo t]) vE σ) (srG vE σ),c∈B:=fun c d=>(by rw [ak];exact X8 _ d);have Q: ∀c∈F,c∈B:=fun c d=>(by rw [ak];exact Xx _ d);have lF:=H.lt f.ok;replace S:=(S.base.mono (M':=fun c=>c∈B\/c=g) (fun c d=>.inl (ax c d))).push (b:=g) (o:=.row _ 1) (.inr (.inr rfl)) row6' (fun h=>O (ax g h));have a6: ∀c∈F,c≠g:=fun c d e=>O (by rw [<-e];exact Q c d);have T: ∀c∈F,c∉keys ((g,Ob.row [.int .i64 0,.slice none 0 0,.slice none 0 0] 1)::srL br J bb bk γ.nodes (ptrTo z) (ptrTo P) (.func (.func A) #[] #[ptrTo t]) (.func (.func C) #[] #[ptrTo t]) vE σ) (srG vE σ):=fun c d U=>(List.mem_cons.1 U).elim (a6 c d) (hF c d);unfold srL srG at S;simp only [BZ,r0,S.ld (b:=br) (o:=1) m1 rfl,seval];refine step_ret (sZ S.ok H (by omega)) ?_;rintro rv h2 (⟨rfl,V,a7⟩|⟨v,k,rfl,hk,ay,f2,H2⟩)
   . replace S:=S.call a7;have W:Fl vE:=(S.gown _ m0).1.fl;simp only [BZ,r0,r6,W,S.ld (b:=br) (o:=7) m1 rfl,seval];refine aE (S.store (i:=0) rfl Tryz.t96.2.1 (by intro x e;cases e) rfl (by simp only [ag,Xy,XA,W.2.1,Xn];rfl) (lbt rfl) ono) ?_;clear S;rintro h3 ⟨S,mo⟩;simp only [LC,ag,lay,Xi,Xj,seval]at S;simp only [BZ,ab];refine(bF (by decide) (by simp only [aC,r6,an,seval];exact bD Tryz.t96.1 Tryz.t96.2.1 (S.lds (b:=g) (o:=0) (n:=3) m0 (lbt rfl)))).2 (cg.2 ?_);refine⟨(gh.fr (M:=NoM)).trans S.fr (fun c d=>.inr (d.elim (N c) (fun e=>by subst e;exact q6)))|>.gr,_,hE _ (.none V),.slice none 0 0,vE,rfl,.inl ⟨rfl,rfl⟩,(S.gown _ m0).1,fun c d=>d.elim,fun c d=>?_⟩;have:=(S.gown _ m0).2 c (mG (S.gown _ m0).1 d);exact this.elim (fun h=>zO gh.n h) (fun h=>h.elim (N c) (fun e=>by subst e;exact q6))
   . have K:oe σ.K v k:=⟨hk,ay⟩;obtain⟨X,nO,pv,ek⟩:=sv.op v k hk;replace S:=S.stepF f2 (fun c d=>⟨.inl (.inl (Q c d)),T c d⟩);have bv:=(sv.bd v).1;have Y:=S;have a8:=H2.lt Y.ok;have kp: ∀c∈keys ((g,Ob.row [.int .i64 0,.slice none 0 0,.slice none 0 0] 1)::srL br J bb bk γ.nodes (ptrTo z) (ptrTo P) (.func (.func A) #[] #[ptrTo t]) (.func (.func C) #[] #[ptrTo t]) vE σ) (srG vE σ),hS.n<=c\/c∈B\/c=g:=fun c d=>Y.key_own d;have kl:=fun {c} d=>Y.key_lt (b:=c) d;have np:=Y.fr.n;replace S:=S.base;have W:Fl vE:=(S.gown _ m0).1.fl;simp only [BZ,r0,X,S.ld (b:=br) (o:=4) m1 rfl,seval];refine aE (aF S (i:=4) rfl Tryz.t4.2.2.1 og (by rw [clC_len];exact X) ono) ?_;clear S;rintro h3 ⟨S,bP⟩;simp only [LC]at S;rw [clC_set]at S;have lL:=(S.row (b:=J) m2).load1 (vu (L:=σ.L) X);simp only [BZ];refine ar (aw rfl) (q:=16384) (ps:=[]) (by kernel_rfl) ?_;simp only [BZ,cls,r0,X,lL,S.ld (b:=br) (o:=7) m1 rfl,S.ld (b:=br) (o:=2) m1 rfl,seval];refine cL (ce (by exact Tryz.t44.1) (by exact Tryz.e143E) (by decide) (by rfl)) S ?_;clear S;intro h bs S bx bB;simp only [LC,bJ,cq,ag,Xl,Xm,Xo,Xq,seval]at S;simp only [BZ,cls,seval];have aL:aR h 4 (.slice (some ⟨bs,0,none⟩) 1 1)=some (1,iU ⟨0,v,σ.L v⟩):=(by simp only [aR];rw [S.lds (b:=bs) (o:=0) (n:=1*4) m0 (lbt rfl)];rfl);replace S:=S.drop1;refine mI (S.grow (j:=0) (m:=1) (new:=iU ⟨0,v,σ.L v⟩) rfl Tryz.t44.1 Tryz.e143E (by decide) Tryz.t44.2.2.2.2.2 aL rfl (by decide) rfl (by rw [cC rx];show(_+4)*_<=_;omega)) ?_;clear S aL;rintro h2 l S;simp only [LC]at S;have y:Fl l:=(S.gown _ m0).1.fl;simp only [BZ,cls,seval];refine cM (aF S (i:=1) rfl Tryz.t44.2.2.1 y (Xb (lbt rfl)) ono) ?_;clear S;rintro h3 ⟨S,_⟩;simp only [LC]at S;have eE:(σ.ev++[(⟨0,v,σ.L v⟩:Ev)]).flatMap iU=σ.ev.flatMap iU++iU ⟨0,v,σ.L v⟩:=(by rw [List.flatMap_append];simp);rw [<-eE]at S;have bq: ∀c,hS.n<=c\/c∈B\/c=g->hq.n<=c:=fun c d=>d.elim (fun h=>zO gh.n h) (fun h=>h.elim (N c) (fun e=>by subst e;exact q6));have wq:=(((gh.fr (M:=NoM)).trans Y.fr (fun c d=>.inr (bq c (.inr d)))).trans S.fr (fun c d=>.inr (bq c (kp c d)))).gr;have D:=sv.close hk;have kn:=fun {c} d=>S.key_own (b:=c) d;have nS:=S.fr.n;have bc: ∀c∈F,c∉keys (srL br J bb bk γ.nodes (ptrTo z) (ptrTo P) (.func (.func A) #[] #[ptrTo t]) (.func (.func C) #[] #[ptrTo t]) l (fJ σ v)) (srG l (fJ σ v)):=fun c d U=>by
      rcases kn (Xg _ U)with h|h
      . have:=a8 c d;omega
      . exact T c d h
     have Hc:cG _ F (ptrTo P) γ.nodes (fJ σ v).K:=H2.mo S.fr (fun c d U=>T c d U);have Rc:=iJ.close (σ:=fJ σ v) (vE:=l) S.drop1 Hc bc;have E: ∀c∈keys (srL br J bb bk γ.nodes (ptrTo z) (ptrTo P) (.func (.func A) #[] #[ptrTo t]) (.func (.func C) #[] #[ptrTo t]) l (fJ σ v)) (srG l (fJ σ v))++F,hS.n<=c\/c∈B:=fun c d=>by
      rcases List.mem_append.1 d with d|d
      . have ne:c≠g:=fun e=>(by subst e;exact(List.nodup_cons.1 S.apart).1 d);rcases kn (Xg _ d)with h|h
        . exact .inl (by omega)
        . exact(kp c h).imp (fun h=>h) (fun h=>h.elim (fun h=>h) (fun e=>absurd e ne))
      . exact .inr (Q c d)
     have a0: ∀c∈keys (srL br J bb bk γ.nodes (ptrTo z) (ptrTo P) (.func (.func A) #[] #[ptrTo t]) (.func (.func C) #[] #[ptrTo t]) l (fJ σ v)) (srG l (fJ σ v))++F,hq.n<=c:=fun c d=>bq c ((E c d).imp (fun h=>h) .inl);have bd:=S.ok;have k3:=fun {c} d=>S.key_lt (b:=c) d;have bo: ∀c,hS.n<=c\/c∈B\/c=g->(c∈Z\/c=g)\/hA'.n<=c:=fun c d=>d.elim (fun h=>.inr (zO f.n h)) (fun h=>h.elim (fun h=>(hB c h).imp .inl (fun h=>h)) (fun e=>.inl (.inr e)));have be:=Rc.lt bd;by_cases hv:v=to
     . subst hv;simp only [BZ,r0,r2,seval];refine step_ret (sback_ok S.ok) ?_;rintro rv h4 ⟨g4,b1,b2,rfl,bT,bf,nb,e1,e2⟩;replace S:=S.call g4;have bX:=g4.n;simp only [BZ,seval];have pl:=(D.bd v).2;have bY:=D.len;refine step_ret (wU S.ok (back_it ac (wq.trans g4) u hn (Rc.gr g4) D (Xx _ (by simp)) e1 e2 (fun h=>by have:=be b2 h;omega) nb (zO wq.n bf)) (fun b hb=>by subst hb;exact e2.lt g4.ok) (by omega)) ?_;rintro vA h5 ⟨fW,bh,w⟩;replace S:=S.step fW (fun c d=>.inr (by subst d;omega)) (fun c d e=>by subst e;have:=k3 d;omega);simp only [BZ,seval];refine step_ret (wW S.ok bh (by omega)) ?_;rintro rv h6 ⟨fR,gR⟩;have b0:=fW.n;have b3: ∀c,av vA c->_<=c:=w;replace S:=S.step fR (fun c d=>.inr (by have:=w c d;omega)) (fun c d hb=>by have:=k3 d;have:=w c hb;omega);have a1:Fl vA:=gR.fl;have lL:=(S.row (b:=J) m2).load1 (vu (L:=σ.L) X);simp only [BZ];refine ar (aw rfl) (q:=0) (ps:=[]) (by kernel_rfl) ?_;simp only [BZ,cls,r0,r2,r6,X,lL,y,a1,S.ld (b:=br) (o:=2) m1 rfl,S.ld (b:=br) (o:=7) m1 rfl,seval];refine cM (S.store (i:=0) rfl Tryz.t96.2.1 (by intro x e;cases e) rfl (by simp only [ag,Xy,XA,y.2.1,a1.2.1,Xn];rfl) (lbt rfl) ono) ?_;have bi: ∀c,av vA c->c≠g:=fun c d e=>(by have:=w c d;have:=k3 (c:=g) (by simp [keys]);omega);have kA: ∀c,av vA c-> ¬av l c:=fun c d he=>(by have:=w c d;have:=k3 (fF (p:=(l,4,_)) m0 (mG (S.gown _ m0).1 he));omega);clear S;rintro h7 ⟨S,mo⟩;simp only [LC,ag,lay,Xi,Xj,seval]at S;simp only [BZ,ab,seval];refine(bF (by decide) (by simp only [aC,r6,an,seval];exact bD Tryz.t96.1 Tryz.t96.2.1 (S.lds (b:=g) (o:=0) (n:=3) m0 (lbt rfl)))).2 (cg.2 ?_);have bm:=(((gh.fr (M:=NoM)).trans Y.fr (fun c d=>.inr (bq c (.inr d)))).trans S.fr (fun c d=>.inr (bq c (kp c d)))).gr;refine⟨bm,_,hE _ (.hit K),vA,l,rfl,gR.of_get (fun c d=>mo.get c (gR.lt fR.ok d) ?_),(S.gown _ m0).1,fun c d=>⟨by have:=w c d;have:=wq.n;omega,kA c d⟩,fun c d=>?_⟩
       . obtain⟨a',n',e',_⟩: ∃a' n',vA=Value.slice (some ⟨a',0,some 1⟩) n' n'/\a'=c:=by
          rcases gR with⟨e,_⟩|⟨b',n',e,_⟩
          . simp only []at e;rw [e]at d;cases d
          . simp only []at e;rw [e]at d;cases d;exact⟨_,_,e,rfl⟩
         exact bi c (by rw [e'];assumption)
       . exact bq c (((S.gown _ m0).2 c (mG (S.gown _ m0).1 d)).elim (fun h=>.inl (zO np h)) (fun h=>kp c h))
     . have bn: ¬((v:Int)=(to:Int)):=(by omega);simp only [BZ,r0,r2,bn,seval];obtain⟨a2,bt⟩:=sv.next hA hk
       refine step_ret (sscan_ok ac wq u hn Rc a0 a4 af hp X D (sv.room v) (by show(σ.ev++[_]).length<=10000;simp;omega)) ?_;rintro rv h4 ⟨f4,B4,R4,bu⟩;simp only [BZ];have es:=Cf γ.arcs al pi v (fJ σ v);have eO:(tC γ.arcs al pi v (fJ σ v)).O=σ.O++[v]:=bt.O;have ec:(fJ σ v).ev.length=σ.ev.length+1:=(by show(σ.ev++[_]).length=_;simp);have a3:=a2.len;rw [eO]at a3;simp at a3;refine ih _ _ _ (by rw [eO];simp;omega) ⟨B4,?_,?_,R4,?_,a2,by rw [eO];simp;omega,fun r hr=>hE r (.step K hv hr),by simp [aD,r0,an,r1,r2,r6]⟩
       . exact((f.trans Y.fr (fun c d=>bo c (.inr d))).trans S.fr (fun c d=>bo c (kp c d))).trans f4 (fun c d=>bo c ((E c d).imp (fun h=>h) .inl))
       . exact f4.has (o:=.row _ 1) (S.row m0) (fun U=>(E g U).elim (fun h=>by have:=f.n;omega) O)
       . exact fun c d=>(bu c d).elim (fun h=>(E c h).elim (fun h=>.inr (zO f.n h)) (hB c)) (fun h=>.inr (by have:=f.n;omega))
 . have k0:(lW pi s).ev.length=0:=(by unfold lW;rw [xF];rfl);exact⟨B1,f1.mono (fun c d=>.inl d),f1.has (o:=.row _ 1) I n6,R1,ai,sv_init hs,by omega,fun r hr=>hr,by simp [aD,cK,an,dw]⟩
theorem kH(a:OZ h0)(c:aX h0 d p γ):aT zM 28 [p] h0 (.int .i64 γ.arcs.length):=by have S:=Si a;obtain⟨b,g,h,i,j,k,rfl,r,e,_⟩:=c.ex;have f:=r.load1 (o:=3) rfl;refine aa (n:=11) (rs:=[.tmp 2]) rfl Tryz.e28 rfl rfl rfl (lbt rfl) ?_;simp only [BZ,ab,f,e.A.lenq,seval];exact S.gr
def alF(als:List Bool)(a:Nat):Bool:=als.isEmpty||als.getD a false
def piF(pis:List Int)(v:Nat):Int:=if pis=[]then 0 else max (-72057594037927936) (pis.getD v 0)
theorem piF_lo(pis:List Int)(v:Nat): -(FAR:Int)<=piF pis v:=by
 have:=gX;unfold piF
 split<;>omega
theorem al_ok{als:List Bool}(q:hq.load k 2 1=some [vAl])(r:az hq 1 encB vAl als)(m:als=[]\/als.length=n):AlF zM hq 197 k n (alF als):=by
 intro h g a t;have S:=Si g.ok;have p:=g.load q;have d:=r.gr g;rcases m with rfl|m
 . refine aa (n:=15) (rs:=[.tmp 3]) rfl Tryz.e197 rfl rfl rfl (lbt rfl) ?_;simp only [BZ,ab,Xe,p,d.lenq,seval];exact⟨rfl,S.gr⟩
 . have s: ¬((als.length:Int)=0):=(by omega);have f:a<als.length:=(by omega);obtain⟨c,o,i,j⟩:=d.ix (kd:=.i64) Cc f;have e:alF als a=als[a]:=by
    unfold alF;cases als with
    |nil=>simp at f| cons b l=>show(false||(b::l).getD a false)=_;rw [Xc,Xf f];rfl
   rw [e];refine aa (n:=15) (rs:=[.tmp 3]) rfl Tryz.e197 rfl rfl rfl (lbt rfl) ?_;simp only [BZ,ab,p,d.lenq,s,i,j,encB,seval];exact S.gr
theorem pi_ok{pis:List Int}(m:hq.load j 3 1=some [vPi])(p:az hq 1 (encI .i64) vPi pis)(k:pis=[]\/pis.length=n):PiF zM hq 198 j n (piF pis):=by
 intro h g a r;have S:=Si g.ok;have l:=g.load m;have b:=p.gr g;rcases k with rfl|k
 . refine aa (n:=14) (rs:=[.tmp 3]) rfl Tryz.e198 rfl rfl rfl (lbt rfl) ?_;simp only [BZ,ab,Xe,l,b.lenq,seval];exact⟨rfl,S.gr⟩
 . have q: ¬((pis.length:Int)=0):=(by omega);have d:a<pis.length:=(by omega);obtain⟨c,o,f,i⟩:=b.ix (kd:=.i64) (bV .i64) d;have e:piF pis a=max (-72057594037927936) pis[a]:=(by unfold piF;rw [if_neg (by intro e;subst e;simp at d)];simp [Xc,d]);rw [e];refine aa (n:=14) (rs:=[.tmp 3]) rfl Tryz.e198 rfl rfl rfl (lbt rfl) ?_;simp only [BZ,ab,l,b.lenq,q,f,i,encI,seval];exact S.gr
theorem sstart_ok(O:OZ h0)(k:Good γ){P:Nat}(f:aX h0 P (ptrTo m) γ){s to:Int}(fA:Fl vAl)(fP:Fl vPi):
 Ret zM 116 [ptrTo m,.agg ⟨[.int .i64 s,.int .i64 to,vAl,vPi]⟩] h0 fun r h'=> ∃br d hq B,r=ptrTo br/\Gr h0 hq/\Gr hq h'/\hq.load d 2 1=some [vAl]/\hq.load d 3 1=some [vPi]/\iJ h' B br (ptrTo m) (.func (.func 197) #[] #[ptrTo d]) (.func (.func 198) #[] #[ptrTo d]) γ.nodes zS/\ ∀c∈B,hq.n<=c:=by
 have Q:=k.n1;have n2:=k.n2;have S:=Si O;refine aa (n:=34) (rs:=[.tmp 4]) rfl Tryz.e116 rfl rfl rfl (lbt rfl) ?_;simp only [BZ,seval];refine ae (bA (by intro x e;cases e)) S ?_;clear S;intro h d S A;simp only [ag]at S;have t:=S.gr;have R:=S.ld (b:=d) (o:=2) m0 rfl;have T:=S.ld (b:=d) (o:=3) m0 rfl;clear S;rename Hp=>hq;replace f:=f.gr t;have S:=Si t.ok;simp only [BZ];refine ar (aw rfl) (q:=2880) (ps:=[]) (by kernel_rfl) ?_;simp only [BZ,cls,seval];refine bg (bM S.ok (f.gr S.gr)) ?_;intro h g;replace S:=S.call g;clear g;simp only [BZ,cls,seval];refine bQ (ue S.ok) ?_;rintro U h ⟨g,F,H,V⟩;have W:=S.fr.n;replace S:=S.call g;clear g;have X: ∃b,U=ptrTo b:=by obtain⟨b,_,_,e,_⟩:=H.ex;exact⟨b,e⟩
 obtain⟨C,rfl⟩:=X;have j:=S;have Y:=H.lt j.ok;rename Hp=>h_H;replace S:=S.base;simp only [BZ,cls,seval];refine bg (bM S.ok (f.gr (j.rebase S).gr)) ?_;intro h g;replace S:=S.call g;clear g;simp only [BZ,cls,seval];refine cL (mD (by exact Tryz.t23.1) (by exact X7) (by omega) (by omega)) S ?_;clear S;intro h u S D E;simp only [BZ,cls,Xr,seval];refine sK (bM (h0:={h with lo:=h.n}) S.ok ((f.gr (j.rebase S).gr).keep S.ok (fun _ _=>rfl))) ?_;intro h g;replace S:=S.call g;clear g;simp only [BZ,cls,seval];refine cL (mD (by exact Tryz.t100.1) (by exact Tryz.e4E) (by omega) (by omega)) S ?_;clear S;intro h w S G I;simp only [BZ,cls,Xr,seval];refine cL (bA (by intro x e;cases e)) S ?_;clear S;intro h br S J K;simp only [ag]at S;simp only [BZ,cls,seval];refine ae (ce (by exact Tryz.t41.1) (by exact XD) (by decide) (by rfl)) S ?_;clear S;intro h L S M;simp only [LC,bJ,cq,ag,Xl,Xm,Xo,Xq,seval]at S;simp only [BZ,seval];refine am (bM S.ok (f.gr (j.rebase S).gr)) ?_;intro h g;replace S:=S.call g;clear g;simp only [BZ,seval];have y:=fun {c} (a:c∈_)=>S.key_lt (b:=c) a;have Z:=S.fr.n;refine step_ret (repI_ok S.ok (x:= -1) (.inr ⟨L,0,none,1,rfl,Xs _,S.lds (b:=L) (o:=0) (n:=1*1) m0 (lbt rfl)⟩) Q (by omega)) ?_;intro v h ⟨g,p,eb,nb',Rb⟩;replace S:=S.call g;clear g;subst eb;replace S:=S.drop1;replace S:=S.push (b:=p) (o:=.row _ 1) (.inl (zO Z nb')) Rb (fun z=>by have:=y (Xg _ z);omega);simp only [BZ,seval];refine aE (aF S (i:=1) rfl ?_ ?_ ?_ ono) ?_
 . exact(by simp only [FA0])
 . exact(by exact aW)
 . exact Xb (lbt rfl)
 clear S;rintro h ⟨S,l⟩;clear l;simp only [LC,ag,lay,Xi,Xj,seval]at S;simp only [BZ,seval];refine aE (aF S (i:=1) rfl ?_ ?_ ?_ ono) ?_
 . exact(by simp only [FA0])
 . exact(by exact eh)
 . exact Xb (lbt rfl)
 clear S;rintro h ⟨S,l⟩;clear l;simp only [LC,ag,lay,Xi,Xj,seval]at S;simp only [BZ,seval];refine aE (aF S (i:=1) rfl ?_ ?_ ?_ ono) ?_
 . exact(by simp only [FA0])
 . exact(by exact eh)
 . exact Xb (lbt rfl)
 clear S;rintro h ⟨S,l⟩;clear l;simp only [LC,ag,lay,Xi,Xj,seval]at S;simp only [BZ,ab,seval];have e1:bJ [Value.int .i64 0] ((γ.nodes:Int)).toNat=labC γ.nodes zS.L:=by rw [sI];rfl
 have e2:bJ [Value.bool false] ((γ.nodes:Int)).toNat=clC γ.nodes zS.O:=by rw [sI];unfold clC zS;exact Yb fun v _=>by simp
 have e3:Xu γ.nodes (Value.int .i64 (-1))=byC γ.nodes zS.P:=by show _=(Xa γ.nodes).map fun _=>Value.int .i64 (-1);rw [XV,Xk]
 rw [e1,e2,e3]at S;have ap:=S.apart;have y:=fun {c} a=>S.key_own (b:=c) a;have n0:=j.fr.n;have N: ∀c∈keys (srL br u p w γ.nodes (ptrTo m) (ptrTo C) (.func (.func 197) #[] #[ptrTo d]) (.func (.func 198) #[] #[ptrTo d]) (.slice none 0 0) zS) (srG (.slice none 0 0) zS),h_H.n<=c:=fun c a=>by
  have:c=p\/c=br\/c=w\/c=u:=by simp [srL,srG,keys,eH]at a;omega
  rcases y (c:=c) (by simp [keys];omega)with h|h
  . exact h
  . simp [keys]at h
 refine⟨br,d,hq,_,rfl,t,(j.rebase S).gr,R,T,⟨u,p,w,C,F,.slice none 0 0,rfl,fun q hq=>?_,.inl ⟨rfl,rfl⟩,?_,H.mo S.fr (fun c _ h=>by simp [keys]at h),fun c a z=>?_⟩,fun c a=>?_⟩
 . simp only [srL,Ya,List.not_mem_nil,or_false]at hq;rcases hq with rfl|rfl|rfl|rfl
   . exact S.row m1
   . exact S.row m3
   . exact S.row m0
   . exact S.row m2
 . simp [srL,srG,keys,eH]at ap⊢;exact⟨by omega,by omega,by omega,.nil⟩
 . have:=Y c a;have:=N c z;omega
 . rcases List.mem_append.1 a with a|a
   . exact zO n0 (N c a)
   . exact zO W (V c a)
theorem fitsB_ok(d:OZ h0){xs:List Bool}(b:az h0 1 encB v xs)(e:xs=[]\/xs.length=n):aT zM 114 [v,.int .i64 n] h0 (.bool true):=by
 have S:=Si d;by_cases a:(xs.length:Int)=0
 . refine aa (n:=14) (rs:=[.tmp 4]) rfl Tryz.e114 rfl rfl rfl (lbt rfl) ?_;simp only [BZ,ab,b.lenq,a,seval];exact S.gr
 . have c:(xs.length:Int)=(n:Int):=by
    rcases e with rfl|h
    . simp at a
    . omega
   rw [c]at a;refine aa (n:=14) (rs:=[.tmp 4]) rfl Tryz.e114 rfl rfl rfl (lbt rfl) ?_;simp only [BZ,ab,b.lenq,a,c,seval];exact S.gr
theorem fitsI_ok(d:OZ h0)(b:az h0 1 (encI .i64) v xs)(e:xs=[]\/xs.length=n):aT zM 115 [v,.int .i64 n] h0 (.bool true):=by
 have S:=Si d;by_cases a:(xs.length:Int)=0
 . refine aa (n:=14) (rs:=[.tmp 4]) rfl Tryz.e115 rfl rfl rfl (lbt rfl) ?_;simp only [BZ,ab,b.lenq,a,seval];exact S.gr
 . have c:(xs.length:Int)=(n:Int):=by
    rcases e with rfl|h
    . simp at a
    . omega
   rw [c]at a;refine aa (n:=14) (rs:=[.tmp 4]) rfl Tryz.e115 rfl rfl rfl (lbt rfl) ?_;simp only [BZ,ab,b.lenq,a,c,seval];exact S.gr
theorem yL(b:OZ h0)(c:aX h0 d (ptrTo a) γ)(l:h0.load b2 0 1=some [ptrTo a]){v:Nat}(e:v<γ.nodes):aT zM 113 [.int .i64 (v:Nat),ptrTo b2] h0 (.bool true):=by
 have S:=Si b;have f:(0:Int)<=(v:Int):=by omega
 refine aa (n:=12) (rs:=[.tmp 3]) rfl Tryz.e113 rfl rfl rfl (lbt rfl) ?_;simp only [BZ,l,f,seval];refine am (bM S.ok (c.gr S.gr)) ?_;intro h g;replace S:=S.call g;clear g;simp only [BZ,ab,aG,e,seval];exact S.gr
theorem tR(ok:OZ h0)(m:Good γ){Q:Nat}(t:aX h0 nb (ptrTo Q) γ){to:Nat}(T:s<γ.nodes)(u:to<γ.nodes){als:List Bool}{pis:List Int}(H:az h0 1 encB vAl als)(w:als=[]\/als.length=γ.arcs.length)(I:az h0 1 (encI .i64) vPi pis)(y:pis=[]\/pis.length=γ.nodes):
 Ret zM 45 [ptrTo Q,.agg ⟨[.int .i64 (s:Nat),.int .i64 (to:Nat),vAl,vPi]⟩] h0 fun r h'=>Gr h0 h'/\ ∃v z,r=.tuple #[v,.int .i64 0]/\FdAt h' h0.n v z/\((s=to/\z=⟨0,[],[]⟩)\/(s≠to/\Ends γ.arcs (alF als) (piF pis) to (lW (piF pis) s) z)):=by
 have S:=Si ok;have fA:=H.fl;have fP:=I.fl;refine aa (n:=57) (rs:=[.cell 4 96,.tmp 5]) rfl Tryz.e45 rfl rfl rfl (lbt rfl) ?_;simp only [BZ,seval];refine ae (bN (by exact bH)) S ?_;clear S;intro h d S U;simp only [BZ,if_false,seval];refine ae (bA (by intro x e;cases e)) S ?_;clear S;intro h a S V;simp only [ag]at S;simp only [BZ];refine ae aA S ?_;clear S;intro h J S W;simp only [BZ,S.ld (b:=d) (o:=0) m2 rfl,seval];refine ar (aw rfl) (q:=0) (ps:=[(22,24),(14,16)]) (by kernel_rfl) ?_;simp only [BZ,cls,S.ld (b:=d) (o:=0) m2 rfl,S.ld (b:=a) (o:=0) m1 rfl,seval];have X:=(S.row (b:=d) m2).lt S.ok;have Y:=(S.row (b:=a) m1).lt S.ok;refine bg (yL S.ok (t.gr S.gr) (S.ld (b:=d) (o:=0) m2 rfl) T) ?_;intro h g;have K:=ah g X;have v1:=ah g Y;replace S:=S.call g;clear g;simp only [BZ,cls,S.ld (b:=d) (o:=0) m2 rfl,S.ld (b:=a) (o:=1) m1 rfl,seval];have Z:=(S.row (b:=d) m2).lt S.ok;have q2:=(S.row (b:=a) m1).lt S.ok;refine bg (yL S.ok (t.gr S.gr) (S.ld (b:=d) (o:=0) m2 rfl) u) ?_;intro h g;have u2:=ah g Z;have v2:=ah g q2;replace S:=S.call g;clear g;simp only [BZ,cls,S.ld (b:=d) (o:=0) m2 rfl,S.ld (b:=a) (o:=2) m1 rfl,seval];have F:=(S.row (b:=d) m2).lt S.ok;have q3:=(S.row (b:=a) m1).lt S.ok;refine bg (kH S.ok (t.gr S.gr)) ?_;intro h g;have u3:=ah g F;have v3:=ah g q3;replace S:=S.call g;clear g;simp only [BZ,cls,seval];have p4:=(S.row (b:=d) m2).lt S.ok;have q4:=(S.row (b:=a) m1).lt S.ok;refine bg (fitsB_ok S.ok (H.gr S.gr) w) ?_;intro h g;have u4:=ah g p4;have v4:=ah g q4;replace S:=S.call g;clear g;simp only [BZ,cls,S.ld (b:=d) (o:=0) m2 rfl,S.ld (b:=a) (o:=3) m1 rfl,seval];have p5:=(S.row (b:=d) m2).lt S.ok;have q5:=(S.row (b:=a) m1).lt S.ok;refine bg (bM S.ok (t.gr S.gr)) ?_;intro h g;have u5:=ah g p5;have v5:=ah g q5;replace S:=S.call g;clear g;simp only [BZ,cls,seval];have p6:=(S.row (b:=d) m2).lt S.ok;have q6:=(S.row (b:=a) m1).lt S.ok;refine bg (fitsI_ok S.ok (I.gr S.gr) y) ?_;intro h g;have u6:=ah g p6;have v6:=ah g q6;replace S:=S.call g;clear g;simp only [BZ,cls,seval];refine⟨by simp only [aK,aO,aH,aQ,aJ,ne_eq,not_false_eq_true,aS,bz,aN,aM,bG,bS,aC,Xn,an,ao v3,ao v5,seval],?_⟩;clear X Z F p4 p5 p6 Y q2 q3 q4 q5 q6 K u2 u3 u4 u5 u6 v1 v2 v3 v4 v5 v6;by_cases A:s=to
 . subst A;simp only [BZ,S.ld (b:=a) (o:=0) m1 rfl,S.ld (b:=a) (o:=1) m1 rfl,seval];refine aE (S.store (i:=0) rfl Tryz.t96.2.1 (by intro x e;cases e) rfl rfl (lbt rfl) ono) ?_;clear S;rintro h3 ⟨S,mo⟩;simp only [LC,ag,lay,Xi,Xj,seval]at S;simp only [BZ,ab];refine(bF (by decide) (by simp only [aC,an,seval];exact bD Tryz.t96.1 Tryz.t96.2.1 (S.lds (b:=J) (o:=0) (n:=3) m0 (lbt rfl)))).2 ?_;refine(eo (by decide)).2 (cg.2 ?_);exact⟨S.gr,_,⟨0,[],[]⟩,rfl,⟨_,_,rfl,.inl ⟨rfl,rfl⟩,.inl ⟨rfl,rfl⟩,fun c f=>f.elim,fun c f=>f.elim⟩,.inl rfl⟩
 . have C: ¬((s:Int)=(to:Int)):=(by omega);simp only [BZ,C,S.ld (b:=a) (o:=0) m1 rfl,S.ld (b:=a) (o:=1) m1 rfl,seval];refine ar (aw rfl) (q:=0) (ps:=[(2,6),(2,4)]) (by kernel_rfl) ?_;simp only [BZ,cls,Xw,Xz,List.take_zero,S.ld (b:=d) (o:=0) m2 rfl,S.lds (b:=a) (o:=0) (n:=4) m1 (lbt rfl),seval];have D:=t.gr S.gr;have kS:=S.fr.n;have F:=(S.row (b:=a) m1).lt S.ok;refine bQ (sstart_ok S.ok m D fA fP) ?_;rintro r h5 ⟨br,ba,hq,B,rfl,j,L,l2,l3,R,hB⟩;have K:=ah (j.trans L) F;have Aq:=H.gr (S.gr.trans j);have Pq:=I.gr (S.gr.trans j);have M:=S.call j;have ac:=(M.row (b:=J) m0).lt M.ok;replace S:=S.call (j.trans L);simp only [BZ,cls,S.ld (b:=a) (o:=0) m1 rfl,S.ld (b:=a) (o:=1) m1 rfl,seval];have kq:=j.n;have N:=D.gr j;refine bQ (srun_ok j.ok L m N R hB (al_ok l2 Aq w) (pi_ok l3 Pq y) (fun v _=>piF_lo pis v) T u) ?_;rintro rv h6 ⟨g6,z,he,vA,vE,rfl,G1,G2,O,d2⟩;replace S:=M.call g6;have f1:Fl vA:=G1.fl;have f2:Fl vE:=G2.fl;simp only [BZ,cls,seval];refine cM (S.store (i:=0) rfl Tryz.t96.2.1 (by intro x e;cases e) rfl (by simp only [ag,Xy,XA,f1.2.1,f2.2.1,Xn];rfl) (lbt rfl) ono) ?_;clear S;rintro h7 ⟨S,mo⟩;simp only [LC,ag,lay,Xi,Xj,seval]at S;simp only [BZ,cls,ab,seval];refine⟨by simp only [aK,aO,aH,aQ,aJ,ne_eq,not_false_eq_true,aS,bz,aN,aM,bG,bS,aC,Xn,an,aq K,seval],?_⟩;refine(bF (by decide) (by simp only [aC,an,seval];exact bD Tryz.t96.1 Tryz.t96.2.1 (S.lds (b:=J) (o:=0) (n:=3) m0 (lbt rfl)))).2 ?_;refine(eo (by decide)).2 (cg.2 ?_);have l: ∀{p:GL},ig h6 p->(∀c,av p.1 c->hq.n<=c)->ig h7 p:=fun {p} G f=>G.of_get fun c P=>mo.get c (G.lt g6.ok P) fun e=>by
    have:=f c (by
     rcases G with⟨E,_⟩|⟨b',n',E,_⟩
     . obtain⟨v,k,vs⟩:=p;simp only []at E;subst E;cases P
     . obtain⟨v,k,vs⟩:=p;simp only []at E;subst E;cases P;rfl)
    omega
   exact⟨S.gr,_,z,rfl,⟨vA,vE,rfl,l G1 (fun c f=>(O c f).1),l G2 d2,fun c f=>⟨zO kS (zO kq (O c f).1),(O c f).2⟩,fun c f=>zO kS (zO kq (d2 c f))⟩,.inr ⟨A,he⟩⟩
theorem Ds(a:OZ h0):Ret zM 41 [.pointer none] h0 fun r h'=>Gr h0 h'/\ ∃l:List Int,az h' 1 (encI .i64) r l/\l.length=0:=by have S:=Si a;refine aa (n:=10) (rs:=[.tmp 2]) rfl Tryz.e41 rfl rfl rfl (lbt rfl) ?_;simp only [BZ,ab,seval];exact⟨S.gr,[],.inl ⟨rfl,rfl⟩,rfl⟩
theorem DG(a:OZ h0):aT zM 40 [.pointer none] h0 (.int .i64 ((0:Nat):Int)):=by have S:=Si a;refine aa (n:=9) (rs:=[.tmp 2]) rfl Tryz.e40 rfl rfl rfl (lbt rfl) ?_;simp only [BZ,ab,Xe,seval];exact S.gr
def TabQ(h:Hp)(b:Value)(a:Nat)(l:List Int)(R Q:Nat->List Int):Prop:=(∃m,TabAt h m b a l R Q/\(∀i,i<l.length->(R i).length=a)/\ ∀i,i<l.length->(Q i).length=a)\/(b=.pointer none/\a=0/\l=[])
theorem TabQ.gr{h h':Hp}{c:Value}{d:Nat}{l:List Int}{R Q:Nat->List Int}(t:TabQ h c d l R Q)(g:Gr h h'):TabQ h' c d l R Q:=t.imp (fun⟨m,a,b⟩=>⟨m,a.gr g,b⟩) (fun h=>h)
theorem TabQ.tabO{d:Value}{e:Nat}(t:TabQ h d e l R Q)(f:l.length<1000):TabO zM h d e l.length 41 40:=by
 rcases t with⟨m,t,_,_⟩|⟨rfl,rfl,rfl⟩
 . refine⟨by obtain⟨b,_,_,_,rfl,_⟩:=t.ex;exact bH,fun x k=>(jG k.ok (t.gr k) f).mono fun r g ⟨a,b,c⟩=>⟨a,l,b,rfl⟩,fun x k=>lI k.ok (t.gr k)⟩
 . exact⟨bH,fun x k=>Ds k.ok,fun x k=>DG k.ok⟩
theorem D8{mk:Nat}{f:Int}(h:jQ N a mk f t=0):(0<=f/\f<N)/\(0<=t/\t<N)/\0<mk/\a=N:=by
 unfold jQ at h
 split at h
 . cases h
 . split at h
   . cases h
   . split at h
     . rename_i c d b;exact⟨by omega,by omega,b⟩
     . cases h
def mH(c:Int)(d:Int)(vA a:Value):Value:=.agg ⟨[.int .i64 c,.int .i64 d,vA,a]⟩
def pos:List Int->Int->Option Nat
 | [],_=>none|y::a,x=>if x=y then some 0 else(pos a x).map (· +1)
def kP:Nat->List Int->List (Value×Value×Nat)
 |_,[]=>[]|o,x::a=>(.int .i64 x,.int .i64 (o:Nat),o)::kP (o+1) a
theorem ents_app(o:Nat)(l:List Int)(x:Int):kP o (l++[x])=kP o l++[(.int .i64 x,.int .i64 ((o+l.length:Nat):Int),o+l.length)]:=by
 induction l generalizing o with
 |nil=>rfl| cons y a b=>show _::kP (o+1) (a++[x])=_::(kP (o+1) a++_);rw [b,List.length_cons,show o+1+a.length=o+(a.length+1) by omega]
theorem ents_len(o:Nat)(l:List Int):(kP o l).length=l.length:=by
 induction l generalizing o with
 |nil=>rfl|cons y a b=>show(kP (o+1) a).length+1=_;rw [b];rfl
theorem keq_int{y:Int}:cJ (.int .i64 x) (.int .i64 y)=some (decide (x=y)):=by show some (jh x y)=_;congr 1;rw [po]
theorem yD(o:Nat)(l:List Int)(x:Int):bK (.int .i64 x) (kP o l)=some ((pos l x).map fun i=>(.int .i64 ((o+i:Nat):Int),o+i)):=by
 induction l generalizing o with
 |nil=>rfl| cons y a b=>
   show(match cJ (.int .i64 x) (.int .i64 y)with|none=>none|some true=>some (some (Value.int .i64 (o:Nat),o))|some false=>bK (.int .i64 x) (kP (o+1) a))=_;rw [keq_int,pos];by_cases h:x=y
   . rw [if_pos h,decide_eq_true h];rfl
   . rw [if_neg h,decide_eq_false h];show bK (.int .i64 x) (kP (o+1) a)=_;rw [b];cases pos a x with
     |none=>rfl|some i=>simp;omega
theorem St.mput{M:Nat->Prop}{L:List (Nat×Ob)}{G:List GL}(S:St M h0 h L G){t kt el:TypeId}{a:List (Value×Value×Nat)}{k:Value}(d:L[i]? =some (b,.map a c))(f:E.und t=some (.map kt el))(hf:bU E kt k=true)(g:bK k a=some none):
 ∃h',ey E h t (.map (some b)) k v=some h'/\St M h0 h' (L.set i (b,.map (a++[(k,v,c)]) (c+1))) G:=by
 have e:h.get b=some (.map a c):=(S.own _ (List.mem_of_getElem? d)).2;refine⟨h.put b (.map (a++[(k,v,c)]) (c+1)),?_,S.put d ?_⟩
 . simp only [ey,kD,f,hf,cond_true,e,g]
 . show(h.put b _).get b=_;rw [Hp.get_put,if_pos ⟨rfl,by rw [e];rfl⟩]
theorem DA{t kt el:TypeId}(a:E.und t=some (.map kt el))(d:E.und kt=some (.int .i64))(e:E.zeroV el=some (.int .i64 0))(f:h.get b=some (.map (kP 0 l) c)):
 dC E h t (.map (some b)) (.int .i64 x) true=some (match pos l x with|some i=>.tuple #[.int .i64 (i:Nat),.bool true]|none=>.tuple #[.int .i64 0,.bool false]):=by
 have hf:bU E kt (.int .i64 x)=true:=by simp only [bU,d];rfl
 simp only [dC,a,hf,cond_true,f,yD,e];cases pos l x with
 |none=>rfl|some i=>simp
def pP(ks:List Int)(x:Int):Nat:=match pos ks x with|some i=>i|none=>ks.length
def pM(ks:List Int)(x:Int):List Int:=match pos ks x with|some _=>ks|none=>ks++[x]
def norm:List Int->List Int->List Int
 |_,[]=>[]|a,x::b=>(pP a x:Int)::norm (pM a x) b
theorem name_ok(j:OZ h0){e:Nat}{ks:List Int}(k:Row h0 e [.map (some a)] 1)(b:h0.get a=some (.map (kP 0 ks) ks.length)):
 Ret zM 238 [.int .i64 x,ptrTo e] h0 fun v h'=>Mo (· =a) h0 h'/\v=.int .i64 (pP ks x)/\h'.get a=some (.map (kP 0 (pM ks x)) (pM ks x).length):=by
 have S:=St.init1 j (o:=.map (kP 0 ks) ks.length) b;have f:=k.load1 (o:=0) rfl;have c:=DA (x:=x) Tryz.t230.1 Tryz.t3.1 (by kernel_rfl) b;have g:lenQ (some (.map 3 3)) h0 (.map (some a))=some (.val (.int .i64 (kP 0 ks).length),h0):=lenq_map b;rw [ents_len]at g;unfold pP pM;cases d:pos ks x with
 | some i=>rw [d]at c;refine aa (n:=20) (rs:=[.tmp 3]) rfl Tryz.e238 rfl rfl rfl (lbt rfl) ?_;simp only [BZ,ab,f,c,seval];exact⟨S.fr,b⟩| none=>rw [d]at c;refine aa (n:=20) (rs:=[.tmp 3]) rfl Tryz.e238 rfl rfl rfl (lbt rfl) ?_;simp only [BZ,f,c,g,seval];refine aE (S.mput (i:=0) rfl Tryz.t230.1 (by simp only [bU,Tryz.t3.1];rfl) (by rw [yD,d];rfl)) ?_;clear S;intro h S;simp only [LC]at S;simp only [BZ,ab,seval];have l:h.get a=some (.map (kP 0 ks++[(.int .i64 x,.int .i64 ks.length,ks.length)]) (ks.length+1)):=(S.own _ m0).2;refine⟨S.fr,?_⟩;rw [ents_app,XJ,Xm];exact l
theorem namer_ok(e:OZ h0):Ret zM 179 [] h0 fun v h'=>Gr h0 h'/\ ∃a b,v=.func (.func 238) #[] #[ptrTo a]/\h0.n<=a/\h0.n<=b/\Row h' a [.map (some b)] 1/\h'.get b=some (.map [] 0):=by
 have S:=Si e;refine aa (n:=4) (rs:=[.tmp 0]) rfl Tryz.e179 rfl rfl rfl (lbt rfl) ?_;simp only [BZ];refine ae oq S ?_;clear S;intro h b S c;simp only [BZ];refine ae aA S ?_;clear S;intro h a S d;simp only [BZ,seval];refine aE (aF S (i:=0) rfl ?_ ?_ ?_ ono) ?_
 . exact(by simp only [FA0])
 . exact(by exact fl_map)
 . exact Xb (lbt rfl)
 clear S;rintro h ⟨S,f⟩;clear f;simp only [LC,ag,lay,Xi,Xj,seval]at S;simp only [BZ,ab,seval];exact⟨S.gr,a,b,rfl,d,c,S.row m0,(S.own _ m1).2⟩
theorem each_ok(H:OZ h0){x:Nat}{ks:List Int}(E:Row h0 x [.map (some d)] 1)(y:h0.get d=some (.map (kP 0 ks) ks.length))(z:az h0 1 (encI .i64) v l)(M:l.length<1000):
 Ret zM 178 [v,.func (.func 238) #[] #[ptrTo x]] h0 fun r h'=>Mo (· =d) h0 h'/\az h' 1 (encI .i64) r (norm ks l)/\ ∀c,av r c->h0.n<=c:=by
 have S:=St.init1 H (o:=.map (kP 0 ks) ks.length) y;have A: ∀c,av v c-> ¬c=d:=by
  rintro c p rfl;rcases z with⟨rfl,_⟩|⟨b,o,s,N,rfl,_,I⟩
  . exact p.elim
  . have:b=c:=p;subst this;simp [Hp.load,y]at I
 have B: ¬x=d:=by rintro rfl;obtain⟨t,O,e,_⟩:=E;rw [y]at e;cases e
 refine aa (n:=21) (rs:=[.tmp 4]) rfl Tryz.e178 rfl rfl rfl (lbt rfl) ?_;simp only [BZ,z.lenq,seval];replace S:=S.nilG (k:=1);refine bj (fun(i:Nat) g h=>i<=l.length/\ ∃(a done:List Int) (C:Value),norm ks l=done++norm a (l.drop i)/\done.length=i/\St (· =d) h0 h [(d,.map (kP 0 a) a.length)] [(C,1,ints done)]/\
  g 1=.func (.func 238) #[] #[ptrTo x]/\g 4=C/\g 7=v/\g 8=.int .i64 l.length/\g 9=.int .i64 i) (fun i=>l.length-i) ?_ 0 _ _ ?_
 . clear S;intro i J g h ⟨hi,a,done,C,hn,hd,S,r1,r4,r7,r8,r9⟩;by_cases hlt:i<l.length
   . obtain⟨c,o,q,u⟩:=(z.mo S.fr A).ix (kd:=.i64) (bV .i64) hlt;have w:au .i64 ((i:Int)+1)=((i+1:Nat):Int):=(by rw [wrap64]<;>omega);simp only [BZ,r1,r4,r7,r8,r9,aG,hlt,q,u,encI,seval];refine step_ret (name_ok S.ok (S.fr.has (o:=.row _ 1) E B) (S.own _ m0).2) ?_;rintro r h ⟨f,rfl,F⟩;replace S:=S.call1 (i:=0) rfl f (o':=.map _ _) F;simp only [LC]at S;simp only [BZ,seval];refine ae (ce (by exact Tryz.t41.1) (by exact XD) (by decide) (by rfl)) S ?_;clear S;intro h K S G;simp only [LC,bJ,cq,ag,Xl,Xm,Xo,Xq,seval]at S;simp only [BZ,seval];refine dQ (S.grow (j:=0) (m:=1) (new:=ints [(pP a l[i]:Int)]) rfl Tryz.t41.1 XD (by decide) Tryz.t41.2.2.2.2.2 (by simp only [aR];rw [S.lds (b:=K) (o:=0) (n:=1*1) m0 (lbt rfl)];rfl) rfl (by decide) rfl (by rw [cD,cD];simp;omega)) ?_;clear S f F u;rintro h L S;simp only [LC]at S;replace S:=S.drop1;rw [<-iH]at S;simp only [BZ,r9,w,seval];refine J (i+1) _ _ (by omega) ⟨by omega,_,_,_,?_,?_,S,by simp [aD,r1,an,r7,r8]⟩
     . rw [hn,XP hlt,norm,List.append_assoc];rfl
     . simp [hd]
   . have D:i=l.length:=(by omega);simp only [BZ,ab,r4,r8,r9,aG,hlt,seval];have e:norm ks l=done:=(by rw [hn,D,List.drop_length,norm,List.append_nil]);rw [e];exact⟨S.fr,(S.gown _ m0).1.sl rfl (bV .i64) (by decide),fun c p=>((S.gblk m0 p).1).elim (fun h=>h) (fun h=>((S.gblk m0 p).2 (by simp [h])).elim)⟩
 . exact⟨Xt _,ks,[],_,rfl,rfl,S,by simp [aD,cK,dw,an]⟩
theorem norm_ok(b:OZ h0)(a:az h0 1 (encI .i64) v l)(d:l.length<1000):
 Ret zM 93 [v] h0 fun r h'=>Gr h0 h'/\az h' 1 (encI .i64) r (norm [] l)/\ ∀c,av r c->h0.n<=c:=by
 have S:=Si b;refine aa (n:=6) (rs:=[.tmp 2]) rfl Tryz.e93 rfl rfl rfl (lbt rfl) ?_;simp only [BZ,seval];refine step_ret (namer_ok S.ok) ?_;intro v h ⟨g,bx,bm,j,n1,n2,R,hg⟩;replace S:=S.call g;replace a:=a.gr g;clear g;subst j;simp only [BZ,seval];refine step_ret (each_ok (ks:=[]) S.ok R hg a d) ?_;rintro r h ⟨f,k,m⟩;simp only [BZ,ab,seval];exact⟨(S.fr.trans f (fun i e=>.inr (by subst e;exact n2))).gr,k,fun c h=>zO S.fr.n (m c h)⟩
theorem Cj  (s:OZ h0) {u:Value} {m:List Int} (p:az h0 1 (encI .i64) u l) (r:az h0 1 (encI .i64) v m) (A:l.length<1000000):aT zM 92 [u,v] h0 (.bool (decide (l=m))):=by
 have S:=Si s;by_cases a:l.length=m.length
 . have hle:((l.length:Int)=(m.length:Int)):=(by omega);refine aa (n:=26) (rs:=[.tmp 4]) rfl Tryz.e92 rfl rfl rfl (lbt rfl) ?_;simp only [BZ,p.lenq,r.lenq,hle,seval];refine bj (fun(i:Nat) g h=>i<=l.length/\l.take i=m.take i/\Gr h0 h/\g 0=u/\g 1=v/\g 12=.int .i64 l.length/\g 13=.int .i64 i) (fun i=>l.length-i) ?_ 0 _ _ ?_
   . clear S;intro i t g h ⟨hi,ht,S,r0,r1,r12,r13⟩;by_cases hlt:i<l.length
     . obtain⟨c,o,d,j⟩:=(p.gr S).ix (kd:=.i64) (bV .i64) hlt;obtain⟨B,C,b,e⟩:=(r.gr S).ix (kd:=.i64) (bV .i64) (a▸hlt);have w:au .i64 ((i:Int)+1)=((i+1:Nat):Int):=(by rw [wrap64]<;>omega);by_cases k:l[i]=m[i]
       . simp only [BZ,r12,r13,aG,hlt,seval];refine ar (aw rfl) (q:=0) (ps:=[]) (by kernel_rfl) ?_;simp only [BZ,cls,r0,r1,r13,d,j,b,e,encI,k,w,seval];refine t (i+1) _ _ (by omega) ⟨by omega,?_,S,by simp [aD,r0,r1,r12]⟩;rw [Xd hlt,Xd (a▸hlt),ht,k]
       . have f:l≠m:=(by rintro rfl;exact k rfl);simp only [BZ,r12,r13,aG,hlt,seval];refine ar (aw rfl) (q:=0) (ps:=[]) (by kernel_rfl) ?_;simp only [BZ,cls,ab,r0,r1,d,j,b,e,encI,k,f,seval];exact S
     . have x:l=m:=(by have y:l.take i=l:=Xh (by omega);have z:m.take i=m:=Xh (by omega);rw [y,z]at ht;exact ht);subst x;simp only [BZ,ab,r12,r13,aG,hlt,seval];exact S
   . exact⟨Xt _,rfl,Gr.refl s,by simp [aD,cK,dw,a]⟩
 . have f:l≠m:=(by rintro rfl;exact a rfl);have hle: ¬((l.length:Int)=(m.length:Int)):=(by omega);refine aa (n:=26) (rs:=[.tmp 4]) rfl Tryz.e92 rfl rfl rfl (lbt rfl) ?_;simp only [BZ,ab,p.lenq,r.lenq,hle,f,seval];exact S.gr
def gP:List Int->Int
 | []=>0|x::a=>a.foldl max x
theorem lmax_succ(a:1<=i)(hlt:i<l.length):gP (l.take (i+1))=max (gP (l.take i)) l[i]:=by
 cases l with
 |nil=>cases hlt
 | cons x b=>
   obtain⟨j,rfl⟩: ∃j,i=j+1:=⟨i-1,by omega⟩;rw [Xz,Xz,gP,gP,List.getElem_cons_succ,Xd (by simpa using hlt),List.foldl_append];rfl
theorem lmax_one(a:0<l.length):gP (l.take 1)=l[0]:=by
 cases l with
 |nil=>cases a
 |cons x b=>rfl
theorem maxInt_ok(m:OZ h0)(f:az h0 1 (encI .i64) v l)(j:1<=l.length)(s:l.length<1000000):aT zM 94 [v] h0 (.int .i64 (gP l)):=by
 have S:=Si m;have k: ¬((l.length:Int)<1):=by omega
 obtain⟨c,o,a,b⟩:=f.ix (kd:=.i64) (bV .i64) (i:=0) (by omega);have d:m9 (some 1) v (.int .i64 0)=_:=a;have p:=lmax_one (l:=l) (by omega);generalize l[0]=x at b p;refine aa (n:=25) (rs:=[.tmp 2]) rfl Tryz.e94 rfl rfl rfl (lbt rfl) ?_;simp only [BZ,f.lenq,k,d,b,encI,seval];refine bj (fun(i:Nat) g h=>1<=i/\i<=l.length/\Gr h0 h/\g 0=v/\g 3=.int .i64 (gP (l.take i))/\g 4=.int .i64 i) (fun i=>l.length-i) ?_ 1 _ _ ?_
 . clear S;intro i r g h ⟨j,hi,S,r0,r3,r4⟩;by_cases hlt:i<l.length
   . obtain⟨c,o,a,b⟩:=(f.gr S).ix (kd:=.i64) (bV .i64) hlt;have w:au .i64 ((i:Int)+1)=((i+1:Nat):Int):=(by rw [wrap64]<;>omega);have q:=lmax_succ j hlt;generalize l[i]=y at b q;simp only [BZ,r0,r3,r4,(f.gr S).lenq,aG,hlt,a,b,encI,w,seval];refine r (i+1) _ _ (by omega) ⟨by omega,by omega,S,by simp [aD,r0],?_,by simp [aD]⟩;simp only [aC,seval];rw [q]
   . simp only [BZ,ab,r0,r3,r4,(f.gr S).lenq,aG,hlt,seval];have e:l.take i=l:=Xh (by omega);rw [e];exact⟨rfl,S⟩
 . exact⟨Xs _,j,Gr.refl m,by simp [aD,cK,p]⟩
theorem Cs(ks l:List Int):(norm ks l).length=l.length:=by
 induction l generalizing ks with
 |nil=>rfl|cons x a b=>show(norm _ a).length+1=_;rw [b];rfl
def jU(h:Hp)(n:Nat)(p:Value)(m:List Int):Prop:= ∃b v,p=ptrTo b/\Row h b [v,.int .i64 (gP m+1)] 1/\az h 1 (encI .i64) v m/\n<=b/\ ∀c,av v c->n<=c
theorem jU.mo{M:Nat->Prop}{h h':Hp}{n:Nat}{p:Value}{m:List Int}(c:jU h n p m)(g:Mo M h h')(a: ∀b,M b->b<n):jU h' n p m:=by obtain⟨b,v,e,r,s,f,d⟩:=c;exact⟨b,v,e,g.has (o:=.row _ 1) r (fun h=>by have:=a _ h;omega),s.mo g (fun c i j=>by have:=a _ j;have:=d c i;omega),f,d⟩
theorem jU.gr{m:List Int}(c:jU h n p m)(g:Gr h h'):jU h' n p m:=c.mo (M:=NoM) g.fr (fun _ h=>h.elim)
def yi(m:List Int):Prop:=m=[]\/norm [] m≠m\/256<gP m+1
theorem Ek(y:OZ h0){m:List Int}(d:az h0 1 (encI .i64) v m)(z:m.length<1000)(F:0<=gP m/\gP m<=1000000):
 Ret zM 36 [v] h0 fun r h'=>Gr h0 h'/\((yi m/\r=.pointer none)\/(¬yi m/\jU h' h0.n r m)):=by
 have S:=Si y;have G:=Cs [] m;by_cases s:m=[]
 . subst s;refine aa (n:=27) (rs:=[.tmp 2]) rfl Tryz.e36 rfl rfl rfl (lbt rfl) ?_;simp only [BZ,ab,Xe,d.lenq,seval];exact⟨S.gr,.inl (.inl rfl)⟩
 . have A:1<=m.length:=by cases m with
    |nil=>exact absurd rfl s|cons a l=>simp
   have B: ¬((m.length:Int)=0):=(by omega);refine aa (n:=27) (rs:=[.tmp 2]) rfl Tryz.e36 rfl rfl rfl (lbt rfl) ?_;simp only [BZ,d.lenq,B,seval];refine step_ret (norm_ok S.ok d z) ?_;intro v h ⟨g,sl,fr⟩;replace S:=S.call g;replace d:=d.gr g;clear g;by_cases k:norm [] m=m
   . simp only [BZ,seval];refine am (Cj S.ok sl d (by omega)) ?_;intro h g;replace S:=S.call g;replace d:=d.gr g;clear g;simp only [BZ,k,seval];have C:=S.fr.n;refine step_ret (jK S.ok (bV .i64) d (by omega)) ?_;intro t h ⟨g,i,p⟩;replace S:=S.call g;replace d:=d.gr g;clear g;have D:Fl t:=i.fl;simp only [BZ,seval];refine am (maxInt_ok S.ok d A (by omega)) ?_;intro h g;replace S:=S.call g;replace d:=d.gr g;replace i:=i.gr g;clear g;have w:au .i64 (gP m+1)=gP m+1:=(by rw [wrap64]<;>omega);have j:=S.gr;clear S;have S:=Si j.ok;simp only [BZ,w,D,seval];refine ae (bA (by intro x e;cases e)) S ?_;clear S;intro h b S q;simp only [ag]at S;have u:=S.ld (b:=b) (o:=1) m0 rfl;by_cases f:256<gP m+1
     . simp only [BZ,ab,f,u,seval];exact⟨j.trans S.gr,.inl (.inr (.inr f))⟩
     . simp only [BZ,ab,f,u,seval];exact⟨j.trans S.gr,.inr ⟨by rintro(h|h|h)<;>contradiction,b,t,rfl,S.row m0,i.gr S.gr,zO j.n q,fun c E=>zO C (p c E)⟩⟩
   . simp only [BZ,seval];refine am (Cj S.ok sl d (by omega)) ?_;intro h g;replace S:=S.call g;replace d:=d.gr g;clear g;simp only [BZ,ab,k,seval];exact⟨S.gr,.inl (.inr (.inl k))⟩
def mQ(h:Hp)(p:Value)(m:List Int)(n:Int):Prop:=(p=.pointer none/\m=[]/\n=0)\/((∃k,jU h k p m)/\n=gP m+1)
theorem mQ.gr{h h':Hp}{p:Value}{m:List Int}{n:Int}(g:Gr h h')(c:mQ h p m n):mQ h' p m n:=c.imp (fun h=>h) (fun⟨⟨k,h⟩,e⟩=>⟨⟨k,h.gr g⟩,e⟩)
theorem map_ok(a:OZ h0){m:List Int}{n:Int}(c:mQ h0 p m n)(d:m.length<1000000):Ret zM 180 [p] h0 fun r h'=>Gr h0 h'/\az h' 1 (encI .i64) r m:=by
 have S:=Si a;rcases c with⟨rfl,rfl,rfl⟩|⟨⟨_,b,v,rfl,r,s,_,_⟩,rfl⟩
 . refine aa (n:=10) (rs:=[.tmp 2]) rfl Tryz.e180 rfl rfl rfl (lbt rfl) ?_;simp only [BZ,ab,seval];exact⟨S.gr,.inl ⟨rfl,rfl⟩⟩
 . have e:=r.load1 (o:=0) rfl;refine aa (n:=10) (rs:=[.tmp 2]) rfl Tryz.e180 rfl rfl rfl (lbt rfl) ?_;simp only [BZ,e,seval];refine step_ret (jK S.ok (bV .i64) s d) ?_;intro v h ⟨g,sl,_⟩;replace S:=S.call g;clear g;simp only [BZ,ab,seval];exact⟨S.gr,sl⟩
theorem zn(a:OZ h0){m:List Int}{n:Int}(c:mQ h0 p m n):aT zM 97 [p] h0 (.int .i64 n):=by
 have S:=Si a;rcases c with⟨rfl,rfl,rfl⟩|⟨⟨_,b,v,rfl,r,s,_,_⟩,rfl⟩
 . refine aa (n:=9) (rs:=[.tmp 2]) rfl Tryz.e97 rfl rfl rfl (lbt rfl) ?_;simp only [BZ,ab,seval];exact S.gr
 . have d:=r.load1 (o:=1) rfl;refine aa (n:=9) (rs:=[.tmp 2]) rfl Tryz.e97 rfl rfl rfl (lbt rfl) ?_;simp only [BZ,ab,d,seval];exact S.gr
def rz(h:Hp)(p:Value)(a w:Int)(c:Bool):Prop:=(p=.pointer none/\a=0/\w=0/\c=false)\/ ∃b x y,p=ptrTo b/\Row h b [.int .i64 a,.int .i64 w,x,y] 1/\c=true
theorem rz.gr{h h':Hp}{p:Value}{a w:Int}{d:Bool}(g:Gr h h')(c:rz h p a w d):rz h' p a w d:=c.imp (fun h=>h) (fun⟨b,x,y,e,r,n⟩=>⟨b,x,y,e,r.gr g,n⟩)
theorem jH(d:OZ h0){a:Int}{e:Bool}(c:rz h0 p a w e):aT zM 102 [p] h0 (.int .i64 a):=by
 have S:=Si d;rcases c with⟨rfl,rfl,rfl,rfl⟩|⟨b,x,y,rfl,r,rfl⟩
 . refine aa (n:=9) (rs:=[.tmp 2]) rfl Tryz.e102 rfl rfl rfl (lbt rfl) ?_;simp only [BZ,ab,seval];exact S.gr
 . have f:=r.load1 (o:=0) rfl;refine aa (n:=9) (rs:=[.tmp 2]) rfl Tryz.e102 rfl rfl rfl (lbt rfl) ?_;simp only [BZ,ab,f,seval];exact S.gr
theorem jI(d:OZ h0){a:Int}{e:Bool}(c:rz h0 p a w e):aT zM 103 [p] h0 (.int .i64 w):=by
 have S:=Si d;rcases c with⟨rfl,rfl,rfl,rfl⟩|⟨b,x,y,rfl,r,rfl⟩
 . refine aa (n:=9) (rs:=[.tmp 2]) rfl Tryz.e103 rfl rfl rfl (lbt rfl) ?_;simp only [BZ,ab,seval];exact S.gr
 . have f:=r.load1 (o:=1) rfl;refine aa (n:=9) (rs:=[.tmp 2]) rfl Tryz.e103 rfl rfl rfl (lbt rfl) ?_;simp only [BZ,ab,f,seval];exact S.gr
theorem allB_ok(g:OZ h0){l:List Bool}(j:az h0 1 encB v l)(m:l.length<1000):aT zM 101 [v] h0 (.bool (l.all id)):=by
 have S:=Si g;refine aa (n:=14) (rs:=[.tmp 2]) rfl Tryz.e101 rfl rfl rfl (lbt rfl) ?_;simp only [BZ,j.lenq,seval];refine bj (fun(i:Nat) d h=>i<=l.length/\(l.take i).all id=true/\Gr h0 h/\d 5=v/\d 6=.int .i64 l.length/\d 7=.int .i64 i) (fun i=>l.length-i) ?_ 0 _ _ ?_
 . clear S;intro i k d h ⟨hi,ht,S,r5,r6,r7⟩;by_cases hlt:i<l.length
   . obtain⟨c,o,a,b⟩:=(j.gr S).ix (kd:=.i64) Cc hlt;have w:au .i64 ((i:Int)+1)=((i+1:Nat):Int):=(by rw [wrap64]<;>omega);cases f:l[i]with
     | true=>simp only [BZ,r5,r6,r7,aG,hlt,a,b,encB,f,w,seval];refine k (i+1) _ _ (by omega) ⟨by omega,?_,S,by simp [aD,r5,r6]⟩;rw [Xd hlt,List.all_append,ht,f];rfl| false=>have e:l.all id=false:=(by rw [List.all_eq_false];exact⟨_,XC hlt,by simp [f]⟩);simp only [BZ,ab,r5,r6,r7,aG,hlt,a,b,encB,f,seval];rw [e];exact⟨rfl,S⟩
   . simp only [BZ,ab,r6,r7,aG,hlt,seval];rw [Xh (by omega)]at ht;rw [ht];exact⟨rfl,S⟩
 . exact⟨Xt _,rfl,Gr.refl g,by simp [aD,cK]⟩
theorem BO(e:OZ h0){q:Value}{m:List Int}{n:Int}{f:Nat}(c:aX h0 f p γ)(d:mQ h0 q m n)(j:1<=γ.nodes)(i:m.length<1000000):aT zM 95 [p,q] h0 (.bool (decide (m.length=γ.nodes))):=by
 have S:=Si e;have a:(0:Int)<(γ.nodes:Int):=by omega
 have b:(γ.nodes:Int)>0:=a;refine aa (n:=16) (rs:=[.tmp 4]) rfl Tryz.e95 rfl rfl rfl (lbt rfl) ?_;simp only [BZ,seval];refine am (bM S.ok c) ?_;intro h g;replace S:=S.call g;replace c:=c.gr g;replace d:=d.gr g;clear g;simp only [BZ,a,seval];refine step_ret (map_ok S.ok d i) ?_;intro v h ⟨g,sl⟩;replace S:=S.call g;replace c:=c.gr g;replace d:=d.gr g;clear g;simp only [BZ,sl.lenq,seval];refine am (bM S.ok c) ?_;intro h g;replace S:=S.call g;replace c:=c.gr g;replace d:=d.gr g;clear g;simp only [BZ,ab,seval];refine⟨?_,S.gr⟩;congr 1;by_cases h:m.length=γ.nodes
 . simp [h]
 . have: ¬((m.length:Int)=(γ.nodes:Int)):=(by omega);simp [h,this]
theorem wV(k:OZ h0){q r:Value}{m:List Int}{n a:Int}{f:Bool}(c:aX h0 s p γ)(d:mQ h0 q m n)(e:rz h0 r a w f)(t:1<=γ.nodes)(u:m.length<1000000):
 aT zM 42 [p,q,r] h0 (.bool (decide (m.length=γ.nodes)&&f&&decide (a=n)&&decide (w=γ.arcs.length))):=by
 have S:=Si k;have v: ∀E:Env,qL E 34=true-> ∀x y,bZ E .neq 34 x y r (.pointer none)=some (.bool f):=by
  intro E i x y;rcases e with⟨rfl,_,_,rfl⟩|⟨b,_,_,rfl,_,rfl⟩
  . exact n_pnil i
  . exact n_ptr i
 refine aa (n:=24) (rs:=[.tmp 6]) rfl Tryz.e42 rfl rfl rfl (lbt rfl) ?_;simp only [BZ,seval];refine am (BO S.ok c d t u) ?_;intro h g;replace S:=S.call g;replace c:=c.gr g;replace d:=d.gr g;replace e:=e.gr g;clear g;simp only [BZ,v zM Tryz.t34.2.2.2.2.1,seval];refine am (jH S.ok e) ?_;intro h g;replace S:=S.call g;replace c:=c.gr g;replace d:=d.gr g;replace e:=e.gr g;clear g;simp only [BZ,seval];refine am (zn S.ok d) ?_;intro h g;replace S:=S.call g;replace c:=c.gr g;replace d:=d.gr g;replace e:=e.gr g;clear g;simp only [BZ,seval];refine am (jI S.ok e) ?_;intro h g;replace S:=S.call g;replace c:=c.gr g;replace d:=d.gr g;replace e:=e.gr g;clear g;simp only [BZ,seval];refine am (kH S.ok c) ?_;intro h g;replace S:=S.call g;replace c:=c.gr g;replace d:=d.gr g;replace e:=e.gr g;clear g;simp only [BZ,seval];refine ae (ce (by exact Tryz.t100.1) (by exact Tryz.e4E) (by decide) (by rfl)) S ?_;clear S;intro h z S j;simp only [LC,bJ,cq,ag,Xl,Xm,Xo,Xq,seval]at S;simp only [BZ,seval];refine am (allB_ok (l:=[decide (m.length=γ.nodes),f,decide (a=n),decide (w=γ.arcs.length)]) S.ok (.inr ⟨z,0,none,4,rfl,Xs _,S.lds (o:=0) (n:=4) m0 (lbt rfl)⟩) (by simp)) ?_;intro h g;replace S:=S.call g;clear g;simp only [BZ,ab,seval];exact⟨by simp [Bool.and_assoc],S.gr⟩
def SlW(h:Hp)(kd:IntKind)(v:Value)(xs:List Int):Prop:=(v=.slice none 0 0/\xs=[])\/ ∃b o c,v=.slice (some ⟨b,o,none⟩) xs.length c/\xs.length<=c/\h.load b o (xs.length*1)=some (xs.flatMap (encI kd))
theorem SlW.sl{kd:IntKind}(s:SlW h kd v xs):az h 1 (encI kd) v xs:=s.imp (fun h=>h) (fun⟨b,o,c,a,d,e⟩=>⟨b,o,none,c,a,d,e⟩)
theorem SlW.low{kd kd':IntKind}{t e:TypeId}(g:E.und t=some (.slice e))(j:E.sz e=some 1)(s:SlW h kd v xs)(a:n<=xs.length):
 ∃v',ik E t v none (some (.int kd' (n:Int))) none=some v'/\az h 1 (encI kd) v' (xs.take n)/\ ∀c,av v' c->av v c:=by
 have f: ∀n:Nat,je (n:Int)=some n:=fun n=>rfl;rcases s with⟨rfl,rfl⟩|⟨b,o,c,rfl,k,p⟩
 . have:n=0:=(by simpa using a);subst this;refine⟨.slice none 0 0,?_,.inl ⟨rfl,rfl⟩,fun c d=>d⟩;simp only [ik,g,ie,hZ,f,j];rfl
 . refine⟨.slice (some ⟨b,o,none⟩) n c,?_,.inr ⟨b,o,none,c,?_,?_,?_⟩,fun c d=>d⟩
   . simp only [ik,g,ie,hZ,f,Nat.ble_eq_true_of_le (zO a k),cond_true,j,Option.isSome_none,cond_false,Nat.sub_zero,iq,Xl,Nat.add_zero];by_cases d:c=0
     . subst d;rfl
     . rw [show Nat.beq c 0=false by cases c with|zero=>exact absurd rfl d|succ c=>rfl];rfl
   . rw [XE,XY a]
   . rw [XE,XY a];exact zO a k
   . rw [XE,XY a];have:=ra p (i:=0) (m:=n*1) (by omega);rw [Nat.add_zero,Xw]at this;rw [this];congr 1;refine List.ext_getElem? fun i=>?_;have e4: ∀l:List Int,l.flatMap (encI kd)=l.map fun x=>.int kd x:=fun l=>(by rw [Xp,XH,Xp];rfl);rw [e4,e4,Xo,List.map_take]
def iota(k:Nat):List Int:=(Xa k).map fun(i:Nat)=>(i:Int)
theorem Bz(k:Nat):(iota k).length=k:=by simp [iota]
theorem AI(k:Nat):iota (k+1)=iota k++[(k:Int)]:=by simp [iota,XX]
theorem pos_app(l:List Int)(x y:Int):pos (l++[y]) x=match pos l x with|some i=>some i|none=>if x=y then some l.length else none:=by
 induction l with
 |nil=>simp [pos]| cons z a b=>
   rw [XR,pos,pos];by_cases h:x=z
   . rw [if_pos h,if_pos h]
   . rw [if_neg h,if_neg h,b];cases pos a x with
     |some i=>rfl|none=>by_cases c:x=y<;>simp [c]
theorem Bq(k j:Nat):pos (iota k) (j:Int)=if j<k then some j else none:=by
 induction k with
 |zero=>rfl| succ k a=>
   rw [AI,pos_app,a,Bz];by_cases h:j<k
   . rw [if_pos h,if_pos (show j<k+1 by omega)]
   . rw [if_neg h];by_cases b:j=k
     . subst b;simp
     . have: ¬((j:Int)=(k:Int)):=(by omega);simp only [this,if_false];rw [if_neg (by omega)]
theorem pos_lt(h:pos l x=some i):i<l.length:=by
 induction l generalizing i with
 |nil=>cases h
 | cons y b c=>
   rw [pos]at h;by_cases e:x=y
   . rw [if_pos e]at h;cases h;simp
   . rw [if_neg e]at h;cases a:pos b x with
     |none=>rw [a]at h;cases h
     |some j=>rw [a]at h;cases h;have:=c a;simp;omega
theorem norm_idem(ks l:List Int):norm (iota ks.length) (norm ks l)=norm ks l:=by
 induction l generalizing ks with
 |nil=>rfl| cons x c a=>
   rw [norm,norm];unfold pP pM;cases b:pos ks x with
   | some i=>simp only [];rw [Bq,if_pos (pos_lt b)];simp only [];rw [a]| none=>simp only [];rw [Bq,if_neg (by omega)];simp only [];rw [Bz,<-AI];have:=a (ks++[x]);rw [XJ,X6]at this;rw [this]
theorem norm_bd(ks l:List Int): ∀x∈norm ks l,0<=x/\x<=((ks.length+l.length:Nat):Int):=by
 induction l generalizing ks with
 |nil=>intro x a;cases a
 | cons y e b=>
   intro x a;rw [norm]at a;rcases List.mem_cons.1 a with rfl|a
   . have:pP ks y<=ks.length:=by
      unfold pP;cases c:pos ks y with
      |some i=>exact Nat.le_of_lt (pos_lt c)|none=>exact Xs _
     simp;omega
   . have d:=b _ x a;have:(pM ks y).length<=ks.length+1:=(by unfold pM;cases pos ks y<;>simp);simp at d⊢;omega
theorem fold_bd(K:Int)(l:List Int)(a:Int)(b:0<=a/\a<=K)(h: ∀x∈l,0<=x/\x<=K):0<=l.foldl max a/\l.foldl max a<=K:=by
 induction l generalizing a with
 |nil=>exact b| cons x e c=>
   have f:=h x (by simp);exact c (max a x) (by omega) (fun y d=>h y (by simp [d]))
theorem lmax_bd{K:Int}(a:0<=K)(h: ∀x∈l,0<=x/\x<=K):0<=gP l/\gP l<=K:=by
 cases l with
 |nil=>exact⟨Int.le_refl _,a⟩|cons x b=>exact fold_bd K b x (h x (by simp)) (fun y c=>h y (by simp [c]))
theorem az.blt{a:Type}{enc:a->List Value}{xs:List a}(f:OZ h)(s:az h k enc v xs)(d:av v c):c<h.n:=by
 rcases s with⟨rfl,_⟩|⟨b,o,_,_,rfl,_,g⟩
 . exact d.elim
 . have:b=c:=d;subst this;cases e:h.get b with
   |none=>simp [Hp.load,e]at g|some x=>exact iz f e
theorem vf{z:Nat}(h:z<256):au .u8 (z:Int)=(z:Int):=by
 show au .u8 (.ofNat z)=_;unfold au;simp only [hf,sgn,pw];have:Nat.blt z 256=true:=by rw [Nat.blt_eq];exact h
 rw [this];rfl
section
variable{E:Env}{t:TypeId}{p q:Operand}{x y i:Nat}
theorem bits8(op:BinOp)(a:x<256)(b:y<256):jf op .u8 (x:Int) (y:Int)=match op with
 | .and=>some (au .u8 ((Yc x y:Nat):Int))| .or=>some (au .u8 ((Nat.lor x y:Nat):Int))| .xor=>some (au .u8 ((Nat.xor x y:Nat):Int))| .andNot=>some (au .u8 ((Nat.xor x (Yc x y):Nat):Int))|_=>none:=by
 show jf op .u8 (.ofNat x) (.ofNat y)=_;have c:Nat.blt x (pw .u8)=true:=by rw [Nat.blt_eq];exact a
 have d:Nat.blt y (pw .u8)=true:=by rw [Nat.blt_eq];exact b
 unfold jf;simp only [c,d,Bool.and_self,cond_true];cases op<;>rfl
theorem b_and8(a:x<256)(b:y<256):bZ E .and t p q (.int .u8 (x:Int)) (.int .u8 (y:Int))=some (.int .u8 ((x&&& y:Nat):Int)):=by show(bif jF .u8 .u8 then(jf .and .u8 (x:Int) (y:Int)).map (Value.int .u8 ·)else none)=_;rw [bits8 .and a b];simp only [];rw [show Yc x y=x&&& y from rfl,vf (XB XG a)];rfl
theorem b_or8(a:x<256)(b:y<256):bZ E .or t p q (.int .u8 (x:Int)) (.int .u8 (y:Int))=some (.int .u8 ((x|||y:Nat):Int)):=by show(bif jF .u8 .u8 then(jf .or .u8 (x:Int) (y:Int)).map (Value.int .u8 ·)else none)=_;rw [bits8 .or a b];simp only [];rw [show Nat.lor x y=x|||y from rfl,vf (Nat.or_lt_two_pow (n:=8) a b)];rfl
theorem Av(a:x<256)(b:y<256):bZ E .andNot t p q (.int .u8 (x:Int)) (.int .u8 (y:Int))=some (.int .u8 ((x ^^^(x&&& y):Nat):Int)):=by show(bif jF .u8 .u8 then(jf .andNot .u8 (x:Int) (y:Int)).map (Value.int .u8 ·)else none)=_;rw [bits8 .andNot a b];simp only [];rw [show Nat.xor x (Yc x y)=x ^^^(x&&& y)from rfl,vf (XK (n:=8) a (XB XG a))];rfl
theorem b_shl8{k:IntKind}(a:i<8):bZ E .shl t p q (.int .u8 1) (.int k (i:Int))=some (.int .u8 ((2 ^i:Nat):Int)):=by
 have:i=0\/i=1\/i=2\/i=3\/i=4\/i=5\/i=6\/i=7:=by omega
 rcases this with rfl|rfl|rfl|rfl|rfl|rfl|rfl|rfl<;>rfl
end
theorem pow8(h:i<8):2 ^i<256:=Nat.pow_lt_pow_right (by decide) h
theorem and_pow{x:Nat}:(x&&& 2 ^i=0)↔x.testBit i=false:=by
 constructor
 . intro h;have:=congrArg (fun z=>z.testBit i) h;simpa [XZ,XI]using this
 . intro h;refine Nat.eq_of_testBit_eq fun j=>?_;rw [XZ,XI,Nat.zero_testBit];by_cases e:i=j
   . subst e;rw [h];rfl
   . simp [e]
def setB(x i:Nat):Nat:=(x ^^^(x&&& 2 ^i))|||2 ^i
theorem setB_at(x i j:Nat):(setB x i).testBit j=if j=i then true else x.testBit j:=by
 unfold setB;rw [Nat.testBit_or,Nat.testBit_xor,XZ,XI];by_cases e:j=i
 . subst e;simp
 . have a: ¬i=j:=fun h=>e h.symm;simp [e,a]
theorem setB_lt{x:Nat}(a:x<256)(b:i<8):setB x i<256:=
 Nat.or_lt_two_pow (n:=8) (XK (n:=8) a (XB XG a)) (pow8 b)
def i6(n:Nat)(B:Nat->Nat):List Value:=(Xa n).map fun j=>.int .u8 (B j:Nat)
theorem xQ:(i6 n B).length=n:=by simp [i6]
theorem wC(h:j<n):(i6 n B)[j]? =some (.int .u8 (B j:Nat)):=lK (F:=fun j=>Value.int .u8 ((B j:Nat):Int)) h
theorem xM{x:Nat}:(i6 n B).set j (.int .u8 (x:Nat))=i6 n (dZ B j x):=by have:=kX (N:=n) (k:=j) (F:=fun j=>Value.int .u8 ((B j:Nat):Int)) (F':=fun u=>Value.int .u8 ((dZ B j x u:Nat):Int)) (fun i _ a=>by simp [dZ,a]);unfold i6;rw [<-this];simp [dZ]
structure fG(h:Hp)(bp bb rows wide long:Nat)(B:Nat->Nat):Prop where
 r:Row h bp [.int .i64 rows,.int .i64 wide,.int .i64 long,.slice (some ⟨bb,0,none⟩) (rows*long) (rows*long)] 1
 b:Row h bb (i6 (rows*long) B) 1
 lt: ∀j,B j<256
theorem fG.gr{h h':Hp}{d e a b c:Nat}{B:Nat->Nat}(m:fG h d e a b c B)(g:Gr h h'):fG h' d e a b c B:=⟨m.r.gr g,m.b.gr g,m.lt⟩
theorem fG.bits{e:Nat}(m:fG h d e a b c B):rz h (ptrTo d) a b true:=.inr ⟨d,_,_,rfl,m.r,rfl⟩
def gQ(B:Nat->Nat)(a r i:Nat):Bool:=(B (r*a+i/8)).testBit (i%8)
theorem Ci(g:i/8<b)(j:c/8<b):gQ (dZ B (r*b+i/8) (setB (B (r*b+i/8)) (i%8))) b d c=if d=r/\c=i then true else gQ B b d c:=by
 unfold gQ dZ;by_cases e:d*b+c/8=r*b+i/8
 . rw [if_pos e,setB_at];have k:d=r:=(by have a:(d*b+c/8)/b=(r*b+i/8)/b:=(by rw [e]);rw [Nat.mul_comm d,Nat.mul_comm r,Nat.mul_add_div (by omega),Nat.mul_add_div (by omega),Nat.div_eq_of_lt g,Nat.div_eq_of_lt j]at a;omega);subst k;have e8:c/8=i/8:=(by omega);rw [e];by_cases f:c%8=i%8
   . rw [if_pos f,if_pos ⟨rfl,by omega⟩]
   . rw [if_neg f,if_neg (fun h=>f (by rw [h.2]))]
 . rw [if_neg e,if_neg (fun h=>e (by rw [h.1,h.2]))]
theorem bmNew_ok(t:OZ h0){w:Nat}(u:a<=100)(B:w<=1000):Ret zM 96 [.int .i64 (a:Nat),.int .i64 (w:Nat)] h0 fun r h'=>Gr h0 h'/\ ∃c d,r=ptrTo c/\h0.n<=c/\h0.n<=d/\c≠d/\fG h' c d a w ((w+7)/8) (fun _=>0):=by
 have S:=Si t;have k: ¬((a:Int)<0):=by omega
 have l: ¬((w:Int)<0):=by omega
 have m: ¬((67108864:Int)<(w:Int)):=by omega
 have o:au .i64 ((w:Int)+8)=(w:Int)+8:=by rw [wrap64]<;>omega
 have p:au .i64 ((w:Int)+8-1)=((w+7:Nat):Int):=by rw [wrap64]<;>omega
 have g:(w+7)/8<=126:=by omega
 have i:au .i64 ((((w+7:Nat):Int)).tdiv 8)=(((w+7)/8:Nat):Int):=by rw [XM (by omega),show(((w+7:Nat):Int)/8)=(((w+7)/8:Nat):Int) by omega,wrap64]<;>omega
 generalize C:(w+7)/8=K at g i;have D:a*K<=100*126:=Nat.mul_le_mul u g;have q:au .i64 ((a:Int)*(K:Int))=((a*K:Nat):Int):=by rw [<-Int.natCast_mul,wrap64]<;>omega
 have mk: ∀(n:Nat),bJ [Value.int .u8 0] n=i6 n (fun _=>0):=fun n=>by rw [oW];unfold i6;rw [XV,Xk];rfl
 by_cases s:0<(K:Int)
 . have v:(268435456:Int).tdiv (K:Int)=((268435456/K:Nat):Int):=(by rw [XM (by decide)];rfl);have E:268435456/126<=268435456/K:=Nat.div_le_div_left g (by omega);have F:268435456/K<=268435456:=Nat.div_le_self _ _;have G:(268435456/126:Nat)=2130440:=rfl;have y:au .i64 ((268435456:Int).tdiv (K:Int))=(268435456:Int).tdiv (K:Int):=(by rw [v,wrap64]<;>omega);have z: ¬((268435456:Int).tdiv (K:Int)<(a:Int)):=(by omega);have A:(K:Int)≠0:=(by omega);refine aa (n:=37) (rs:=[.tmp 4]) rfl Tryz.e96 rfl rfl rfl (lbt rfl) ?_;simp only [BZ,k,l,m,o,p,i,y,q,s,z,mS (n:=8) (by decide),mS (n:=(K:Int)) A,seval];refine ae (mD (by exact Tryz.t22.1) (by exact Tryz.e5E) (by omega) (by omega)) S ?_;clear S;intro h d S b;rw [Xr,mk]at S;simp only [BZ,Xr,seval];refine ae (bA (by intro x e;cases e)) S ?_;clear S;intro h c S f;simp only [ag]at S;simp only [BZ,ab,seval];have j:=S.apart;exact⟨S.gr,c,d,rfl,by have:=S.fr.n;omega,b,fun e=>(by subst e;simp [keys]at j),⟨S.row m0,S.row m1,fun _=>Nat.zero_lt_succ _⟩⟩
 . refine aa (n:=37) (rs:=[.tmp 4]) rfl Tryz.e96 rfl rfl rfl (lbt rfl) ?_;simp only [BZ,k,l,m,o,p,i,q,s,mS (n:=8) (by decide),seval];refine ae (mD (by exact Tryz.t22.1) (by exact Tryz.e5E) (by omega) (by omega)) S ?_;clear S;intro h d S b;rw [Xr,mk]at S;simp only [BZ,Xr,seval];refine ae (bA (by intro x e;cases e)) S ?_;clear S;intro h c S f;simp only [ag]at S;simp only [BZ,ab,seval];have j:=S.apart;exact⟨S.gr,c,d,rfl,by have:=S.fr.n;omega,b,fun e=>(by subst e;simp [keys]at j),⟨S.row m0,S.row m1,fun _=>Nat.zero_lt_succ _⟩⟩
theorem set1_ok(m:OZ h0)(R:Row h0 a (i6 n B) 1)(c:j<n)(hB:B j<256)(p:i<8)(q:h0.load d 0 1=some [.bool true])(e:d≠a):
 Ret zM 100 [.pointer (some ⟨a,j,none⟩),.int .u8 ((2 ^i:Nat):Int),ptrTo d] h0 fun r h'=>Mo (· =a) h0 h'/\r=.bool true/\Row h' a (i6 n (dZ B j (setB (B j) i))) 1:=by
 have S:=St.init1 m (o:=.row (i6 n B) 1) R;have k:=S.ld (b:=a) (o:=j) m0 (wC c);have l:=pow8 p;have s:(B j ^^^(B j&&& 2 ^i))<256:=XK (n:=8) hB (XB XG hB);refine aa (n:=19) (rs:=[.tmp 5]) rfl Tryz.e100 rfl rfl rfl (lbt rfl) ?_;simp only [BZ,k,Av hB l,seval];refine aE (aF S (i:=0) rfl Tryz.t5.2.2.1 aU (by rw [xQ];exact c) ono) ?_;clear S k;rintro h ⟨S,t⟩;simp only [LC]at S;rw [xM]at S;have f:=S.ld (b:=a) (o:=j) m0 (wC c);have v:dZ B j (B j ^^^(B j&&& 2 ^i)) j=(B j ^^^(B j&&& 2 ^i)):=by simp [dZ]
 rw [v]at f;have g:=S.old q e;simp only [BZ,g,f,b_or8 s l,seval];refine aE (aF S (i:=0) rfl Tryz.t5.2.2.1 aU (by rw [xQ];exact c) ono) ?_;clear S f;rintro h ⟨S,t⟩;simp only [LC]at S;rw [show(((B j ^^^(B j&&& 2 ^i))|||2 ^i:Nat):Int)=((setB (B j) i:Nat):Int)from rfl,xM]at S;have w:dZ (dZ B j (B j ^^^(B j&&& 2 ^i))) j (setB (B j) i)=dZ B j (setB (B j) i):=by funext u;unfold dZ;split<;>rfl
 rw [w]at S;simp only [BZ,ab,seval];exact⟨S.fr,S.row m0⟩
section
variable{h0:Hp}{bp bb rows wide long:Nat}{B:Nat->Nat}
theorem tK(e:r<rows)(g:i<wide)(a:rows<=100)(b:wide<=1000)(c:long=(wide+7)/8):
 au .i64 ((r:Int)*(long:Int))=((r*long:Nat):Int)/\au .i64 ((i:Int).tdiv 8)=((i/8:Nat):Int)/\au .i64 (((r*long:Nat):Int)+((i/8:Nat):Int))=((r*long+i/8:Nat):Int)/\(i:Int).tmod 8=((i%8:Nat):Int)/\r*long+i/8<rows*long/\i/8<long/\i%8<8:=by
 have f:long<=126:=by omega
 have h:r*long<=100*126:=Nat.mul_le_mul (by omega) f;have d:i/8<long:=by omega
 have j:r*long+long<=rows*long:=by rw [<-Nat.succ_mul];exact XF _ e
 refine⟨by rw [<-Int.natCast_mul,wrap64]<;>omega,?_,by rw [wrap64]<;>omega,rfl,by omega,d,by omega⟩;rw [show(i:Int).tdiv 8=((i/8:Nat):Int)from rfl,wrap64]<;>omega
theorem bSet_ok(w:OZ h0)(m:fG h0 bp bb rows wide long B)(l:bp≠bb)(D:r<rows)(E:i<wide)(b:rows<=100)(d:wide<=1000)(e:long=(wide+7)/8):
 Ret zM 39 [ptrTo bp,.int .i64 (r:Nat),.int .i64 (i:Nat),.bool true] h0 fun v h'=>Mo (· =bb) h0 h'/\v=.bool true/\fG h' bp bb rows wide long (dZ B (r*long+i/8) (setB (B (r*long+i/8)) (i%8))):=by
 obtain⟨F,G,H,I,x,n6,s⟩:=tK D E b d e;have J: ∀{h:Hp} {p:Nat},Gr h0 h->h.load p 0 1=some [.bool true]->p≠bb->Ret zM 99 [ptrTo bp,.int .i64 (r:Nat),.int .i64 (i:Nat),.func (.func 100) #[] #[ptrTo p]] h fun v h'=>Mo (· =bb) h h'/\v=.bool true/\Row h' bb (i6 (rows*long) (dZ B (r*long+i/8) (setB (B (r*long+i/8)) (i%8)))) 1:=by
  intro h p g K L;have S:=Si g.ok;have k:=m.gr g;have N: ¬(r:Int)<0:=by omega
  have O: ¬(rows:Int)<=(r:Int):=by omega
  have P: ¬(i:Int)<0:=by omega
  have Q: ¬(wide:Int)<=(i:Int):=by omega
  have T:=k.r.load1 (o:=2) rfl;have U:=k.r.load1 (o:=3) rfl;have V:=k.r.lt g.ok;refine aa (n:=46) (rs:=[.tmp 8]) rfl Tryz.e99 rfl rfl rfl (lbt rfl) ?_;simp only [BZ,N,seval];refine am (jH S.ok k.bits) ?_;intro h1 t;replace S:=S.call t;simp only [BZ,O,P,seval];refine am (jI S.ok (k.gr t).bits) ?_;intro W y;replace S:=S.call y;have a:=t.trans y;have X:=a.load T;have Y:=a.load U;simp only [BZ,Q,seval];refine ar (aw rfl) (q:=0) (ps:=[]) (by kernel_rfl) ?_;simp only [BZ,cls,X,Y,F,G,H,I,x,mS (n:=8) (by decide),jO (n:=8) (by decide),b_shl8 s,seval];refine bQ (set1_ok S.ok (k.b.gr a) x (k.lt _) s (a.load K) L) ?_;rintro v Z ⟨z,rfl,R3⟩;have vv:leaves W Z bp=true:=pU (z.get bp (Nat.lt_of_lt_of_le V a.n) l);simp only [BZ,cls,ab,seval];exact⟨(a.fr (M:=(· =bb))).trans z (fun c u=>.inl u),R3⟩
 have S:=Si w;have zb:=m.b.lt w;refine aa (n:=14) (rs:=[.tmp 8]) rfl Tryz.e39 rfl rfl rfl (lbt rfl) ?_;simp only [BZ,seval];refine ae (bN (by exact og)) S ?_;clear S;intro h p S A;simp only [BZ,seval];have k7:=S.fr.n;refine step_ret (J S.gr (S.ld m0 rfl) (by omega)) ?_;rintro v h ⟨f,rfl,R⟩;simp only [BZ,ab,seval];have C:Mo (· =bb) h0 h:=(S.gr.fr (M:=(· =bb))).trans f (fun c u=>.inl u);refine⟨C,C.has (o:=.row _ 1) m.r l,R,fun j=>?_⟩;unfold dZ
 split
 . exact setB_lt (m.lt _) s
 . exact m.lt _
end
theorem kI:(Xa (n+1)).filter f=(Xa n).filter f++if f n=true then [n]else []:=by
 rw [XX,List.filter_append];congr 1;by_cases h:f n=true
 . simp [h]
 . simp [h]
theorem uO(h:f i=true): ∀n,i<n->((Xa n).filter f)[((Xa i).filter f).length]? =some i:=by
 intro n
 induction n with
 |zero=>intro a;omega| succ n b=>
   intro a;rw [kI];by_cases c:i<n
   . have:=b c;rw [XQ (List.getElem?_eq_some_iff.1 this).1];exact this
   . have:i=n:=(by omega);subst this;rw [XL (Xs _),if_pos h];simp
theorem sH:((Xa n).filter f).length<=n:=by have:=List.length_filter_le f (Xa n);rwa [Xk]at this
theorem DV(q:OZ h0){a b:Int}(c:az h0 1 (encI .i64) v [a,b]):aT zM 285 [.func (.func 215) #[] #[],v] h0 (.int .i64 (wy (wy (wy a)+wy b))):=by
 have S:=Si q;have k:=tS a;have x:=tS b;have y:=tS (wy a);have r:au .i64 1=1:=rfl;have s:au .i64 2=2:=rfl;have t:au .i64 (wy a)=wy a:=by rw [wrap64]<;>omega
 have u:wy (wy a)=wy a:=wy_id k.1 k.2;have w:au .i64 (wy a+wy b)=wy a+wy b:=by rw [wrap64]<;>omega
 refine aa (n:=22) (rs:=[.tmp 4]) rfl Tryz.e285 rfl rfl rfl (lbt rfl) ?_;simp only [BZ,Xe,c.lenq,seval];rw [cF];obtain⟨l,m,d,e⟩:=c.ix (kd:=.i64) (bV .i64) (i:=0) (by simp);replace d:m9 (some 1) v (.int .i64 0)=some (.pointer (some ⟨l,m,none⟩)):=d;replace e:h0.load l m 1=some [.int .i64 a]:=e;simp only [BZ,d,e,seval];refine am (nw S.ok) ?_;intro h g;replace S:=S.call g;clear g;simp only [BZ,t,Int.zero_add,seval];refine am (nw S.ok) ?_;intro h g;replace S:=S.call g;clear g;simp only [BZ,r,u,Int.zero_add,seval];rw [cF];obtain⟨o,p,f,j⟩:=(c.gr S.gr).ix (kd:=.i64) (bV .i64) (i:=1) (by simp);replace f:m9 (some 1) v (.int .i64 1)=some (.pointer (some ⟨o,p,none⟩)):=f;replace j:h.load o p 1=some [.int .i64 b]:=j;simp only [BZ,f,j,seval];refine am (nw S.ok) ?_;intro h g;replace S:=S.call g;clear g;simp only [BZ,w,seval];refine am (nw S.ok) ?_;intro h g;replace S:=S.call g;clear g;simp only [BZ,s,seval];rw [cF];simp only [BZ,ab,seval];exact S.gr
theorem add_ok(e:OZ h0){a b:Int}:aT zM 280 [.int .i64 a,.int .i64 b] h0 (.int .i64 (wy (wy (wy a)+wy b))):=by have S:=Si e;refine aa (n:=9) (rs:=[.tmp 4]) rfl Tryz.e280 rfl rfl rfl (lbt rfl) ?_;simp only [BZ,seval];refine ae (ce (by exact Tryz.t23.1) (by exact X7) (by decide) (by rfl)) S ?_;clear S;intro h c S d;simp only [LC,bJ,cq,ag,Xl,Xm,Xo,Xq,seval]at S;simp only [BZ,seval];refine am (DV S.ok (a:=a) (b:=b) (.inr ⟨c,0,none,2,rfl,Xs _,S.lds (b:=c) (o:=0) (n:=2*1) m0 (lbt rfl)⟩)) ?_;intro h g;replace S:=S.call g;clear g;simp only [BZ,ab,seval];exact S.gr
end Go.Ab

/- Nets, cells, flags: what the functions do (part 5). -/
import Derived.Test.YtdcndollikinnaaGreatDoorNetD
import Derived.ChangeSlices
import Derived.ChangeArms
import Derived.ChangeSame
open Go.Ab.Tryz
open Go.Ab.Tryz renaming abEnv->zM,e3E->Xr,e10->XZ
open Bool renaming and_true->zO
open Int renaming tmod_eq_emod_of_nonneg->Xa,natCast_emod->Xj,tdiv_eq_ediv_of_nonneg->XM,eq_ofNat_of_zero_le->XR
open List renaming take->Xb,drop->Xc,take_succ_cons->Xe,drop_zero->Xg,getD_eq_getElem?_getD->Xh,all_cons->Xk,take_zero->Xl,all_nil->Xn,range->Xo,map_cons->Xs,length_take->Xt,sublist_cons_self->Xv,map_nil->Xw,getElem?_eq_getElem->Xy,not_mem_nil->Xz,getElem?_cons_zero->XA,getElem?_cons_succ->XB,filterMap_nil->XC,mem_cons->XE,map_toArray->XG,getElem_mem->XH,nil_sublist->XI,length_set->XJ,length_append->XL,getElem?_map->XN,size_toArray->XO,mem_or_eq_of_mem_set->XP,take_length->XQ,append_nil->XU,flatMap_eq_foldl->XX
open Nat renaming zero_le->Xd,mul_one->Xf,zero_add->Xi,lt_of_succ_le->Xm,lt_of_lt_of_le->Xp,zero_mul->Xq,one_mul->Xu,mod_lt->Xx,le_trans->XD,le_refl->XF,lt_of_le_of_lt->XK,le_mul_of_pos_right->XS,and_le_left->XT,min_eq_left->XV,ble_eq_true_of_le->XW,blt_eq->XY
set_option maxHeartbeats 4000000
set_option linter.defProp false
set_option linter.unusedVariables false
set_option linter.unusedSimpArgs false
section
namespace Go.Ab
open Go.Proofs
set_option maxRecDepth 10000
theorem Cq{h0:Hp}(ok:h0.t.Sized h0.n){V nb E:Nat}{j:Gra}(K:Good j)(hn:aX h0 nb (ptrTo V) j){W q0:Value}{l:List Int}{R Q:Nat->List Int}(T:TabQ h0 W E l R Q)(hl:l.length<=16)(fq:Fl q0){f t a:Int}:
 Ret zM 12 [ptrTo V,W,.agg ⟨[q0,.int .i64 f,.int .i64 t,.int .i64 a]⟩] h0 fun r X=>Gr h0 X/\ ∃c d vA J vE,r=.tuple #[mS c d vA J,vE]/\(∀x,(aq vA x\/aq J x\/aq vE x)->h0.n<=x)/\
  (((kj j.nodes E l.length f t≠0\/f=t)/\c=kj j.nodes E l.length f t/\d=0/\vA=.slice none 0 0/\J=.slice none 0 0/\vE=.slice none 0 0)\/
   (kj j.nodes E l.length f t=0/\f≠t/\ ∃(s w:Nat) (k:Fd),f=s/\t=w/\s<j.nodes/\w<j.nodes/\E=j.nodes/\
     Ends j.arcs (alF []) (piF ((Xo j.nodes).map fun(v:Nat)=>cR j.nodes l.length R Q v w ((iP j.nodes l.length R Q f t a).map fun(x:Nat)=>(x:Int)))) w (dg (piF ((Xo j.nodes).map fun(v:Nat)=>cR j.nodes l.length R Q v w ((iP j.nodes l.length R Q f t a).map fun(x:Nat)=>(x:Int)))) s) k/\
     av X 4 gG vE k.ev/\
     ((FAR<=k.dist/\c=20/\d=0/\vA=.slice none 0 0/\J=.slice none 0 0)\/
      (k.dist<FAR/\c=0/\d=(k.dist:Nat)/\av X 1 cq vA k.arcs/\av X 1 cq J (iP j.nodes l.length R Q f t a))))):=by
 have S:=Si ok;have ft:Fl W:=(T.tabO (by omega)).fl;refine aa (n:=64) (rs:=[.cell 6 43,.tmp 7]) rfl Tryz.e12 rfl rfl rfl (lbt rfl) ?_;simp only [BZ,seval];refine ac (bg (by intro x e;cases e)) S ?_;clear S;intro h C S a2;simp only [ae]at S;simp only [BZ];refine ac ay S ?_;clear S;intro h F S a3;simp only [BZ,Xg,Xe,Xl,S.lds (b:=C) (o:=0) (n:=4) m1 (lbt rfl),seval];refine ag (Bz S.ok fq (.inl ⟨V,j,nb,rfl,hn.gr S.gr,rfl⟩) ((T.gr S.gr).tabO (by omega)) (a:=a) (f:=f) (t:=t)) ?_;intro h g;have eW:wC (.pointer (some ⟨V,0,none⟩)) j.nodes E l.length f t=kj j.nodes E l.length f t:=rfl;rw [eW];obtain⟨c,p⟩: ∃c,kj j.nodes E l.length f t=c:=⟨_,rfl⟩;rw [p];replace S:=S.call g;clear g;by_cases c0:c=0
 . subst c0;by_cases z:f=t
   . subst z;simp only [BZ,S.ld (b:=C) (o:=1) m1 rfl,S.ld (b:=C) (o:=2) m1 rfl,seval];refine aC (S.store (i:=0) rfl Tryz.t43.2.1 (by intro x e;cases e) rfl rfl (lbt rfl) ono) ?_;clear S;rintro Y ⟨S,Z⟩;simp only [LC,ae,lay,Xb,Xc,seval]at S;simp only [BZ,ab];refine(bZ (by decide) (by simp only [aD,ah,seval];exact bN Tryz.t43.1 Tryz.t43.2.1 (S.lds (b:=F) (o:=0) (n:=4) m0 (lbt rfl)))).2 ?_;refine(fQ (by decide)).2 (cK.2 ?_);exact⟨S.gr,_,_,_,_,_,rfl,fun x h=>by rcases h with h|h|h<;>exact h.elim,.inl ⟨.inr trivial,rfl,rfl,rfl,rfl,rfl⟩⟩
   . obtain⟨ad,af,ai,ak⟩:=C7 p;obtain⟨s,rfl⟩:=XR ad.1;obtain⟨w,rfl⟩:=XR af.1;have hs:s<j.nodes:=(by omega);have hw:w<j.nodes:=(by omega);have L:s≠w:=fun e=>z (by rw [e]);subst ak;obtain⟨m,t,lR,lQ⟩: ∃m,TabAt h0 m W j.nodes l R Q/\(∀i,i<l.length->(R i).length=j.nodes)/\ ∀i,i<l.length->(Q i).length=j.nodes:=by
      rcases T with h|⟨_,_,rfl⟩
      . exact h
      . simp at ai
     simp only [BZ,z,S.ld (b:=C) (o:=1) m1 rfl,S.ld (b:=C) (o:=2) m1 rfl,S.ld (b:=C) (o:=3) m1 rfl,seval];have k6:=(S.row (b:=F) m0).lt S.ok;have kB:=S.fr.n;refine step_ret (vk S.ok (t.gr S.gr) lR lQ hl) ?_;rintro J h ⟨g,sB,nB⟩;replace S:=S.call g;clear g;have la:(iP j.nodes l.length R Q s w a).length<=16:=(by unfold iP;rw [Xt];omega);have R5:=S.row (b:=C) m1;have R6:=S.row (b:=F) m0;have S0:=S;have gV:=S.gr;have u:=S.ok;have al:=R5.load1 (o:=1) rfl;have an:=R5.load1 (o:=2) rfl;have p5:=R5.lt u;have f1:=K.n2;simp only [BZ,seval];clear S;have S:=Si u;rename Hp=>hV;refine ar (kI (ord:=[15,0,1,2,3,4,5,6,7,8,9,10,11,12,13,14,16,17]) rfl rfl (by simp only [dW,nj,eU,XA,XB,XG,Xs,Xw,cond_true,cond_false,seval];exact rfl)) (q:=1) (ps:=[(0,12),(5,10),(3,10),(0,10)]) (by kernel_rfl) ?_;simp only [BZ,cls,seval];refine dL ay S ?_;clear S;intro h y S aL H;have M:=S.fr.n;have gB:=S.gr;have A:=S.row (b:=y) m0;have N:=A.lt S.ok;simp only [BZ,cls,gB.load al,gB.load an,seval];refine cu (bPi_ok S.ok ((t.gr gV).gr gB) lR lQ (by omega) (by omega) (vV (sB.gr gB)) (by rw [List.length_map];omega) hw) ?_;rintro vP h ⟨g,sP,nP⟩;have e1:leaves _ _ C=true:=ao g (Xp p5 M);have e2:leaves _ _ y=true:=ao g N;have kq:=g.n;replace S:=S.call g;clear g;simp only [BZ,cls,sP.fl,seval];refine cu (ru S.ok K ((hn.gr gV).gr S.gr) hs hw (als:=[]) (.inl ⟨rfl,rfl⟩) (.inl rfl) sP (.inr (by simp))) ?_;rintro r h ⟨g,v,k,rfl,⟨xA,O,rfl,G1,G2,d1,P⟩,he⟩;have e3:leaves _ _ C=true:=ao g (Xp p5 (XD M kq));have e4:leaves _ _ y=true:=ao g (Xp N kq);have y1:Fl xA:=G1.fl;have y2:Fl O:=G2.fl;replace S:=S.call g;simp only [BZ,cls,seval];refine df (S.store (i:=0) rfl Tryz.t99.2.1 (by intro x e;cases e) rfl (by simp only [ae,Xk,Xn,y1.2.1,y2.2.1,zO];rfl) (lbt rfl) ono) ?_;have a4:=S.ok;have G: ∀c,aq xA c\/aq O c->c≠y:=fun c p e=>(by have:=S.fr.n;have h1:_<=c:=p.elim (fun h=>(d1 c h).1) (fun h=>P c h);omega);clear S;rintro Y ⟨S,Z⟩;simp only [LC,ae,lay,Xb,Xc,seval]at S;simp only [BZ,cls,seval];refine⟨by simp only [aK,aS,aH,aU,aJ,ne_eq,not_false_eq_true,aW,aZ,aT,aM,bA,ca,aD,zO,ah,gX,aF e1,aB e1,aF e2,aB e2,aF e3,aB e3,aF e4,aB e4,<-H,seval],?_⟩;have A:=S.row (b:=y) m0;have j0:=A.load1 (o:=0) rfl;have j1:=A.load1 (o:=1) rfl;have j2:=A.load1 (o:=2) rfl;have D:F≠y:=fun e=>(by have:=(S0.row (b:=F) m0).lt u;omega);have a0:av Y 1 cq xA k.arcs:=(G1.sl rfl dV (by decide)).mo Z (fun c p e=>G c (.inl p) e);have U:av Y 4 gG O k.ev:=(G2.sl rfl m9 (by decide)).mo Z (fun c p e=>G c (.inr p) e);have a1:=sB.gr S.gr;have g3:=S.gr;have S1:=S0.call S.gr;clear S;have S:=S1;clear S1;have a5:=dR;by_cases hd:k.dist<FAR
     . have I: ¬(72057594037927936:Int)<=(k.dist:Int):=(by omega);simp only [BZ,j0,I,seval];refine ar (ax rfl) (q:=0) (ps:=[(7,8)]) (by kernel_rfl) ?_;simp only [BZ,cls,j0,j1,j2,y1,sB.fl,seval];refine df (S.store (i:=0) rfl Tryz.t43.2.1 (by intro x e;cases e) rfl (by simp only [ae,Xk,Xn,y1.2.1,y2.2.1,sB.fl.2.1,zO];rfl) (lbt rfl) ono) ?_;clear S;rintro h4 ⟨S,B⟩;simp only [LC,ae,lay,Xb,Xc,seval]at S;simp only [BZ,cls,ab,seval];refine⟨by simp only [aK,aS,aH,aU,aJ,ne_eq,not_false_eq_true,aW,aZ,aT,aM,bA,ca,aD,zO,ah,gX,cS D,cS D.symm,seval],?_⟩;refine(bZ (by decide) (by simp only [aD,ah,seval];exact bN Tryz.t43.1 Tryz.t43.2.1 (S.lds (b:=F) (o:=0) (n:=4) m0 (lbt rfl)))).2 ?_;refine(fQ (by decide)).2 (cK.2 ?_);have zE:av h4 4 gG O k.ev:=U.mo B (fun c p e=>by have:=P c p;have:=R6.lt u;omega);have zA:av h4 1 cq xA k.arcs:=a0.mo B (fun c p e=>by have:=(d1 c p).1;have:=R6.lt u;omega);have zB:=a1.mo B (fun c p e=>by have:=nB c p;omega);exact⟨S.gr,_,_,_,_,_,rfl,fun x h=>(by have:=gV.n;rcases h with h|h|h;have:=(d1 x h).1;omega;have:=nB x h;omega;have:=P x h;omega),.inr ⟨z,s,w,k,rfl,rfl,hs,hw,he.resolve_left (fun h=>L h.1)|>.2,zE,.inr ⟨hd,rfl,rfl,zA,zB⟩⟩⟩
     . have I:(72057594037927936:Int)<=(k.dist:Int):=(by omega);simp only [BZ,j0,I,seval];refine ar (ax rfl) (q:=0) (ps:=[(2,3)]) (by kernel_rfl) ?_;simp only [BZ,cls,j2,seval];refine df (S.store (i:=0) rfl Tryz.t43.2.1 (by intro x e;cases e) rfl (by simp only [ae,Xk,Xn,y1.2.1,y2.2.1,zO];rfl) (lbt rfl) ono) ?_;clear S;rintro h4 ⟨S,B⟩;simp only [LC,ae,lay,Xb,Xc,seval]at S;simp only [BZ,cls,ab,seval];refine⟨by simp only [aK,aS,aH,aU,aJ,ne_eq,not_false_eq_true,aW,aZ,aT,aM,bA,ca,aD,zO,ah,gX,cS D,cS D.symm,seval],?_⟩;refine(bZ (by decide) (by simp only [aD,ah,seval];exact bN Tryz.t43.1 Tryz.t43.2.1 (S.lds (b:=F) (o:=0) (n:=4) m0 (lbt rfl)))).2 ?_;refine(fQ (by decide)).2 (cK.2 ?_);have zE:av h4 4 gG O k.ev:=U.mo B (fun c p e=>by have:=P c p;have:=R6.lt u;omega);exact⟨S.gr,_,_,_,_,_,rfl,fun x h=>(by have:=gV.n;rcases h with h|h|h;exact h.elim;exact h.elim;have:=P x h;omega),.inr ⟨z,s,w,k,rfl,rfl,hs,hw,he.resolve_left (fun h=>L h.1)|>.2,zE,.inl ⟨by omega,rfl,rfl,rfl,rfl⟩⟩⟩
 . simp only [BZ,c0,seval];refine aC (S.store (i:=0) rfl Tryz.t43.2.1 (by intro x e;cases e) rfl rfl (lbt rfl) ono) ?_;clear S;rintro Y ⟨S,Z⟩;simp only [LC,ae,lay,Xb,Xc,seval]at S;simp only [BZ,ab];refine(bZ (by decide) (by simp only [aD,ah,seval];exact bN Tryz.t43.1 Tryz.t43.2.1 (S.lds (b:=F) (o:=0) (n:=4) m0 (lbt rfl)))).2 ?_;refine(fQ (by decide)).2 (cK.2 ?_);exact⟨S.gr,_,_,_,_,_,rfl,fun x h=>by rcases h with h|h|h<;>exact h.elim,.inl ⟨.inl c0,rfl,rfl,rfl,rfl,rfl⟩⟩
def io(h:Hp)(a:Gra)(l:List Int)(s w:Nat)(c d:Int)(vA g vE:Value)(f:List Ev):Prop:=
 av h 4 gG vE f/\f.length<=3000/\
  ((FAR<=dOf (seen a.arcs Arc.s Arc.t) s w/\c=20/\d=0/\vA=.slice none 0 0/\g=.slice none 0 0)\/
   (dOf (seen a.arcs Arc.s Arc.t) s w<FAR/\c=0/\d=(dOf (seen a.arcs Arc.s Arc.t) s w:Nat)/\(∃b,av h 1 cq vA b/\b.length<=1000/\my a.arcs s b w (dOf (seen a.arcs Arc.s Arc.t) s w))/\ ∃e:List Nat,av h 1 cq g e/\e.length<=16/\
     pC a.arcs (fun v x=>v<a.nodes/\(x:Int)+cR a.nodes l.length (toR a l) (frR a l) v w (e.map fun(x:Nat)=>(x:Int))<=(dOf (seen a.arcs Arc.s Arc.t) s w:Nat)) f))
theorem io.fl{h:Hp}{e:Gra}{l:List Int}{s w:Nat}{c d:Int}{vA a vE:Value}{f:List Ev}(o:io h e l s w c d vA a vE f):Fl vA/\Fl a/\Fl vE:=by
 obtain⟨b,_,⟨_,_,_,rfl,rfl⟩|⟨_,_,_,⟨_,g,_⟩,_,i,_⟩⟩:=o
 . exact⟨bO,bO,b.fl⟩
 . exact⟨g.fl,i.fl,b.fl⟩
theorem io.mo{M:Nat->Prop}{h k:Hp}{m:Gra}{l:List Int}{s w:Nat}{c d:Int}{vA e vE:Value}{n:List Ev}(o:io h m l s w c d vA e vE n)(g:Mo M h k)(f: ∀x,(aq vA x\/aq e x\/aq vE x)-> ¬M x):io k m l s w c d vA e vE n:=by obtain⟨p,q,o⟩:=o;refine⟨p.mo g fun x h=>f x (.inr (.inr h)),q,o.imp id ?_⟩;rintro⟨a,b,c,⟨i,r,x⟩,j,t,y⟩;exact⟨a,b,c,⟨i,r.mo g fun x h=>f x (.inl h),x⟩,j,t.mo g fun x h=>f x (.inr (.inl h)),y⟩
theorem io.gr{h i:Hp}{j:Gra}{l:List Int}{s w:Nat}{c d:Int}{vA k vE:Value}{m:List Ev}(o:io h j l s w c d vA k vE m)(g:Gr h i):io i j l s w c d vA k vE m:=by obtain⟨n,p,o⟩:=o;refine⟨n.gr g,p,o.imp id ?_⟩;rintro⟨a,b,c,⟨e,q,x⟩,f,r,y⟩;exact⟨a,b,c,⟨e,q.gr g,x⟩,f,r.gr g,y⟩
theorem io.self{h:Hp}{a:Gra}{l:List Int}{s:Nat}(b:IsD a.arcs s s (dOf a.arcs s s)):io h a l s s 0 0 (.slice none 0 0) (.slice none 0 0) (.slice none 0 0) []:=by have c:=b.self;have d:=dR;unfold io;rw [eS,c];exact⟨.inl ⟨rfl,rfl⟩,Xd _,.inr ⟨by omega,rfl,rfl,⟨[],.inl ⟨rfl,rfl⟩,Xd _,.nil⟩,[],.inl ⟨rfl,rfl⟩,Xd _,fun i e=>by cases e⟩⟩
theorem altOwn_ok{h0:Hp}(u:h0.t.Sized h0.n){E N nt bt:Nat}{b:Gra}(j:Good b)(y:aX h0 N (ptrTo E) b){l:List Int}(T:TabAt h0 nt (ptrTo bt) b.nodes l (toR b l) (frR b l))(p:eJ b.nodes l)(l1:1<=l.length){F:Value}(O:Fl F){s w:Nat}{a:Int}(m:s<b.nodes)(G:w<b.nodes):
 Ret zM 12 [ptrTo E,ptrTo bt,.agg ⟨[F,.int .i64 (s:Nat),.int .i64 (w:Nat),.int .i64 a]⟩] h0 fun r z=>Gr h0 z/\ ∃c d vA q vE P,r=.tuple #[mS c d vA q,vE]/\(∀x,(aq vA x\/aq q x\/aq vE x)->h0.n<=x)/\io z b l s w c d vA q vE P:=by
 have H:=fun {s:Nat} (m:s<b.nodes) (v:Nat)=>exTo u j y m v;have A:=fun {s:Nat} (m:s<b.nodes) (v:Nat)=>sV u j y m v;have Q:=dR;have I:=p.1;have R:kj b.nodes b.nodes l.length (s:Int) (w:Int)=0:=by unfold kj;rw [if_neg (by omega),if_neg (by omega),if_pos ⟨by omega,rfl⟩]
 have B:=A m w;rw [eS]at B;refine(Cq (f:=s) (t:=w) (a:=a) u j y (.inl ⟨_,T,fun i _=>xG,fun i _=>xk⟩) p.1 O).mono ?_;rintro r z ⟨g,c,d,vA,q,vE,rfl,J,⟨h,K,rfl,rfl,rfl,rfl⟩|⟨_,C,L,M,S,es,ew,U,V,_,D,W,X⟩⟩
 . rw [R]at K h;subst K;have e:s=w:=(by rcases h with h|h;exact absurd rfl h;omega);subst e;exact⟨g,_,_,_,_,_,[],rfl,J,io.self B⟩
 . obtain rfl:L=s:=(by omega);obtain rfl:M=w:=(by omega);have k:L≠M:=fun e=>C (by rw [e]);obtain⟨Y,Z⟩:=sc H A p j m G k D;have e:=Y.uniq B;have n:=sn j m (.inr ⟨k,D⟩);refine⟨g,_,_,_,_,_,S.ev,rfl,J,W,n.2,?_⟩;rw [eS,<-e];rcases X with⟨o,rfl,rfl,rfl,rfl⟩|⟨o,rfl,rfl,sA,sB⟩
   . exact .inl ⟨o,rfl,rfl,rfl,rfl⟩
   . refine .inr ⟨o,rfl,rfl,⟨_,sA,by omega,Z o⟩,_,sB,by unfold iP;rw [Xt];omega,?_⟩;have hb:=AR H A p j m G k D o;intro i hi;exact(hb i hi).imp id fun⟨x1,x2,x3,_,x4⟩=>⟨x1,x2,x3,x4⟩
theorem piF_zero(N:Nat){f:Nat->Int}(hf: ∀v,f v=0):piF ((Xo N).map f)=piF []:=by
 rw [show piF []=fun _=>(0:Int)from funext fun v=>if_pos rfl];funext v;unfold piF;have:((Xo N).map f).getD v 0=0:=by
  rw [Xh,XN];cases(Xo N)[v]? with
  |none=>rfl|some k=>exact hf k
 rw [this]
 split<;>rfl
theorem C0{h0:Hp}(q:h0.t.Sized h0.n){C E:Nat}{b:Gra}(a:Good b)(t:aX h0 E (ptrTo C) b)(l:List Int){s w:Nat}(f:s<b.nodes)(u:w<b.nodes):
 Ret zM 47 [ptrTo C,.agg ⟨[.int .i64 (s:Nat),.int .i64 (w:Nat),.slice none 0 0,.slice none 0 0]⟩] h0 fun r j=>Gr h0 j/\ ∃(d:Fd) (vA vE:Value),r=.tuple #[.agg ⟨[.int .i64 (d.dist:Nat),vA,vE]⟩,.int .i64 0]/\Fl vA/\Fl vE/\(∀x,(aq vA x\/aq vE x)->h0.n<=x)/\(d.dist<FAR->io j b l s w 0 (d.dist:Nat) vA (.slice none 0 0) vE d.ev)/\(FAR<=d.dist->io j b l s w 20 0 (.slice none 0 0) (.slice none 0 0) vE d.ev):=by
 have D:=fun {s:Nat} (f:s<b.nodes) (v:Nat)=>exTo q a t f v;have y:=fun {s:Nat} (f:s<b.nodes) (v:Nat)=>sV q a t f v;have F:=dR;have n:=y f w;rw [eS]at n;refine(ru q a t f u (vAl:=.slice none 0 0) (vPi:=.slice none 0 0) (als:=[]) (pis:=[]) (.inl ⟨rfl,rfl⟩) (.inl rfl) (.inl ⟨rfl,rfl⟩) (.inl rfl)).mono ?_;rintro r j ⟨g,v,d,rfl,⟨vA,vE,rfl,G,H,I,J⟩,o⟩;have A:av j 1 cq vA d.arcs:=G.sl rfl (fun _=>rfl) (by decide);have p:av j 4 gG vE d.ev:=H.sl rfl m9 (by decide);have c:=sn a f o;refine⟨g,d,vA,vE,rfl,A.fl,p.fl,fun x h=>h.elim (fun h=>(I x h).1) (J x),?_⟩;rcases o with⟨rfl,rfl⟩|⟨m,o⟩
 . refine⟨fun _=>?_,fun h=>by simp at h;omega⟩;obtain⟨Y,Z,K⟩:=io.self (h:=j) (l:=l) n;refine⟨p,c.2,?_⟩;rcases K with⟨_,h,_⟩|⟨L,h2,M,_,B,N,O,P⟩
   . cases h
   . refine .inr ⟨L,rfl,M,⟨[],A,Xd _,?_⟩,B,N,O,P⟩;rw [eS,n.self];exact .nil
 . have z:piF ((Xo b.nodes).map fun(v:Nat)=>cR b.nodes ([]:List Int).length (toR b []) (frR b []) v w [])=piF []:=piF_zero _ fun _=>rfl;have k:=o;rw [<-z]at k;obtain⟨Q,R⟩:=sc D y (vg _) a f u m k;have e:=Q.uniq n;refine⟨fun h=>⟨p,c.2,.inr ?_⟩,fun h=>⟨p,c.2,.inl ?_⟩⟩
   . rw [eS,<-e];refine⟨h,rfl,rfl,⟨_,A,by omega,R h⟩,[],.inl ⟨rfl,rfl⟩,Xd _,?_⟩;have S:=AR D y (vg _) a f u m k h;intro i T;exact(S i T).imp id fun⟨U,V,W,_,X⟩=>⟨U,V,W,X⟩
   . rw [eS,<-e];exact⟨h,rfl,rfl,rfl,rfl⟩
theorem clr1_ok{h0:Hp}(l:h0.t.Sized h0.n){a c j n i:Nat}{B:Nat->Nat}(R:Row h0 a (iq n B) 1)(f:j<n)(m:B j<256)(p:i<8)(q:h0.load c 0 1=some [.bool false])(d:c≠a):
 Ret zM 103 [.pointer (some ⟨a,j,none⟩),.int .u8 ((2 ^i:Nat):Int),ptrTo c] h0 fun r g=>Mo (· =a) h0 g/\r=.bool true/\Row g a (iq n (cV B j (B j ^^^(B j&&& 2 ^i)))) 1:=by
 have S:=St.init1 l (o:=.row (iq n B) 1) R;have k:=S.ld (b:=a) (o:=j) m0 (tt f);have s:=pow8 p;refine aa (n:=19) (rs:=[.tmp 5]) rfl Tryz.e103 rfl rfl rfl (lbt rfl) ?_;simp only [BZ,k,xM m s,seval];refine aC (aA S (i:=0) rfl Tryz.t5.2.2.1 bR (by rw [uH];exact f) ono) ?_;clear S k;rintro h ⟨S,t⟩;simp only [LC]at S;rw [uO]at S;have e:=S.old q d;simp only [BZ,ab,e,seval];exact⟨S.fr,S.row m0⟩
def Tz(b a:Nat)(B:Nat->Nat):Prop:= ∀r i,b<=i->i/8<a->fj B a r i=false
theorem bitB_clr{B:Nat->Nat}{a j k r i:Nat}(h:fj B a r i=false):fj (cV B j (B j ^^^(B j&&& 2 ^k))) a r i=false:=by
 unfold fj cV at*
 split
 . rename_i e;rw [e]at h;rw [Nat.testBit_xor,Nat.testBit_and,h];rfl
 . exact h
theorem bSetZ_ok{h0:Hp}(H:h0.t.Sized h0.n){y w l k d:Nat}{B:Nat->Nat}(m:eX h0 y w l k d B)(A:y≠w){r i:Nat}(N:r<l)(O:i<k)(s:l<=100)(t:k<=1000)(u:d=(k+7)/8)(x:Bool):
 Ret zM 41 [ptrTo y,.int .i64 (r:Nat),.int .i64 (i:Nat),.bool x] h0 fun v D=>Mo (· =w) h0 D/\ ∃P,eX D y w l k d P/\(Tz k d B->Tz k d P):=by
 cases x with
 |true=>exact(bSet_ok H m A N O s t u).mono fun v D ⟨a,_,b⟩=>⟨a,_,b,fun z I J G E=>by
  rw [Az (by omega) E,if_neg (fun e=>by omega)];exact z I J G E⟩
 |false=>
 obtain⟨Y,Z,n3,n4,Q,n6,T⟩:=rR N O s t u;have pl: ∀{h:Hp} {F:Nat},Gr h0 h->h.load F 0 1=some [.bool false]->F≠w->Ret zM 102 [ptrTo y,.int .i64 (r:Nat),.int .i64 (i:Nat),.func (.func 103) #[] #[ptrTo F]] h fun v D=>Mo (· =w) h D/\v=.bool true/\Row D w (iq (l*d) (cV B (r*d+i/8) (B (r*d+i/8) ^^^(B (r*d+i/8)&&& 2 ^(i%8))))) 1:=by
  intro h F g l7 h7;have S:=Si g.ok;have C:=m.gr g;have c1: ¬(r:Int)<0:=by omega
  have c2: ¬(l:Int)<=(r:Int):=by omega
  have c3: ¬(i:Int)<0:=by omega
  have c4: ¬(k:Int)<=(i:Int):=by omega
  have l2:=C.r.load1 (o:=2) rfl;have l3:=C.r.load1 (o:=3) rfl;have zp:=C.r.lt g.ok;refine aa (n:=46) (rs:=[.tmp 8]) rfl Tryz.e102 rfl rfl rfl (lbt rfl) ?_;simp only [BZ,c1,seval];refine ag (iQ S.ok C.bits) ?_;intro G K;replace S:=S.call K;simp only [BZ,c2,c3,seval];refine ag (iT S.ok (C.gr K).bits) ?_;intro E U;replace S:=S.call U;have p:=K.trans U;have k2:=p.load l2;have k3:=p.load l3;simp only [BZ,c4,seval];refine ar (ax rfl) (q:=0) (ps:=[]) (by kernel_rfl) ?_;simp only [BZ,cls,k2,k3,Y,Z,n3,n4,Q,kT (n:=8) (by decide),iY (n:=8) (by decide),b_shl8 T,seval];refine cu (clr1_ok S.ok (C.b.gr p) Q (C.lt _) T (p.load l7) h7) ?_;rintro v h3 ⟨V,rfl,R3⟩;have vv:leaves E h3 y=true:=oe (V.get y (Xp zp p.n) A);simp only [BZ,cls,ab,seval];exact⟨(p.fr (M:=(· =w))).trans V (fun c L=>.inl L),R3⟩
 have S:=Si H;have zb:=m.b.lt H;refine aa (n:=14) (rs:=[.tmp 8]) rfl Tryz.e41 rfl rfl rfl (lbt rfl) ?_;simp only [BZ,seval];refine ac (bW (by exact lP)) S ?_;clear S;intro h F S W;simp only [BZ,seval];have k7:=S.fr.n;refine step_ret (pl S.gr (S.ld m0 rfl) (by omega)) ?_;rintro v h ⟨f,rfl,R⟩;simp only [BZ,seval];have X:Mo (· =w) h0 h:=(S.gr.fr (M:=(· =w))).trans f (fun c L=>.inl L);refine⟨X,_,⟨X.has (o:=.row _ 1) m.r A,R,fun j=>?_⟩,fun z I J G E=>bitB_clr (z I J G E)⟩;unfold cV
 split
 . exact Nat.xor_lt_two_pow (n:=8) (m.lt _) (XK XT (m.lt _))
 . exact m.lt _
def Sep(a:List Value):Prop:= ∀(i j:Nat) (w u:Value) (c:Nat),a[i]? =some w->a[j]? =some u->i≠j->aq w c-> ¬aq u c
theorem uM{b:Type}{l:List b}{x u:b}{j:Nat}(h:(l++[x])[j]? =some u):l[j]? =some u\/(j=l.length/\u=x):=by
 by_cases c:j<l.length
 . rw [List.getElem?_append_left c]at h;exact .inl h
 . rw [List.getElem?_append_right (by omega)]at h;have a:j-l.length=0:=(by have:=(List.getElem?_eq_some_iff.1 h).1;simp at this;omega);rw [a]at h;cases h;exact .inr ⟨by omega,rfl⟩
theorem Sep.push{f:List Value}{y:Value}(s:Sep f)(h: ∀(j:Nat) u,f[j]? =some u-> ∀c,aq u c-> ¬aq y c):Sep (f++[y]):=by
 intro i j w u c a b g d e;rcases uM a with a|⟨k,l⟩<;>rcases uM b with b|⟨m,e4⟩
 . exact s i j w u c a b g d e
 . rw [e4]at e;exact h i w a c d e
 . rw [l]at d;exact h j u b c e d
 . exact g (k.trans m.symm)
def WrI(h:Hp)(w:Value)(l:List Int):Prop:=av h 1 (encI .i64) w l/\(l≠ []-> ∃b,w=.slice (some ⟨b,0,some 1⟩) l.length l.length/\Row h b (ints l) 1)
theorem WrI.mo{M:Nat->Prop}{h a:Hp}{w:Value}{l:List Int}(r:WrI h w l)(g:Mo M h a)(c: ∀b,aq w b-> ¬M b):WrI a w l:=
 ⟨r.1.mo g c,fun d=>by obtain⟨b,e,k⟩:=r.2 d;exact⟨b,e,g.has (o:=.row _ 1) k (c b (by rw [e];rfl))⟩⟩
theorem WrI.gr{h a:Hp}{w:Value}{l:List Int}(r:WrI h w l)(g:Gr h a):WrI a w l:=r.mo (M:=NoM) g.fr (fun _ _ h=>h)
theorem A8{h0:Hp}(m:h0.t.Sized h0.n){v:Value}{xs:List Int}(p:av h0 1 (encI .i64) v xs)(t:xs.length<1000000):Ret zM 159 [v] h0 fun r a=>Gr h0 a/\WrI a r xs/\ ∀c,aq r c->h0.n<=c:=by
 have S:=Si m;by_cases i:xs=[]
 . obtain⟨r,a,u,g,w,j⟩:=rL m p t;exact⟨r,a,u,g,⟨w,fun h=>absurd i h⟩,j⟩
 rcases p with⟨rfl,rfl⟩|⟨b,o,s,c,rfl,x,y⟩
 . exact absurd rfl i
 . refine aa (n:=8) (rs:=[.tmp 2]) rfl Tryz.e159 rfl rfl rfl (lbt rfl) ?_;simp only [BZ,seval];refine ac (bV (by exact Tryz.t23.1) (by exact Tryz.e2E) (by decide) (by rfl)) S ?_;clear S;intro h A S q;simp only [LC,a9,bQ,ae,Xq,Xi,Xf,Xu,seval]at S;simp only [BZ,seval];have k:av h 1 (encI .i64) (.slice (some ⟨b,o,s⟩) xs.length c) xs:=.inr ⟨b,o,s,c,rfl,x,S.old y (fun h=>h)⟩;refine dP (S.clone (n:=0) (vs:=[]) Tryz.t23.1 Tryz.e2E (by decide) Tryz.t23.2.2.2.2.2 k.src (ct (bG .i64) xs).symm rfl (by decide) (by rw [ct (bG .i64)];simp;omega) (S.row m0)) ?_;rintro a v (⟨e,_⟩|⟨d,rfl,l⟩)
   . exact absurd (List.length_eq_zero_iff.1 e) i
   simp only [BZ,ab,seval];have f:Row a d (ints xs) 1:=l.row m0;have z:h0.n<=d:=(l.own _ m0).1.elim (fun h=>h) (fun h=>h.elim);refine⟨l.gr,⟨.inr ⟨d,0,some 1,xs.length,rfl,XF _,?_⟩,fun _=>⟨d,rfl,f⟩⟩,fun c j=>?_⟩
   . rw [f.load (by rw [cd];omega),Xg,Xf,<-cd xs,XQ];rfl
   . obtain rfl:d=c:=j;exact z
def LLD(h:Hp)(m k:Nat)(v:Value)(n:Nat)(R:Nat->List Int):Prop:=
 ∃a:List Value,av h 1 encV v a/\a.length=n/\(∀c,aq v c->m<=c/\c<k)/\(∀(i:Nat) w,a[i]? =some w->WrI h w (R i)/\ ∀c,aq w c->m<=c/\c<k/\ ¬aq v c)/\Sep a
theorem LLD.ll{h:Hp}{m k n:Nat}{v:Value}{R:Nat->List Int}(r:LLD h m k v n R):eR h m v n R:=by obtain⟨g,a,b,c,d,_⟩:=r;exact⟨g,a,b,fun x e=>(c x e).1,fun i w f=>⟨(d i w f).1.1,fun x e=>((d i w f).2 x e).1⟩⟩
theorem LLD.mo{M:Nat->Prop}{h o:Hp}{m k n:Nat}{v:Value}{R:Nat->List Int}(r:LLD h m k v n R)(g:Mo M h o)(p: ∀b,M b->b<m\/k<=b):LLD o m k v n R:=by obtain⟨s,a,b,c,d,e⟩:=r;exact⟨s,a.mo g (fun x f j=>by have:=c x f;have:=p x j;omega),b,c,fun i w l=>⟨(d i w l).1.mo g (fun x f j=>by have q:=(d i w l).2 x f;have t:=q.1;have u:=q.2.1;have:=p x j;omega),(d i w l).2⟩,e⟩
theorem LLD.gr{h a:Hp}{m k n:Nat}{v:Value}{R:Nat->List Int}(r:LLD h m k v n R)(g:Gr h a):LLD a m k v n R:=r.mo (M:=NoM) g.fr (fun _ h=>h.elim)
theorem LLD.form{h:Hp}{m k n:Nat}{v:Value}{R:Nat->List Int}(r:LLD h m k v n R): ∃a n c,v=.slice a n c:=by obtain⟨_,s,_⟩:=r;rcases s with⟨rfl,_⟩|⟨b,o,s,c,rfl,_⟩<;>exact⟨_,_,_,rfl⟩
theorem mem_gkey{M:Nat->Prop}{h0 h:Hp}{v:Value}{a:List Value}{k:Nat}(S:St M h0 h [] [(v,k,a)]){c:Nat}(d:aq v c):c∈keys [] [(v,k,a)]:=by
 have f:eZ (v,k,a)=some c:=by
  rcases(S.gown (v,k,a) (List.mem_singleton.2 rfl)).1 with⟨e,_⟩|⟨b,n,e,_⟩
  . rw [show v=_ from e]at d;exact d.elim
  . have g:v=.slice (some ⟨b,0,some k⟩) n n:=e;rw [g]at d⊢;exact congrArg some d
 exact List.mem_filterMap.2 ⟨_,List.mem_singleton.2 rfl,f⟩
theorem qk {h0:Hp} (Y:h0.t.Sized h0.n) {v:Value} {m n:Nat} {R:Nat->List Int} (N:eR h0 m v n R) (hn:n<1000) (Z: ∀i,i<n->(R i).length<1000000):
 Ret zM 89 [v] h0 fun r G=>Gr h0 G/\LLD G h0.n G.n r n R:=by
 have S:=Si Y;refine aa (n:=18) (rs:=[.tmp 2]) rfl Tryz.e89 rfl rfl rfl (lbt rfl) ?_;simp only [BZ,N.lenq,seval];replace S:=S.nilG (k:=1);refine aV (fun(i:Nat) C h=>i<=n/\ ∃(f:List Value) (s:Value),St NoM h0 h [] [(s,1,f)]/\f.length=i/\(∀j w,f[j]? =some w->WrI h w (R j)/\ ∀c,aq w c->h0.n<=c/\c∉keys [] [(s,1,f)])/\Sep f/\C 2=s/\C 5=v/\C 6=.int .i64 n/\C 7=.int .i64 i) (fun i=>n-i) ?_ 0 _ _ ?_
 . clear S;intro i ih C h ⟨hi,f,s,S,t,hc,hd,r2,r5,r6,r7⟩;have ad:Fl s:=by
    rcases(S.gown _ m0).1 with⟨e,_⟩|⟨_,_,e,_⟩
    . rw [show s=_ from e];exact bO
    . rw [show s=_ from e];exact bO
   by_cases hlt:i<n
   . obtain⟨x,⟨q,o,D,H⟩,O,_⟩:=(N.gr S.gr).row hlt;have fx:=O.fl;have w:am .i64 ((i:Int)+1)=((i+1:Nat):Int):=(by rw [wrap64]<;>omega);simp only [BZ,r2,r5,r6,r7,az,hlt,D,H,seval];have I:=S;refine step_ret (A8 S.ok O (Z i hlt)) ?_;rintro y P ⟨g,J,K⟩;have F:=S.call g;obtain⟨z,A,B,rfl⟩:=J.1.form;have fy:Fl (.slice z A B):=bO;have l: ∀(j:Nat) u,(f++[.slice z A B])[j]? =some u->WrI P u (R j)/\ ∀c,aq u c->h0.n<=c/\c∉keys [] [(s,1,f)]/\c<P.n:=fun j u d=>by
      rcases uM d with d|⟨rfl,rfl⟩
      . obtain⟨Q,T⟩:=hc j u d;exact⟨Q.gr g,fun c a=>⟨(T c a).1,(T c a).2,(Q.gr g).1.lt F.ok a⟩⟩
      . rw [t];exact⟨J,fun c a=>⟨XD I.fr.n (K c a),fun L=>by have:=I.key_lt L;have:=K c a;omega,J.1.lt F.ok a⟩⟩
     have M:=hd.push (y:=.slice z A B) fun j u d c a hy=>(by have:=(hc j u d).1.1.lt I.ok a;have:=K c hy;omega);replace S:=F.base;simp only [BZ,seval];refine ac (bV (by exact Tryz.t82.1) (by exact Tryz.e23E) (by decide) (by rfl)) S ?_;clear S;intro h U S V;simp only [LC,a9,bQ,ae,Xq,Xi,Xf,Xu,seval]at S;simp only [BZ,seval];have E:aR h 1 (.slice (some ⟨U,0,none⟩) 1 1)=some (1,[.slice z A B]):=(by simp only [aR];rw [S.lds (b:=U) (o:=0) (n:=1*1) m0 (lbt rfl)];rfl);replace S:=S.drop1;refine dP (S.grow (j:=0) (m:=1) (new:=[.slice z A B]) rfl Tryz.t82.1 Tryz.e23E (by decide) Tryz.t82.2.2.2.2.2 E rfl (by decide) (by simp [fy.2.1]) (by simp;omega)) ?_;clear S E;rintro h p S;simp only [LC]at S;have fv:Fl p:=by
      rcases(S.gown _ m0).1 with⟨e,_⟩|⟨_,_,e,_⟩
      . rw [show p=_ from e];exact bO
      . rw [show p=_ from e];exact bO
     simp only [BZ,r7,w,seval];refine ih (i+1) _ _ (by omega) ⟨by omega,f++[.slice z A B],p,F.rebase S,by simp [t],fun j u d=>⟨(l j u d).1.mo S.fr (fun c a=>((l j u d).2 c a).2.1),fun c a=>⟨((l j u d).2 c a).1,fun L=>?_⟩⟩,M,by simp [aw,r5,r6]⟩;rcases S.key_new c L with W|W
     . exact((l j u d).2 c a).2.1 W
     . have:=((l j u d).2 c a).2.2;omega
   . simp only [BZ,ab,r2,r6,r7,az,hlt,seval];have X:=(S.gown _ m0).1.sl (xO f).symm rM (by decide);refine⟨S.gr,f,X,by omega,fun c a=>⟨((S.gblk m0 a).1).elim (fun h=>h) (fun h=>h.elim),X.lt S.ok a⟩,fun j u d=>⟨(hc j u d).1,fun c a=>⟨((hc j u d).2 c a).1,(hc j u d).1.1.lt S.ok a,fun hv=>((hc j u d).2 c a).2 ?_⟩⟩,hd⟩;exact mem_gkey S hv
 . exact⟨Xd _,[],_,S,rfl,fun j w t=>by simp at t,fun i j w u c t=>by simp at t,by simp [aw,cD]⟩
def fV(N:Nat)(l:List Int):Prop:=l.length=N/\ ∀x∈l,0<=x/\x<=72057594037927936
theorem mk11_ok{h0:Hp}(a:h0.t.Sized h0.n){x:Int}(d:0<=x/\x<=72057594037927936):aN zM 92 [.int .i64 x] h0 (.bool false):=by
 have S:=Si a;have b: ¬x<0:=by omega
 have c: ¬72057594037927936<x:=by omega
 refine aa (n:=9) (rs:=[.tmp 2]) rfl Tryz.e92 rfl rfl rfl (lbt rfl) ?_;simp only [BZ,ab,b,c,seval];exact S.gr
theorem mkIdx_ok{h0:Hp}(d:h0.t.Sized h0.n){v:Value}{l:List Int}(e:av h0 1 (encI .i64) v l)(k:l.length<=1000000)(f: ∀x∈l,0<=x/\x<=72057594037927936):aN zM 182 [v,.func (.func 92) #[] #[]] h0 (.int .i64 (-1)):=by
 have S:=Si d;refine aa (n:=19) (rs:=[.tmp 4]) rfl Tryz.e182 rfl rfl rfl (lbt rfl) ?_;simp only [BZ,e.lenq,seval];refine aV (fun(i:Nat) a h=>i<=l.length/\Gr h0 h/\a 0=v/\a 1=.func (.func 92) #[] #[]/\a 7=.int .i64 l.length/\a 8=.int .i64 i) (fun i=>l.length-i) ?_ 0 _ _ ?_
 . clear S;intro i j a h ⟨hi,S,r0,r1,r7,r8⟩;by_cases hlt:i<l.length
   . obtain⟨q,o,b,c⟩:=(e.gr S).ix (kd:=.i64) (bG .i64) hlt;have w:am .i64 ((i:Int)+1)=((i+1:Nat):Int):=(by rw [wrap64]<;>omega);simp only [BZ,r0,r1,r7,r8,az,hlt,b,c,encI,seval];refine ag (mk11_ok S.ok (f _ (XH hlt))) ?_;intro m g;simp only [BZ,r8,w,seval];exact j (i+1) _ _ (by omega) ⟨by omega,S.trans g,by simp [aw,r0,r1,r7]⟩
   . simp only [BZ,ab,r7,r8,az,hlt,seval];exact S
 . exact⟨Xd _,Gr.refl d,by simp [aw,cD,dK]⟩
theorem mkCf_ok{h0:Hp}(a:h0.t.Sized h0.n){v:Value}{l:List Int}(b:av h0 1 (encI .i64) v l)(c:l.length<=1000000)(d: ∀x∈l,0<=x/\x<=72057594037927936):aN zM 91 [v,.func (.func 92) #[] #[]] h0 (.bool false):=by have S:=Si a;refine aa (n:=9) (rs:=[.tmp 4]) rfl Tryz.e91 rfl rfl rfl (lbt rfl) ?_;simp only [BZ,seval];refine ag (mkIdx_ok S.ok b c d) ?_;intro h g;replace S:=S.call g;clear g;simp only [BZ,ab,seval];exact S.gr
theorem mk1_ok{h0:Hp}(d:h0.t.Sized h0.n){b N:Nat}{v:Value}{l:List Int}(f:h0.load b 0 1=some [.int .i64 N])(a:av h0 1 (encI .i64) v l)(c:fV N l)(i:N<=1000000):aN zM 90 [v,ptrTo b] h0 (.bool false):=by have S:=Si d;have e:=c.1;subst e;refine aa (n:=12) (rs:=[.tmp 3]) rfl Tryz.e90 rfl rfl rfl (lbt rfl) ?_;simp only [BZ,a.lenq,f,seval];refine ag (mkCf_ok S.ok a i c.2) ?_;intro h g;replace S:=S.call g;clear g;simp only [BZ,ab,seval];exact S.gr
theorem mkIdxR_ok{h0:Hp}(e:h0.t.Sized h0.n){b N m n:Nat}{v:Value}{R:Nat->List Int}(k:h0.load b 0 1=some [.int .i64 N])(f:eR h0 m v n R)(s:n<=1000000)(l: ∀i,i<n->fV N (R i))(p:N<=1000000):aN zM 183 [v,.func (.func 90) #[] #[ptrTo b]] h0 (.int .i64 (-1)):=by
 have S:=Si e;refine aa (n:=19) (rs:=[.tmp 4]) rfl Tryz.e183 rfl rfl rfl (lbt rfl) ?_;simp only [BZ,f.lenq,seval];refine aV (fun(i:Nat) a h=>i<=n/\Gr h0 h/\a 0=v/\a 1=.func (.func 90) #[] #[ptrTo b]/\a 7=.int .i64 n/\a 8=.int .i64 i) (fun i=>n-i) ?_ 0 _ _ ?_
 . clear S;intro i r a h ⟨hi,S,r0,r1,r7,r8⟩;by_cases hlt:i<n
   . obtain⟨x,⟨q,o,c,d⟩,j,_⟩:=(f.gr S).row hlt;have t:=j.fl;have w:am .i64 ((i:Int)+1)=((i+1:Nat):Int):=(by rw [wrap64]<;>omega);simp only [BZ,r0,r1,r7,r8,az,hlt,c,d,seval];refine ag (mk1_ok S.ok (S.load k) j (l i hlt) p) ?_;intro u g;simp only [BZ,r8,w,seval];exact r (i+1) _ _ (by omega) ⟨by omega,S.trans g,by simp [aw,r0,r1,ah,r7]⟩
   . simp only [BZ,ab,r7,r8,az,hlt,seval];exact S
 . exact⟨Xd _,Gr.refl e,by simp [aw,cD,dK,ah]⟩
theorem mkCfR_ok{h0:Hp}(a:h0.t.Sized h0.n){b N m n:Nat}{v:Value}{R:Nat->List Int}(c:h0.load b 0 1=some [.int .i64 N])(d:eR h0 m v n R)(e:n<=1000000)(f: ∀i,i<n->fV N (R i))(j:N<=1000000):aN zM 94 [v,.func (.func 90) #[] #[ptrTo b]] h0 (.bool false):=by have S:=Si a;refine aa (n:=9) (rs:=[.tmp 4]) rfl Tryz.e94 rfl rfl rfl (lbt rfl) ?_;simp only [BZ,seval];refine ag (mkIdxR_ok S.ok c d e f j) ?_;intro h g;replace S:=S.call g;clear g;simp only [BZ,ab,seval];exact S.gr
theorem mk2_ok{h0:Hp}(j:h0.t.Sized h0.n){b b5 c N m n:Nat}{v d:Value}{l:List Int}{R:Nat->List Int}(k:h0.load b5 0 1=some [d])(o:h0.load c 0 1=some [.func (.func 90) #[] #[ptrTo b]])(e:av h0 1 (encI .i64) d l)(p:h0.load b 0 1=some [.int .i64 N])(f:eR h0 m v n R)(q:n<=1000000)(a:l.length=n)(r: ∀i,i<n->fV N (R i))(s:N<=1000000):aN zM 93 [v,ptrTo b5,ptrTo c] h0 (.bool false):=by have S:=Si j;have t:=e.fl;subst a;refine aa (n:=15) (rs:=[.tmp 4]) rfl Tryz.e93 rfl rfl rfl (lbt rfl) ?_;simp only [BZ,f.lenq,e.lenq,k,o,seval];refine ag (mkCfR_ok S.ok p f q r s) ?_;intro h g;replace S:=S.call g;clear g;simp only [BZ,ab,seval];exact S.gr
theorem make_ok{h0:Hp}(ok:h0.t.Sized h0.n){N mT mF:Nat}{T U V:Value}{l:List Int}{R Q:Nat->List Int}(s:av h0 1 (encI .i64) T l)(W:eR h0 mT U l.length R)(X:eR h0 mF V l.length Q)(n1:1<=N)(hN:N<=100)(Y:eJ N l)(Z: ∀i,i<l.length->fV N (R i))(hQ: ∀i,i<l.length->fV N (Q i)):
 Ret zM 37 [.int .i64 N,T,U,V] h0 fun r h'=>Gr h0 h'/\TabAt h' h0.n r N l R Q:=by
 have S:=Si ok;have ad:=Y.1;have k:l.length<1000:=by omega
 have c1: ¬(N:Int)<1:=by omega
 have cm:decide (eJ N l)=true:=decide_eq_true Y;have fM:=s.fl;obtain⟨ma,mn,mc,rfl⟩:=s.form;refine aa (n:=40) (rs:=[.tmp 8]) rfl Tryz.e37 rfl rfl rfl (lbt rfl) ?_;simp only [BZ,seval];refine ac (bg (by intro x e;cases e)) S ?_;clear S;intro h d S af;simp only [ae]at S;simp only [BZ,if_false,seval];refine ac (bg (by intro x e;cases e)) S ?_;clear S;intro h f S ai;simp only [ae]at S;simp only [BZ,seval];refine ac ay S ?_;clear S;intro h A S ak;simp only [BZ,seval];refine aC (aA S (i:=0) rfl ?_ ?_ ?_ ono) ?_
 . exact(by simp only [FA0])
 . exact(by exact fT)
 . exact Xm (lbt rfl)
 clear S;rintro h ⟨S,mo⟩;clear mo;simp only [LC,ae,lay,Xb,Xc,seval]at S;have m:=S.ld (b:=d) (o:=0) m2 rfl;have p:=S.ld (b:=f) (o:=0) m1 rfl;have y:=S.ld (b:=A) (o:=0) m0 rfl;simp only [BZ,m,p,c1,seval];refine ag (may_ok S.ok (s.gr S.gr) (by omega)) ?_;intro h g;replace S:=S.call g;clear g;rw [cm];simp only [BZ,seval];have m:=S.ld (b:=d) (o:=0) m2 rfl;have p:=S.ld (b:=f) (o:=0) m1 rfl;have y:=S.ld (b:=A) (o:=0) m0 rfl;refine ag (mk2_ok S.ok p y (s.gr S.gr) m (W.gr S.gr) (by omega) rfl Z (by omega)) ?_;intro h g;replace S:=S.call g;clear g;simp only [BZ,seval];have m:=S.ld (b:=d) (o:=0) m2 rfl;have p:=S.ld (b:=f) (o:=0) m1 rfl;have y:=S.ld (b:=A) (o:=0) m0 rfl;refine ag (mk2_ok S.ok p y (s.gr S.gr) m (X.gr S.gr) (by omega) rfl hQ (by omega)) ?_;intro h g;replace S:=S.call g;clear g;have m:=S.ld (b:=d) (o:=0) m2 rfl;have p:=S.ld (b:=f) (o:=0) m1 rfl;simp only [BZ,seval];refine ar (ax rfl) (q:=256) (ps:=[(0,6),(0,4),(0,2)]) (by kernel_rfl) ?_;simp only [BZ,cls,m,p,seval];refine cu (iU S.ok (bG .i64) (s.gr S.gr) (by omega)) ?_;rintro v h ⟨g,a,nM⟩;have e41:leaves _ _ d=true:=ao g ((S.row (b:=d) m2).lt S.ok);have B:leaves _ _ f=true:=ao g ((S.row (b:=f) m1).lt S.ok);have k1:=S.fr.n;have C:=fun c (j:c∈keys _ _)=>S.key_lt j;replace S:=S.call g;clear g;obtain⟨va,vn,vc,rfl⟩:=a.form;simp only [BZ,cls,seval];refine cu (qk S.ok (W.gr S.gr) k (fun i D=>by have:=(Z i D).1;omega)) ?_;rintro v h ⟨g,z⟩;have e42:leaves _ _ d=true:=ao g ((S.row (b:=d) m2).lt S.ok);have E:leaves _ _ f=true:=ao g ((S.row (b:=f) m1).lt S.ok);have k2:=S.fr.n;have F:=fun c (j:c∈keys _ _)=>S.key_lt j;replace S:=S.call g;replace a:=a.gr g;clear g;obtain⟨ta,tn,tc,rfl⟩:=z.form;simp only [BZ,cls,seval];refine cu (qk S.ok (X.gr S.gr) k (fun i D=>by have:=(hQ i D).1;omega)) ?_;rintro v h ⟨g,L2⟩;have e43:leaves _ _ d=true:=ao g ((S.row (b:=d) m2).lt S.ok);have G:leaves _ _ f=true:=ao g ((S.row (b:=f) m1).lt S.ok);have k3:=S.fr.n;have H:=fun c (j:c∈keys _ _)=>S.key_lt j;replace S:=S.call g;replace a:=a.gr g;replace z:=z.gr g;clear g;obtain⟨fa,fn,fc,rfl⟩:=L2.form;simp only [BZ,cls,seval];have t:=S;replace S:=S.base;have q4:=(t.row (b:=d) m2).lt t.ok;have q5:=(t.row (b:=f) m1).lt t.ok;refine dL (bg (by intro x e;cases e)) S ?_;clear S;intro h b S al I;simp only [ae]at S;have J:d≠b:=by omega
 have K:f≠b:=by omega
 simp only [BZ,cls,ab,seval];refine⟨by simp only [aK,aS,aH,aU,aJ,ne_eq,not_false_eq_true,aW,aZ,aT,aM,bA,ca,aD,zO,ah,aB e41,aB e42,aB e43,aB B,aB E,aB G,cS J,cS K,<-I,seval],?_⟩;have L:=S.fr;have u:=a.mo L (fun c j w=>by have:=nM c j;have:=C c w;omega);have M:=z.mo L (fun c w=>.inl (F c w));have O:=L2.mo L (fun c w=>.inl (H c w));have P:=S.row (b:=b) m0;replace S:=t.rebase S;exact⟨S.gr,⟨b,_,_,_,rfl,P,u,M.ll.low k2,O.ll.low k3,(S.own _ m0).1.elim (fun h=>h) (fun h=>h.elim),fun c j=>XD k1 (nM c j)⟩⟩
theorem Cr{h0:Hp}(w:h0.t.Sized h0.n){m N:Nat}{p:Value}{l:List Int}{R Q:Nat->List Int}(t:TabAt h0 m p N l R Q)(j:l.length<1000)(x: ∀i,i<l.length->(R i).length<1000000)(y: ∀i,i<l.length->(Q i).length<1000000):
 Ret zM 36 [p] h0 fun r a=>Gr h0 a/\ ∃e f k,r=.tuple #[e,f]/\LLD a h0.n k e l.length R/\LLD a k a.n f l.length Q/\h0.n<=k/\k<=a.n:=by
 have S:=Si w;obtain⟨b,F,e,f,rfl,c,_,z,A,_⟩:=t.ex;have B:=c.load1 (o:=2) rfl;refine aa (n:=16) (rs:=[.tmp 2,.tmp 3]) rfl Tryz.e36 rfl rfl rfl (lbt rfl) ?_;simp only [BZ,seval];refine ar (ax rfl) (q:=0) (ps:=[(4,8)]) (by kernel_rfl) ?_;simp only [BZ,cls,B,seval];refine cu (qk S.ok (z.gr S.gr) j x) ?_;rintro v h ⟨g,d⟩;have G:=S.fr.n;have s:leaves _ _ b=true:=ao g (c.lt S.ok);replace S:=S.call g;replace c:=c.gr g;clear g;obtain⟨H,I,J,rfl⟩:=d.form;have C:=c.load1 (o:=3) rfl;simp only [BZ,cls,C,seval];refine cu (qk S.ok (A.gr S.gr) j y) ?_;rintro v h ⟨g,u⟩;have D:=S.fr.n;have E:=S.ok;replace S:=S.call g;replace d:=d.gr g;obtain⟨K,L,M,rfl⟩:=u.form;simp only [BZ,cls,ab,seval];refine⟨by simp only [aK,aS,aH,aU,aJ,ne_eq,not_false_eq_true,aW,aZ,aT,aM,bA,ca,aD,zO,ah,aB s,aF s,seval],?_⟩;exact⟨S.gr,_,_,_,rfl,d,u,D,g.n⟩
theorem LLD.at{h:Hp}{m k n:Nat}{v:Value}{R:Nat->List Int}(r:LLD h m k v n R){i:Nat}(K:i<n)(z:R i≠ []):
 ∃ c,(∃q o,kV (some 1) v (.int .i64 (i:Nat))=some (.pointer (some ⟨q,o,none⟩))/\h.load q o 1=some [.slice (some ⟨c,0,some 1⟩) (R i).length (R i).length])/\Row h c (ints (R i)) 1/\m<=c/\c<k/\
   ∀p l',Mo (· =c) h p->l'.length=(R i).length->Row p c (ints l') 1->LLD p m k v n (fun t=>if t=i then l' else R t):=by
 obtain⟨s,a,b,c,d,e⟩:=r;obtain⟨q,o,I,A⟩:=a.ix (kd:=.i64) rM (i:=i) (by omega);have B:s[i]? =some s[i]:=Xy (by omega);obtain⟨⟨L,J⟩,C⟩:=d i _ B;obtain⟨l,D,E⟩:=J z;have f:aq s[i] l:=by rw [D];rfl
 refine⟨l,⟨q,o,I,by rw [<-D];exact A⟩,E,(C l f).1,(C l f).2.1,fun p l' H u g=>⟨s,a.mo H (fun x F e=>by subst e;exact(C _ f).2.2 F),b,c,fun j w y=>?_,e⟩⟩;refine⟨?_,(d j w y).2⟩;show WrI p w (if j=i then l' else R j);by_cases G:j=i
 . subst G;rw [if_pos rfl];rw [B]at y;cases y;rw [D];refine⟨.inr ⟨l,0,some 1,(R j).length,by rw [u],by omega,?_⟩,fun _=>⟨l,by rw [u],g⟩⟩;rw [g.load (by rw [cd];omega),Xg,Xf,<-cd l',XQ];rfl
 . rw [if_neg G];exact(d j w y).1.mo H (fun x F A=>by subst A;exact e j i w s[i] _ y B G F f)
theorem AP{B:List Arc}{N s:Nat}(h: ∀v,dOf B s v<=FAR){x:Int}(a:x∈oV B N s):0<=x/\x<=72057594037927936:=by unfold oV at a;obtain⟨v,_,rfl⟩:=List.mem_map.1 a;have:=h v;unfold FAR at this;omega
end Go.Ab
end
section
namespace Go.Ab
def crcS(r:Nat):Nat:=(r>>>1) ^^^(if r%2=1 then 3988292384 else 0)
def crcN:Nat->Nat->Nat
 |0,r=>r|k+1,r=>crcN k (crcS r)
def crcB(r b:Nat):Nat:=crcN 8 (r ^^^b)
def crcL(r:Nat)(l:List UInt8):Nat:=l.foldl (fun r b=>crcB r b.toNat) r
def crc(l:List UInt8):Nat:=4294967295 ^^^crcL 4294967295 l
end Go.Ab

end
section
namespace Go.Ab
abbrev Bs:=List UInt8
def getN:Bs->Nat
 | []=>0|b::l=>b.toNat+256*getN l
def first6:Bs:=[77,73,76,69,49,1]
abbrev Ent:=Nat×Nat×Nat
def entD(s:Bs):Ent:=(getN (s.take 1),getN ((s.drop 1).take 8),getN ((s.drop 9).take 4))
def entsD:Nat->Bs->List Ent
 |0,_=>[]|k+1,s=>entD s::entsD k (s.drop 13)
def tQ(s:Bs):Nat:=getN ((s.drop 6).take 1)
def headOk(s:Bs):Prop:=s.take 6=first6/\7<=s.length/\tQ s<=16/\11+13*tQ s<=s.length/\getN ((s.drop (7+13*tQ s)).take 4)=crc (s.take (7+13*tQ s))/\
 ((entsD (tQ s) (s.drop 7)).map (·.2.1)).sum=s.length-(11+13*tQ s)
noncomputable instance (s:Bs):Decidable (headOk s):=Classical.propDecidable _
end Go.Ab

end
section
namespace Go.Ab
def u64(x:Int):Nat:=(x%18446744073709551616).toNat
def i64(n:Nat):Int:=if n<9223372036854775808 then n else n-18446744073709551616
theorem u64_lt(x:Int):u64 x<256 ^8:=by unfold u64;omega
end Go.Ab

end
section
namespace Go.Ab
structure Tab where
 l:List Int
 to:List (List Int)
 fr:List (List Int)
structure Img where
 g:Gra
 T:Option Tab
 C:Option (List Int×Bs)
structure TabL(N:Nat)(T:Tab):Prop where
 l1:1<=T.l.length
 l2:T.l.length<=16
 to:T.to.length=T.l.length
 fr:T.fr.length=T.l.length
 rTo: ∀r∈T.to,r.length=N/\ ∀x∈r,0<=x/\x<=72057594037927936
 rFr: ∀r∈T.fr,r.length=N/\ ∀x∈r,0<=x/\x<=72057594037927936
 rl: ∀x∈T.l,0<=x/\x<4294967296
end Go.Ab

end
section
namespace Go.Ab
theorem hf_u{k:IntKind}(h:sgn k=false):hf k=pw k:=by cases k<;>first|rfl|cases h
theorem wrapN{k:IntKind}(h:sgn k=false)(n:Nat):am k (n:Int)=((n%pw k:Nat):Int):=by
 show am k (.ofNat n)=_;simp only [am,hf_u h,h];cases a:Nat.blt n (pw k)with
 |true=>rw [XY]at a;rw [cond_true,Nat.mod_eq_of_lt a];rfl|false=>rfl
theorem q9{k:IntKind}(h:sgn k=false){n:Nat}(a:n<pw k):am k (n:Int)=(n:Int):=by rw [wrapN h,Nat.mod_eq_of_lt a]
section
variable{E:Env}{t:TypeId}{p q:Operand}{x y:Nat}{k k':IntKind}
theorem bitsU(op:BinOp)(a:x<pw k)(b:y<pw k):iC op k (x:Int) (y:Int)=match op with
 | .and=>some (am k ((x&&& y:Nat):Int))| .or=>some (am k ((x|||y:Nat):Int))
 | .xor=>some (am k ((x ^^^y:Nat):Int))| .andNot=>some (am k ((x ^^^(x&&& y):Nat):Int))|_=>none:=by
 show iC op k (.ofNat x) (.ofNat y)=_;have c:Nat.blt x (pw k)=true:=by rw [XY];exact a
 have d:Nat.blt y (pw k)=true:=by rw [XY];exact b
 unfold iC;simp only [c,d,Bool.and_self,cond_true];cases op<;>rfl
theorem pw_two(k:IntKind):pw k=2 ^bitsOf k:=by cases k<;>rfl
theorem b_andN(h:sgn k=false)(a:x<pw k)(b:y<pw k):bF E .and t p q (.int k (x:Int)) (.int k (y:Int))=some (.int k ((x&&& y:Nat):Int)):=by show(bif iS k k then(iC .and k (x:Int) (y:Int)).map (Value.int k ·)else none)=_;rw [bitsU .and a b,fm];simp only [q9 h (XK XT a)];rfl
theorem b_orN(h:sgn k=false)(a:x<pw k)(b:y<pw k):bF E .or t p q (.int k (x:Int)) (.int k (y:Int))=some (.int k ((x|||y:Nat):Int)):=by
 show(bif iS k k then(iC .or k (x:Int) (y:Int)).map (Value.int k ·)else none)=_;have:x|||y<pw k:=by rw [pw_two]at a b⊢;exact Nat.or_lt_two_pow a b
 rw [bitsU .or a b,fm];simp only [q9 h this];rfl
end
def sv(l:Bs):Value:=.string (ii l)
theorem set_set{a:Type}{l:List a}{i:Nat}{x y:a}:(l.set i x).set i y=l.set i y:=List.set_set ..
theorem wrap_u64(x:Int):am .u64 x=(u64 x:Int):=by
 cases x with
 |ofNat m=>exact(wrapN rfl m).trans (by unfold u64;rw [show Int.ofNat m=(m:Int)from rfl];simp only [pw];omega)|negSucc m=>show((pw .u64-1-m%pw .u64:Nat):Int)=_;unfold u64;simp only [pw];omega
end Go.Ab

end
section
namespace Go.Ab
open Go.Proofs
set_option maxRecDepth 10000

def byB(n:Nat)(B:Nat->Nat):Bs:=(Xo n).map fun j=>UInt8.ofNat (B j)
def n8(l:List (List Int))(i:Nat):List Int:=l.getD i []
def TabM(h:Hp)(p:Value)(N:Nat)(T:Tab):Prop:=(∃m,TabAt h m p N T.l (n8 T.to) (n8 T.fr))/\TabL N T
theorem TabM.gr{h a:Hp}{p:Value}{N:Nat}{T:Tab}(t:TabM h p N T)(g:Gr h a):TabM a p N T:=⟨by obtain⟨m,x⟩:=t.1;exact⟨m,x.gr g⟩,t.2⟩
def CelM(h:Hp)(e f:Value)(c:Gra)(m:List Int)(F:Bs):Prop:= ∃k d g b a B,ja h k e m/\m.length=c.nodes/\f=ptrTo d/\fS m+1=((b:Nat):Int)/\eX h d g b c.arcs.length a B/\F=byB (b*a) B/\(∀x∈m,0<=x/\x<256)/\ ¬vr m/\a=(c.arcs.length+7)/8/\Tz c.arcs.length a B
theorem CelM.gr{h n:Hp}{o p:Value}{q:Gra}{m:List Int}{F:Bs}(c:CelM h o p q m F)(g:Gr h n):CelM n o p q m F:=by obtain⟨k,r,s,j,l,B,a,b,c,d,e,f,i⟩:=c;exact⟨k,r,s,j,l,B,a.gr g,b,c,d,e.gr g,f,i⟩
def TabX(h:Hp)(p:Value)(N:Nat):Option Tab->Prop
 |none=>p=.pointer none|some T=>TabM h p N T
def CelX(h:Hp)(a b:Value)(c:Gra):Option (List Int×Bs)->Prop
 |none=>a=.pointer none/\b=.pointer none|some (m,F)=>CelM h a b c m F
theorem TabX.gr{h a:Hp}{p:Value}{N:Nat}{T:Option Tab}(t:TabX h p N T)(g:Gr h a):TabX a p N T:=by
 cases T with
 |none=>exact t|some T=>exact TabM.gr t g
theorem CelX.gr{h a:Hp}{b d:Value}{e:Gra}{C:Option (List Int×Bs)}(t:CelX h b d e C)(g:Gr h a):CelX a b d e C:=by
 cases C with
 |none=>exact t|some c=>exact CelM.gr t g
def ImC(h:Hp)(a b c d:Value)(I:Img):Prop:=(∃e,aX h e a I.g)/\jY I.g/\TabX h b I.g.nodes I.T/\CelX h c d I.g I.C
theorem ImC.gr{h a:Hp}{b c d e:Value}{I:Img}(i:ImC h b c d e I)(g:Gr h a):ImC a b c d e I:=⟨by obtain⟨f,n⟩:=i.1;exact⟨f,n.gr g⟩,i.2.1,i.2.2.1.gr g,i.2.2.2.gr g⟩
def ImAt(h:Hp)(b:Nat)(I:Img):Prop:= ∃a c d e,Row h b [a,c,d,e] 1/\ImC h a c d e I
theorem ImAt.gr{h a:Hp}{b:Nat}{I:Img}(i:ImAt h b I)(g:Gr h a):ImAt a b I:=by obtain⟨d,e,f,j,r,c⟩:=i;exact⟨d,e,f,j,r.gr g,c.gr g⟩
theorem TabM.ptr{h:Hp}{p:Value}{N:Nat}{T:Tab}(t:TabM h p N T): ∃b,p=ptrTo b:=by obtain⟨⟨m,t⟩,_⟩:=t;obtain⟨b,_,_,_,e,_⟩:=t.ex;exact⟨b,e⟩
theorem CelM.ptr{h:Hp}{a d:Value}{i:Gra}{m:List Int}{F:Bs}(c:CelM h a d i m F): ∃b c,a=ptrTo b/\d=ptrTo c:=by obtain⟨k,j,n,f,g,B,⟨b,_,e,_⟩,_,l,_⟩:=c;exact⟨b,j,e,l⟩
theorem aX.ptr{h:Hp}{a:Nat}{p:Value}{c:Gra}(n:aX h a p c): ∃b,p=ptrTo b:=by obtain⟨b,_,_,_,_,_,e,_⟩:=n.ex;exact⟨b,e⟩
theorem bSetG_ok{h0:Hp}(t:h0.t.Sized h0.n){k o b a c:Nat}{B:Nat->Nat}(m:eX h0 k o b a c B)(p:k≠o){r i:Nat}(d:b<=100)(e:a<=1000)(j:c=(a+7)/8)(x:Bool):
 Ret zM 41 [ptrTo k,.int .i64 (r:Nat),.int .i64 (i:Nat),.bool x] h0 fun v u=>Mo (· =o) h0 u/\ ∃w,eX u k o b a c w/\(Tz a c B->Tz a c w):=by
 by_cases l:r<b/\i<a
 . exact bSetZ_ok t m p l.1 l.2 d e j x
 have C: ∀{h:Hp} {f:Value},Gr h0 h->Fl f->aN zM 102 [ptrTo k,.int .i64 (r:Nat),.int .i64 (i:Nat),f] h (.bool false):=by
  intro h f g F;have S:=Si g.ok;have q:=m.gr g;have y: ¬(r:Int)<0:=by omega
  have D: ¬(i:Int)<0:=by omega
  by_cases G:r<b
  . have s: ¬(b:Int)<=(r:Int):=(by omega);have E:(a:Int)<=(i:Int):=(by omega);refine aa (n:=46) (rs:=[.tmp 8]) rfl Tryz.e102 rfl rfl rfl (lbt rfl) ?_;simp only [BZ,y,seval];refine ag (iQ S.ok q.bits) ?_;intro h g;replace S:=S.call g;clear g;simp only [BZ,s,D,seval];refine ag (iT S.ok (q.gr S.gr).bits) ?_;intro h g;replace S:=S.call g;clear g;simp only [BZ,ab,E,seval];exact S.gr
  . have s:(b:Int)<=(r:Int):=(by omega);refine aa (n:=46) (rs:=[.tmp 8]) rfl Tryz.e102 rfl rfl rfl (lbt rfl) ?_;simp only [BZ,y,seval];refine ag (iQ S.ok q.bits) ?_;intro h g;replace S:=S.call g;clear g;simp only [BZ,ab,s,seval];exact S.gr
 have S:=Si t;refine aa (n:=14) (rs:=[.tmp 8]) rfl Tryz.e41 rfl rfl rfl (lbt rfl) ?_;simp only [BZ,seval];refine ac (bW (by exact lP)) S ?_;clear S;intro h H S A;simp only [BZ,seval];refine ag (C S.gr fT) ?_;intro h g;replace S:=S.call g;clear g;simp only [BZ,seval];exact⟨S.gr.fr,B,m.gr S.gr,fun z=>z⟩
theorem eR.congr{h:Hp}{m n:Nat}{v:Value}{R f:Nat->List Int}(r:eR h m v n R)(e: ∀i,i<n->R i=f i):eR h m v n f:=by
 obtain⟨j,a,b,c,d⟩:=r;exact⟨j,a,b,c,fun i w g=>by
  have:=(List.getElem?_eq_some_iff.1 g).1;rw [<-e i (by omega)];exact d i w g⟩
theorem TabAt.congr{h:Hp}{m N:Nat}{p:Value}{l:List Int}{R Q a c:Nat->List Int}(t:TabAt h m p N l R Q)(d: ∀i,i<l.length->R i=a i)(e: ∀i,i<l.length->Q i=c i):TabAt h m p N l a c:=by obtain⟨b,f,g,j,k,n,o,q,r,s,u⟩:=t.ex;exact⟨b,f,g,j,k,n,o,q.congr d,r.congr e,s,u⟩
def tabL(l:List Int)(R Q:Nat->List Int):Tab:=⟨l,(Xo l.length).map R,(Xo l.length).map Q⟩
theorem jS{n i:Nat}{R:Nat->List Int}(h:i<n):n8 ((Xo n).map R) i=R i:=by unfold n8;simp [Xh,h]
theorem tabL_at{h:Hp}{m N:Nat}{p:Value}{l:List Int}{R Q:Nat->List Int}(t:TabAt h m p N l R Q):TabAt h m p N (tabL l R Q).l (n8 (tabL l R Q).to) (n8 (tabL l R Q).fr):=
 t.congr (fun i a=>(jS a).symm) (fun i a=>(jS a).symm)
theorem tabL_L{N:Nat}{l:List Int}{R Q:Nat->List Int}(d:eJ N l)(k:N<=1000)(c:1<=l.length)(e: ∀i,i<l.length->fV N (R i))(f: ∀i,i<l.length->fV N (Q i)):TabL N (tabL l R Q):=by
 have a: ∀{F:Nat->List Int},(∀i,i<l.length->fV N (F i))-> ∀r∈(Xo l.length).map F,r.length=N/\ ∀x∈r,0<=x/\x<=72057594037927936:=fun {F} g r h=>by obtain⟨i,b,rfl⟩:=List.mem_map.1 h;exact g i (List.mem_range.1 b)
 exact⟨c,d.1,by simp [tabL],by simp [tabL],a e,a f,fun x j=>by
  obtain⟨i,b,rfl⟩:=List.getElem_of_mem (l:=l) j;have:=d.2 i b;simp only [Xh,Xy b,Option.getD_some]at this;have c:=this.1;have m:=this.2.1;exact⟨c,by omega⟩⟩
theorem ownRows{h0:Hp}(d:h0.t.Sized h0.n){a:Gra}(b:Good a){f:Value}{g:Nat}(e:aX h0 g f a){l:List Int}(j:eJ a.nodes l){i:Nat}(k:i<l.length):fV a.nodes (toR a l i)/\fV a.nodes (frR a l i):=by have h:=j.2 i k;exact⟨⟨ry _ _ _,fun x c=>AP (fun v=>(exTo d b e (by omega) v).le) c⟩,ry _ _ _,fun x c=>AP (fun v=>(sV d b e (by omega) v).le) c⟩
theorem fits_im{h0:Hp}(h:h0.t.Sized h0.n){b d e:Value}{a:Gra}{i:Nat}{m:List Int}{F:Bs}(j:aX h0 i b a)(l:1<=a.nodes)(r:a.nodes<1000000)(c:CelM h0 d e a m F):aN zM 44 [b,d,e] h0 (.bool true):=by obtain⟨k,s,t,f,g,B,n,o,rfl,p,q,_⟩:=c;have:=uu h j (.inr ⟨⟨k,n⟩,rfl⟩) q.bits l (by omega);simpa [o,p]using this
theorem right_ok{h0:Hp}(G:h0.t.Sized h0.n){b:Nat}{I:Img}(i:ImAt h0 b I):aN zM 10 [ptrTo b] h0 (.bool true):=by
 have S:=Si G;obtain⟨U,H,J,K,r,⟨V,w⟩,x,f,a⟩:=i;obtain⟨W,rfl⟩:=w.ptr;have L:=r.lt G;have c:=r.load1 (o:=0) rfl;have d:=r.load1 (o:=1) rfl;have k:=r.load1 (o:=2) rfl;have p:=r.load1 (o:=3) rfl;have M:=x.n1;have X:=x.n2;cases N:I.T with
 | none=>
   rw [N]at f;have f:H=.pointer none:=f;subst f;cases y:I.C with
   | none=>
     rw [y]at a;obtain⟨rfl,rfl⟩:=a;refine aa (n:=72) (rs:=[.tmp 2]) rfl XZ rfl rfl rfl (lbt rfl) ?_;simp only [BZ,c,seval];refine ar (ax rfl) (q:=0) (ps:=[(10,14)]) (by kernel_rfl) ?_;simp only [BZ,cls,d,k,p,seval];refine⟨by simp only [aK,aS,aH,aU,aJ,ne_eq,not_false_eq_true,aW,aZ,aT,aM,bA,ca,aD,zO,ah,dh,seval];rfl,?_⟩;refine ar (ax rfl) (q:=0) (ps:=[]) (by kernel_rfl) ?_;simp only [BZ,cls,ab,seval];exact S.gr
   | some D=>
     obtain⟨m,F⟩:=D;rw [y]at a;have a:CelM h0 J K I.g m F:=a;obtain⟨Q,R,rfl,rfl⟩:=a.ptr;refine aa (n:=72) (rs:=[.tmp 2]) rfl XZ rfl rfl rfl (lbt rfl) ?_;simp only [BZ,c,seval];refine ar (ax rfl) (q:=0) (ps:=[(10,14)]) (by kernel_rfl) ?_;simp only [BZ,cls,d,k,seval];refine⟨by simp only [aK,aS,aH,aU,aJ,ne_eq,not_false_eq_true,aW,aZ,aT,aM,bA,ca,aD,zO,ah,dh,seval];rfl,?_⟩;refine ar (ax rfl) (q:=0) (ps:=[]) (by kernel_rfl) ?_;simp only [BZ,cls,c,k,p,seval];refine bM (fits_im S.ok w M (by omega) a) ?_;intro h g;have s:=ao g L;replace S:=S.call g;simp only [BZ,cls,ab,seval];exact S.gr
 | some T=>
   rw [N]at f;have f:TabM h0 H I.g.nodes T:=f;obtain⟨Y,rfl⟩:=f.ptr;obtain⟨⟨mt,B⟩,O⟩:=f;have t1:=O.l1;have t2:=O.l2;have P:(0:Int)<(T.l.length:Int):=(by omega);have q: ∀{t u C:Hp},Gr h0 t->Gr t u->Gr u C->leaves h0 t b=true/\leaves t u b=true/\leaves u C b=true:=fun e j l=>(by have:=e.n;have:=j.n;exact⟨ao e L,ao j (by omega),ao l (by omega)⟩);cases y:I.C with
   | none=>
     rw [y]at a;obtain⟨rfl,rfl⟩:=a;refine aa (n:=72) (rs:=[.tmp 2]) rfl XZ rfl rfl rfl (lbt rfl) ?_;simp only [BZ,c,seval];refine ar (ax rfl) (q:=0) (ps:=[(10,14)]) (by kernel_rfl) ?_;simp only [BZ,cls,d,seval];refine bM (kY S.ok B) ?_;intro t e;replace S:=S.call e;simp only [BZ,cls,e.load c,seval];refine bM (bS S.ok (w.gr S.gr)) ?_;intro u j;replace S:=S.call j;simp only [BZ,cls,S.gr.load d,seval];refine cu (jT S.ok (B.gr S.gr) (by omega)) ?_;rintro v C ⟨l,E,_⟩;obtain⟨s,z,A⟩:=q e j l;replace S:=S.call l;simp only [BZ,cls,E.lenq,P,S.gr.load c,S.gr.load d,S.gr.load k,S.gr.load p,seval];refine⟨by simp only [aK,aS,aH,aU,aJ,ne_eq,not_false_eq_true,aW,aZ,aT,aM,bA,ca,aD,zO,ah,dh,aF s,aB s,aF z,aB z,aF A,aB A,seval],?_⟩;refine ar (ax rfl) (q:=0) (ps:=[]) (by kernel_rfl) ?_;simp only [BZ,cls,ab,S.gr.load c,S.gr.load d,S.gr.load k,S.gr.load p,seval];exact S.gr
   | some D=>
     obtain⟨m,F⟩:=D;rw [y]at a;have a:CelM h0 J K I.g m F:=a;obtain⟨Q,R,rfl,rfl⟩:=a.ptr;refine aa (n:=72) (rs:=[.tmp 2]) rfl XZ rfl rfl rfl (lbt rfl) ?_;simp only [BZ,c,seval];refine ar (ax rfl) (q:=0) (ps:=[(10,14)]) (by kernel_rfl) ?_;simp only [BZ,cls,d,seval];refine bM (kY S.ok B) ?_;intro t e;replace S:=S.call e;simp only [BZ,cls,e.load c,seval];refine bM (bS S.ok (w.gr S.gr)) ?_;intro u j;replace S:=S.call j;simp only [BZ,cls,S.gr.load d,seval];refine cu (jT S.ok (B.gr S.gr) (by omega)) ?_;rintro v C ⟨l,E,_⟩;obtain⟨s,z,A⟩:=q e j l;replace S:=S.call l;simp only [BZ,cls,E.lenq,P,S.gr.load c,S.gr.load d,S.gr.load k,S.gr.load p,seval];refine⟨by simp only [aK,aS,aH,aU,aJ,ne_eq,not_false_eq_true,aW,aZ,aT,aM,bA,ca,aD,zO,ah,dh,aF s,aB s,aF z,aB z,aF A,aB A,seval],?_⟩;refine ar (ax rfl) (q:=0) (ps:=[]) (by kernel_rfl) ?_;simp only [BZ,cls,S.gr.load c,S.gr.load d,S.gr.load k,S.gr.load p,seval];have Z:=S.gr.n;refine bM (fits_im S.ok (w.gr S.gr) M (by omega) (a.gr S.gr)) ?_;intro h g;have e4:=ao g (show b<_ by omega);replace S:=S.call g;simp only [BZ,cls,ab,seval];exact S.gr
end Go.Ab
end
section
namespace Go.Ab
theorem St.growB{M:Nat->Prop}{h0 h:Hp}{L:List (Nat×Ob)}{G:List GL}(S:St M h0 h L G){E:Env}{t w e:TypeId}{f k m len b md:Nat}{y vs new:List Value}{x:Value}(C:Row h b vs md)(a:len*k=vs.length)(D:E.und t=some (.slice e))(F:eK E e f k y)(H:0<f)
 (q:d9 E w=some false) (g:aR h k x=some (m,new)) (z:m*k=new.length) (I:0<m) (A:0<k) (r:(vs.length+new.length)*(f+1)<=70368744177664) {ts:List TypeId}:
 ∃B v',dG E h (t::w::ts) (.slice (some ⟨b,0,none⟩) len len) x=some (B,v')/\St M h0 B L ((v',k,vs++new)::G):=by
 obtain⟨⟨i,J,rfl,rfl⟩,K,N⟩:=F;obtain⟨p,el,j,d,s⟩:=C;have l:Nat.ble (len+m) len=false:=by
  cases q:Nat.ble (len+m) len with
  |false=>rfl|true=>exact absurd (lbt q) (by omega)
 have o:len+m<=vs.length+new.length:=by rw [<-a,<-z];have I:=XS len A;have O:=XS m A;omega
 have c:(Nat.ble ((len+m)*(i.bytes+1)) 70368744177664&&Nat.blt 0 i.bytes)=true:=by rw [XW (XD (Nat.mul_le_mul_right _ o) r)];simp only [Bool.true_and];rw [XY];exact H
 have u:Nat.beq y.length i.size=true:=by rw [N];exact Nat.beq_refl _
 have v:jH p vs.length 0 (len*i.size) new=some (p.pushAll vs.length new,vs.length+new.length):=by unfold jH;rw [a,Nat.beq_refl vs.length];rfl
 refine⟨h.new (.cells (p.pushAll vs.length new) (vs.length+new.length) e 1),.slice (some ⟨h.n,0,some i.size⟩) (len+m) (len+m),?_,S.newG (n:=len+m) ?_ ?_⟩
 . unfold dG;simp only [q];unfold jP;simp only [D,J,g];unfold fH;rw [l];simp only [cond_false];rw [c,K];simp only [cond_true,u];unfold om;simp only [j,v]
 . rw [Nat.add_mul,a,z,XL]
 . refine⟨p.pushAll vs.length new,e,?_,?_,fun n=>?_⟩
   . rw [Hp.get_new _ _ S.ok,if_pos rfl,XL]
   . rw [XL];exact Tr.sized_pushAll _ d
   . rw [Tr.get_pushAll _ _ _ d,List.getElem?_append]
     split
     . exact s n
     . rfl
end Go.Ab

end
section
namespace Go.Ab
open Go.Proofs
set_option maxRecDepth 10000
theorem pos_first{ks:List Int}{x:Int}: ∀{i:Nat} (a:i<ks.length),ks[i]=x->(∀j (c:j<ks.length),j<i->ks[j]≠x)->pos ks x=some i:=by
 induction ks with
 |nil=>intro i a;simp at a| cons y k f=>
   intro i a b d;cases i with
   |zero=>simp only [List.getElem_cons_zero]at b;unfold pos;rw [if_pos b.symm]| succ i=>
     have g:y≠x:=d 0 (by simp) (by omega);have:=f (i:=i) (by simpa using a) (by simpa using b) (fun j c h=>by have:=d (j+1) (by simpa using c) (by omega);simpa using this);unfold pos;rw [if_neg (fun e=>g e.symm),this];rfl
theorem pos_no{ks:List Int}{x:Int}(a: ∀j (b:j<ks.length),ks[j]≠x):pos ks x=none:=by
 induction ks with
 |nil=>rfl| cons y f c=>
   have d:y≠x:=a 0 (by simp);unfold pos;rw [if_neg (fun e=>d e.symm),c (fun j b=>by have:=a (j+1) (by simpa using b);simpa using this)];rfl
theorem CG {h0:Hp} (ok:h0.t.Sized h0.n) {v:Value} {l:List Int} (L:av h0 1 (encI .i64) v l) (hl:l.length<1000):
 Ret zM 39 [v] h0 fun r A=>Gr h0 A/\av A 1 (encI .i64) r (norm [] l)/\ ∀c,aq r c->h0.n<=c:=by
 have S:=Si ok;have fv:=L.fl;refine aa (n:=46) (rs:=[.tmp 2]) rfl Tryz.e39 rfl rfl rfl (lbt rfl) ?_;simp only [BZ];replace S:=(S.nilG (k:=1)).nilG (k:=1);refine aV (fun(i:Nat) g h=>i<=l.length/\ ∃(M D:Value) (p ks:List Int),St NoM h0 h [] [(D,1,ints ks),(M,1,ints p)]/\norm [] l=p++norm ks (l.drop i)/\p.length=i/\ks.length<=i/\g 0=v/\g 3=M/\g 4=D/\g 5=.int .i64 i) (fun i=>l.length-i) ?_ 0 _ _ ?_
 . clear S;intro i X g h ⟨hi,M,D,p,ks,S,hnm,lo,lk,s,B,C,t⟩;have w:am .i64 ((i:Int)+1)=((i+1:Nat):Int):=(by rw [wrap64]<;>omega);by_cases hlt:i<l.length
   . have Y:l.drop i=l[i]::l.drop (i+1):=List.drop_eq_getElem_cons hlt;obtain⟨c0,o0,Q,Z⟩:=L.ix (kd:=.i64) (bG .i64) hlt;generalize l[i]=x at Y Z;simp only [BZ,s,t,L.lenq,az,hlt,seval];refine aV (fun(a:Nat) g A=>A=h/\a<=ks.length/\(∀j (G:j<ks.length),j<a->ks[j]≠x)/\g 0=v/\g 3=M/\g 4=D/\g 5=.int .i64 i/\g 6=.int .i64 a) (fun a=>ks.length-a) ?_ 0 _ _ ?_
     . clear s B C t;rintro a R g A ⟨rfl,ha,T,s,B,C,t,N⟩;have wa:am .i64 ((a:Int)+1)=((a+1:Nat):Int):=(by rw [wrap64]<;>omega);have O:av A 1 (encI .i64) D ks:=(S.gown _ m0).1.sl rfl (fun _=>rfl) (by decide);have E:A.load c0 o0 1=some [.int .i64 x]:=S.gr.load Z;have H: ∀(q:Nat) (z:List Int) (u d:Value) (U:Nat->Value) (F:Hp),q=og ks x->z=oa ks x->St NoM h0 F [] [(u,1,ints z),(d,1,ints (p++[(q:Int)]))]->norm [] l=(p++[(q:Int)])++norm z (l.drop (i+1)):=fun q z u d U F e1 e2 _=>(by rw [hnm,Y,norm,<-e1,<-e2,List.append_assoc];rfl);by_cases y:a<ks.length
       . obtain⟨c1,o1,x1,I⟩:=O.ix (kd:=.i64) (bG .i64) y;replace I:A.load c1 o1 1=some [.int .i64 ks[a]]:=I;by_cases P:ks[a]=x
         . simp only [BZ];refine ar (ax rfl) (q:=0) (ps:=[]) (by kernel_rfl) ?_;have V: ¬(a:Int)=(ks.length:Int):=(by omega);rw [P]at I;simp only [BZ,cls,ab,s,B,C,t,N,O.lenq,az,y,x1,I,Q,E,V,seval];refine ac (bV (by exact Tryz.t41.1) (by exact Xr) (by decide) (by rfl)) S ?_;clear S;intro h J S K;simp only [LC,a9,bQ,ae,Xq,Xi,Xf,Xu,seval]at S;simp only [BZ,seval];have ps:=pos_first y P T;have f:aR h 1 (.slice (some ⟨J,0,none⟩) 1 1)=some (1,ints [(a:Int)]):=(by simp only [aR];rw [S.lds (b:=J) (o:=0) (n:=1*1) m0 (lbt rfl)];rfl);replace S:=S.drop1;refine dP (S.grow (j:=1) (m:=1) (new:=ints [(a:Int)]) rfl Tryz.t41.1 Xr (by decide) Tryz.t41.2.2.2.2.2 f rfl (by decide) rfl (by rw [cd,cd];simp;omega)) ?_;clear S f;rintro F d S;simp only [LC]at S;rw [<-ir]at S;simp only [BZ,t,w,seval];refine X (i+1) _ _ (by omega) ⟨by omega,d,D,_,ks,S,H a ks D d g F (by unfold og;rw [ps]) (by unfold oa;rw [ps]) S,by simp [lo],by omega,by simp [aw,s,C]⟩
         . simp only [BZ];refine ar (ax rfl) (q:=0) (ps:=[]) (by kernel_rfl) ?_;simp only [BZ,cls,s,C,t,N,O.lenq,az,y,x1,I,Q,E,P,wa,seval];refine R (a+1) _ _ (by omega) ⟨rfl,by omega,fun j G af=>?_,by simp [aw,s,B,C,t]⟩;by_cases e:j=a
           . subst e;exact P
           . exact T j G (by omega)
       . have ea:a=ks.length:=(by omega);subst ea;have ps:=pos_no (ks:=ks) (x:=x) (fun j G=>T j G G);simp only [BZ];refine ar (ax rfl) (q:=0) (ps:=[]) (by kernel_rfl) ?_;simp only [BZ,cls,ab,s,B,C,t,N,O.lenq,az,y,Q,E,seval];refine ac (bV (by exact Tryz.t41.1) (by exact Xr) (by decide) (by rfl)) S ?_;clear S;intro h J S K;simp only [LC,a9,bQ,ae,Xq,Xi,Xf,Xu,seval]at S;simp only [BZ,seval];have f:aR h 1 (.slice (some ⟨J,0,none⟩) 1 1)=some (1,ints [x]):=(by simp only [aR];rw [S.lds (b:=J) (o:=0) (n:=1*1) m0 (lbt rfl)];rfl);replace S:=S.drop1;refine dP (S.grow (j:=0) (m:=1) (new:=ints [x]) rfl Tryz.t41.1 Xr (by decide) Tryz.t41.2.2.2.2.2 f rfl (by decide) rfl (by rw [cd,cd];simp;omega)) ?_;clear S f;rintro F u S;simp only [LC]at S;rw [<-ir]at S;simp only [BZ,B,N,seval];refine ac (bV (by exact Tryz.t41.1) (by exact Xr) (by decide) (by rfl)) S ?_;clear S;intro h bu S ad;simp only [LC,a9,bQ,ae,Xq,Xi,Xf,Xu,seval]at S;simp only [BZ,seval];have f:aR h 1 (.slice (some ⟨bu,0,none⟩) 1 1)=some (1,ints [((ks.length:Nat):Int)]):=(by simp only [aR];rw [S.lds (b:=bu) (o:=0) (n:=1*1) m0 (lbt rfl)];rfl);replace S:=S.drop1;refine dP (S.grow (j:=1) (m:=1) (new:=ints [((ks.length:Nat):Int)]) rfl Tryz.t41.1 Xr (by decide) Tryz.t41.2.2.2.2.2 f rfl (by decide) rfl (by rw [cd,cd];simp;omega)) ?_;clear S f;rintro F d S;simp only [LC]at S;rw [<-ir]at S;simp only [BZ,t,w,seval];refine X (i+1) _ _ (by omega) ⟨by omega,d,u,_,_,S,H ks.length _ u d g F (by unfold og;rw [ps]) (by unfold oa;rw [ps]) S,by simp [lo],by simp;omega,by simp [aw,s]⟩
     . exact⟨rfl,Xd _,fun j G h=>absurd h (by omega),by simp [aw,s,B,C,t]⟩
   . have W:i=l.length:=(by omega);simp only [BZ,ab,s,B,t,L.lenq,az,hlt,seval];rw [W,List.drop_length,norm,XU]at hnm;rw [hnm];exact⟨S.gr,(S.gown _ m1).1.sl rfl (fun _=>rfl) (by decide),fun c hc=>((S.gblk m1 hc).1).elim (fun h=>h) (fun h=>h.elim)⟩
 . exact⟨Xd _,_,_,[],[],S,rfl,rfl,XF _,by simp [aw,dh]⟩
def TabY(h:Hp)(k:Nat)(b:Prop)(p:Value)(a:Gra):Option Tab->Prop
 |none=>p=.pointer none|some T=>(∃m,k<m/\TabAt h m p a.nodes T.l (n8 T.to) (n8 T.fr))/\TabL a.nodes T/\T.l.length<=4/\eJ a.nodes T.l/\(b-> ∀i,i<T.l.length->n8 T.to i=toR a T.l i/\n8 T.fr i=frR a T.l i)
def CelY(h:Hp)(i:Prop)(b d:Value)(a:Gra):Option (List Int×Bs)->Prop
 |none=>b=.pointer none/\d=.pointer none|some (m,F)=>CelM h b d a m F/\ ∃j e k f l c g,b=ptrTo k/\d=ptrTo f/\gc h j b a.nodes m e/\fS m+1=((c:Nat):Int)/\c<=100/\eX h f l c a.arcs.length ((a.arcs.length+7)/8) g/\(i->OkB a e ((a.arcs.length+7)/8) c 0 g)
def Im32(h:Hp)(b:Nat)(I:Img)(f g:Prop):Prop:=Good I.g/\ ∃a c d e i,Row h b [ptrTo a,c,d,e] 1/\aX h i (ptrTo a) I.g/\TabY h 0 f c I.g I.T/\CelY h g d e I.g I.C
theorem b_andB2{E:Env}{t:TypeId}{p q:Operand}{x:Nat}(h:x<256):bF E .and t p q (.int .u8 (x:Int)) (.int .u8 1)=some (.int .u8 ((x%2:Nat):Int)):=by rw [<-Nat.and_one_is_mod];exact b_andN (k:=.u8) (x:=x) (y:=1) rfl (by simp only [pw];omega) (by decide)
theorem xF{a j:Nat}(g:a<=255)(b:j<8){E:Env}{t:TypeId}{p q:Operand}:bF E .and t p q (.int .u8 (a:Int)) (.int .u8 ((2 ^j:Nat):Int))=some (.int .u8 ((if a/2 ^j%2=1 then 2 ^j else 0:Nat):Int)):=by
 have h:=b_andN (E:=E) (t:=t) (p:=p) (q:=q) (k:=.u8) (x:=a) (y:=2 ^j) rfl (by simp only [pw];omega) (pow8 b);rw [h];congr 2;have:a&&& 2 ^j=if a/2 ^j%2=1 then 2 ^j else 0:=by
  refine Nat.eq_of_testBit_eq fun i=>?_;rw [Nat.testBit_and,Nat.testBit_two_pow];have c:a.testBit j=decide (a/2 ^j%2=1):=Nat.testBit_eq_decide_div_mod_eq ..
  by_cases e:j=i
  . subst e;rw [c];by_cases d:a/2 ^j%2=1<;>simp [d]
  . have f: ¬i=j:=fun h=>e h.symm
    split<;>simp [Nat.testBit_two_pow,e,f]
 rw [this]
theorem TabY.mo{M:Nat->Prop}{h d:Hp}{k:Nat}{e:Prop}{f:Gra}{p:Value}{T:Option Tab}(t:TabY h k e p f T)(g:Mo M h d)(i: ∀b,M b->b<=k):TabY d k e p f T:=by
 cases T with
 |none=>exact t| some T=>
   obtain⟨⟨m,a,b⟩,c⟩:=t;exact⟨⟨m,a,b.mo g (fun x j=>by have:=i x j;omega)⟩,c⟩
theorem TabY.fl{h:Hp}{k:Nat}{a:Prop}{c:Gra}{p:Value}{T:Option Tab}(t:TabY h k a p c T):Fl p:=by
 cases T with
 |none=>have t:p=.pointer none:=t;subst t;exact cP|some T=>obtain⟨⟨m,_,b⟩,_⟩:=t;obtain⟨_,_,_,_,rfl,_⟩:=b.ex;exact cP
def qU(O:List Int)(i:Nat):Int:=if O.length=0 then 0 else(O.getD (i%O.length) 0).tmod 4
theorem made32_ok {h0:Hp} (ok:h0.t.Sized h0.n) {vB vO vM vN q5 q6 q7:Value} {a:Nat} {B O ms X:List Int} (hB:SlW h0 .u8 vB B) (hO:SlW h0 .u8 vO O) (cO: ∀x∈O,0<=x/\x<=255) (hM:SlW h0 .u8 vM ms) (cv: ∀x∈ms,0<=x/\x<=255) (hN:SlW h0 .i64 vN X) (cN: ∀x∈X,-9223372036854775808<=x/\x<=9223372036854775807) (hh:a<=255):
 Ret zM 9 [.agg ⟨[vB,vO,vM,.int .u8 (a:Nat),vN,q5,q6,q7]⟩] h0 fun r V=>Gr h0 V/\ ∃b I,r=ptrTo b/\Im32 V b I (a/4%2=0) (a/8%2=0)/\I.T.isSome=decide (a%2=1)/\I.C.isSome=decide (a/2%2=1):=by
 have S:=Si ok;have fB:=hB.sl.fl;have fO:=hO.sl.fl;have fM:=hM.sl.fl;have fN:=hN.sl.fl;have mn:min (B.length:Int) 50=((min B.length 50:Nat):Int):=by omega
 obtain⟨b3,cx,sB,bB⟩:=hB.low (kd':=.i64) (n:=min B.length 50) Tryz.t22.1 Tryz.t5.2.2.1 (Nat.min_le_left _ _);have cA:=sB.fl;refine aa (n:=278) (rs:=[.tmp 2]) rfl Tryz.e9 rfl rfl rfl (lbt rfl) ?_;simp only [BZ,seval];refine ac (bg (by intro x e;cases e)) S ?_;clear S;intro h A S ef;simp only [ae]at S;simp only [BZ,Option.map_some,Option.map_none,hB.sl.lenq,mn,cx,cA,S.ld (b:=A) (o:=0) m0 rfl,seval];refine ac (bg (by intro x e;cases e)) S ?_;clear S;intro h bd S b5;simp only [ae]at S;have cI:av h 1 (encI .u8) b3 (B.take (min B.length 50)):=sB.gr S.gr;have nB: ¬aq b3 bd:=fun L=>by have:=sB.lt ok L;omega
 have cT:(B.take (min B.length 50)).length<1000000:=by rw [Xt];omega
 simp only [BZ,seval];have k0:=S.fr.n;have ap:=S.apart;simp only [keys,Xs,Xw,XC,XU,List.nodup_cons,XE,Xz,or_false,not_or]at ap;have es:=(S.row (b:=A) m1).lt S.ok;refine step_ret (raw_ok S.ok (S.row m0) ⟨cI,nB,cT,by omega⟩) ?_;rintro v h ⟨fr,u,vx,vy,va,rfl,af,ga,hz⟩;have n1:=af.n1;have n2:=af.n2;replace S:=S.drop1.step fr (fun c L=>by subst L;exact .inr b5) (fun c L e=>by simp [keys]at L;omega);have fx:=ga.X.fl;have fy:=ga.Y.fl;have fa:=ga.A.fl;have gS:=S.gr;have S0:=S;replace S:=S.base;simp only [BZ,kW];refine ac ay S ?_;clear S;intro h D S ei;simp only [BZ,seval];refine aC (S.store (i:=0) rfl Tryz.t60.2.1 (by intro x e;cases e) rfl (by simp only [ae,Xk,Xn,fx.2.1,fy.2.1,fa.2.1,zO];rfl) (lbt rfl) ono) ?_;clear S;rintro h ⟨S,mo⟩;simp only [LC,ae,lay,Xb,Xc,seval]at S;have cW:=ga.mo S.fr (fun c L Z=>by have:=hz c L;simp [keys]at Z;omega);simp only [BZ,Xg,Xe,Xl,S.lds (b:=D) (o:=0) (n:=4) m0 (lbt rfl),seval];have q4:=(S.row (b:=D) m0).lt S.ok;have q1:=(S.row (b:=A) m1).lt S.ok;refine step_ret (netNew_ok S.ok af.b cW) ?_;rintro v h ⟨p,rfl,g,hp⟩;replace S:=S.call g;clear g;obtain⟨P,rfl⟩:=hp.ptr;replace S:=S0.rebase S;have aL:=S.gr;have et:=S.ok;clear S0;replace S:=S.base;simp only [LC,keys,Xs,Xw,XC]at S;rename Hp=>hC0;have z4:=(S.row (b:=D) m0).lt S.ok;have z1:=(S.row (b:=A) m1).lt S.ok;simp only [BZ,seval];refine ac (bg (by intro x e;cases e)) S ?_;clear S;intro h F S b6;simp only [ae]at S;have d1:decide (((a%2:Nat):Int)=1)=decide (a%2=1):=decide_eq_decide.2 (by omega);have a2: ∀(t:TypeId) (p q:Operand),bF zM .and t p q (.int .u8 (a:Nat)) (.int .u8 2)=some (.int .u8 ((if a/2%2=1 then 2 else 0:Nat):Int)):=fun t p q=>xF hh (j:=1) (by decide);have d2:decide (((if a/2%2=1 then 2 else 0:Nat):Int)=2)=decide (a/2%2=1):=decide_eq_decide.2 (by split<;>omega);have a4: ∀(t:TypeId) (p q:Operand),bF zM .and t p q (.int .u8 (a:Nat)) (.int .u8 4)=some (.int .u8 ((if a/4%2=1 then 4 else 0:Nat):Int)):=fun t p q=>xF hh (j:=2) (by decide);have d4:decide (((if a/4%2=1 then 4 else 0:Nat):Int)=4)=decide (a/4%2=1):=decide_eq_decide.2 (by split<;>omega);have a8: ∀(t:TypeId) (p q:Operand),bF zM .and t p q (.int .u8 (a:Nat)) (.int .u8 8)=some (.int .u8 ((if a/8%2=1 then 8 else 0:Nat):Int)):=fun t p q=>xF hh (j:=3) (by decide);have d8:decide (((if a/8%2=1 then 8 else 0:Nat):Int)=8)=decide (a/8%2=1):=decide_eq_decide.2 (by split<;>omega);have n7:=b6;have nb: ∀c,c<h0.n-> ¬c∈[D,A]:=fun c L Z=>by simp only [XE,Xz,or_false]at Z;have:=gS.n;omega
 have cY: ∀c,c∈[D,A]->h0.n<=c:=fun c Z=>by simp only [XE,Xz,or_false]at Z;have:=gS.n;omega
 have c2: ∀c,aq vM c->c<h0.n:=fun c L=>hM.sl.lt ok L;have c4: ∀c,aq vO c->c<h0.n:=fun c L=>hO.sl.lt ok L;have bv: ∀c,aq vN c->c<h0.n:=fun c L=>hN.sl.lt ok L;have bk: ∀{N:Hp},Mo (· ∈[D,A]) hC0 N->aX N _ (ptrTo P) u:=fun f=>hp.mo f (fun c Z=>by simp only [XE,Xz,or_false]at Z;omega);simp only [BZ,b_andB2 (show a<256 by omega),d1,S.ld (b:=A) (o:=3) m2 rfl,seval];refine rS (fun s V=> ∃pt T,St (· ∈[D,A]) hC0 V [(F,.row [ptrTo P,pt,.pointer none,.pointer none] 1),(D,.row [.int .i64 u.nodes,vx,vy,va] 1),(A,.row [vB,vO,vM,.int .u8 (a:Nat),vN,q5,q6,q7] 1)] []/\TabY V F (a/4%2=0) pt u T/\T.isSome=decide (a%2=1)/\s 1=ptrTo A/\s 4=ptrTo D/\s 5=ptrTo P/\s 7=ptrTo F) ?_ ?_ ?_
 . intro a3;have c5:(u.nodes:Int)≠0:=(by omega);have e16:am .u8 ((a:Int).tdiv 16)=((a/16:Nat):Int):=(by rw [XM (by omega),show(a:Int)/16=((a/16:Nat):Int) by omega];exact q9 rfl (by simp only [pw];omega));have c6:am .i64 ((a/16:Nat):Int)=((a/16:Nat):Int):=(by rw [wrap64]<;>omega);have b8:((a/16:Nat):Int).tmod (u.nodes:Int)=((a/16%u.nodes:Nat):Int):=(by rw [Xa (by omega)];exact(Xj _ _).symm);have ev:a/16%u.nodes<u.nodes:=Xx _ (by omega);simp only [BZ,iV,cH,iZ,kT (n:=16) (by decide),e16,c6,iY c5,b8,S.ld (b:=A) (o:=3) m2 rfl,S.ld (b:=D) (o:=0) m1 rfl,seval];generalize ew:((a/16%u.nodes:Nat):Int)=x0;have br:0<=x0/\x0<u.nodes:=(by omega);refine ac (bV (by exact Tryz.t41.1) (by exact Xr) (by decide) (by rfl)) S ?_;clear S;intro h bt S em;simp only [LC,a9,bQ,ae,Xq,Xi,Xf,Xu,seval]at S;simp only [BZ,seval];refine rK (fun s V=> ∃(Y:Value) (l:List Int) (G:List GL),St (· ∈[D,A]) hC0 V [(bt,.row [.int .i64 x0] 1),(F,.row [ptrTo P,.pointer none,.pointer none,.pointer none] 1),(D,.row [.int .i64 u.nodes,vx,vy,va] 1),(A,.row [vB,vO,vM,.int .u8 (a:Nat),vN,q5,q6,q7] 1)] G/\((G=[]/\Y=.slice (some ⟨bt,0,none⟩) 1 1/\l=[x0])\/G=[(Y,1,ints l)])/\eJ u.nodes l/\1<=l.length/\l.length<=4/\s 1=ptrTo A/\s 4=ptrTo D/\s 5=ptrTo P/\s 7=ptrTo F/\s 8=Y)
    (fun(i:Nat) s V=>i<=ms.length/\i<=3/\ ∃(Y:Value) (l:List Int) (G:List GL),St (· ∈[D,A]) hC0 V [(bt,.row [.int .i64 x0] 1),(F,.row [ptrTo P,.pointer none,.pointer none,.pointer none] 1),(D,.row [.int .i64 u.nodes,vx,vy,va] 1),(A,.row [vB,vO,vM,.int .u8 (a:Nat),vN,q5,q6,q7] 1)] G/\((G=[]/\Y=.slice (some ⟨bt,0,none⟩) 1 1/\l=[x0])\/G=[(Y,1,ints l)])/\eJ u.nodes l/\1<=l.length/\l.length<=i+1/\s 1=ptrTo A/\s 4=ptrTo D/\s 5=ptrTo P/\s 7=ptrTo F/\s 8=Y/\s 9=.int .i64 i) (fun i=>ms.length-i) ?_ ?_ 0 ⟨Xd _,Xd _,_,[x0],[],S,.inl ⟨rfl,rfl,rfl⟩,(vg _).push (by simp) br.1 br.2 (by simp),XF _,by simp,by simp [aw,ah]⟩
   . clear S;intro i ih s V ⟨W,hi3,Y,l,G,S,hG,hl,hl0,hli,E,H,J,r7,r8,r9⟩;have b9:=(hM.sl.gr aL).mo S.fr (fun c L=>nb c (c2 c L));have a0: ∀(n:Nat) (d:List Deferred) (rc:Option (Value×Bool)) (an:Nat->Value),an 1=ptrTo A->an 4=ptrTo D->an 5=ptrTo P->an 7=ptrTo F->an 8=Y->JP n d rc (fun s V=> ∃(Y:Value) (l:List Int) (G:List GL),St (· ∈[D,A]) hC0 V [(bt,.row [.int .i64 x0] 1),(F,.row [ptrTo P,.pointer none,.pointer none,.pointer none] 1),(D,.row [.int .i64 u.nodes,vx,vy,va] 1),(A,.row [vB,vO,vM,.int .u8 (a:Nat),vN,q5,q6,q7] 1)] G/\((G=[]/\Y=.slice (some ⟨bt,0,none⟩) 1 1/\l=[x0])\/G=[(Y,1,ints l)])/\eJ u.nodes l/\1<=l.length/\l.length<=4/\s 1=ptrTo A/\s 4=ptrTo D/\s 5=ptrTo P/\s 7=ptrTo F/\s 8=Y) .normal (LL n an d rc) V:=fun n d rc an e1 e4 e5 e7 e8=>dT ⟨Y,l,G,S,hG,hl,hl0,by omega,e1,e4,e5,e7,e8⟩;have sR:av V 1 (encI .i64) Y l:=by
      rcases hG with⟨_,rfl,rfl⟩|rfl
      . exact .inr ⟨bt,0,none,1,rfl,XF _,S.lds (b:=bt) (o:=0) (n:=1*1) m0 (lbt rfl)⟩
      . exact(S.gown _ m0).1.sl rfl (fun _=>rfl) (by decide)
     by_cases hlt:i<ms.length
     . by_cases h3:i<3
       . have c3:(i:Int)<3:=(by omega);obtain⟨c,o,a5,bl⟩:=b9.ix (kd:=.i64) (bG .u8) hlt;have hx:=cv _ (XH hlt);obtain⟨x,ex⟩: ∃x:Nat,ms[i]=x:=⟨ms[i].toNat,by omega⟩;rw [ex]at bl hx;have nz:(u.nodes:Int)≠0:=(by omega);have wc:am .i64 (x:Int)=(x:Int):=(by rw [wrap64]<;>omega);have tm:(x:Int).tmod (u.nodes:Int)=((x%u.nodes:Nat):Int):=(by rw [Xa (by omega)];exact(Xj _ _).symm);have ai:x%u.nodes<u.nodes:=Xx _ (by omega);have w:am .i64 ((i:Int)+1)=((i+1:Nat):Int):=(by rw [wrap64]<;>omega);simp only [BZ,E,r9,hM.sl.lenq,az,hlt,c3,S.ld (b:=A) (o:=2) m3 rfl,seval];refine ar (ax rfl) (q:=0) (ps:=[]) (by kernel_rfl) ?_;simp only [BZ,iV,cH,iZ,cls,E,H,r9,a5,bl,encI,wc,iY nz,tm,S.ld (b:=D) (o:=0) m2 rfl,S.ld (b:=A) (o:=2) m3 rfl,seval];generalize x%u.nodes=v at ai;clear b9;refine aV (fun(k:Nat) s N=>k<=l.length/\N=V/\s 1=ptrTo A/\s 4=ptrTo D/\s 5=ptrTo P/\s 7=ptrTo F/\s 8=Y/\s 9=.int .i64 i/\s 10=.int .i64 v/\s 11=.bool (decide ((v:Int)∈l.take k))/\s 12=.int .i64 k) (fun k=>l.length-k) ?_ 0 _ _ ⟨Xd _,rfl,by simp [aw,E,ah,H,J,r7,r8,r9]⟩;clear E H J r7 r8 r9;rintro k cc s N ⟨hk,rfl,E,H,J,r7,r8,r9,bn,ad,bo⟩;have wk:am .i64 ((k:Int)+1)=((k+1:Nat):Int):=(by rw [wrap64]<;>omega);by_cases a1:k<l.length
         . have tk:l.take (k+1)=l.take k++[l[k]]:=List.take_succ_eq_append_getElem a1;by_cases Z:(v:Int)∈l.take k
           . rw [decide_eq_true Z]at ad;have da:(v:Int)∈l.take (k+1):=(by rw [tk];exact List.mem_append_left _ Z);simp only [BZ,r8,ad,bo,sR.lenq,az,a1,wk,seval];exact cc (k+1) _ _ (by omega) ⟨by omega,rfl,by simp [aw,E,ah,H,J,r7,r8,r9,bn,da]⟩
           . rw [decide_eq_false Z]at ad;obtain⟨c1,o1,i1,y1⟩:=sR.ix (kd:=.i64) (bG .i64) a1;have m2:decide (l[k]=(v:Int))=decide ((v:Int)∈l.take (k+1)):=decide_eq_decide.2 ⟨fun he=>by rw [tk,he];exact List.mem_append_right _ (List.mem_singleton.2 rfl),fun h=>by
              rw [tk]at h;rcases List.mem_append.1 h with h|h
              . exact absurd h Z
              . exact(List.mem_singleton.1 h).symm⟩
             simp only [BZ,r8,bn,ad,bo,sR.lenq,az,a1,wk,i1,y1,encI,m2,seval];exact cc (k+1) _ _ (by omega) ⟨by omega,rfl,by simp [aw,E,ah,H,J,r7,r8,r9,bn]⟩
         . have ek:k=l.length:=(by omega);subst ek;rw [XQ]at ad;by_cases Z:(v:Int)∈l
           . rw [decide_eq_true Z]at ad;simp only [BZ,r8,r9,ad,bo,sR.lenq,az,a1,w,seval];exact ih (i+1) _ _ (by omega) ⟨by omega,by omega,Y,l,G,S,hG,hl,hl0,by omega,by simp [aw,E,ah,H,J,r7,r8]⟩
           . rw [decide_eq_false Z]at ad;simp only [BZ,r8,r9,bn,ad,bo,sR.lenq,az,a1,seval];refine ac (bV (by exact Tryz.t41.1) (by exact Xr) (by decide) (by rfl)) S ?_;clear S;intro h bu S en;simp only [LC,a9,bQ,ae,Xq,Xi,Xf,Xu,seval]at S;simp only [BZ,seval];have bw:aR h 1 (.slice (some ⟨bu,0,none⟩) 1 1)=some (1,ints [(v:Int)]):=(by simp only [aR];rw [S.lds (b:=bu) (o:=0) (n:=1*1) m0 (lbt rfl)];rfl);replace S:=S.drop1;have cg: ∃h3 v',dG zM h [41,41] Y (.slice (some ⟨bu,0,none⟩) 1 1)=some (h3,v')/\St (· ∈[D,A]) hC0 h3 [(bt,.row [.int .i64 x0] 1),(F,.row [ptrTo P,.pointer none,.pointer none,.pointer none] 1),(D,.row [.int .i64 u.nodes,vx,vy,va] 1),(A,.row [vB,vO,vM,.int .u8 (a:Nat),vN,q5,q6,q7] 1)] [(v',1,ints (l++[(v:Int)]))]:=by
              rcases hG with⟨rfl,rfl,rfl⟩|rfl
              . rw [ir];exact St.growB S (b:=bt) (len:=1) (m:=1) (new:=ints [(v:Int)]) (S.row m0) rfl Tryz.t41.1 Xr (by decide) Tryz.t41.2.2.2.2.2 bw rfl (by decide) (by decide) (by rw [cd];exact lbt rfl)
              . rw [ir];exact S.grow (j:=0) (m:=1) (new:=ints [(v:Int)]) rfl Tryz.t41.1 Xr (by decide) Tryz.t41.2.2.2.2.2 bw rfl (by decide) rfl (by rw [cd,cd];simp;omega)
             refine dP cg ?_;clear S bw hG cg sR a0;rintro h db S;simp only [BZ,r9,w,seval];exact ih (i+1) _ _ (by omega) ⟨by omega,by omega,db,l++[(v:Int)],_,S,.inr rfl,hl.push (by omega) (by omega) (by omega) Z,by simp,by simp;omega,by simp [aw,E,ah,H,J,r7]⟩
       . have c3: ¬(i:Int)<3:=(by omega);simp only [BZ,E,r9,hM.sl.lenq,az,hlt,c3,S.ld (b:=A) (o:=2) m3 rfl,seval];exact a0 _ _ _ _ (by simp [aw,E,ah]) (by simp [aw,H,ah]) (by simp [aw,J,ah]) (by simp [aw,r7,ah]) (by simp [aw,r8])
     . simp only [BZ,E,r9,hM.sl.lenq,az,hlt,S.ld (b:=A) (o:=2) m3 rfl,seval];exact a0 _ _ _ _ (by simp [aw,E,ah]) (by simp [aw,H,ah]) (by simp [aw,J,ah]) (by simp [aw,r7,ah]) (by simp [aw,r8])
   clear S;intro s V ⟨Y,l,G,S,hG,hl,hl0,hl4,E,H,J,r7,r8⟩;have sR: ∀{x:Hp} {L':List (Nat×Ob)} {G':List GL},St (· ∈[D,A]) hC0 x L' G'->(bt,Ob.row [.int .i64 x0] 1)∈L'->(∀p∈G,p∈G')->av x 1 (encI .i64) Y l:=fun {x L' G'} U hL dc=>by
    rcases hG with⟨_,rfl,rfl⟩|rfl
    . exact .inr ⟨bt,0,none,1,rfl,XF _,U.lds (b:=bt) (o:=0) (n:=1*1) hL (lbt rfl)⟩
    . exact gf.sl (xs:=l) (enc:=encI .i64) (U.gown (Y,1,ints l) (dc _ m0)).1 rfl (fun _=>rfl) (by decide)
   have l1:1<=l.length:=hl0;have fR:Fl Y:=(sR S m0 (fun p hp=>hp)).fl;have k7: ∀{x:Hp} {L':List (Nat×Ob)} {G':List GL} {o:Ob},St (· ∈[D,A]) hC0 x L' G'->(F,o)∈L'->F<x.n:=fun U Z=>(U.own _ Z).2.lt U.ok;have kb: ∀c,c∈[D,A]->c<=F:=fun c Z=>(by simp only [XE,Xz,or_false]at Z;omega);simp only [BZ,J,r7,r8,seval];refine step_ret (tabOf_ok S.ok af (bk S.fr) (sR S m0 (fun p hp=>hp)) (by omega)) ?_;rintro pt h ⟨g,hT⟩;replace hT:=(hT.resolve_left (fun h=>h.1 hl)).2;have kn:=k7 S m1;replace S:=S.call g;have own: ∀i,i<l.length->fV u.nodes (toR u l i)/\fV u.nodes (frR u l i):=fun i W=>ownRows S.ok af (bk S.fr) hl W;have tY:TabY h F (a/4%2=0) pt u (some (tabL l (toR u l) (frR u l))):=⟨⟨_,kn,tabL_at hT⟩,tabL_L hl (by omega) l1 (fun i W=>(own i W).1) (fun i W=>(own i W).2),hl4,hl,fun _ i W=>⟨jS W,jS W⟩⟩;have bx:=tY.fl;simp only [BZ,seval];refine aC (aA S (i:=1) rfl Tryz.t32.2.2.1 bx (Xm (lbt rfl)) ono) ?_;clear S hT;rintro h ⟨S,mo⟩;simp only [LC,ae,lay,Xb,Xc,seval]at S;replace tY:=tY.mo mo (fun b e=>Nat.le_of_eq e);have dd: ∃b,pt=ptrTo b:=(by obtain⟨⟨m,_,x⟩,_⟩:=tY;obtain⟨b,_,_,_,e,_⟩:=x.ex;exact⟨b,e⟩);obtain⟨bT,rfl⟩:=dd;by_cases h4:a/4%2=1/\0<X.length
   . obtain⟨h4,hz⟩:=h4;have cN:(0<(X.length:Int))=True:=eq_true (by omega);have e4:decide (a/4%2=1)=true:=decide_eq_true h4;simp only [BZ,E,r7,a4,d4,e4,hN.sl.lenq,cN,S.ld (b:=A) (o:=3) m3 rfl,S.ld (b:=A) (o:=4) m3 rfl,S.ld (b:=F) (o:=1) m1 rfl,seval];obtain⟨⟨mT,_,tA⟩,tL,_⟩:=tY;have er: ∀i,i<l.length->fV u.nodes (toR u l i)/\fV u.nodes (frR u l i):=own;replace tA:TabAt _ mT (ptrTo bT) u.nodes l (toR u l) (frR u l):=tA.congr (fun i W=>jS W) (fun i W=>jS W);obtain⟨nB,bE⟩: ∃n,n=h.n:=⟨_,rfl⟩;have kS: ∀c∈keys [(bt,.row [.int .i64 x0] 1),(F,.row [ptrTo P,ptrTo bT,.pointer none,.pointer none] 1),(D,.row [.int .i64 u.nodes,vx,vy,va] 1),(A,.row [vB,vO,vM,.int .u8 (a:Nat),vN,q5,q6,q7] 1)] G,c<nB:=fun c L=>(by rw [bE];exact S.key_lt L);have gN:hC0.n<=nB:=(by rw [bE];exact S.fr.n);refine step_ret (Cr S.ok tA (by omega) (fun i W=>by rw [(own i W).1.1];omega) (fun i W=>by rw [(own i W).2.1];omega)) ?_;rintro _ h ⟨g,vT,vF,kk,rfl,DT,DF,y1,y2⟩;rw [<-bE]at DT y1;obtain⟨nE,de⟩: ∃n,n=h.n:=⟨_,rfl⟩;rw [<-de]at DF y2;replace S:=S.call g;obtain⟨ta,tn,tc,eT⟩:=DT.form;obtain⟨fa,fn,fc,eF⟩:=DF.form;simp only [BZ,seval];refine aV (fun(i:Nat) s N=>i<=l.length/\ ∃(R Q:Nat->List Int),St (· ∈[D,A]) hC0 N [(bt,.row [.int .i64 x0] 1),(F,.row [ptrTo P,ptrTo bT,.pointer none,.pointer none] 1),(D,.row [.int .i64 u.nodes,vx,vy,va] 1),(A,.row [vB,vO,vM,.int .u8 (a:Nat),vN,q5,q6,q7] 1)] G/\LLD N nB kk vT l.length R/\LLD N kk nE vF l.length Q/\(∀i,i<l.length->fV u.nodes (R i)/\fV u.nodes (Q i))/\s 1=ptrTo A/\s 4=ptrTo D/\s 5=ptrTo P/\s 7=ptrTo F/\s 8=Y/\s 13=vT/\s 14=vF/\s 15=.int .i64 i) (fun i=>l.length-i) ?_ 0 _ _ ⟨Xd _,_,_,S,DT,DF,own,by simp [aw,E,ah,H,J,r7,r8]⟩;clear S DT DF E H J r7 r8 g mo;intro i ih s N ⟨W,R,Q,S,DT,DF,hRQ,E,H,J,r7,r8,r13,r14,r15⟩;have w:am .i64 ((i:Int)+1)=((i+1:Nat):Int):=(by rw [wrap64]<;>omega);by_cases hlt:i<l.length
     . simp only [BZ,r8,r15,(sR S m0 (fun p hp=>hp)).lenq,az,hlt,seval];refine aV (fun(v:Nat) s N=>v<=u.nodes/\ ∃(R Q:Nat->List Int),St (· ∈[D,A]) hC0 N [(bt,.row [.int .i64 x0] 1),(F,.row [ptrTo P,ptrTo bT,.pointer none,.pointer none] 1),(D,.row [.int .i64 u.nodes,vx,vy,va] 1),(A,.row [vB,vO,vM,.int .u8 (a:Nat),vN,q5,q6,q7] 1)] G/\LLD N nB kk vT l.length R/\LLD N kk nE vF l.length Q/\(∀i,i<l.length->fV u.nodes (R i)/\fV u.nodes (Q i))/\s 1=ptrTo A/\s 4=ptrTo D/\s 5=ptrTo P/\s 7=ptrTo F/\s 8=Y/\s 13=vT/\s 14=vF/\s 15=.int .i64 i/\s 16=.int .i64 v) (fun v=>u.nodes-v) ?_ 0 _ _ ⟨Xd _,_,_,S,DT,DF,hRQ,by simp [aw,E,ah,H,J,r7,r8,r13,r14,r15]⟩;clear S DT DF hRQ E H J r7 r8 r13 r14 r15 R Q;intro v dj s N ⟨hv,R,Q,S,DT,DF,hRQ,E,H,J,r7,r8,r13,r14,r15,r16⟩;have wv:am .i64 ((v:Int)+1)=((v+1:Nat):Int):=(by rw [wrap64]<;>omega);by_cases ch:v<u.nodes
       . have a6:=(hN.sl.gr aL).mo S.fr (fun c L=>nb c (bv c L));have c0:(0:Int)<(X.length:Int):=(by omega);have cj:(X.length:Int)≠0:=(by omega);have w1:am .i64 ((i:Int)+(v:Int))=((i+v:Nat):Int):=(by rw [wrap64]<;>omega);have w2:am .i64 (3*(i:Int))=((3*i:Nat):Int):=(by rw [wrap64]<;>omega);have w4:am .i64 (2*(v:Int))=((2*v:Nat):Int):=(by rw [wrap64]<;>omega);have w3:am .i64 (((3*i:Nat):Int)+((2*v:Nat):Int))=((3*i+2*v:Nat):Int):=(by rw [wrap64]<;>omega);have dn:((i+v:Nat):Int).tmod (X.length:Int)=(((i+v)%X.length:Nat):Int):=(by rw [Xa (Int.natCast_nonneg _)];exact(Xj _ _).symm);have ds:((3*i+2*v:Nat):Int).tmod (X.length:Int)=(((3*i+2*v)%X.length:Nat):Int):=(by rw [Xa (Int.natCast_nonneg _)];exact(Xj _ _).symm);simp only [BZ,H,r16,az,ch,S.ld (b:=D) (o:=0) m2 rfl,seval];refine ar (ax rfl) (q:=0) (ps:=[]) (by kernel_rfl) ?_;have bP:R i≠ []:=fun e=>(by have:=(hRQ i hlt).1;rw [e]at this;have:=this.1;simp at this;omega);obtain⟨c,⟨q,o,e1,e2⟩,a7,dt,dv,ba⟩:=DT.at hlt bP;have bb:=(hRQ i hlt).1.1;have iv:kV (some 1) (.slice (some ⟨c,0,some 1⟩) (R i).length (R i).length) (.int .i64 (v:Nat))=some (.pointer (some ⟨c,v,none⟩)):=(by rw [mK,ju (by omega),s9,Xi,Xf]);obtain⟨cn,on,bc,ak⟩:=a6.ix (kd:=.i64) (bG .i64) (Xx (i+v) (show 0<X.length by omega));generalize X[(i+v)%X.length]'(Xx (i+v) (by omega))=z at ak;simp only [BZ,cls,E,r13,r15,r16,hN.sl.lenq,iY cj,w1,dn,e1,e2,bc,ak,encI,iv,S.ld (b:=A) (o:=4) m3 rfl,seval];have T:=St.init1 S.ok (o:=.row (ints (R i)) 1) a7;refine df (aA T (i:=0) rfl Tryz.t2.2.2.1 bR (by rw [cd];omega) ono) ?_;clear T;rintro h3 ⟨T,mo⟩;simp only [List.set_cons_zero,ints_set]at T;have kc: ∀b∈keys [(bt,.row [.int .i64 x0] 1),(F,.row [ptrTo P,ptrTo bT,.pointer none,.pointer none] 1),(D,.row [.int .i64 u.nodes,vx,vy,va] 1),(A,.row [vB,vO,vM,.int .u8 (a:Nat),vN,q5,q6,q7] 1)] G,b≠c:=fun b hb e=>(by have:=kS b hb;omega);replace S:=S.step mo (fun b e=>.inr (by have e:b=c:=e;omega)) (fun b hb e=>kc b hb e);have D1:=ba _ _ mo (XJ ..) (T.row m0);have D2:=DF.mo mo (fun b e=>by have e:b=c:=e;omega);have be:fV u.nodes ((R i).set v (min (max z 0) 72057594037927936)):=⟨by rw [XJ];exact bb,fun x hx=>by
          rcases XP hx with h|h
          . exact(hRQ i hlt).1.2 x h
          . omega⟩
         clear DT DF T ba a7 e2;simp only [BZ,seval];have dx:=be;have a6:=(hN.sl.gr aL).mo S.fr (fun c L=>nb c (bv c L));refine ar (ax rfl) (q:=0) (ps:=[]) (by kernel_rfl) ?_;have bP:Q i≠ []:=fun e=>(by have:=(hRQ i hlt).2;rw [e]at this;have:=this.1;simp at this;omega);obtain⟨c,⟨q,o,e1,e2⟩,a7,dt,dv,ba⟩:=D2.at hlt bP;have bb:=(hRQ i hlt).2.1;have iv:kV (some 1) (.slice (some ⟨c,0,some 1⟩) (Q i).length (Q i).length) (.int .i64 (v:Nat))=some (.pointer (some ⟨c,v,none⟩)):=(by rw [mK,ju (by omega),s9,Xi,Xf]);obtain⟨cn,on,bc,ak⟩:=a6.ix (kd:=.i64) (bG .i64) (Xx (3*i+2*v) (show 0<X.length by omega));generalize X[(3*i+2*v)%X.length]'(Xx (3*i+2*v) (by omega))=z at ak;simp only [BZ,cls,E,r14,r15,r16,hN.sl.lenq,iY cj,w2,w4,w3,ds,e1,e2,bc,ak,encI,iv,S.ld (b:=A) (o:=4) m3 rfl,seval];have T:=St.init1 S.ok (o:=.row (ints (Q i)) 1) a7;refine df (aA T (i:=0) rfl Tryz.t2.2.2.1 bR (by rw [cd];omega) ono) ?_;clear T;rintro h3 ⟨T,mo⟩;simp only [List.set_cons_zero,ints_set]at T;have kc: ∀b∈keys [(bt,.row [.int .i64 x0] 1),(F,.row [ptrTo P,ptrTo bT,.pointer none,.pointer none] 1),(D,.row [.int .i64 u.nodes,vx,vy,va] 1),(A,.row [vB,vO,vM,.int .u8 (a:Nat),vN,q5,q6,q7] 1)] G,b≠c:=fun b hb e=>(by have:=kS b hb;omega);replace S:=S.step mo (fun b e=>.inr (by have e:b=c:=e;omega)) (fun b hb e=>kc b hb e);have D3:=ba _ _ mo (XJ ..) (T.row m0);have D4:=D1.mo mo (fun b e=>by have e:b=c:=e;omega);have be:fV u.nodes ((Q i).set v (min (max z 0) 72057594037927936)):=⟨by rw [XJ];exact bb,fun x hx=>by
          rcases XP hx with h|h
          . exact(hRQ i hlt).2.2 x h
          . omega⟩
         clear D2 D1 T ba a7 e2;simp only [BZ,r16,wv,seval];exact dj (v+1) _ _ (by omega) ⟨by omega,_,_,S,D4,D3,fun j hj=>⟨by
          by_cases ej:j=i
          . subst ej;simp only [if_true];exact dx
          . simp only [if_neg ej];exact(hRQ j hj).1,by
          by_cases ej:j=i
          . subst ej;simp only [if_true];exact be
          . simp only [if_neg ej];exact(hRQ j hj).2⟩,by simp [aw,E,ah,H,J,r7,r8,r13,r14,r15]⟩
       . simp only [BZ,H,r7,r8,r13,r14,r15,r16,az,ch,w,S.ld (b:=D) (o:=0) m2 rfl,seval];exact ih (i+1) _ _ (by omega) ⟨by omega,R,Q,S,DT,DF,hRQ,by simp [aw,E,ah,H,J,r7,r8,r13,r14]⟩
     . simp only [BZ,H,r7,r8,r13,r14,r15,(sR S m0 (fun p hp=>hp)).lenq,az,hlt,S.ld (b:=D) (o:=0) m2 rfl,seval];refine step_ret (make_ok S.ok (sR S m0 (fun p hp=>hp)) DT.ll DF.ll (by omega) (by omega) hl (fun i W=>(hRQ i W).1) (fun i W=>(hRQ i W).2)) ?_;rintro pt h ⟨g,hT⟩;have kn:=k7 S m1;replace S:=S.call g;have tY:TabY h F (a/4%2=0) pt u (some (tabL l R Q)):=⟨⟨_,kn,tabL_at hT⟩,tabL_L hl (by omega) l1 (fun i W=>(hRQ i W).1) (fun i W=>(hRQ i W).2),hl4,hl,fun h=>absurd h (by omega)⟩;have bx:=tY.fl;simp only [BZ,seval];refine aC (aA S (i:=1) rfl Tryz.t32.2.2.1 bx (Xm (lbt rfl)) ono) ?_;clear S hT;rintro h ⟨S,mo⟩;simp only [LC,ae,lay,Xb,Xc,seval]at S;replace tY:=tY.mo mo (fun b e=>Nat.le_of_eq e);simp only [BZ];refine dT ⟨_,_,(?_ :St (· ∈[D,A]) hC0 _ _ []),tY,?_,by simp [aw,E,ah,H,J,r7]⟩
       . exact S.sub (Xv _ _) (XI _)
       . rw [a3];rfl
   . by_cases ck:a/4%2=1
     . have e4:decide (a/4%2=1)=true:=decide_eq_true ck;have cN:(0<(X.length:Int))=False:=eq_false (by omega);simp only [BZ,E,r7,a4,d4,e4,hN.sl.lenq,cN,S.ld (b:=A) (o:=3) m3 rfl,S.ld (b:=A) (o:=4) m3 rfl,S.ld (b:=F) (o:=1) m1 rfl,seval];exact dT ⟨_,_,S.sub (Xv _ _) (XI _),tY,by rw [a3];rfl,by simp [aw,E,ah,H,J,r7]⟩
     . have e4:decide (a/4%2=1)=false:=decide_eq_false ck;simp only [BZ,E,a4,d4,e4,S.ld (b:=A) (o:=3) m3 rfl,seval];exact dT ⟨_,_,S.sub (Xv _ _) (XI _),tY,by rw [a3];rfl,by simp [aw,E,ah,H,J,r7]⟩
 . intro a3;simp only [BZ];exact dT ⟨_,none,S,rfl,by rw [a3];rfl,by simp [aw,ah]⟩
 clear S;intro s hA ⟨pt,T,S,tY,hTs,E,H,J,r7⟩;simp only [BZ,E,a2,d2,S.ld (b:=A) (o:=3) m2 rfl,seval];refine rS (fun s V=> ∃pc pf C,St (· ∈[D,A]) hC0 V [(F,.row [ptrTo P,pt,pc,pf] 1),(D,.row [.int .i64 u.nodes,vx,vy,va] 1),(A,.row [vB,vO,vM,.int .u8 (a:Nat),vN,q5,q6,q7] 1)] []/\TabY V F (a/4%2=0) pt u T/\CelY V (a/8%2=0) pc pf u C/\C.isSome=decide (a/2%2=1)/\s 1=ptrTo A/\s 4=ptrTo D/\s 5=ptrTo P/\s 7=ptrTo F) ?_ ?_ ?_
 . intro bf;simp only [BZ];have S9:=S;replace S:=S.base;simp only [LC,keys,Xs,Xw,XC]at S;have hq: ∀{N:Hp},Mo (· ∈[F,D,A]) hA N->Mo (· ∈[D,A]) hC0 N:=fun f=>S9.fr.trans f (fun c L=>by
    rcases List.mem_cons.1 L with rfl|L
    . exact .inr n7
    . exact .inl L)
   have kb: ∀c,c∈[F,D,A]->c<=F:=fun c Z=>(by simp only [XE,Xz,or_false]at Z;omega);replace S:=S.nilG (k:=1);refine aV (fun(i:Nat) s h=>i<=u.nodes/\ ∃vQ,St (· ∈[F,D,A]) hA h [(F,.row [ptrTo P,pt,.pointer none,.pointer none] 1),(D,.row [.int .i64 u.nodes,vx,vy,va] 1),(A,.row [vB,vO,vM,.int .u8 (a:Nat),vN,q5,q6,q7] 1)] [(vQ,1,ints ((Xo i).map (qU O)))]/\s 1=ptrTo A/\s 4=ptrTo D/\s 5=ptrTo P/\s 7=ptrTo F/\s 17=vQ/\s 18=.int .i64 i) (fun i=>u.nodes-i) ?_ 0 _ _ ⟨Xd _,_,S,by simp [aw,E,ah,H,J,r7]⟩;clear S;clear E H J r7;intro i ih s h ⟨W,vQ,S,E,H,J,r7,r17,r18⟩;have w:am .i64 ((i:Int)+1)=((i+1:Nat):Int):=(by rw [wrap64]<;>omega);have dF:=(hO.sl.gr aL).mo (hq S.fr) (fun c L=>nb c (c4 c L));by_cases hlt:i<u.nodes
   . by_cases cl:O.length=0
     . have c0: ¬(0:Int)<(O.length:Int):=(by omega);simp only [BZ,E,H,r17,r18,az,hlt,hO.sl.lenq,c0,S.ld (b:=D) (o:=0) m1 rfl,S.ld (b:=A) (o:=1) m2 rfl,seval];refine ac (bV (by exact Tryz.t41.1) (by exact Xr) (by decide) (by rfl)) S ?_;clear S;intro h bs S cm;simp only [LC,a9,bQ,ae,Xq,Xi,Xf,Xu,seval]at S;simp only [BZ,seval];refine dP (S.grow (j:=0) (m:=1) (new:=ints [(0:Int)]) rfl Tryz.t41.1 Xr (by decide) Tryz.t41.2.2.2.2.2 (by simp only [aR];rw [S.lds (b:=bs) (o:=0) (n:=1*1) m0 (lbt rfl)];rfl) rfl (by decide) rfl (by rw [cd,cd];simp;omega)) ?_;clear S;rintro h bX S;simp only [LC]at S;replace S:=S.drop1;rw [<-ir]at S;simp only [BZ,r18,w,seval];refine ih (i+1) _ _ (by omega) ⟨by omega,bX,?_,by simp [aw,E,ah,H,J,r7]⟩;rw [List.range_succ,List.map_append,List.map_singleton,show qU O i=(0:Int)from by unfold qU;rw [if_pos cl]];exact S
     . have c0:(0:Int)<(O.length:Int):=(by omega);have ai:i%O.length<O.length:=Xx _ (by omega);have tm:(i:Int).tmod (O.length:Int)=((i%O.length:Nat):Int):=(by rw [Xa (by omega)];exact(Xj _ _).symm);obtain⟨c,o,a5,bl⟩:=dF.ix (kd:=.i64) (bG _) ai;have cz:(O.length:Int)≠0:=(by omega);have hx:=cO _ (XH ai);have t4:(O[i%O.length]).tmod 4=O[i%O.length]%4:=Xa hx.1;have wc:am .i64 ((O[i%O.length]).tmod 4)=(O[i%O.length]).tmod 4:=(by rw [wrap64]<;>omega);simp only [BZ,E,H,r18,az,hlt,hO.sl.lenq,c0,S.ld (b:=D) (o:=0) m1 rfl,S.ld (b:=A) (o:=1) m2 rfl,seval];refine ar (ax rfl) (q:=0) (ps:=[]) (by kernel_rfl) ?_;simp only [BZ,iV,cH,iZ,cls,E,r17,r18,hO.sl.lenq,iY cz,tm,a5,bl,encI,iY (n:=4) (by decide),wc,S.ld (b:=A) (o:=1) m2 rfl,seval];refine ac (bV (by exact Tryz.t41.1) (by exact Xr) (by decide) (by rfl)) S ?_;clear S;intro h bs S cm;simp only [LC,a9,bQ,ae,Xq,Xi,Xf,Xu,seval]at S;simp only [BZ,seval];refine dP (S.grow (j:=0) (m:=1) (new:=ints [(O[i%O.length]).tmod 4]) rfl Tryz.t41.1 Xr (by decide) Tryz.t41.2.2.2.2.2 (by simp only [aR];rw [S.lds (b:=bs) (o:=0) (n:=1*1) m0 (lbt rfl)];rfl) rfl (by decide) rfl (by rw [cd,cd];simp;omega)) ?_;clear S;rintro h bX S;simp only [LC]at S;replace S:=S.drop1;rw [<-ir]at S;simp only [BZ,r18,w,seval];refine ih (i+1) _ _ (by omega) ⟨by omega,bX,?_,by simp [aw,E,ah,H,J,r7]⟩;rw [List.range_succ,List.map_append,List.map_singleton,show qU O i=(O[i%O.length]).tmod 4 from by unfold qU;rw [if_neg cl];simp [Xh,ai]];exact S
   . have dO :i=u.nodes:=(by omega);simp only [BZ,H,r7,r17,r18,az,hlt,S.ld (b:=D) (o:=0) m1 rfl,seval];generalize hL:(Xo i).map (qU O)=Ls at S;have lL:Ls.length=u.nodes:=(by rw [<-hL];simp [dO]);have bL:=lmax_bd (K:=((0+Ls.length:Nat):Int)) (by omega) (norm_bd [] Ls);have nl:=Ao [] Ls;have bY: ¬vr (norm [] Ls):=by
      rintro(h|h|h)
      . rw [h]at nl;simp at nl;omega
      . exact h (norm_idem [] Ls)
      . omega
     have sl:av h 1 (encI .i64) vQ Ls:=(S.gown _ m0).1.sl rfl (fun _=>rfl) (by decide);refine step_ret (CG S.ok sl (by omega)) ?_;rintro v1 hP ⟨g1,s1,q1⟩;replace S:=S.call g1;simp only [BZ,seval];have k7:=S.key_lt (b:=F) (by simp [keys]);refine step_ret (CW S.ok s1 (by omega) (by omega)) ?_;rintro v2 hR ⟨g2,d0⟩;obtain⟨_,bh⟩:=d0.resolve_left (fun h=>bY h.1);replace S:=S.call g2;obtain⟨cb,d3⟩: ∃b,v2=ptrTo b:=(by obtain⟨b,_,e,_⟩:=bh;exact⟨b,e⟩);subst d3;have d5:=norm_bd [] Ls;have lm:(norm [] Ls).length=u.nodes:=(by omega);have mz: ∀x∈norm [] Ls,0<=x/\x<256:=fun x hx=>(by have:=d5 x hx;simp only [List.length_nil]at this;omega);generalize norm [] Ls=m at bh bL bY lm mz;have d7: ∃c:Nat->Nat,∀v,v<u.nodes->m.getD v 0=(c v:Int):=⟨fun v=>(m.getD v 0).toNat,fun v hv=>by
      have cp:v<m.length:=(by omega);have:=(mz _ (XH cp)).1;have e:m.getD v 0=m[v]:=(by rw [Xh,Xy cp,Option.getD_some]);show m.getD v 0=((m.getD v 0).toNat:Int);rw [e];omega⟩
     obtain⟨cf,cr⟩:=d7;obtain⟨Mc,b0⟩: ∃M:Nat,fS m+1=(M:Int):=⟨(fS m+1).toNat,by omega⟩;replace S:St (· ∈[F,D,A]) hA hR [(F,.row [ptrTo P,pt,.pointer none,.pointer none] 1),(D,.row [.int .i64 u.nodes,vx,vy,va] 1),(A,.row [vB,vO,vM,.int .u8 (a:Nat),vN,q5,q6,q7] 1)] []:=S.sub (List.Sublist.refl _) (XI _);have S8:=S;have kz:F<hR.n:=(S8.own _ m0).2.lt S8.ok;replace S:=S.base;simp only [LC,keys,Xs,Xw,XC]at S;have b2: ∀{N:Hp},Mo (· ∈[F,D,A]) hR N->Mo (· ∈[F,D,A]) hA N:=fun f=>S8.fr.trans f (fun c L=>.inl L);have bi: ∀{N:Hp},Mo (· ∈[F,D,A]) hR N->ja N _ (ptrTo cb) m:=fun f=>bh.mo f (fun c L=>by have:=kb c L;omega);simp only [BZ,seval];refine aC (aA S (i:=0) rfl Tryz.t33.2.2.1 cP (Xm (lbt rfl)) ono) ?_;clear S;rintro h ⟨S,_⟩;simp only [LC,ae,lay,Xb,Xc,seval]at S;simp only [BZ,J,r7,S.ld (b:=F) (o:=2) m0 rfl,seval];have kh:=S.fr.n;refine step_ret (ofB_ok S.ok af (bk (hq (b2 S.fr))) ⟨bi S.fr,lm,cr⟩ b0 (by omega)) ?_;rintro _ h ⟨g6,fp,fb,Bt,rfl,nf,ey,cs,BN,oB⟩;replace S:=S.call g6;have tz:Tz u.arcs.length ((u.arcs.length+7)/8) Bt:=fun r i h1 N=>by
      cases hb:fj Bt ((u.arcs.length+7)/8) r i with
      |false=>rfl| true=>
        rcases(oB r i N).1 hb with⟨_,h⟩|⟨_,h⟩
        . have:=xZ h;omega
        . simp at h
     simp only [BZ,seval];refine aC (aA S (i:=0) rfl Tryz.t34.2.2.1 cP (Xm (lbt rfl)) ono) ?_;clear S;rintro h ⟨S,mo⟩;simp only [LC,ae,lay,Xb,Xc,seval]at S;have bq:eX h fp fb Mc u.arcs.length ((u.arcs.length+7)/8) Bt:=⟨mo.has (o:=.row _ 1) BN.r (fun e=>by have e:fp=F:=e;omega),mo.has (o:=.row _ 1) BN.b (fun e=>by have e:fb=F:=e;omega),BN.lt⟩;have ea:=oB;clear BN mo oB;have a0: ∀{N:Hp} {B:Nat->Nat},Mo (· ∈[F,D,A]) hR N->eX N fp fb Mc u.arcs.length ((u.arcs.length+7)/8) B->Tz u.arcs.length ((u.arcs.length+7)/8) B->(a/8%2=0->B=Bt)->TabY N F (a/4%2=0) pt u T/\CelY N (a/8%2=0) (ptrTo cb) (ptrTo fp) u (some (m,byB (Mc*((u.arcs.length+7)/8)) B)):=fun f b z hb=>⟨tY.mo (b2 f) kb,⟨_,fp,fb,Mc,_,_,bi f,lm,rfl,b0,b,rfl,mz,bY,rfl,z⟩,_,cf,cb,fp,fb,Mc,_,rfl,rfl,⟨bi f,lm,cr⟩,b0,by omega,b,fun h=>by rw [hb h];exact ea⟩;by_cases h8:a/8%2=1
     . have e8:decide (a/8%2=1)=true:=decide_eq_true h8;simp only [BZ];refine rK (fun s V=> ∃B,St (· ∈[F,D,A]) hR V [(F,.row [ptrTo P,pt,ptrTo cb,ptrTo fp] 1),(D,.row [.int .i64 u.nodes,vx,vy,va] 1),(A,.row [vB,vO,vM,.int .u8 (a:Nat),vN,q5,q6,q7] 1)] []/\eX V fp fb Mc u.arcs.length ((u.arcs.length+7)/8) B/\Tz u.arcs.length ((u.arcs.length+7)/8) B/\s 1=ptrTo A/\s 4=ptrTo D/\s 5=ptrTo P/\s 7=ptrTo F)
        (fun(i:Nat) s V=>i<=X.length/\i<=9/\ ∃B,St (· ∈[F,D,A]) hR V [(F,.row [ptrTo P,pt,ptrTo cb,ptrTo fp] 1),(D,.row [.int .i64 u.nodes,vx,vy,va] 1),(A,.row [vB,vO,vM,.int .u8 (a:Nat),vN,q5,q6,q7] 1)] []/\eX V fp fb Mc u.arcs.length ((u.arcs.length+7)/8) B/\Tz u.arcs.length ((u.arcs.length+7)/8) B/\s 1=ptrTo A/\s 4=ptrTo D/\s 5=ptrTo P/\s 7=ptrTo F/\s 20=.int .i64 i) (fun i=>X.length-i) ?_ ?_ 0 ⟨Xd _,Xd _,Bt,S,bq,tz,by simp [aw,E,ah,H,J,r7]⟩
       . clear S bq tz ih E H J r7 r17 r18 w;intro i ih s N ⟨W,hi9,B,S,bm,tz,E,H,J,r7,al⟩;have w:am .i64 ((i:Int)+1)=((i+1:Nat):Int):=(by rw [wrap64]<;>omega);by_cases hlt:i<X.length
         . by_cases h9:i<9
           . have c9:(i:Int)<9:=(by omega);have a6:=(hN.sl.gr aL).mo (hq (b2 S.fr)) (fun c L=>nb c (bv c L));obtain⟨cn,on,bc,ak⟩:=a6.ix (kd:=.i64) (bG .i64) hlt;generalize X[i]=z at ak;have w5:am .i64 ((u64 z%4:Nat):Int)=((u64 z%4:Nat):Int):=(by rw [wrap64]<;>omega);have m5:((u64 z:Nat):Int).tmod 4=((u64 z%4:Nat):Int):=(by rw [Xa (by omega)];exact(Xj _ _).symm);have q5:am .u64 (((u64 z:Nat):Int).tdiv 4)=((u64 z/4:Nat):Int):=(by have:=u64_lt z;rw [XM (by omega),show((u64 z:Int)/4)=((u64 z/4:Nat):Int) by omega,q9 rfl];simp only [pw];omega);have eb:((u64 z/4:Nat):Int).tmod 40=((u64 z/4%40:Nat):Int):=(by rw [Xa (by omega)];exact(Xj _ _).symm);have ec:am .i64 ((u64 z/4%40:Nat):Int)=((u64 z/4%40:Nat):Int):=(by rw [wrap64]<;>omega);simp only [BZ,E,al,hN.sl.lenq,az,hlt,c9,a8,d8,e8,S.ld (b:=A) (o:=4) m2 rfl,S.ld (b:=A) (o:=3) m2 rfl,seval];refine ar (ax rfl) (q:=0) (ps:=[]) (by kernel_rfl) ?_;simp only [BZ,iV,cH,iZ,cls,E,r7,al,bc,ak,encI,wrap_u64,iY (n:=4) (by decide),kT (n:=4) (by decide),iY (n:=40) (by decide),iY (n:=2) (by decide),w5,m5,q5,eb,ec,S.ld (b:=A) (o:=4) m2 rfl,S.ld (b:=F) (o:=3) m0 rfl,seval];refine cu (bSetG_ok S.ok bm cs (by omega) (by have:=af.many;omega) rfl _) ?_;rintro _ h3 ⟨mo,B',ed,ee⟩;replace S:=S.step mo (fun b e=>.inr (by have e:b=fb:=e;omega)) (fun b hb e=>by
              have e:b=fb:=e;simp only [keys,Xs,Xw,XC,XU]at hb;have:=kb b hb;omega)
             simp only [BZ,al,w,seval];exact ih (i+1) _ _ (by omega) ⟨by omega,by omega,B',S,ed,ee tz,by simp [aw,E,ah,H,J,r7]⟩
           . have c9: ¬(i:Int)<9:=(by omega);simp only [BZ,E,al,hN.sl.lenq,az,hlt,c9,S.ld (b:=A) (o:=4) m2 rfl,seval];exact dT ⟨B,S,bm,tz,by simp [aw,E,ah,H,J,r7]⟩
         . simp only [BZ,E,al,hN.sl.lenq,az,hlt,S.ld (b:=A) (o:=4) m2 rfl,seval];exact dT ⟨B,S,bm,tz,by simp [aw,E,ah,H,J,r7]⟩
       . clear S bq tz E H J r7 r17 r18;rintro s N ⟨B,S,bm,tz,E,H,J,r7⟩;obtain⟨f1,f2⟩:=a0 S.fr bm tz (fun h=>absurd h (by omega));simp only [BZ];exact dT ⟨_,_,some _,S9.rebase (S8.rebase S),f1,f2,by rw [bf];rfl,by simp [aw,E,ah,H,J,r7]⟩
     . have e8:decide (a/8%2=1)=false:=decide_eq_false h8;obtain⟨f1,f2⟩:=a0 S.fr bq tz (fun _=>rfl);simp only [BZ];refine aV (fun(i:Nat) s V=>i=0/\V=_/\s 1=ptrTo A/\s 4=ptrTo D/\s 5=ptrTo P/\s 7=ptrTo F/\s 20=.int .i64 0) (fun _=>0) ?_ 0 _ _ ⟨rfl,rfl,by simp [aw,E,ah,H,J,r7]⟩;clear E H J r7;rintro i ih s _ ⟨rfl,rfl,E,H,J,r7,al⟩;by_cases hlt:0<X.length
       . have cN:(0<(X.length:Int))=True:=eq_true (by omega);simp only [BZ,E,al,hN.sl.lenq,cN,a8,d8,e8,S.ld (b:=A) (o:=4) m2 rfl,S.ld (b:=A) (o:=3) m2 rfl,seval];exact dT ⟨_,_,some _,S9.rebase (S8.rebase S),f1,f2,by rw [bf];rfl,by simp [aw,E,ah,H,J,r7]⟩
       . have cN:(0<(X.length:Int))=False:=eq_false (by omega);simp only [BZ,E,al,hN.sl.lenq,cN,S.ld (b:=A) (o:=4) m2 rfl,seval];exact dT ⟨_,_,some _,S9.rebase (S8.rebase S),f1,f2,by rw [bf];rfl,by simp [aw,E,ah,H,J,r7]⟩
 . intro bf;simp only [BZ];exact dT ⟨_,_,none,S,tY,⟨rfl,rfl⟩,by rw [bf];rfl,by simp [aw,E,ah,H,J,r7]⟩
 clear S tY E H J r7;intro s hE ⟨pc,pf,C,S,tY,cX,hCs,E,H,J,r7⟩;have hn:=bk S.fr;have gZ:Gr h0 hE:=(aL.fr.trans S.fr (fun c L=>.inr (cY c L)):Mo NoM h0 hE).gr;simp only [BZ,ab,r7,seval];refine⟨gZ,F,⟨u,T,C⟩,rfl,⟨af,_,_,_,_,_,S.row m0,hn,?_,cX⟩,hTs,hCs⟩;cases T with
 |none=>exact tY|some T=>obtain⟨⟨m,_,x⟩,y⟩:=tY;exact⟨⟨m,by omega,x⟩,y⟩
theorem p8{h0:Hp}(a:h0.t.Sized h0.n){c:Int}:aN zM 62 [.bool true,.int .i64 c] h0 (.tuple #[]):=by have S:=Si a;refine aa (n:=9) (rs:=[]) rfl Tryz.e62 rfl rfl rfl (lbt rfl) ?_;simp only [BZ,ab,seval];exact S.gr
theorem A3{M:Nat->Prop}{h0 hq:Hp}{L:List (Nat×Ob)}{G:List GL}(S:St M h0 hq L G){g:FuncId}:
 Ret zM 151 [.func (.func g) #[] #[]] hq fun r c=> ∃a,r=.func (.func 219) #[] #[ptrTo a]/\St M h0 c ((a,.row [.func (.func g) #[] #[]] 1)::L) G:=by
 have d:=S.ok;refine aa (n:=4) (rs:=[.tmp 2]) rfl Tryz.e151 rfl rfl rfl (lbt rfl) ?_;simp only [BZ,seval];refine ac (bg (by intro x e;cases e)) S ?_;clear S;intro h a S b;simp only [ae]at S;simp only [BZ,ab,seval];exact⟨_,rfl,S⟩
def wayV(t c:Bool)(f:Value):List Value:=[.bool t,.bool c,f]
def tw:Nat->Bool
 |2=>true|3=>true|5=>true|_=>false
def cw:Nat->Bool
 |4=>true|5=>true|_=>false
def fw(b1 b2:Nat):Nat->Value
 |0=>.func (.func 219) #[] #[ptrTo b1]|1=>.func (.func 219) #[] #[ptrTo b2]|2=>.func (.func 152) #[] #[]|3=>.func (.func 153) #[] #[]|_=>.func (.func 150) #[] #[]
theorem fw_fl{b1 b2 k:Nat}:Fl (fw b1 b2 k):=by unfold fw;split<;>exact fT
def dp(b1 b2:Nat)(k:Nat):List Value:=wayV (tw k) (cw k) (fw b1 b2 k)
theorem ways_at{b1 b2:Nat}{k:Nat}(a:k<6):((dp b1 b2 0++(dp b1 b2 1++(dp b1 b2 2++(dp b1 b2 3++(dp b1 b2 4++dp b1 b2 5))))).drop (k*3)).take 3=dp b1 b2 k:=by
 have:k=0\/k=1\/k=2\/k=3\/k=4\/k=5:=by omega
 rcases this with rfl|rfl|rfl|rfl|rfl|rfl<;>rfl
theorem build_all{a b c d b1 b2 c0 e f g h i j k l m n o:Value}:lg zM 130 [(0,.agg ⟨[a,b,c]⟩),(1,.agg ⟨[d,b1,b2]⟩),(2,.agg ⟨[c0,e,f]⟩),(3,.agg ⟨[g,h,i]⟩),(4,.agg ⟨[j,k,l]⟩),(5,.agg ⟨[m,n,o]⟩)]=some (.agg ⟨[a,b,c,d,b1,b2,c0,e,f,g,h,i,j,k,l,m,n,o]⟩):=by unfold lg;simp only [Tryz.t130.2.2.2.1,Tryz.t130.1,Tryz.t129.2.1];rfl
theorem all_ok{h0:Hp}(c:h0.t.Sized h0.n):Ret zM 63 [] h0 fun r a=>Gr h0 a/\ ∃b1 b2,r=.agg ⟨dp b1 b2 0++(dp b1 b2 1++(dp b1 b2 2++(dp b1 b2 3++(dp b1 b2 4++dp b1 b2 5))))⟩/\a.load b1 0 1=some [.func (.func 47) #[] #[]]/\a.load b2 0 1=some [.func (.func 52) #[] #[]]/\h0.n<=b1/\h0.n<=b2:=by
 have S:=Si c;refine aa (n:=13) (rs:=[.cell 0 130]) rfl Tryz.e63 rfl rfl rfl (lbt rfl) ?_;simp only [BZ];refine ac ay S ?_;clear S;intro h f S b;simp only [BZ];refine step_ret (A3 S) ?_;rintro _ h ⟨b1,rfl,S⟩;simp only [BZ,seval];refine step_ret (A3 S) ?_;rintro _ h ⟨b2,rfl,S⟩;simp only [BZ,build_all,seval];refine aC (S.store (i:=2) rfl ?_ ?_ rfl rfl ?_ ono) ?_
 . exact(by exact Tryz.t130.2.2.1)
 . exact(by intro x e;cases e)
 . exact lbt rfl
 clear S;rintro h ⟨S,d⟩;clear d;simp only [LC,ae,lay,Xb,Xc,seval]at S;simp only [BZ,ab];refine(bZ (by decide) (by simp only [aD,ah,seval];exact bN Tryz.t130.2.1 Tryz.t130.2.2.1 (S.lds (o:=0) (n:=18) m2 (lbt rfl)))).2 ?_;exact cK.2 ⟨S.gr,b1,b2,rfl,S.ld m1 rfl,S.ld m0 rfl,(S.own _ m1).1.resolve_right (fun h=>h),(S.own _ m0).1.resolve_right (fun h=>h)⟩
theorem has_ok{h0:Hp}(l:h0.t.Sized h0.n){b:Nat}{m g i p f:Value}{tw cw:Bool}(R:Row h0 b [m,g,i,p] 1)(q:tw=true-> ∃x,g=ptrTo x)(j:cw=true-> ∃x,i=ptrTo x)(t:Fl f):aN zM 64 [.agg ⟨wayV tw cw f⟩,ptrTo b] h0 (.bool true):=by
 have S:=Si l;have r:=R.load1 (o:=1) rfl;have s:=R.load1 (o:=2) rfl;refine aa (n:=27) (rs:=[.tmp 4]) rfl Tryz.e64 rfl rfl rfl (lbt rfl) ?_;simp only [BZ,wayV,seval];refine ac (bg (by intro x e;cases e)) S ?_;clear S;intro h a S k;simp only [ae]at S;have c:=S.gr.load r;have d:=S.gr.load s;cases tw with
 | false=>
   cases cw with
   | false=>simp only [BZ,ab,S.ld (b:=a) (o:=0) m0 rfl,S.ld (b:=a) (o:=1) m0 rfl,seval];exact S.gr| true=>
     obtain⟨x,rfl⟩:=j rfl;simp only [BZ,ab,d,S.ld (b:=a) (o:=0) m0 rfl,S.ld (b:=a) (o:=1) m0 rfl,seval];exact S.gr
 | true=>
   obtain⟨y,rfl⟩:=q rfl;cases cw with
   | false=>simp only [BZ,ab,c,S.ld (b:=a) (o:=0) m0 rfl,S.ld (b:=a) (o:=1) m0 rfl,seval];exact S.gr| true=>
     obtain⟨x,rfl⟩:=j rfl;simp only [BZ,ab,c,d,S.ld (b:=a) (o:=0) m0 rfl,S.ld (b:=a) (o:=1) m0 rfl,seval];exact S.gr
theorem St.ne01{M:Nat->Prop}{h0 h:Hp}{L:List (Nat×Ob)}{G:List GL}(S:St M h0 h L G){i j b c:Nat}{o o':Ob}(d:L[i]? =some (b,o))(e:L[j]? =some (c,o'))(a:i≠j):b≠c:=by rintro rfl;have f:=lO (G:=G) d;have g:=lO (G:=G) e;exact a (oz S.apart f g)
theorem Bi{h0:Hp}(T:h0.t.Sized h0.n){b G H U:Nat}{V W X I J:Value}{u:Gra}(R:Row h0 b [ptrTo H,V,W,X] 1)(Y:h0.load G 0 1=some [.func (.func 47) #[] #[]])(z:Good u)(Z:aX h0 U (ptrTo H) u)(l:List Int)(f0:Fl I)(f3:Fl J){s w:Nat}(hs:s<u.nodes)(hw:w<u.nodes):
 Ret zM 219 [ptrTo b,.agg ⟨[I,.int .i64 (s:Nat),.int .i64 (w:Nat),J]⟩,ptrTo G] h0 fun r K=>Gr h0 K/\ ∃c d vA A vE ev,r=.tuple #[mS c d vA A,vE]/\(∀x,(aq vA x\/aq A x\/aq vE x)->h0.n<=x)/\io K u l s w c d vA A vE ev:=by
 have S:=Si T;have l0:=R.load1 (o:=0) rfl;refine aa (n:=36) (rs:=[.cell 5 43,.tmp 6]) rfl Tryz.e219 rfl rfl rfl (lbt rfl) ?_;simp only [BZ,seval];refine ac (bg (by intro x e;cases e)) S ?_;clear S;intro h B S L;simp only [ae]at S;simp only [BZ];refine ac ay S ?_;clear S;intro h p S M;simp only [BZ];refine ar (kI (ord:=[14,0,1,2,3,4,5,6,7,8,9,10,11,12,13,15,16]) rfl rfl (by simp only [dW,nj,eU,XA,XB,XG,Xs,Xw,cond_true,cond_false,seval];exact rfl)) (q:=1) (ps:=[(0,11)]) (by kernel_rfl) ?_;simp only [BZ,cls,seval];refine dL ay S ?_;clear S;intro h a S N v;simp only [BZ,cls,S.gr.load Y,S.gr.load l0,S.ld (b:=B) (o:=1) m2 rfl,S.ld (b:=B) (o:=2) m2 rfl,seval];refine cu (C0 S.ok z (Z.gr S.gr) l hs hw) ?_;have kS:=S.fr.n;have y: ∀c∈[a,p,B],c<_:=fun c hc=>S.key_lt (by simpa [keys]using hc);rintro _ h ⟨g,C,vA,vE,rfl,D,fE,k,O,P⟩;have Q:=ao g (S.key_lt (b:=a) (by simp [keys]));replace S:=S.call g;simp only [BZ,cls,seval];refine df (S.store (i:=0) rfl Tryz.t99.2.1 (by intro x e;cases e) rfl (by simp only [ae,Xk,Xn,D.2.1,fE.2.1,zO];rfl) (lbt rfl) ono) ?_;clear S;rintro h ⟨S,t⟩;simp only [LC,ae,lay,Xb,Xc,seval]at S;have q1:=fun E=>(O E).mo t (fun x f e=>by
  have e:x=a:=e;have:=y a m0;rcases f with h|h|h
  . have:=k x (.inl h);omega
  . exact h
  . have:=k x (.inr h);omega)
 have q2:=fun E=>(P E).mo t (fun x f e=>by
  have e:x=a:=e;have:=y a m0;rcases f with h|h|h
  . exact h
  . exact h
  . have:=k x (.inr h);omega)
 clear O P t;simp only [BZ,cls,seval];refine⟨by simp only [aK,aS,aH,aU,aJ,ne_eq,not_false_eq_true,aW,aZ,aT,aM,bA,ca,aD,zO,ah,dh,<-v,aB Q,aF Q,seval],?_⟩;have m:=S.ne01 (i:=0) (j:=1) rfl rfl (by decide);by_cases hd:C.dist<FAR
 . have F: ¬(72057594037927936:Int)<=(C.dist:Int):=(by have:=dR;omega);simp only [BZ,F,S.ld (b:=a) (o:=0) m0 rfl,seval];refine ar (ax rfl) (q:=0) (ps:=[(6,7)]) (by kernel_rfl) ?_;simp only [BZ,cls,D,S.ld (b:=a) (o:=0) m0 rfl,S.ld (b:=a) (o:=1) m0 rfl,S.ld (b:=a) (o:=2) m0 rfl,seval];refine df (S.store (i:=1) rfl Tryz.t43.2.1 (by intro x e;cases e) rfl (by simp only [ae,Xk,Xn,D.2.1,zO];rfl) (lbt rfl) ono) ?_;clear S;rintro h ⟨S,t⟩;simp only [LC,ae,lay,Xb,Xc,seval]at S;simp only [BZ,cls,ab,seval];refine⟨by simp only [aK,aS,aH,aU,aJ,ne_eq,not_false_eq_true,aW,aZ,aT,aM,bA,ca,aD,zO,ah,gX,cS m,cS m.symm,seval],?_⟩;refine(bZ (by decide) (by simp only [aD,ah,seval];exact bN Tryz.t43.1 Tryz.t43.2.1 (S.lds (b:=p) (o:=0) (n:=4) m1 (lbt rfl)))).2 ?_;refine(fQ (by decide)).2 (cK.2 ?_);exact⟨S.gr,_,_,_,_,_,_,rfl,fun x f=>by
    rcases f with h|h|h
    . have:=k x (.inl h);omega
    . exact h.elim
    . have:=k x (.inr h);omega,(q1 hd).mo t (fun x f e=>by
    have e:x=p:=e;have:=y p m1;rcases f with h|h|h
    . have:=k x (.inl h);omega
    . exact h
    . have:=k x (.inr h);omega)⟩
 . have F:(72057594037927936:Int)<=(C.dist:Int):=(by have:=dR;omega);simp only [BZ,F,S.ld (b:=a) (o:=0) m0 rfl,seval];refine ar (ax rfl) (q:=0) (ps:=[(2,3)]) (by kernel_rfl) ?_;simp only [BZ,cls,S.ld (b:=a) (o:=0) m0 rfl,S.ld (b:=a) (o:=1) m0 rfl,S.ld (b:=a) (o:=2) m0 rfl,seval];refine df (S.store (i:=1) rfl Tryz.t43.2.1 (by intro x e;cases e) rfl rfl (lbt rfl) ono) ?_;clear S;rintro h ⟨S,t⟩;simp only [LC,ae,lay,Xb,Xc,seval]at S;simp only [BZ,cls,ab,seval];refine⟨by simp only [aK,aS,aH,aU,aJ,ne_eq,not_false_eq_true,aW,aZ,aT,aM,bA,ca,aD,zO,ah,gX,cS m,cS m.symm,seval],?_⟩;refine(bZ (by decide) (by simp only [aD,ah,seval];exact bN Tryz.t43.1 Tryz.t43.2.1 (S.lds (b:=p) (o:=0) (n:=4) m1 (lbt rfl)))).2 ?_;refine(fQ (by decide)).2 (cK.2 ?_);exact⟨S.gr,_,_,_,_,_,_,rfl,fun x f=>by
    rcases f with h|h|h
    . exact h.elim
    . exact h.elim
    . have:=k x (.inr h);omega,(q2 (by omega)).mo t (fun x f e=>by
    have e:x=p:=e;have:=y p m1;rcases f with h|h|h
    . exact h
    . exact h
    . have:=k x (.inr h);omega)⟩
theorem wayAlt_ok{h0:Hp}(D:h0.t.Sized h0.n){b u E bt nt:Nat}{F G v:Value}{f:Gra}(R:Row h0 b [ptrTo u,ptrTo bt,F,G] 1)(k:Good f)(H:aX h0 E (ptrTo u) f){l:List Int}(T:TabAt h0 nt (ptrTo bt) f.nodes l (toR f l) (frR f l))(I:eJ f.nodes l)(J:1<=l.length)(K:Fl v){s w:Nat}{a:Int}(L:s<f.nodes)(M:w<f.nodes):
 Ret zM 152 [ptrTo b,.agg ⟨[v,.int .i64 (s:Nat),.int .i64 (w:Nat),.int .i64 a]⟩] h0 fun r y=>Gr h0 y/\ ∃c d vA j vE z,r=.tuple #[mS c d vA j,vE]/\(∀x,(aq vA x\/aq j x\/aq vE x)->h0.n<=x)/\io y f l s w c d vA j vE z:=by
 have S:=Si D;have N:=R.load1 (o:=0) rfl;have m:=R.load1 (o:=1) rfl;refine aa (n:=18) (rs:=[.cell 4 43,.tmp 5]) rfl Tryz.e152 rfl rfl rfl (lbt rfl) ?_;simp only [BZ,seval];refine ac (bg (by intro x e;cases e)) S ?_;clear S;intro h O S A;simp only [ae]at S;simp only [BZ];refine ac ay S ?_;clear S;intro h p S B;simp only [BZ];refine ar (ax rfl) (q:=0) (ps:=[]) (by kernel_rfl) ?_;simp only [BZ,cls,S.gr.load N,S.gr.load m,Xg,Xe,Xl,S.lds (b:=O) (o:=0) (n:=4) m1 (lbt rfl),seval];have P:=S.fr.n;have W:=S.key_lt (b:=p) (by simp [keys]);refine cu (altOwn_ok S.ok k (H.gr S.gr) (T.gr S.gr) I J K L M) ?_;rintro _ h ⟨g,c,d,vA,j,vE,z,rfl,C,o⟩;obtain⟨Q,U,X⟩:=o.fl;replace S:=S.call g;simp only [BZ,cls,mS,seval];refine df (S.store (i:=0) rfl Tryz.t43.2.1 (by intro x e;cases e) rfl (by simp only [ae,Xk,Xn,Q.2.1,U.2.1,zO];rfl) (lbt rfl) ono) ?_;clear S;rintro h ⟨S,V⟩;simp only [LC,ae,lay,Xb,Xc,seval]at S;simp only [BZ,cls,ab,seval];refine(bZ (by decide) (by simp only [aD,ah,seval];exact bN Tryz.t43.1 Tryz.t43.2.1 (S.lds (b:=p) (o:=0) (n:=4) m0 (lbt rfl)))).2 ?_;refine(fQ (by decide)).2 (cK.2 ?_);exact⟨S.gr,_,_,_,_,_,_,rfl,fun x t=>XD P (C x t),o.mo V (fun x t e=>by
  have e:x=p:=e;have:=C x t;omega)⟩
theorem wP{h0:Hp}(W:h0.t.Sized h0.n){b F X:Nat}{t G H:Value}{f:Gra}(R:Row h0 b [ptrTo F,t,G,H] 1)(u:Good f)(Y:aX h0 X (ptrTo F) f){I:Nat}{l:List Int}{J Q:Nat->List Int}(T:TabQ h0 t I l J Q)(Z:l.length<=16){mb K L fb p:Nat}{m:List Int}{M N:Nat->Nat}(e1:G=ptrTo K)(e2:H=ptrTo L)(v:gc h0 mb (ptrTo K) f.nodes m M)(y:fS m+1=((p:Nat):Int))(hM:p<=100)(bm:eX h0 L fb p f.arcs.length ((f.arcs.length+7)/8) N)(oB:OkB f M ((f.arcs.length+7)/8) p 0 N)
 {way a:Int} (j:way=4\/way=5) (h5:way=5->I=f.nodes/\1<=l.length/\eJ f.nodes l/\J=toR f l/\Q=frR f l) {s w:Nat} (hs:s<f.nodes) (hw:w<f.nodes):
 Ret zM 150 [ptrTo b,.agg ⟨[.int .i64 way,.int .i64 (s:Nat),.int .i64 (w:Nat),.int .i64 a]⟩] h0 fun r O=>Gr h0 O/\ ∃c d vA k vE z,r=.tuple #[mS c d vA k,vE]/\(∀x,(aq vA x\/aq k x\/aq vE x)->h0.n<=x)/\io O f l s w c d vA k vE z:=by
 have S:=Si W;have l0:=R.load1 (o:=0) rfl;have A:=R.load1 (o:=1) rfl;have B:=R.load1 (o:=2) rfl;have C:=R.load1 (o:=3) rfl;have ft:Fl t:=(T.tabO (by omega)).fl;subst e1 e2;refine aa (n:=27) (rs:=[.cell 4 43,.tmp 5]) rfl Tryz.e150 rfl rfl rfl (lbt rfl) ?_;simp only [BZ,seval];refine ac (bg (by intro x e;cases e)) S ?_;clear S;intro h b3 S P;simp only [ae]at S;simp only [BZ];refine ac ay S ?_;clear S;intro h D S U;simp only [BZ];refine ar (ax rfl) (q:=0) (ps:=[]) (by kernel_rfl) ?_;simp only [BZ,cls,S.gr.load l0,S.gr.load A,S.gr.load B,S.gr.load C,Xg,Xe,Xl,S.lds (b:=b3) (o:=0) (n:=4) m1 (lbt rfl),seval];have kS:=S.fr.n;have k4:=S.key_lt (b:=D) (by simp [keys]);refine cu (Bx S.ok u (Y.gr S.gr) (T.gr S.gr) Z (v.gr S.gr) y hM (bm.gr S.gr) oB j h5 hs hw S.ok) ?_;rintro _ h ⟨g,c,d,vA,k,vE,z,rfl,V,sE,le,o⟩;replace o:io h f l s w c d vA k vE z:=⟨sE,le,o⟩;obtain⟨fA,fB,fE⟩:=o.fl;replace S:=S.call g;simp only [BZ,cls,mS,seval];refine df (S.store (i:=0) rfl Tryz.t43.2.1 (by intro x e;cases e) rfl (by simp only [ae,Xk,Xn,fA.2.1,fB.2.1,zO];rfl) (lbt rfl) ono) ?_;clear S;rintro h ⟨S,mo⟩;simp only [LC,ae,lay,Xb,Xc,seval]at S;simp only [BZ,cls,ab,seval];refine(bZ (by decide) (by simp only [aD,ah,seval];exact bN Tryz.t43.1 Tryz.t43.2.1 (S.lds (b:=D) (o:=0) (n:=4) m0 (lbt rfl)))).2 ?_;refine(fQ (by decide)).2 (cK.2 ?_);exact⟨S.gr,_,_,_,_,_,_,rfl,fun x E=>XD kS (V x E),o.mo mo (fun x E e=>by
  have e:x=D:=e;have:=V x E;omega)⟩
theorem CI{b1 b2 k:Nat}(a:k<6):mG zM 130 (.agg ⟨dp b1 b2 0++(dp b1 b2 1++(dp b1 b2 2++(dp b1 b2 3++(dp b1 b2 4++dp b1 b2 5))))⟩) (.int .i64 (k:Nat))=some (.agg ⟨dp b1 b2 k⟩):=by have:=ways_at (b1:=b1) (b2:=b2) a;have b:(dp b1 b2 0++(dp b1 b2 1++(dp b1 b2 2++(dp b1 b2 3++(dp b1 b2 4++dp b1 b2 5))))).length=18:=rfl;generalize dp b1 b2 0++(dp b1 b2 1++(dp b1 b2 2++(dp b1 b2 3++(dp b1 b2 4++dp b1 b2 5))))=L at this b;unfold mG;simp only [Tryz.t130.1,ju a,Tryz.t129.2.1];unfold partOf;simp only [Tryz.t129.1,Tryz.t129.2.1,this,b];rw [XW (by omega),cond_true]
theorem ask1_ok{h0:Hp}(a:h0.t.Sized h0.n){b2 b:Nat}:fZ zM 60 [ptrTo b2,ptrTo b] none h0 fun o c d=>(∃v,o=.ret v)/\c=none/\Gr h0 d:=by have S:=Si a;refine enter (n:=19) (rs:=[]) rfl Tryz.e60 rfl rfl rfl (lbt rfl) ?_;simp only [BZ,seval];exact cy (cJ ⟨rfl,_,rfl,⟨_,rfl⟩,rfl,S.gr⟩)
theorem ut{h0:Hp}(d:h0.t.Sized h0.n){b b2 a e:Nat}{f i j:Value}{c:Gra}(R:Row h0 b [ptrTo a,f,i,j] 1)(k:h0.load b2 0 1=some [ptrTo b])(l:aX h0 e (ptrTo a) c){s:Nat}(m:s<c.nodes):aN zM 61 [.int .i64 (s:Nat),ptrTo b2] h0 (.bool true):=by
 have S:=Si d;have p:=R.load1 (o:=0) rfl;have q:(0:Int)<=(s:Int):=by omega
 refine aa (n:=15) (rs:=[.tmp 3]) rfl Tryz.e61 rfl rfl rfl (lbt rfl) ?_;simp only [BZ,k,p,q,seval];refine ag (bS S.ok (l.gr S.gr)) ?_;intro h g;replace S:=S.call g;clear g;simp only [BZ,ab,az,m,seval];exact S.gr
theorem Im32.at{h:Hp}{b:Nat}{I:Img}{g i:Prop}(j:Im32 h b I g i):ImAt h b I:=by
 obtain⟨d,n,o,p,q,k,R,l,a,c⟩:=j;refine⟨_,_,_,_,R,⟨k,l⟩,d.b,?_,?_⟩
 . cases e:I.T with
   |none=>rw [e]at a;exact a|some T=>rw [e]at a;obtain⟨⟨m,_,x⟩,y,_⟩:=a;exact⟨⟨m,x⟩,y⟩
 . cases f:I.C with
   |none=>rw [f]at c;exact c|some C=>obtain⟨m,F⟩:=C;rw [f]at c;exact c.1
theorem wayRun_ok{h0:Hp}(n:h0.t.Sized h0.n){b b1 b2:Nat}{I:Img}{y z:Prop}(J:Im32 h0 b I y z)(K:y)(L:z){T:Tab}(M:I.T=some T){C:List Int×Bs}(N:I.C=some C)(O:h0.load b1 0 1=some [.func (.func 47) #[] #[]]){k:Nat}(P:k=0\/k=2\/k=4\/k=5){s w:Nat}{a:Int}(o:s<I.g.nodes)(p:w<I.g.nodes):
 ∃g x c,fw b1 b2 k=.func (.func g) x c/\Ret zM g (x.toList++[ptrTo b,.agg ⟨[.int .i64 (k:Nat),.int .i64 (s:Nat),.int .i64 (w:Nat),.int .i64 a]⟩]++c.toList) h0 fun r A=>Gr h0 A/\ ∃c d vA u vE Q,r=.tuple #[mS c d vA u,vE]/\(∀x,(aq vA x\/aq u x\/aq vE x)->h0.n<=x)/\io A I.g T.l s w c d vA u vE Q:=by
 obtain⟨e,X,S,Y,Z,nb,R,q,B,D⟩:=J;rw [M]at B;obtain⟨⟨U,_,f⟩,V,l4,E,own⟩:=B;replace own:=own K;have j:=V.l1;replace f:TabAt h0 U S I.g.nodes T.l (toR I.g T.l) (frR I.g T.l):=f.congr (fun i v=>(own i v).1) (fun i v=>(own i v).2);rw [N]at D;obtain⟨_,mb,cf,cb,fp,fb,Mc,Bt,rfl,rfl,l,m,F,G,t⟩:=D;replace t:=t L;obtain⟨W,_,_,_,rfl,_⟩:=id f.ex;have H:TabQ h0 (ptrTo W) I.g.nodes T.l (toR I.g T.l) (frR I.g T.l):=.inl ⟨_,f,fun i _=>xG,fun i _=>xk⟩;rcases P with rfl|rfl|rfl|rfl
 . exact⟨_,_,_,rfl,Bi n R O e q T.l bR bR o p⟩
 . exact⟨_,_,_,rfl,wayAlt_ok n R e q f E j bR o p⟩
 . exact⟨_,_,_,rfl,wP n R e q H (by omega) rfl rfl l m F G t (.inl rfl) (fun h=>by cases h) o p⟩
 . exact⟨_,_,_,rfl,wP n R e q H (by omega) rfl rfl l m F G t (.inr rfl) (fun _=>⟨rfl,j,E,rfl,rfl⟩) o p⟩
theorem Im32.gr{h f:Hp}{b:Nat}{I:Img}{i j:Prop}(l:Im32 h b I i j)(g:Gr h f):Im32 f b I i j:=by
 obtain⟨c,n,o,p,q,r,R,s,t,a⟩:=l;refine⟨c,n,o,p,q,r,R.gr g,s.gr g,t.mo (M:=NoM) g.fr (fun _ h=>h.elim),?_⟩;cases k:I.C with
 |none=>rw [k]at a;exact a| some C=>
   obtain⟨m,F⟩:=C;rw [k]at a;obtain⟨x,u,v,w,y,z,A,B,D,E,d,e,G,H,J⟩:=a;exact⟨x.gr g,u,v,w,y,z,A,B,D,E,d.gr g,e,G,H.gr g,J⟩
theorem askOwn_ok{h0:Hp}(Q:h0.t.Sized h0.n){b:Nat}{I:Img}{U V:Prop}(B:Im32 h0 b I U V)(hT:U)(hF:V){T:Tab}(W:I.T=some T){C:List Int×Bs}(X:I.C=some C){k:Nat}(hk:k=0\/k=2\/k=4\/k=5){s w:Nat}{a:Int}(D:s<I.g.nodes)(Y:w<I.g.nodes):
 Ret zM 16 [ptrTo b,.agg ⟨[.int .i64 (k:Nat),.int .i64 (s:Nat),.int .i64 (w:Nat),.int .i64 a]⟩] h0 fun r A=>Gr h0 A/\ ∃c d vA E vE F,r=.tuple #[mS c d vA E,vE]/\io A I.g T.l s w c d vA E vE F:=by
 have S:=Si Q;have G:=B;obtain⟨t,bp,pt,pc,pf,nb,R,H,Z,cY⟩:=G;have n1:=t.n1;have J:k<6:=by omega
 have c0:(0:Int)<=(k:Int):=by omega
 have c6:((k:Int)<6)=True:=eq_true (by omega);obtain⟨bt,K⟩: ∃x,pt=ptrTo x:=by rw [W]at Z;obtain⟨⟨_,_,x⟩,_⟩:=Z;obtain⟨y,_,_,_,e,_⟩:=x.ex;exact⟨y,e⟩
 obtain⟨bc,L⟩: ∃x,pc=ptrTo x:=by rw [X]at cY;obtain⟨_,_,_,y,_,_,_,_,e,_⟩:=cY;exact⟨y,e⟩
 refine aa (n:=53) (rs:=[.cell 4 43,.cell 5 44]) rfl Tryz.e16 rfl rfl rfl (lbt rfl) ?_;simp only [BZ,seval];refine ac (bg (by intro x e;cases e)) S ?_;clear S;intro h b2 S ad;simp only [ae]at S;simp only [BZ,if_false,seval];refine ac (bg (by intro x e;cases e)) S ?_;clear S;intro h j S af;simp only [ae]at S;simp only [BZ];refine ac ay S ?_;clear S;intro h p S ai;simp only [BZ];refine ac ay S ?_;clear S;intro h M S ak;simp only [BZ,S.ld (b:=b2) (o:=0) m3 rfl,seval];refine ag (right_ok S.ok (B.at.gr S.gr)) ?_;intro h g;replace S:=S.call g;clear g;simp only [BZ,seval];refine ag (p8 S.ok) ?_;intro h g;replace S:=S.call g;clear g;simp only [BZ,c0,c6,S.ld (b:=j) (o:=0) m2 rfl,seval];refine ag (p8 S.ok) ?_;intro h g;replace S:=S.call g;clear g;simp only [BZ,S.ld (b:=j) (o:=1) m2 rfl,seval];refine ag (ut S.ok (R.gr S.gr) (S.ld m3 rfl) (H.gr S.gr) D) ?_;intro h g;replace S:=S.call g;clear g;simp only [BZ,seval];refine ag (p8 S.ok) ?_;intro h g;replace S:=S.call g;clear g;simp only [BZ,S.ld (b:=j) (o:=2) m2 rfl,seval];refine ag (ut S.ok (R.gr S.gr) (S.ld m3 rfl) (H.gr S.gr) Y) ?_;intro h g;replace S:=S.call g;clear g;simp only [BZ,seval];refine ag (p8 S.ok) ?_;intro h g;replace S:=S.call g;clear g;simp only [BZ];refine ar (kI (ord:=[4,0,1,2,3,5]) rfl rfl (by simp only [dW,nj,eU,XA,XB,XG,Xs,Xw,cond_true,cond_false,seval];exact rfl)) (q:=1) (ps:=[(1,3),(0,1)]) (by kernel_rfl) ?_;simp only [BZ,cls,seval];refine dL ay S ?_;clear S;intro h u S al v;simp only [BZ,cls,seval];have k3:=S.key_lt (b:=j) (by simp [keys]);refine cu (all_ok S.ok) ?_;have k7:=S.key_lt (b:=u) (by simp [keys]);rintro _ h ⟨g,z,f2,rfl,y1,y2,z1,z2⟩;have v3:=ao g k3;have v7:=ao g k7;replace S:=S.call g;simp only [BZ,cls,CI J,S.ld (b:=j) (o:=0) m3 rfl,seval];refine df (S.store (i:=0) rfl Tryz.t129.2.1 (by intro x e;cases e) rfl (by simp only [ae,dp,wayV,Xk,Xn,fw_fl.2.1,zO];rfl) (lbt rfl) ono) ?_;have yb:=bC S.ok y1;clear S;rintro h ⟨S,m⟩;simp only [dp,wayV]at S;simp only [LC,ae,lay,Xb,Xc,seval]at S;have l:h.load z 0 1=some [.func (.func 47) #[] #[]]:=by have:=m.get z yb (fun e=>by have e:z=u:=e;omega);rw [<-y1];simp only [Hp.load,this]
 clear m;simp only [BZ,seval];refine⟨by simp only [aK,aS,aH,aU,aJ,ne_eq,not_false_eq_true,aW,aZ,aT,aM,bA,ca,aD,zO,ah,dh,<-v,aF v3,aB v3,aF v7,aB v7,seval],?_⟩;simp only [BZ,Xg,Xe,Xl,S.lds (b:=u) (o:=0) (n:=3) m0 (lbt rfl),S.ld (b:=b2) (o:=0) m4 rfl,seval];have N:=has_ok (f:=fw z f2 k) (tw:=tw k) (cw:=cw k) S.ok (R.gr S.gr) (fun _=>⟨bt,K⟩) (fun _=>⟨bc,L⟩) fw_fl;unfold wayV at N;refine ag N ?_;intro h g;replace l:=g.load l;replace S:=S.call g;clear g N;simp only [BZ,seval];refine ag (p8 S.ok) ?_;intro h g;replace l:=g.load l;replace S:=S.call g;clear g;by_cases O:s=w
 . have c1:((s:Int)=(w:Int))=True:=eq_true (by omega);subst O;have hD:=sV Q t H D s;rw [eS]at hD;simp only [BZ,Xg,Xe,Xl,S.ld (b:=j) (o:=1) m3 rfl,S.ld (b:=j) (o:=2) m3 rfl,S.lds (b:=p) (o:=0) (n:=4) m2 (lbt rfl),seval];refine aC (S.store (i:=2) rfl Tryz.t43.2.1 (by intro x e;cases e) rfl rfl (lbt rfl) ono) ?_;clear S;rintro h ⟨S,m⟩;simp only [LC,ae,lay,Xb,Xc,seval]at S;simp only [BZ,seval];refine aC (aA S (i:=1) rfl Tryz.t44.2.2.1 bO (Xm (lbt rfl)) ono) ?_;clear S;rintro h ⟨S,m⟩;simp only [LC,ae,lay,Xb,Xc,seval]at S;simp only [BZ];refine dJ (un_fn (eH (ask1_ok S.ok) fun _ _ A ⟨a,e,g⟩=>⟨a,e,cJ ⟨rfl,?_⟩⟩));replace S:=S.call g;refine(bZ (by decide) (by simp only [aD,ah,seval];exact bN Tryz.t43.1 Tryz.t43.2.1 (S.lds (b:=p) (o:=0) (n:=4) m2 (lbt rfl)))).2 ?_;refine(bZ (by decide) (by simp only [aD,ah,seval];exact xP Tryz.t44.2.1 (S.ld m1 rfl))).2 ?_;exact cK.2 ⟨S.gr,0,0,_,_,_,[],rfl,io.self hD⟩
 . have c1:((s:Int)=(w:Int))=False:=eq_false (by omega);simp only [BZ,c1,Xg,Xe,Xl,S.ld (b:=j) (o:=1) m3 rfl,S.ld (b:=j) (o:=2) m3 rfl,S.ld (b:=u) (o:=2) m0 rfl,S.ld (b:=b2) (o:=0) m4 rfl,S.lds (b:=j) (o:=0) (n:=4) m3 (lbt rfl),seval];have kk: ∀c∈[u,M,p,j,b2],c<_:=fun c hc=>S.key_lt (by simpa [keys]using hc);obtain⟨g,x,c,ef,hr⟩:=wayRun_ok (b1:=z) (b2:=f2) (a:=a) S.ok (B.gr S.gr) hT hF W X l hk D Y;simp only [BZ,ef];refine step_ret hr ?_;rintro _ h ⟨g,c,d,vA,E,vE,F,rfl,nV,o⟩;obtain⟨fA,fB,fE⟩:=o.fl;replace S:=S.call g;simp only [BZ,mS,seval];refine aC (S.store (i:=2) rfl Tryz.t43.2.1 (by intro x e;cases e) rfl (by simp only [ae,Xk,Xn,fA.2.1,fB.2.1,zO];rfl) (lbt rfl) ono) ?_;clear S;rintro h ⟨S,m⟩;simp only [LC,ae,lay,Xb,Xc,seval]at S;replace o:=o.mo m (fun x P e=>by have e:x=p:=e;have:=nV x P;have:=kk p m2;omega);simp only [BZ,seval];refine aC (aA S (i:=1) rfl Tryz.t44.2.2.1 fE (Xm (lbt rfl)) ono) ?_;clear S;rintro h ⟨S,m⟩;simp only [LC,ae,lay,Xb,Xc,seval]at S;replace o:=o.mo m (fun x P e=>by have e:x=M:=e;have:=nV x P;have:=kk M m1;omega);simp only [BZ];refine dJ (un_fn (eH (ask1_ok S.ok) fun _ _ A ⟨a,e,g⟩=>⟨a,e,cJ ⟨rfl,?_⟩⟩));replace S:=S.call g;refine(bZ (by decide) (by simp only [aD,ah,seval];exact bN Tryz.t43.1 Tryz.t43.2.1 (S.lds (b:=p) (o:=0) (n:=4) m2 (lbt rfl)))).2 ?_;refine(bZ (by decide) (by simp only [aD,ah,seval];exact xP Tryz.t44.2.1 (S.ld m1 rfl))).2 ?_;exact cK.2 ⟨S.gr,_,_,_,_,_,F,rfl,o.gr g⟩
theorem CJ{h0:Hp}(a:h0.t.Sized h0.n):aN zM 8 [] h0 (.bool true):=ret_orc rfl ⟨rfl,Gr.refl a⟩
theorem SlW.grN{h a:Hp}{kd:IntKind}{v:Value}{l:List Int}(s:SlW h kd v l)(g:Gr h a):SlW a kd v l:=s.imp (fun h=>h) (fun⟨b,o,c,e,d,f⟩=>⟨b,o,c,e,d,g.load f⟩)
theorem hasN(x:Nat)(a:x<=255):((x&&& 243)|||3)<=255/\((x&&& 243)|||3)%2=1/\((x&&& 243)|||3)/2%2=1/\((x&&& 243)|||3)/4%2=0/\((x&&& 243)|||3)/8%2=0:=by
 have: ∀x:Fin 256,((x.1&&& 243)|||3)<=255/\((x.1&&& 243)|||3)%2=1/\((x.1&&& 243)|||3)/2%2=1/\((x.1&&& 243)|||3)/4%2=0/\((x.1&&& 243)|||3)/8%2=0:=by decide
 exact this ⟨x,by omega⟩
theorem Cv{h0:Hp}(u:h0.t.Sized h0.n){j k l m p:Value}{f t N way:Nat}{a:Int}(hf:f<=255)(C:t<=255)(D:1<=N)(v:N<=1000)(E:Fl j)(F:Fl k)(G:Fl l)(H:Fl m)(e4:Fl p):aN zM 13 [.agg ⟨[j,k,l,m,p,.int .u8 (f:Nat),.int .u8 (t:Nat),.int .i8 a]⟩,.int .i64 (N:Nat),.int .i64 (way:Nat)] h0 (.agg ⟨[.int .i64 (way:Nat),.int .i64 ((f%N:Nat):Int),.int .i64 ((t%N:Nat):Int),.int .i64 (am .i64 a)]⟩):=by
 have S:=Si u;have w:am .i64 (f:Int)=(f:Int):=by rw [wrap64]<;>omega
 have y:am .i64 (t:Int)=(t:Int):=by rw [wrap64]<;>omega
 have z:(N:Int)≠0:=by omega
 have c:(f:Int).tmod (N:Int)=((f%N:Nat):Int):=by rw [Xa (by omega)];exact(Xj _ _).symm
 have d:(t:Int).tmod (N:Int)=((t%N:Nat):Int):=by rw [Xa (by omega)];exact(Xj _ _).symm
 refine aa (n:=22) (rs:=[.cell 6 48]) rfl Tryz.e13 rfl rfl rfl (lbt rfl) ?_;simp only [BZ,seval];refine ac (bg (by intro x e;cases e)) S ?_;clear S;intro h g S r;simp only [ae]at S;simp only [BZ];refine ac ay S ?_;clear S;intro h A S s;simp only [BZ];refine ar (ax rfl) (q:=0) (ps:=[]) (by kernel_rfl) ?_;simp only [BZ,iV,cH,iZ,cls,w,y,iY z,c,d,S.ld (b:=g) (o:=5) m1 rfl,S.ld (b:=g) (o:=6) m1 rfl,S.ld (b:=g) (o:=7) m1 rfl,seval];refine df (S.store (i:=0) rfl ?_ ?_ rfl rfl ?_ ono) ?_
 . exact(by exact Tryz.t7.2.1)
 . exact(by intro x e;cases e)
 . exact lbt rfl
 clear S;rintro h ⟨S,B⟩;clear B;simp only [LC,ae,lay,Xb,Xc,seval]at S;simp only [BZ,ab,seval];refine(bZ (by decide) (by simp only [aD,ah,seval];exact bN Tryz.t48.1 Tryz.t48.2.1 (S.lds (b:=A) (o:=0) (n:=4) m0 (lbt rfl)))).2 ?_;exact cK.2 ⟨rfl,S.gr⟩
theorem vf{h0:Hp}(ok:h0.t.Sized h0.n){vB vO vM vN:Value}{j f t:Nat}{a:Int}{B O ms ns:List Int}(V:SlW h0 .u8 vB B)(hO:SlW h0 .u8 vO O)(cO: ∀x∈O,0<=x/\x<=255)(hM:SlW h0 .u8 vM ms)(al: ∀x∈ms,0<=x/\x<=255)(hN:SlW h0 .i64 vN ns)(cN: ∀x∈ns,-9223372036854775808<=x/\x<=9223372036854775807)(hh:j<=255)(hf:f<=255)(ht:t<=255):
 aN zM 4 [.agg ⟨[vB,vO,vM,.int .u8 (j:Nat),vN,.int .u8 (f:Nat),.int .u8 (t:Nat),.int .i8 a]⟩] h0 (.bool true):=by
 have S:=Si ok;have fB:=V.sl.fl;have fO:=hO.sl.fl;have fM:=hM.sl.fl;have fN:=hN.sl.fl;have bu:=dR;obtain⟨o1,o2,o3,o4,o5⟩:=hasN j hh;have an: ∀(t:TypeId) (p q:Operand),bF zM .and t p q (.int .u8 (j:Nat)) (.int .u8 243)=some (.int .u8 ((j&&& 243:Nat):Int)):=fun t p q=>b_andN (E:=zM) (t:=t) (p:=p) (q:=q) (k:=.u8) (x:=j) (y:=243) rfl (by simp only [pw];omega) (by decide);have or: ∀(t:TypeId) (p q:Operand),bF zM .or t p q (.int .u8 ((j&&& 243:Nat):Int)) (.int .u8 3)=some (.int .u8 (((j&&& 243)|||3:Nat):Int)):=fun t p q=>b_orN (E:=zM) (t:=t) (p:=p) (q:=q) (k:=.u8) (x:=j&&& 243) (y:=3) rfl (XK XT (by simp only [pw];omega)) (by decide);refine aa (n:=96) (rs:=[.tmp 2]) rfl Tryz.e4 rfl rfl rfl (lbt rfl) ?_;simp only [BZ,seval];refine ac (bg (by intro x e;cases e)) S ?_;clear S;intro h W S bm;simp only [ae]at S;simp only [BZ];refine ag (CJ S.ok) ?_;intro h g;replace S:=S.call g;clear g;simp only [BZ,an,or,S.ld (b:=W) (o:=3) m0 rfl,seval];refine aC (aA S (i:=0) rfl Tryz.t5.2.2.1 bR (Xm (lbt rfl)) ono) ?_;clear S an or;rintro h ⟨S,_⟩;simp only [LC,ae,lay,Xb,Xc,seval]at S;generalize(j&&& 243)|||3=bo at*
 simp only [BZ,Xg,Xe,Xl,S.lds (b:=W) (o:=0) (n:=8) m0 (lbt rfl),seval];refine step_ret (made32_ok S.ok (V.grN S.gr) (hO.grN S.gr) cO (hM.grN S.gr) al (hN.grN S.gr) cN o1) ?_;rintro _ r ⟨g,b,I,rfl,im,tI,cI⟩;replace S:=S.call g;obtain⟨T,eT⟩: ∃T,I.T=some T:=by cases h:I.T with|none=>rw [h,o2]at tI;cases tI|some T=>exact⟨T,rfl⟩
 obtain⟨C,eC⟩: ∃C,I.C=some C:=by cases h:I.C with|none=>rw [h,o3]at cI;cases cI|some T=>exact⟨T,rfl⟩
 have ask:=fun {h1:Hp} (g:Gr r h1) {k s w:Nat} {a:Int} (hk:k=0\/k=2\/k=4\/k=5) (hs:s<I.g.nodes) (hw:w<I.g.nodes)=>askOwn_ok (k:=k) (a:=a) g.ok (im.gr g) o4 o5 eT eC hk hs hw;have aL:=im;obtain⟨X,bp,pt,pc,pf,nb,R,hn,tY,_⟩:=aL;rw [eT]at tY;obtain⟨⟨nt,_,J⟩,tL,l4,hl,own⟩:=tY;replace own:=own o4;replace J:TabAt r nt pt I.g.nodes T.l (toR I.g T.l) (frR I.g T.l):=J.congr (fun i hi=>(own i hi).1) (fun i hi=>(own i hi).2);obtain⟨bt,_,_,_,rfl,_⟩:=id J.ex;have n1:=X.n1;have n2:=X.n2;have l0:=R.load1 (o:=0) rfl;have u:=R.load1 (o:=1) rfl;have g0:=S.gr;have R1:=S.row (b:=W) m0;have a0:=S.ok;clear S own tI cI;have S:=Si a0;simp only [BZ,seval];refine ac (bV (by exact Tryz.t41.1) (by exact Xr) (by decide) (by rfl)) S ?_;clear S;intro h D S bq;simp only [LC,a9,bQ,ae,Xq,Xi,Xf,Xu,seval]at S;simp only [BZ,seval];have hs:f%I.g.nodes<I.g.nodes:=Xx _ (by omega);have hw:t%I.g.nodes<I.g.nodes:=Xx _ (by omega);refine aV (fun(k:Nat) l h=>k<=4/\St NoM r h [(D,.row [.int .i64 0,.int .i64 2,.int .i64 4,.int .i64 5] 1)] []/\l 1=ptrTo W/\l 3=ptrTo b/\l 4=.slice (some ⟨D,0,none⟩) 4 4/\l 5=.int .i64 (k:Nat)) (fun k=>4-k) ?_ 0 _ _ ⟨Xd _,S,by simp [aw,ah]⟩;clear S;intro k ih l h ⟨hk,S,r1,r3,r4,r5⟩;have wk:am .i64 ((k:Int)+1)=((k+1:Nat):Int):=by rw [wrap64]<;>omega
 by_cases hlt:k<4;rotate_left
 . have c4:((k:Int)<4)=False:=eq_false (by omega);simp only [BZ,ab,Int.cast_ofNat_Int,r4,r5,c4,seval];exact g0.trans S.gr
 have c4:((k:Int)<4)=True:=eq_true (by omega);obtain⟨K,a1,lk⟩: ∃K:Nat,(K=0\/K=2\/K=4\/K=5)/\ ∀{h':Hp} {L:List (Nat×Ob)},St NoM r h' L []->(D,Ob.row [.int .i64 0,.int .i64 2,.int .i64 4,.int .i64 5] 1)∈L->h'.load D k 1=some [.int .i64 (K:Nat)]:=by
  have:k=0\/k=1\/k=2\/k=3:=by omega
  rcases this with rfl|rfl|rfl|rfl
  . exact⟨0,.inl rfl,fun S r=>S.ld r rfl⟩
  . exact⟨2,.inr (.inl rfl),fun S r=>S.ld r rfl⟩
  . exact⟨4,.inr (.inr (.inl rfl)),fun S r=>S.ld r rfl⟩
  . exact⟨5,.inr (.inr (.inr rfl)),fun S r=>S.ld r rfl⟩
 have Y:=R1.load (o:=0) (n:=8) (XF 8);simp only [Xg,Xe,Xl]at Y;simp only [BZ,Int.cast_ofNat_Int,r4,r5,c4,seval];refine ar (kI (ord:=[11,0,1,2,3,4,5,6,7,8,9,10,12]) rfl rfl (by simp only [dW,nj,eU,XA,XB,XG,Xs,Xw,cond_true,cond_false,seval];exact rfl)) (q:=1) (ps:=[(0,11),(6,10),(1,6),(0,6)]) (by kernel_rfl) ?_;simp only [BZ,cls,seval];refine dL ay S ?_;clear S;intro h Z S br ad;have k6:=S.key_lt (b:=Z) (by simp [keys]);have kw:=S.key_lt (b:=D) (by simp [keys]);have a2:=(R1.gr S.gr).lt S.ok;simp only [BZ,cls,r1,r3,S.gr.load Y,S.gr.load l0,seval];refine bM (bS S.ok (hn.gr S.gr)) ?_;intro h g;have v1:=ao g a2;have vw:=ao g kw;have v6:=ao g k6;replace S:=S.call g;have a3:=S.key_lt (b:=Z) (by simp [keys]);have a4:=S.key_lt (b:=D) (by simp [keys]);have af:=(R1.gr S.gr).lt S.ok;simp only [BZ,cls,r4,r5,ju hlt,lk S m1,seval];refine bM (Cv S.ok hf ht n1 (by omega) fB fO fM bR fN) ?_;intro h g2;have u1:=ao g2 af;have uw:=ao g2 a4;have u6:=ao g2 a3;replace S:=S.call g2;simp only [BZ,cls,seval];refine df (S.store (i:=0) rfl ?_ ?_ rfl rfl ?_ ono) ?_
 . exact(by exact Tryz.t7.2.1)
 . exact(by intro x e;cases e)
 . exact lbt rfl
 clear S;rintro h ⟨S,mo⟩;clear mo;simp only [LC,ae,lay,Xb,Xc,seval]at S;simp only [BZ,r3,seval];refine⟨by simp only [aK,aS,aH,aU,aJ,ne_eq,not_false_eq_true,aW,aZ,aT,aM,bA,ca,aD,zO,r1,r3,r4,r5,ah,dh,<-ad,aF v1,aB v1,aF vw,aB vw,aF v6,aB v6,aF u1,aB u1,aF uw,aB uw,aF u6,aB u6,seval],?_⟩;generalize am .i64 a=a' at S;simp only [BZ,Xg,Xe,Xl,S.lds (b:=Z) (o:=0) (n:=4) m0 (lbt rfl),seval];refine step_ret (ask S.gr a1 hs hw) ?_;rintro _ h ⟨g,c,d,vA,bv,vE,ev,rfl,M⟩;obtain⟨fA,a5,fE⟩:=M.fl;replace S:=S.call g;have gS:=S.gr;have P:=S;have R6:=S.row (b:=Z) m0;have a6:=S.ok;clear S;have S:=Si a6;rename Hp=>hQ;simp only [BZ,mS,seval];refine ac ay S ?_;clear S;intro h b7 S bs;simp only [BZ,seval];refine aC (S.store (i:=0) rfl Tryz.t43.2.1 (by intro x e;cases e) rfl (by simp only [ae,Xk,Xn,fA.2.1,a5.2.1,zO];rfl) (lbt rfl) ono) ?_;clear S;rintro h ⟨S,_⟩;simp only [LC,ae,lay,Xb,Xc,seval]at S;replace M:=M.gr S.gr;replace R6:=R6.gr S.gr;have R7:=S.row (b:=b7) m0;replace P:=P.call S.gr;obtain⟨sE,le,M⟩:=M;rcases M with⟨_,rfl,rfl,_,_⟩|⟨dl,rfl,rfl,_,act,sB,la,hb⟩
 . have a7:((20:Int)=0)=False:=eq_false (by decide);simp only [BZ,ab,r5,a7,wk,S.ld (b:=b7) (o:=0) m0 rfl,seval];exact ih (k+1) _ _ (by omega) ⟨by omega,P.sub (Xv _ _) (List.Sublist.refl _),by simp [aw,r1,ah,r3,r4]⟩
 . simp only [BZ,S.ld (b:=b7) (o:=0) m0 rfl,seval];have A:=S.ok;clear S;rename Hp=>hE;replace u:=P.gr.load u;have a8:=R7.load1 (o:=1) rfl;have ba:=R7.load1 (o:=3) rfl;have bc:=R6.load1 (o:=2) rfl;have zb:=bC A u;have z6:=R6.lt A;have z7:=R7.lt A;replace J:=J.gr P.gr;refine aV (fun(i:Nat) l h'=>i<=ev.length/\Gr hE h'/\l 1=ptrTo W/\l 3=ptrTo b/\l 4=.slice (some ⟨D,0,none⟩) 4 4/\l 5=.int .i64 (k:Nat)/\l 6=ptrTo Z/\l 7=ptrTo b7/\l 8=vE/\l 9=.int .i64 i) (fun i=>ev.length-i) ?_ 0 _ _ ⟨Xd _,Gr.refl A,by simp [aw,r1,ah,r3,r4,r5]⟩;clear r1 r3 r4 r5;intro i ai l h ⟨hi,g,r1,r3,r4,r5,r6,r7,r8,r9⟩;have wi:am .i64 ((i:Int)+1)=((i+1:Nat):Int):=(by rw [wrap64]<;>omega);by_cases hlt:i<ev.length
   . obtain⟨c,o,x0,F⟩:=(sE.gr g).ix (kd:=.i64) m9 hlt;have G:=hb i hlt;obtain⟨e,ee⟩: ∃e,ev[i]=e:=⟨_,rfl⟩;rw [ee]at F G;obtain⟨kd,id,lb⟩:=e;simp only []at G;replace F:h.load c o 4=some [.int .i64 kd,.int .i64 0,.int .i64 id,.int .i64 lb]:=F;have H:h.load c o 1=some [.int .i64 kd]:=kx F (i:=0) (m:=1) (by omega);have y1:h.load c (o+1) 1=some [.int .i64 0]:=kx F (i:=1) (m:=1) (by omega);simp only [BZ,r8,r9,sE.lenq,az,hlt,seval];rcases G with⟨bd,_,_⟩|⟨bd,_,hv,be⟩
     . have k1:((kd:Int)=0)=False:=eq_false (by omega);refine ar (ax rfl) (q:=0) (ps:=[(32,35),(18,32)]) (by kernel_rfl) ?_;simp only [BZ,cls,r8,r9,x0,H,y1,k1,seval];refine⟨by simp only [aK,aS,aH,aU,aJ,ne_eq,not_false_eq_true,aW,aZ,aT,aM,bA,ca,aD,zO,r1,r3,r6,r7,r8,r9,ah,jo,lS,seval],?_⟩;simp only [wi];exact ai (i+1) _ _ (by omega) ⟨by omega,g,by simp [aw,r1,ah,r3,r4,r5,r6,r7,r8]⟩
     . have k1:((kd:Int)=0)=True:=eq_true (by omega);have y3:h.load c (o+3) 1=some [.int .i64 lb]:=kx F (i:=3) (m:=1) (by omega);have y2:h.load c (o+2) 1=some [.int .i64 id]:=kx F (i:=2) (m:=1) (by omega);have bf:=g.load a8;have bh:=g.load ba;have bi:=g.load bc;have bk:=g.load u;have zc:=bC g.ok H;have w7:=Xp z7 g.n;have w6:=Xp z6 g.n;have wb:=Xp zb g.n;obtain⟨bx,bB⟩:=hl;have bn:=eA (N:=I.g.nodes) (n:=T.l.length) (R:=toR I.g T.l) (Q:=frR I.g T.l) (v:=id) (w:=(t%I.g.nodes:Nat)) (act:=act.map fun(x:Nat)=>(x:Int));obtain⟨bb,ak⟩: ∃z,cR I.g.nodes T.l.length (toR I.g T.l) (frR I.g T.l) (id:Int) ((t%I.g.nodes:Nat):Int) (act.map fun(x:Nat)=>(x:Int))=z:=⟨_,rfl⟩;have V:=Aj g.ok (J.gr g) (fun i _=>xG) (fun i _=>xk) (by omega) (vV (sB.gr g)) (by rw [List.length_map];omega) (v:=id) (w:=(t%I.g.nodes:Nat));rw [ak]at be V bn;have ws:am .i64 ((lb:Int)+bb)=(lb:Int)+bb:=(by rw [wrap64]<;>omega);have cg: ¬((dOf (seen I.g.arcs Arc.s Arc.t) (f%I.g.nodes) (t%I.g.nodes):Nat):Int)<(lb:Int)+bb:=(by omega);refine ar (ax rfl) (q:=0) (ps:=[(32,35),(18,32)]) (by kernel_rfl) ?_;simp only [BZ,cls,r3,r6,r7,r8,r9,x0,H,y1,y3,y2,k1,bk,bh,bi,seval];refine bM V ?_;intro h1 U;have v7:=ao U w7;have v6:=ao U w6;have vb:=ao U wb;have vc:=ao U zc;have bl:=U.load bf;simp only [BZ,cls,r7,r9,bl,ws,cg,seval];refine⟨by simp only [aK,aS,aH,aU,aJ,ne_eq,not_false_eq_true,aW,aZ,aT,aM,bA,ca,aD,zO,r1,r3,r6,r7,r8,r9,ah,jo,lS,aF v7,aF v6,aF vb,aF vc,aB v7,aB v6,aB vb,aB vc,seval],?_⟩;simp only [wi];exact ai (i+1) _ _ (by omega) ⟨by omega,g.trans U,by simp [aw,r1,ah,r3,r4,r5,r6,r7,r8]⟩
   . simp only [BZ,ab,r5,r8,r9,sE.lenq,az,hlt,wk,seval];exact ih (k+1) _ _ (by omega) ⟨by omega,(P.sub (Xv _ _) (List.Sublist.refl _)).call g,by simp [aw,r1,ah,r3,r4]⟩
end Go.Ab
end
section
namespace Go.Ab
open Go.ChangeShapes Go.WideShapes Go.RowKit
theorem rowAt_le{P:Program}{b:TypeId->Bool}{d:Nat}{e:TypeId}{a off n:Nat}(h:rowAt P b d e a off n=true):off<=a*P.cellsOf e:=by
 cases d with
 |zero=>cases h
 | succ d=>
   unfold rowAt at h;simp only []at h
   split at h
   . cases h
   . rename_i i;have c:0<P.cellsOf e:=(by omega);have f:=Nat.div_add_mod off (P.cellsOf e);simp only [Bool.or_eq_true,Bool.and_eq_true,beq_iff_eq,decide_eq_true_eq]at h;rcases h with⟨⟨g,j⟩,_⟩|⟨g,_⟩
     . have:P.cellsOf e*(off/P.cellsOf e)<=P.cellsOf e*a:=Nat.mul_le_mul_left _ (by omega);rw [Nat.mul_comm a];omega
     . have:P.cellsOf e*(off/P.cellsOf e+1)<=P.cellsOf e*a:=Nat.mul_le_mul_left _ (by omega);have hlt:=Xx off c;rw [Nat.mul_add,Xf]at this;rw [Nat.mul_comm a];omega
theorem liesAt_le{P:Program}{d:Nat}: ∀{e:TypeId} {a off:Nat} {u:TypeId} {n:Nat},liesAt P d e a off u n=true->off<=a*P.cellsOf e:=by
 induction d with
 |zero=>intro e a off u n h;cases h
 | succ d b=>
   intro e a off u n h;unfold liesAt at h;rw [Bool.or_eq_true]at h;rcases h with h|h
   . exact rowAt_le h
   . split at h
     . exact b h
     . cases h
theorem has_W{P:Program}{W:World}{r:_root_.Go.Reach}{base:Nat}{a:Addr}{e:TypeId}{n:Nat}(h:W.has P r base a e n):a.spot=none/\a.block<W.heap.size/\ ∃l,(hpW W).load (a.block+16) a.off 0=some l:=by
 obtain⟨_,f,i,c,b,k⟩:=h;have hle:=liesAt_le k;have d:a.off<=c:=XD hle (Nat.div_mul_le_self _ _);unfold World.shape? at b
 split at b
 next m el q g=>
  cases b;have hlt:=(Array.getElem?_eq_some_iff.1 g).1;have p:Row (hpW W) (a.block+16) (m.toList.map (iu W.heap.size)) 0:=⟨_,_,by rw [s7,g];rfl,Tr.sized_ofList _,fun j=>Tr.get_ofList _ j⟩;exact⟨f,hlt,_,p.load (o:=a.off) (n:=0) (by simpa using d)⟩
 . cases b
section
variable{H:Type}{enc:TypeId×Value->H}{P:Program}
theorem ji{W:World}{base n:Nat}{s e:TypeId}{k:IntKind}{c:Value}{C:Nat->Bool}{D:Bool}{x:DataW H×List MemPlace}(v:P.underlying s=some (.slice e))(E:P.underlying e=some (.int k))(F:P.cellsOf e=1)
 (b:Cell.okWide P W .any base s c) (h:DataW.trod enc P W 0 C D n s [c]=some x): ∃d:List Int,SlW (hpW W) k (iu W.heap.size c) d/\(∀z∈d,(Lit.int k z).wf=true)/\d.length<=9223372036854775807:=by
 rcases Go.ChangeShapes.open_ints v E F h with⟨w,_⟩|⟨a,g,o,d,w,I,A,J,p,_,j,y⟩
 . cases w;exact⟨[],.inl ⟨rfl,rfl⟩,fun z p=>(by cases p),by simp⟩
 . cases w;unfold Cell.okWide at b;rw [v]at b;simp only [Cell.ok,v]at b;obtain⟨B,q,r⟩:=b;obtain⟨t,hlt,G⟩:=has_W r;have m:g<=d.length:=(by rw [p];split<;>omega);refine⟨d.take g,.inr ⟨a.block+16,a.off,o,?_,?_,?_⟩,fun z p=>y z (List.mem_of_mem_take p),by
    have:(o:Int)<=9223372036854775807:=q;rw [Xt];omega⟩
   . rw [Xt,XV m];simp only [iu,if_pos A,if_pos (And.intro t hlt)]
   . rw [Xt,XV m];exact A
   . rw [Xt,XV m,Xf];rw [load_join (f:=fun i=>.int k (d.getD i 0)) G (fun i u=>load_W t (j i (by omega)))];congr 1;have e4: ∀l:List Int,l.flatMap (encI k)=l.map fun x=>.int k x:=fun l=>(by rw [XX,List.map_eq_flatMap,XX];rfl);rw [e4];refine List.ext_getElem? fun i=>?_;rw [XN,XN,List.getElem?_take];by_cases u:i<g
     . rw [if_pos u,List.getElem?_range u,Xy (show i<d.length by omega)];simp [Xh,show i<d.length by omega]
     . rw [if_neg u,List.getElem?_eq_none (by simpa using u)];rfl
theorem open_slV{W:World}{base:Nat}{s e:TypeId}{k:IntKind}{v:Value}{j:Nat->Bool}{m:Bool}{d:DataW H}{p:List MemPlace}(c:P.underlying s=some (.slice e))(n:P.underlying e=some (.int k))(o:P.cellsOf e=1)
 (a:Value.okWide P W .any base s v) (h:DataW.Trod enc P W 0 j m s v d p): ∃f:List Int,SlW (hpW W) k (absA W.heap.size v) f/\(∀z∈f,(Lit.int k z).wf=true)/\f.length<=9223372036854775807:=by
 unfold Value.okWide at a;rw [c]at a;obtain⟨i,h⟩:=h;have b: ∀l:Array Value,v≠ .agg l:=by rintro l rfl;simp only [Cell.okWide,c,Cell.ok]at a
 have g:v.cells.toList=[v]:=by cases v<;>first|rfl|exact absurd rfl (b _)
 rw [g]at h;have q:absA W.heap.size v=iu W.heap.size v:=by cases v<;>first|rfl|exact absurd rfl (b _)
 rw [q];exact ji c n o a h
theorem open_sl2{W:World}{base:Nat}{t s e:TypeId}{k:IntKind}{j m:Field}{v:Value}{C:Nat->Bool}{D:Bool}{d:DataW H}{p:List MemPlace}(r:P.underlying t=some (.struct #[j,m]))(E:j.offset=0)(o1:m.offset=1)(F:j.type=s)(t1:m.type=s)
 (u:P.underlying s=some (.slice e)) (w:P.underlying e=some (.int k)) (x:P.cellsOf e=1) (f:P.cellsOf s=1) (o:P.cellsOf t=2) (q:P.cellTypes P.depth t=some [s,s])
 (a:Value.okWide P W .any base t v) (h:DataW.Trod enc P W 0 C D t v d p):
 ∃(c0 g:Value) (xs ys:List Int),v=.agg #[c0,g]/\SlW (hpW W) k (iu W.heap.size c0) xs/\SlW (hpW W) k (iu W.heap.size g) ys/\(∀z∈xs,(Lit.int k z).wf=true)/\ ∀z∈ys,(Lit.int k z).wf=true:=by
 unfold Value.okWide at a;rw [r]at a;obtain⟨G,rfl,c,O,i,_,b⟩:=a;rw [q]at i;cases i;rw [o]at c;obtain⟨l⟩:=G;simp only [XO]at c;obtain⟨c0,g,rfl⟩:=len2 c;obtain⟨y,h⟩:=h;obtain⟨Q,R,n,_,_,A,B⟩:=Go.ChangeShapes.trod_struct2 r h;rw [E,F,f]at A;rw [o1,t1,f]at B;obtain⟨S,I,J⟩:=b 0 c0 rfl;obtain⟨T,i,K⟩:=b 1 g rfl;cases I;cases i;obtain⟨xs,L,M,_⟩:=ji u w x J A;obtain⟨ys,N,wy,_⟩:=ji u w x K B;exact⟨c0,g,xs,ys,rfl,L,N,M,wy⟩
end
end Go.Ab

end
section
namespace Go.Ab
open Go.ChangeShapes Go.WideShapes Go.RowKit
section
variable{H:Type}{enc:TypeId×Value->H}{P:Program}
theorem len5j{f:Type}{l:List f}(h:l.length=5): ∃a b c d e,l=[a,b,c,d,e]:=by
 match l,h with
 | [a,b,c,d,e],_=>exact⟨a,b,c,d,e,rfl⟩
theorem wf64{z:Int}(h:(Lit.int .i64 z).wf=true): -9223372036854775808<=z/\z<=9223372036854775807:=by unfold Lit.wf at h;simp only [Bool.and_eq_true,decide_eq_true_eq]at h;exact h
theorem open_d28{W:World}{base:Nat}{t f k D e4 m:TypeId}{s w y A C:Field}{v:Value}{Y:Nat->Bool}{Z:Bool}{d:DataW H}{p:List MemPlace}(L:P.underlying t=some (.struct #[s,w,y,A,C]))(o0:s.offset=0)(o1:w.offset=1)(o2:y.offset=2)(o3:A.offset=3)(o4:C.offset=4)
 (t0:s.type=f) (t1:w.type=f) (t2:y.type=f) (t3:A.type=m) (t4:C.type=k) (h0:P.underlying f=some (.slice D)) (E:P.underlying m=some (.int .u8)) (F:P.underlying k=some (.slice e4))
 (G:P.underlying D=some (.int .u8)) (g4:P.underlying e4=some (.int .i64)) (c0:P.cellsOf D=1) (c4:P.cellsOf e4=1) (I:P.cellsOf f=1) (d3:P.cellsOf m=1) (d4:P.cellsOf k=1) (J:P.cellsOf t=5) (K:P.cellTypes P.depth t=some [f,f,f,m,k])
 (g:Value.okWide P W .any base t v) (h:DataW.Trod enc P W 0 Y Z t v d p):
 ∃ (a b c e:Value) (x:Int) (B O M N:List Int),v=.agg #[a,b,c,.int .u8 x,e]/\SlW (hpW W) .u8 (iu W.heap.size a) B/\SlW (hpW W) .u8 (iu W.heap.size b) O/\SlW (hpW W) .u8 (iu W.heap.size c) M/\SlW (hpW W) .i64 (iu W.heap.size e) N/\
   (∀z∈O,(Lit.int .u8 z).wf=true)/\(∀z∈M,(Lit.int .u8 z).wf=true)/\(∀z∈N,(Lit.int .i64 z).wf=true)/\(Lit.int .u8 x).wf=true:=by
 unfold Value.okWide at g;rw [L]at g;obtain⟨cs,rfl,i,ts,Q,_,o⟩:=g;rw [K]at Q;cases Q;rw [J]at i;obtain⟨l⟩:=cs;simp only [XO]at i;obtain⟨a,b,c,x,e,rfl⟩:=len5j i;obtain⟨R,h⟩:=h;obtain⟨xs,n,_,_,hl,q,hf⟩:=DataW.trod_struct L h;obtain⟨y0,y1,y2,y3,y4,rfl⟩:=len5j (by rw [q];rfl:xs.length=5);have S:=hf 0 s rfl;have T:=hf 1 w rfl;have U:=hf 2 y rfl;have V:=hf 3 A rfl;have X:=hf 4 C rfl;rw [o0,t0,I]at S;rw [o1,t1,I]at T;rw [o2,t2,I]at U;rw [o3,t3,d3]at V;rw [o4,t4,d4]at X;have r: ∀(j:Nat) t v,[f,f,f,m,k][j%5]? =some t->[a,b,c,x,e][j]? =some v->Cell.okWide P W .any base t v:=fun j t v h1 h2=>by obtain⟨u,E,F⟩:=o j v (by simpa using h2);obtain rfl:t=u:=Option.some.inj (h1.symm.trans E);exact F
 obtain⟨B,hB,_,_⟩:=ji h0 G c0 (r 0 f a rfl rfl) S;obtain⟨O,hO,wO,_⟩:=ji h0 G c0 (r 1 f b rfl rfl) T;obtain⟨M,hM,wM,_⟩:=ji h0 G c0 (r 2 f c rfl rfl) U;obtain⟨N,hN,wN,_⟩:=ji F g4 c4 (r 4 k e rfl rfl) X;obtain⟨u,e2,_,wu⟩:=DataW.trod_int E V;cases e2;exact⟨a,b,c,e,u,B,O,M,N,rfl,hB,hO,hM,hN,wO,wM,wN,wu⟩
end
end Go.Ab

end
section
namespace Go.Ab
open Go.ChangeShapes Go.WideShapes Go.RowKit
section
variable{H:Type}{enc:TypeId×Value->H}{P:Program}
theorem len8k{j:Type}{l:List j}(h:l.length=8): ∃a b c d e f g i,l=[a,b,c,d,e,f,g,i]:=by
 match l,h with
 | [a,b,c,d,e,f,g,i],_=>exact⟨a,b,c,d,e,f,g,i,rfl⟩
theorem open_d32{W:World}{base:Nat}{t f m L e4 g o:TypeId}{C D E F G I J K:Field}{v:Value}{sp:Nat->Bool}{hd:Bool}{d:DataW H}{p:List MemPlace}(Z:P.underlying t=some (.struct #[C,D,E,F,G,I,J,K]))(o0:C.offset=0)(o1:D.offset=1)(o2:E.offset=2)(o3:F.offset=3)(o4:G.offset=4)(o5:I.offset=5)(o6:J.offset=6)(o7:K.offset=7)
 (t0:C.type=f) (t1:D.type=f) (t2:E.type=f) (t3:F.type=g) (t4:G.type=m) (t5:I.type=g) (t6:J.type=g) (t7:K.type=o) (h0:P.underlying f=some (.slice L)) (q:P.underlying g=some (.int .u8)) (Q:P.underlying m=some (.slice e4)) (h7:P.underlying o=some (.int .i8))
 (R:P.underlying L=some (.int .u8)) (g4:P.underlying e4=some (.int .i64)) (c0:P.cellsOf L=1) (c4:P.cellsOf e4=1) (S:P.cellsOf f=1) (T:P.cellsOf g=1) (d4:P.cellsOf m=1) (d7:P.cellsOf o=1) (U:P.cellsOf t=8) (V:P.cellTypes P.depth t=some [f,f,f,g,m,g,g,o])
 (i:Value.okWide P W .any base t v) (h:DataW.Trod enc P W 0 sp hd t v d p):
 ∃ (a b c e:Value) (x y z w:Int) (B O M N:List Int),v=.agg #[a,b,c,.int .u8 x,e,.int .u8 y,.int .u8 z,.int .i8 w]/\SlW (hpW W) .u8 (iu W.heap.size a) B/\SlW (hpW W) .u8 (iu W.heap.size b) O/\SlW (hpW W) .u8 (iu W.heap.size c) M/\SlW (hpW W) .i64 (iu W.heap.size e) N/\
   (∀z∈O,(Lit.int .u8 z).wf=true)/\(∀z∈M,(Lit.int .u8 z).wf=true)/\(∀z∈N,(Lit.int .i64 z).wf=true)/\(Lit.int .u8 x).wf=true/\(Lit.int .u8 y).wf=true/\(Lit.int .u8 z).wf=true:=by
 unfold Value.okWide at i;rw [Z]at i;obtain⟨cs,rfl,k,ts,e1,_,s⟩:=i;rw [V]at e1;cases e1;rw [U]at k;obtain⟨l⟩:=cs;simp only [XO]at k;obtain⟨a,b,c,x,e,y,z,w,rfl⟩:=len8k k;obtain⟨ad,h⟩:=h;obtain⟨xs,n,_,_,hl,A,hf⟩:=DataW.trod_struct Z h;obtain⟨y0,y1,y2,y3,y4,y5,y6,y7,rfl⟩:=len8k (by rw [A];rfl:xs.length=8);have q0:=hf 0 C rfl;have q1:=hf 1 D rfl;have q2:=hf 2 E rfl;have q3:=hf 3 F rfl;have q4:=hf 4 G rfl;have q5:=hf 5 I rfl;have q6:=hf 6 J rfl;have q7:=hf 7 K rfl;rw [o0,t0,S]at q0;rw [o1,t1,S]at q1;rw [o2,t2,S]at q2;rw [o3,t3,T]at q3;rw [o4,t4,d4]at q4;rw [o5,t5,T]at q5;rw [o6,t6,T]at q6;rw [o7,t7,d7]at q7;have r: ∀(j:Nat) t v,[f,f,f,g,m,g,g,o][j%8]? =some t->[a,b,c,x,e,y,z,w][j]? =some v->Cell.okWide P W .any base t v:=fun j t v h1 h2=>by obtain⟨u,q,Q⟩:=s j v (by simpa using h2);obtain rfl:t=u:=Option.some.inj (h1.symm.trans q);exact Q
 obtain⟨B,hB,_,_⟩:=ji h0 R c0 (r 0 f a rfl rfl) q0;obtain⟨O,hO,wO,_⟩:=ji h0 R c0 (r 1 f b rfl rfl) q1;obtain⟨M,hM,wM,_⟩:=ji h0 R c0 (r 2 f c rfl rfl) q2;obtain⟨N,hN,wN,_⟩:=ji Q g4 c4 (r 4 m e rfl rfl) q4;obtain⟨u,e2,_,wu⟩:=DataW.trod_int q q3;obtain⟨u5,e5,_,X⟩:=DataW.trod_int q q5;obtain⟨u6,e6,_,Y⟩:=DataW.trod_int q q6;obtain⟨u7,e7,_,_⟩:=DataW.trod_int h7 q7;cases e2;cases e5;cases e6;cases e7;exact⟨a,b,c,e,u,u5,u6,u7,B,O,M,N,rfl,hB,hO,hM,hN,wO,wM,wN,wu,X,Y⟩
end
end Go.Ab

end

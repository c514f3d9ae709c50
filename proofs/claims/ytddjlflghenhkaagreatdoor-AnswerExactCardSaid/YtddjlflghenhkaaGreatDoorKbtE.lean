/- Nets, cells, flags: what the functions do (part 5). -/
import Derived.Test.YtddjlflghenhkaaGreatDoorKbtD
open Go.Ab.Tryz
open Go.Ab.Tryz renaming abEnv->zM,e3E->XI,e143E->XX
open List renaming mem_append_left->zO,append_nil->Xc,getD_eq_getElem?_getD->Xe,mem_append_right->Xf,flatMap_append->Xk,cons_append->Xl,range->Xn,nil_append->Xo,flatMap_cons->Xq,flatMap_nil->Xr,map_cons->Xs,length_append->Xt,mem_cons_self->Xu,filterMap_nil->Xv,take->Xy,drop->Xz,not_mem_nil->XB,mem_cons->XC,map_nil->XH,all_cons->XN,all_nil->XO,getElem?_eq_getElem->XP,getElem_mem->XQ,length_singleton->XU,mem_cons_of_mem->XW,take_succ_cons->XY
open Bool renaming and_true->Xa,not_not->XJ,false_eq_true->XK
open Int renaming cast_ofNat_Int->Xb,ofNat_eq_natCast->XA,eq_ofNat_of_zero_le->XR,ofNat->XZ
open Nat renaming lt_of_lt_of_le->Xd,mul_le_mul_right->Xh,le_refl->Xi,le_trans->Xj,lt_of_succ_le->Xp,zero_mul->Xw,zero_add->Xx,mul_one->XD,one_mul->XE,zero_le->XF,le_mul_of_pos_right->XS,blt_eq->XV
open Option renaming getD_some->Xg,getD_none->Xm,map_some->XG,isSome_none->XL,isSome_some->XM,map_none->XT
set_option maxHeartbeats 4000000
set_option linter.defProp false
set_option linter.unusedVariables false
set_option linter.unusedSimpArgs false
namespace Go.Ab
variable{E:Env}
variable{h h' h0:Hp}
variable{D N a b2 br c lab m mk n r s t u v:Nat}
variable{b i j:Bool}
variable{p pn vE vPi:Value}
variable{f k x:Int}
variable{g:FuncId}
variable{γ:Gra}
variable{l pis:List Int}
variable{Q R:Nat->List Int}
variable{M:Nat->Prop}
variable{G:List GL}
variable{A:List Arc}
variable{al:Nat->Bool}
variable{pi:Nat->Int}
open Go.Proofs
set_option maxRecDepth 10000
def yF(p:Value)(N a mk:Nat)(f t:Int):Int:=if isP p=true then mC N a mk f t else 1
theorem TabO.gr{a:Value}{b:Nat}{c d:FuncId}(T:TabO E h a b mk c d)(g:Gr h h'):TabO E h' a b mk c d:=⟨T.fl,fun x k=>T.marks x (g.trans k),fun x k=>T.nodes x (g.trans k)⟩
theorem firstC4{b:Nat}{t:Int}{d e h:FuncId}{i j k l:Array Value}:qk [⟨d,i,isP p,1⟩,⟨e,j,decide (0<=f/\f<N),17⟩,⟨g,k,decide (0<=t/\t<N),18⟩,⟨h,l,decide (0<mk/\b=N),19⟩]=yF p N b mk f t:=by
 simp only [qk,yF,mC,decide_eq_true_eq];cases isP p with
 |false=>rfl| true=>
   simp only [if_true];by_cases a:0<=f/\f<(N:Int)
   . by_cases c:0<=t/\t<(N:Int)
     . simp only [a,c,not_true_eq_false,if_false,and_self,if_true]
     . simp only [a,c,not_true_eq_false,not_false_eq_true,if_false,and_self,if_true]
   . simp only [a,not_false_eq_true,if_false,if_true]
theorem Ds(Z:OZ h0){J K:Value}{z:Nat}{t a:Int}(fq:Fl K)(k:(∃j γ v,p=ptrTo j/\aQ h0 v (ptrTo j) γ/\N=γ.nodes)\/p=.pointer none)(T:TabO zM h0 J z mk 41 40):
 aT zM 43 [p,J,.agg ⟨[K,.int .i64 f,.int .i64 t,.int .i64 a]⟩] h0 (.int .i64 (yF p N z mk f t)):=by
 have fp:Fl p:=by rcases k with⟨_,_,_,rfl,_⟩|rfl<;>exact bF
 have ft:=T.fl;have S:=Si Z;refine aa (n:=25) (rs:=[.tmp 6]) rfl Tryz.e43 rfl rfl rfl (lbt rfl) ?_;simp only [BZ,seval];refine ac (bK (by assumption)) S ?_;clear S;intro h l S L;simp only [BZ,if_false,seval];refine ac (bK (by assumption)) S ?_;clear S;intro h M S O;simp only [BZ,if_false,seval];refine ac (aV (by intro x e;cases e)) S ?_;clear S;intro h m S P;simp only [ae]at S;have Q:=S.gr;have A:=S.ok;have r3:=S.ld (b:=l) (o:=0) m2 rfl;have r4:=S.ld (b:=M) (o:=0) m1 rfl;have B:=S.ld (b:=m) (o:=1) m0 rfl;have C:=S.ld (b:=m) (o:=2) m0 rfl;have R:=(S.row (b:=m) m0).lt S.ok;clear S;rename Hp=>hq;have S:=Si A;simp only [BZ,seval];refine ar (aA rfl) (q:=16384) (ps:=[(5,9)]) (by kernel_rfl) ?_;simp only [BZ,cls,B,seval];refine cu (node_ok S.ok) ?_;rintro v1 h ⟨g,x1,rfl,D⟩;have U:leaves _ _ m=true:=ao g R;have k1:=g.n;replace S:=S.call g;simp only [BZ,cls,g.load C,seval];clear g;refine cu (node_ok S.ok) ?_;rintro v2 h ⟨g,x2,rfl,l2⟩;have V:leaves _ _ m=true:=ao g (Xd R k1);replace S:=S.call g;replace D:=g.load D;simp only [BZ,cls,seval];have w:=S.gr;have E:=S.ok;clear S g;rename Hp=>hA;have S:=Si E;refine dg (cd (by exact Tryz.t257.1) (by exact Tryz.e188E) (by decide) (by rfl)) S ?_;clear S;intro h W S X Y;simp only [LC,bJ,bZ,ae,Xw,Xx,XD,XE,seval]at S;have r:=S.gr;have F:=S.ok;have d:=r.load (w.load r3);have G:=r.load (w.load r4);have H:=r.load D;have I:=r.load l2;have y:=(Q.trans w).trans r;simp only [BZ,cls,seval];refine bC (CY F (rs:=[⟨107,#[ptrTo l],isP p,1⟩,⟨105,#[ptrTo x1,ptrTo l],decide (0<=f/\f<N),17⟩,⟨105,#[ptrTo x2,ptrTo l],decide (0<=t/\t<N),18⟩,⟨108,#[ptrTo M,ptrTo l],decide (0<mk/\z=N),19⟩]) (.inr ⟨W,0,none,4,rfl,Xi _,S.lds (b:=W) (o:=0) (n:=4*2) m0 (lbt rfl)⟩) (by simp) (fun i hi=>?_)) ?_
 . have ad:i<4:=hi;rcases(by omega:i=0\/i=1\/i=2\/i=3)with rfl|rfl|rfl|rfl
   . intro _;refine net2_ok ?_ d;rcases k with⟨j,_,_,rfl,_⟩|rfl
     . exact .inl ⟨j,rfl⟩
     . exact .inr rfl
   . intro s;have u:isP p=true:=s 0 (by omega);rcases k with⟨j,γ,v,rfl,c,rfl⟩|rfl
     . exact CJ (c.gr y) H d
     . cases u
   . intro s;have u:isP p=true:=s 0 (by omega);rcases k with⟨j,γ,v,rfl,c,rfl⟩|rfl
     . exact CJ (c.gr y) I d
     . cases u
   . intro s;have u:isP p=true:=s 0 (by omega);rcases k with⟨j,γ,v,rfl,c,rfl⟩|rfl
     . exact tab3_ok (c.gr y) (T.gr y) G d
     . cases u
 . intro h g;rw [firstC4];replace S:=S.call g;simp only [BZ,cls,ab,seval];refine⟨by simp only [aO,aU,aK,aX,aN,ne_eq,not_false_eq_true,bj,bG,aW,aS,bI,ce,aF,Xa,ah,aw U,av U,aw V,av V,seval],?_⟩;exact(Q.trans w).trans S.gr
theorem DJ(ok:OZ h0){U nb:Nat}(J:Good γ)(hn:aQ h0 nb (ptrTo U) γ){V q0:Value}(T:TabQ h0 V D l R Q)(hl:l.length<=16)(fq:Fl q0){t a:Int}:
 Ret zM 11 [ptrTo U,V,.agg ⟨[q0,.int .i64 f,.int .i64 t,.int .i64 a]⟩] h0 fun r h'=>Gr h0 h'/\ ∃c d vA I vE,r=.tuple #[nX c d vA I,vE]/\(∀x,(au vA x\/au I x\/au vE x)->h0.n<=x)/\
  (((mC γ.nodes D l.length f t≠0\/f=t)/\c=mC γ.nodes D l.length f t/\d=0/\vA=.slice none 0 0/\I=.slice none 0 0/\vE=.slice none 0 0)\/
   (mC γ.nodes D l.length f t=0/\f≠t/\ ∃(s w:Nat) (j:Fd),f=s/\t=w/\s<γ.nodes/\w<γ.nodes/\D=γ.nodes/\
     Ends γ.arcs (alF []) (piF ((Xn γ.nodes).map fun(v:Nat)=>cE γ.nodes l.length R Q v w ((iq γ.nodes l.length R Q f t a).map fun(x:Nat)=>(x:Int)))) w (gb (piF ((Xn γ.nodes).map fun(v:Nat)=>cE γ.nodes l.length R Q v w ((iq γ.nodes l.length R Q f t a).map fun(x:Nat)=>(x:Int)))) s) j/\
     aD h' 4 iZ vE j.ev/\
     ((FAR<=j.dist/\c=20/\d=0/\vA=.slice none 0 0/\I=.slice none 0 0)\/
      (j.dist<FAR/\c=0/\d=(j.dist:Nat)/\aD h' 1 bO vA j.arcs/\aD h' 1 bO I (iq γ.nodes l.length R Q f t a))))):=by
 have S:=Si ok;have ft:Fl V:=(T.tabO (by omega)).fl;refine aa (n:=64) (rs:=[.cell 6 43,.tmp 7]) rfl Tryz.e11 rfl rfl rfl (lbt rfl) ?_;simp only [BZ,seval];refine ac (aV (by intro x e;cases e)) S ?_;clear S;intro h B S a0;simp only [ae]at S;simp only [BZ];refine ac aB S ?_;clear S;intro h E S a1;simp only [BZ,List.drop_zero,XY,List.take_zero,S.lds (b:=B) (o:=0) (n:=4) m1 (lbt rfl),seval];refine ag (Ds S.ok fq (.inl ⟨U,γ,nb,rfl,hn.gr S.gr,rfl⟩) ((T.gr S.gr).tabO (by omega)) (a:=a) (f:=f) (t:=t)) ?_;intro h g;have eW:yF (.pointer (some ⟨U,0,none⟩)) γ.nodes D l.length f t=mC γ.nodes D l.length f t:=rfl;rw [eW];obtain⟨c,k⟩: ∃c,mC γ.nodes D l.length f t=c:=⟨_,rfl⟩;rw [k];replace S:=S.call g;clear g;by_cases c0:c=0
 . subst c0;by_cases y:f=t
   . subst y;simp only [BZ,S.ld (b:=B) (o:=1) m1 rfl,S.ld (b:=B) (o:=2) m1 rfl,seval];refine aC (S.store (i:=0) rfl Tryz.t43.2.1 (by intro x e;cases e) rfl rfl (lbt rfl) ono) ?_;clear S;rintro W ⟨S,X⟩;simp only [LC,ae,lay,Xy,Xz,seval]at S;simp only [BZ,ab];refine(aZ (by decide) (by simp only [aF,ah,seval];exact bz Tryz.t43.1 Tryz.t43.2.1 (S.lds (b:=E) (o:=0) (n:=4) m0 (lbt rfl)))).2 ?_;refine(dK (by decide)).2 (bQ.2 ?_);exact⟨S.gr,_,_,_,_,_,rfl,fun x h=>by rcases h with h|h|h<;>exact h.elim,.inl ⟨.inr trivial,rfl,rfl,rfl,rfl,rfl⟩⟩
   . obtain⟨ad,af,ai,ak⟩:=DG k;obtain⟨s,rfl⟩:=XR ad.1;obtain⟨w,rfl⟩:=XR af.1;have hs:s<γ.nodes:=(by omega);have Y:w<γ.nodes:=(by omega);have K:s≠w:=fun e=>y (by rw [e]);subst ak;obtain⟨m,t,lR,lQ⟩: ∃m,TabAt h0 m V γ.nodes l R Q/\(∀i,i<l.length->(R i).length=γ.nodes)/\ ∀i,i<l.length->(Q i).length=γ.nodes:=by
      rcases T with h|⟨_,_,rfl⟩
      . exact h
      . simp at ai
     simp only [BZ,y,S.ld (b:=B) (o:=1) m1 rfl,S.ld (b:=B) (o:=2) m1 rfl,S.ld (b:=B) (o:=3) m1 rfl,seval];have k6:=(S.row (b:=E) m0).lt S.ok;have kB:=S.fr.n;refine step_ret (sY S.ok (t.gr S.gr) lR lQ hl) ?_;rintro I h ⟨g,Z,nB⟩;replace S:=S.call g;clear g;have la:(iq γ.nodes l.length R Q s w a).length<=16:=(by unfold iq;rw [List.length_take];omega);have R5:=S.row (b:=B) m1;have R6:=S.row (b:=E) m0;have S0:=S;have gV:=S.gr;have p:=S.ok;have al:=R5.load1 (o:=1) rfl;have an:=R5.load1 (o:=2) rfl;have p5:=R5.lt p;have f1:=J.n2;simp only [BZ,seval];clear S;have S:=Si p;rename Hp=>hV;refine ar (mK (ord:=[15,0,1,2,3,4,5,6,7,8,9,10,11,12,13,14,16,17]) rfl rfl (by simp only [iv,qx,gK,List.getElem?_cons_zero,List.getElem?_cons_succ,List.map_toArray,Xs,XH,cond_true,cond_false,seval];exact rfl)) (q:=1) (ps:=[(0,12),(5,10),(3,10),(0,10)]) (by kernel_rfl) ?_;simp only [BZ,cls,seval];refine dg aB S ?_;clear S;intro h u S ax G;have L:=S.fr.n;have gB:=S.gr;have z:=S.row (b:=u) m0;have M:=z.lt S.ok;simp only [BZ,cls,gB.load al,gB.load an,seval];refine cu (bPi_ok S.ok ((t.gr gV).gr gB) lR lQ (by omega) (by omega) (yg (Z.gr gB)) (by rw [List.length_map];omega) Y) ?_;rintro vP h ⟨g,sP,nP⟩;have e1:leaves _ _ B=true:=ao g (Xd p5 L);have e2:leaves _ _ u=true:=ao g M;have kq:=g.n;replace S:=S.call g;clear g;simp only [BZ,cls,sP.fl,seval];refine cu (tt S.ok J ((hn.gr gV).gr S.gr) hs Y (als:=[]) (.inl ⟨rfl,rfl⟩) (.inl rfl) sP (.inr (by simp))) ?_;rintro r h ⟨g,v,j,rfl,⟨xA,N,rfl,G1,G2,d1,O⟩,he⟩;have e3:leaves _ _ B=true:=ao g (Xd p5 (Xj L kq));have e4:leaves _ _ u=true:=ao g (Xd M kq);have y1:Fl xA:=G1.fl;have y2:Fl N:=G2.fl;replace S:=S.call g;simp only [BZ,cls,seval];refine cP (S.store (i:=0) rfl Tryz.t96.2.1 (by intro x e;cases e) rfl (by simp only [ae,XN,XO,y1.2.1,y2.2.1,Xa];rfl) (lbt rfl) ono) ?_;have a2:=S.ok;have F: ∀c,au xA c\/au N c->c≠u:=fun c k e=>(by have:=S.fr.n;have h1:_<=c:=k.elim (fun h=>(d1 c h).1) (fun h=>O c h);omega);clear S;rintro W ⟨S,X⟩;simp only [LC,ae,lay,Xy,Xz,seval]at S;simp only [BZ,cls,seval];refine⟨by simp only [aO,aU,aK,aX,aN,ne_eq,not_false_eq_true,bj,bG,aW,aS,bI,ce,aF,Xa,ah,hU,aw e1,av e1,aw e2,av e2,aw e3,av e3,aw e4,av e4,<-G,seval],?_⟩;have z:=S.row (b:=u) m0;have j0:=z.load1 (o:=0) rfl;have j1:=z.load1 (o:=1) rfl;have j2:=z.load1 (o:=2) rfl;have C:E≠u:=fun e=>(by have:=(S0.row (b:=E) m0).lt p;omega);have ay:aD W 1 bO xA j.arcs:=(G1.sl rfl dw (by decide)).mo X (fun c k e=>F c (.inl k) e);have P:aD W 4 iZ N j.ev:=(G2.sl rfl re (by decide)).mo X (fun c k e=>F c (.inr k) e);have aL:=Z.gr S.gr;have g3:=S.gr;have S1:=S0.call S.gr;clear S;have S:=S1;clear S1;have a3:=c9;by_cases hd:j.dist<FAR
     . have H: ¬(72057594037927936:Int)<=(j.dist:Int):=(by omega);simp only [BZ,j0,H,seval];refine ar (aA rfl) (q:=0) (ps:=[(7,8)]) (by kernel_rfl) ?_;simp only [BZ,cls,j0,j1,j2,y1,Z.fl,seval];refine cP (S.store (i:=0) rfl Tryz.t43.2.1 (by intro x e;cases e) rfl (by simp only [ae,XN,XO,y1.2.1,y2.2.1,Z.fl.2.1,Xa];rfl) (lbt rfl) ono) ?_;clear S;rintro h4 ⟨S,A⟩;simp only [LC,ae,lay,Xy,Xz,seval]at S;simp only [BZ,cls,ab,seval];refine⟨by simp only [aO,aU,aK,aX,aN,ne_eq,not_false_eq_true,bj,bG,aW,aS,bI,ce,aF,Xa,ah,hU,di C,di C.symm,seval],?_⟩;refine(aZ (by decide) (by simp only [aF,ah,seval];exact bz Tryz.t43.1 Tryz.t43.2.1 (S.lds (b:=E) (o:=0) (n:=4) m0 (lbt rfl)))).2 ?_;refine(dK (by decide)).2 (bQ.2 ?_);have zE:aD h4 4 iZ N j.ev:=P.mo A (fun c k e=>by have:=O c k;have:=R6.lt p;omega);have zA:aD h4 1 bO xA j.arcs:=ay.mo A (fun c k e=>by have:=(d1 c k).1;have:=R6.lt p;omega);have zB:=aL.mo A (fun c k e=>by have:=nB c k;omega);exact⟨S.gr,_,_,_,_,_,rfl,fun x h=>(by have:=gV.n;rcases h with h|h|h;have:=(d1 x h).1;omega;have:=nB x h;omega;have:=O x h;omega),.inr ⟨y,s,w,j,rfl,rfl,hs,Y,he.resolve_left (fun h=>K h.1)|>.2,zE,.inr ⟨hd,rfl,rfl,zA,zB⟩⟩⟩
     . have H:(72057594037927936:Int)<=(j.dist:Int):=(by omega);simp only [BZ,j0,H,seval];refine ar (aA rfl) (q:=0) (ps:=[(2,3)]) (by kernel_rfl) ?_;simp only [BZ,cls,j2,seval];refine cP (S.store (i:=0) rfl Tryz.t43.2.1 (by intro x e;cases e) rfl (by simp only [ae,XN,XO,y1.2.1,y2.2.1,Xa];rfl) (lbt rfl) ono) ?_;clear S;rintro h4 ⟨S,A⟩;simp only [LC,ae,lay,Xy,Xz,seval]at S;simp only [BZ,cls,ab,seval];refine⟨by simp only [aO,aU,aK,aX,aN,ne_eq,not_false_eq_true,bj,bG,aW,aS,bI,ce,aF,Xa,ah,hU,di C,di C.symm,seval],?_⟩;refine(aZ (by decide) (by simp only [aF,ah,seval];exact bz Tryz.t43.1 Tryz.t43.2.1 (S.lds (b:=E) (o:=0) (n:=4) m0 (lbt rfl)))).2 ?_;refine(dK (by decide)).2 (bQ.2 ?_);have zE:aD h4 4 iZ N j.ev:=P.mo A (fun c k e=>by have:=O c k;have:=R6.lt p;omega);exact⟨S.gr,_,_,_,_,_,rfl,fun x h=>(by have:=gV.n;rcases h with h|h|h;exact h.elim;exact h.elim;have:=O x h;omega),.inr ⟨y,s,w,j,rfl,rfl,hs,Y,he.resolve_left (fun h=>K h.1)|>.2,zE,.inl ⟨by omega,rfl,rfl,rfl,rfl⟩⟩⟩
 . simp only [BZ,c0,seval];refine aC (S.store (i:=0) rfl Tryz.t43.2.1 (by intro x e;cases e) rfl rfl (lbt rfl) ono) ?_;clear S;rintro W ⟨S,X⟩;simp only [LC,ae,lay,Xy,Xz,seval]at S;simp only [BZ,ab];refine(aZ (by decide) (by simp only [aF,ah,seval];exact bz Tryz.t43.1 Tryz.t43.2.1 (S.lds (b:=E) (o:=0) (n:=4) m0 (lbt rfl)))).2 ?_;refine(dK (by decide)).2 (bQ.2 ?_);exact⟨S.gr,_,_,_,_,_,rfl,fun x h=>by rcases h with h|h|h<;>exact h.elim,.inl ⟨.inl c0,rfl,rfl,rfl,rfl,rfl⟩⟩
theorem piF_zero(N:Nat){f:Nat->Int}(hf: ∀v,f v=0):piF ((Xn N).map f)=piF []:=by
 rw [show piF []=fun _=>(0:Int)from funext fun v=>if_pos rfl];funext v;unfold piF;have:((Xn N).map f).getD v 0=0:=by
  rw [Xe,List.getElem?_map];cases(Xn N)[v]? with
  |none=>rfl|some k=>exact hf k
 rw [this]
 split<;>rfl
def Tz(b a:Nat)(B:Nat->Nat):Prop:= ∀r i,b<=i->i/8<a->iD B a r i=false
def tv(N:Nat)(l:List Int):Prop:=l.length=N/\ ∀x∈l,0<=x/\x<=72057594037927936
theorem AN{B:List Arc}(h: ∀v,dOf B s v<=FAR)(a:x∈qv B N s):0<=x/\x<=72057594037927936:=by unfold qv at a;obtain⟨v,_,rfl⟩:=List.mem_map.1 a;have:=h v;unfold FAR at this;omega
def crcS(r:Nat):Nat:=(r>>>1) ^^^(if r%2=1 then 3988292384 else 0)
def crcN:Nat->Nat->Nat
 |0,r=>r|k+1,r=>crcN k (crcS r)
def crcB(r b:Nat):Nat:=crcN 8 (r ^^^b)
def crcL(r:Nat)(l:List UInt8):Nat:=l.foldl (fun r b=>crcB r b.toNat) r
def crc(l:List UInt8):Nat:=4294967295 ^^^crcL 4294967295 l
abbrev Bs:=List UInt8
def getN:Bs->Nat
 | []=>0|b::l=>b.toNat+256*getN l
def first6:Bs:=[77,73,76,69,49,1]
abbrev Ent:=Nat×Nat×Nat
def entD(s:Bs):Ent:=(getN (s.take 1),getN ((s.drop 1).take 8),getN ((s.drop 9).take 4))
def entsD:Nat->Bs->List Ent
 |0,_=>[]|k+1,s=>entD s::entsD k (s.drop 13)
def vS(s:Bs):Nat:=getN ((s.drop 6).take 1)
def headOk(s:Bs):Prop:=s.take 6=first6/\7<=s.length/\vS s<=16/\11+13*vS s<=s.length/\getN ((s.drop (7+13*vS s)).take 4)=crc (s.take (7+13*vS s))/\
 ((entsD (vS s) (s.drop 7)).map (·.2.1)).sum=s.length-(11+13*vS s)
noncomputable instance (s:Bs):Decidable (headOk s):=Classical.propDecidable _
def u64(x:Int):Nat:=(x%18446744073709551616).toNat
def i64(n:Nat):Int:=if n<9223372036854775808 then n else n-18446744073709551616
structure Tab where
 l:List Int
 to:List (List Int)
 fr:List (List Int)
structure Img where
 g:Gra
 T:Option Tab
 C:Option (List Int×Bs)
structure TabL(N:Nat)(T:Tab):Prop where
 l1:1<=T.l.length
 l2:T.l.length<=16
 to:T.to.length=T.l.length
 fr:T.fr.length=T.l.length
 rTo: ∀r∈T.to,r.length=N/\ ∀x∈r,0<=x/\x<=72057594037927936
 rFr: ∀r∈T.fr,r.length=N/\ ∀x∈r,0<=x/\x<=72057594037927936
 rl: ∀x∈T.l,0<=x/\x<4294967296
theorem hf_u{k:IntKind}(h:sgn k=false):hf k=pw k:=by cases k<;>first|rfl|cases h
theorem wrapN{k:IntKind}(h:sgn k=false)(n:Nat):aq k (n:Int)=((n%pw k:Nat):Int):=by
 show aq k (.ofNat n)=_;simp only [aq,hf_u h,h];cases a:Nat.blt n (pw k)with
 |true=>rw [XV]at a;rw [cond_true,Nat.mod_eq_of_lt a];rfl|false=>rfl
theorem Cg{k:IntKind}(h:sgn k=false)(a:n<pw k):aq k (n:Int)=(n:Int):=by rw [wrapN h,Nat.mod_eq_of_lt a]
section
variable{E:Env}{t:TypeId}{p q:Operand}{x y:Nat}{k k':IntKind}
theorem bitsU(op:BinOp)(a:x<pw k)(b:y<pw k):jF op k (x:Int) (y:Int)=match op with
 | .and=>some (aq k ((x&&& y:Nat):Int))| .or=>some (aq k ((x|||y:Nat):Int))
 | .xor=>some (aq k ((x ^^^y:Nat):Int))| .andNot=>some (aq k ((x ^^^(x&&& y):Nat):Int))|_=>none:=by
 show jF op k (.ofNat x) (.ofNat y)=_;have c:Nat.blt x (pw k)=true:=by rw [XV];exact a
 have d:Nat.blt y (pw k)=true:=by rw [XV];exact b
 unfold jF;simp only [c,d,Bool.and_self,cond_true];cases op<;>rfl
theorem b_andN(h:sgn k=false)(a:x<pw k)(b:y<pw k):bS E .and t p q (.int k (x:Int)) (.int k (y:Int))=some (.int k ((x&&& y:Nat):Int)):=by show(bif kW k k then(jF .and k (x:Int) (y:Int)).map (Value.int k ·)else none)=_;rw [bitsU .and a b,ig];simp only [Cg h (Nat.lt_of_le_of_lt Nat.and_le_left a)];rfl
end
def sv(l:Bs):Value:=.string (jc l)
theorem netRaw_ok(C:OZ h0)(m:kH γ)(E:aQ h0 D (ptrTo u) γ):
 Ret zM 17 [ptrTo u] h0 fun r h'=>Gr h0 h'/\ ∃j k f,r=iX γ j k f/\dM h' j k f γ/\(∀c,au j c\/au k c\/au f c->h0.n<=c)/\WrK h' 3 cI f γ.arcs/\ ∀c,au f c-> ¬au j c/\ ¬au k c:=by
 have S:=Si C;obtain⟨b,j,k,f,M,N,e,r,F,_⟩:=E.ex;cases e;have G:=r.load (o:=0) (n:=4) (lbt rfl);refine aa (n:=11) (rs:=[.cell 2 57]) rfl Tryz.e17 rfl rfl rfl (lbt rfl) ?_;simp only [BZ];refine ac aB S ?_;clear S;intro h y S z;simp only [BZ,S.old G (fun h=>h),List.drop_zero,XY,List.take_zero,seval];have H:=S.fr.n;have A:Ret zM 63 [iX γ j k f] h _:=own_ok S.ok m (F.gr S.gr);unfold iX at A;refine step_ret A ?_;rintro v h ⟨g,p,q,s,rfl,a,t,w,d⟩;have I:=a.X.fl;have J:=a.Y.fl;have K:=a.A.fl;have L:=(S.row (b:=y) m0).lt S.ok;replace S:=S.call g;simp only [BZ,seval];refine aC (S.store (i:=0) rfl Tryz.t57.2.1 (by intro x e;cases e) rfl (by simp only [ae,XN,XO,I.2.1,J.2.1,K.2.1,Xa];rfl) (lbt rfl) ono) ?_;clear S;rintro h' ⟨S,B⟩;simp only [LC,ae,lay,Xy,Xz,seval]at S;simp only [BZ,ab];refine(aZ (by decide) (by simp only [aF,ah,seval];exact bz Tryz.t57.1 Tryz.t57.2.1 (S.lds (b:=y) (o:=0) (n:=4) m0 (lbt rfl)))).2 (bQ.2 ?_);exact⟨S.gr,p,q,s,rfl,a.mo B (fun c l e=>by have:=t c l;omega),fun c l=>Xj H (t c l),w.mo B (fun c l e=>by have:=t c (.inr (.inr l));omega),d⟩
def byB(n:Nat)(B:Nat->Nat):Bs:=(Xn n).map fun j=>UInt8.ofNat (B j)
def kK(l:List (List Int))(i:Nat):List Int:=l.getD i []
def TabM(h:Hp)(p:Value)(N:Nat)(T:Tab):Prop:=(∃m,TabAt h m p N T.l (kK T.to) (kK T.fr))/\TabL N T
theorem TabM.gr{h h':Hp}{p:Value}{N:Nat}{T:Tab}(t:TabM h p N T)(g:Gr h h'):TabM h' p N T:=⟨by obtain⟨m,x⟩:=t.1;exact⟨m,x.gr g⟩,t.2⟩
def CelM(h:Hp)(d e:Value)(γ:Gra)(m:List Int)(F:Bs):Prop:= ∃k c f b a B,j8 h k d m/\m.length=γ.nodes/\e=ptrTo c/\gY m+1=((b:Nat):Int)/\iB h c f b γ.arcs.length a B/\F=byB (b*a) B/\(∀x∈m,0<=x/\x<256)/\ ¬yI m/\a=(γ.arcs.length+7)/8/\Tz γ.arcs.length a B
theorem CelM.gr{h h':Hp}{n o:Value}{γ:Gra}{m:List Int}{F:Bs}(c:CelM h n o γ m F)(g:Gr h h'):CelM h' n o γ m F:=by obtain⟨k,p,q,j,l,B,a,b,c,d,e,f,i⟩:=c;exact⟨k,p,q,j,l,B,a.gr g,b,c,d,e.gr g,f,i⟩
def TabX(h:Hp)(p:Value)(N:Nat):Option Tab->Prop
 |none=>p=.pointer none|some T=>TabM h p N T
def CelX(h:Hp)(a b:Value)(γ:Gra):Option (List Int×Bs)->Prop
 |none=>a=.pointer none/\b=.pointer none|some (m,F)=>CelM h a b γ m F
theorem TabX.gr{h h':Hp}{p:Value}{N:Nat}{T:Option Tab}(t:TabX h p N T)(g:Gr h h'):TabX h' p N T:=by
 cases T with
 |none=>exact t|some T=>exact TabM.gr t g
theorem CelX.gr{h h':Hp}{a b:Value}{γ:Gra}{C:Option (List Int×Bs)}(t:CelX h a b γ C)(g:Gr h h'):CelX h' a b γ C:=by
 cases C with
 |none=>exact t|some c=>exact CelM.gr t g
def ImC(h:Hp)(pn a b c:Value)(I:Img):Prop:=(∃d,aQ h d pn I.g)/\kH I.g/\TabX h a I.g.nodes I.T/\CelX h b c I.g I.C
theorem ImC.gr{h h':Hp}{pn a b c:Value}{I:Img}(i:ImC h pn a b c I)(g:Gr h h'):ImC h' pn a b c I:=⟨by obtain⟨d,n⟩:=i.1;exact⟨d,n.gr g⟩,i.2.1,i.2.2.1.gr g,i.2.2.2.gr g⟩
def ImAt(h:Hp)(b:Nat)(I:Img):Prop:= ∃a c d e,Row h b [a,c,d,e] 1/\ImC h a c d e I
theorem ImAt.gr{h h':Hp}{b:Nat}{I:Img}(i:ImAt h b I)(g:Gr h h'):ImAt h' b I:=by obtain⟨a,d,e,f,r,c⟩:=i;exact⟨a,d,e,f,r.gr g,c.gr g⟩
theorem TabM.ptr{T:Tab}(t:TabM h p N T): ∃b,p=ptrTo b:=by obtain⟨⟨m,t⟩,_⟩:=t;obtain⟨b,_,_,_,e,_⟩:=t.ex;exact⟨b,e⟩
theorem CelM.ptr{a d:Value}{m:List Int}{F:Bs}(c:CelM h a d γ m F): ∃b c,a=ptrTo b/\d=ptrTo c:=by obtain⟨k,i,l,f,g,B,⟨b,_,e,_⟩,_,j,_⟩:=c;exact⟨b,i,e,j⟩
theorem aQ.ptr(n:aQ h a p γ): ∃b,p=ptrTo b:=by obtain⟨b,_,_,_,_,_,e,_⟩:=n.ex;exact⟨b,e⟩
theorem jJ.congr{v:Value}{f:Nat->List Int}(r:jJ h m v n R)(e: ∀i,i<n->R i=f i):jJ h m v n f:=by
 obtain⟨j,a,b,c,d⟩:=r;exact⟨j,a,b,c,fun i w g=>by
  have:=(List.getElem?_eq_some_iff.1 g).1;rw [<-e i (by omega)];exact d i w g⟩
theorem TabAt.congr{h:Hp}{m N:Nat}{p:Value}{l:List Int}{R Q a c:Nat->List Int}(t:TabAt h m p N l R Q)(d: ∀i,i<l.length->R i=a i)(e: ∀i,i<l.length->Q i=c i):TabAt h m p N l a c:=by obtain⟨b,f,g,j,k,n,o,q,r,s,u⟩:=t.ex;exact⟨b,f,g,j,k,n,o,q.congr d,r.congr e,s,u⟩
def tabL(l:List Int)(R Q:Nat->List Int):Tab:=⟨l,(Xn l.length).map R,(Xn l.length).map Q⟩
theorem pM{i:Nat}(h:i<n):kK ((Xn n).map R) i=R i:=by unfold kK;simp [Xe,h]
theorem tabL_at(t:TabAt h m p N l R Q):TabAt h m p N (tabL l R Q).l (kK (tabL l R Q).to) (kK (tabL l R Q).fr):=
 t.congr (fun i a=>(pM a).symm) (fun i a=>(pM a).symm)
theorem tabL_L(d:fm N l)(k:N<=1000)(c:1<=l.length)(e: ∀i,i<l.length->tv N (R i))(f: ∀i,i<l.length->tv N (Q i)):TabL N (tabL l R Q):=by
 have a: ∀{F:Nat->List Int},(∀i,i<l.length->tv N (F i))-> ∀r∈(Xn l.length).map F,r.length=N/\ ∀x∈r,0<=x/\x<=72057594037927936:=fun {F} g r h=>by obtain⟨i,b,rfl⟩:=List.mem_map.1 h;exact g i (List.mem_range.1 b)
 exact⟨c,d.1,by simp [tabL],by simp [tabL],a e,a f,fun x j=>by
  obtain⟨i,b,rfl⟩:=List.getElem_of_mem (l:=l) j;have:=d.2 i b;simp only [Xe,XP b,Xg]at this;have c:=this.1;have m:=this.2.1;exact⟨c,by omega⟩⟩
theorem ownRows(c:OZ h0)(a:Good γ){e:Nat}(d:aQ h0 e pn γ)(f:fm γ.nodes l){i:Nat}(g:i<l.length):tv γ.nodes (toR γ l i)/\tv γ.nodes (frR γ l i):=by have h:=f.2 i g;exact⟨⟨tV _ _ _,fun x b=>AN (fun v=>(exTo c a d (by omega) v).le) b⟩,tV _ _ _,fun x b=>AN (fun v=>(exFrom c a d (by omega) v).le) b⟩
theorem fits_im(f:OZ h0){a b:Value}{g:Nat}{m:List Int}{F:Bs}(h:aQ h0 g pn γ)(i:1<=γ.nodes)(p:γ.nodes<1000000)(c:CelM h0 a b γ m F):aT zM 42 [pn,a,b] h0 (.bool true):=by obtain⟨k,q,r,d,e,B,j,l,rfl,n,o,_⟩:=c;have:=wj f h (.inr ⟨⟨k,j⟩,rfl⟩) o.bits i (by omega);simpa [l,n]using this
theorem right_ok(G:OZ h0){b:Nat}{I:Img}(i:ImAt h0 b I):aT zM 9 [ptrTo b] h0 (.bool true):=by
 have S:=Si G;obtain⟨U,H,J,K,r,⟨V,w⟩,x,f,a⟩:=i;obtain⟨W,rfl⟩:=w.ptr;have L:=r.lt G;have c:=r.load1 (o:=0) rfl;have d:=r.load1 (o:=1) rfl;have k:=r.load1 (o:=2) rfl;have p:=r.load1 (o:=3) rfl;have M:=x.n1;have X:=x.n2;cases N:I.T with
 | none=>
   rw [N]at f;have f:H=.pointer none:=f;subst f;cases y:I.C with
   | none=>
     rw [y]at a;obtain⟨rfl,rfl⟩:=a;refine aa (n:=72) (rs:=[.tmp 2]) rfl Tryz.e9 rfl rfl rfl (lbt rfl) ?_;simp only [BZ,c,seval];refine ar (aA rfl) (q:=0) (ps:=[(10,14)]) (by kernel_rfl) ?_;simp only [BZ,cls,d,k,p,seval];refine⟨by simp only [aO,aU,aK,aX,aN,ne_eq,not_false_eq_true,bj,bG,aW,aS,bI,ce,aF,Xa,ah,cZ,seval];rfl,?_⟩;refine ar (aA rfl) (q:=0) (ps:=[]) (by kernel_rfl) ?_;simp only [BZ,cls,ab,seval];exact S.gr
   | some D=>
     obtain⟨m,F⟩:=D;rw [y]at a;have a:CelM h0 J K I.g m F:=a;obtain⟨Q,R,rfl,rfl⟩:=a.ptr;refine aa (n:=72) (rs:=[.tmp 2]) rfl Tryz.e9 rfl rfl rfl (lbt rfl) ?_;simp only [BZ,c,seval];refine ar (aA rfl) (q:=0) (ps:=[(10,14)]) (by kernel_rfl) ?_;simp only [BZ,cls,d,k,seval];refine⟨by simp only [aO,aU,aK,aX,aN,ne_eq,not_false_eq_true,bj,bG,aW,aS,bI,ce,aF,Xa,ah,cZ,seval];rfl,?_⟩;refine ar (aA rfl) (q:=0) (ps:=[]) (by kernel_rfl) ?_;simp only [BZ,cls,c,k,p,seval];refine bC (fits_im S.ok w M (by omega) a) ?_;intro h g;have s:=ao g L;replace S:=S.call g;simp only [BZ,cls,ab,seval];exact S.gr
 | some T=>
   rw [N]at f;have f:TabM h0 H I.g.nodes T:=f;obtain⟨Y,rfl⟩:=f.ptr;obtain⟨⟨mt,B⟩,O⟩:=f;have t1:=O.l1;have t2:=O.l2;have P:(0:Int)<(T.l.length:Int):=(by omega);have q: ∀{t u C:Hp},Gr h0 t->Gr t u->Gr u C->leaves h0 t b=true/\leaves t u b=true/\leaves u C b=true:=fun e j l=>(by have:=e.n;have:=j.n;exact⟨ao e L,ao j (by omega),ao l (by omega)⟩);cases y:I.C with
   | none=>
     rw [y]at a;obtain⟨rfl,rfl⟩:=a;refine aa (n:=72) (rs:=[.tmp 2]) rfl Tryz.e9 rfl rfl rfl (lbt rfl) ?_;simp only [BZ,c,seval];refine ar (aA rfl) (q:=0) (ps:=[(10,14)]) (by kernel_rfl) ?_;simp only [BZ,cls,d,seval];refine bC (lN S.ok B) ?_;intro t e;replace S:=S.call e;simp only [BZ,cls,e.load c,seval];refine bC (bM S.ok (w.gr S.gr)) ?_;intro u j;replace S:=S.call j;simp only [BZ,cls,S.gr.load d,seval];refine cu (jM S.ok (B.gr S.gr) (by omega)) ?_;rintro v C ⟨l,E,_⟩;obtain⟨s,z,A⟩:=q e j l;replace S:=S.call l;simp only [BZ,cls,E.lenq,P,S.gr.load c,S.gr.load d,S.gr.load k,S.gr.load p,seval];refine⟨by simp only [aO,aU,aK,aX,aN,ne_eq,not_false_eq_true,bj,bG,aW,aS,bI,ce,aF,Xa,ah,cZ,aw s,av s,aw z,av z,aw A,av A,seval],?_⟩;refine ar (aA rfl) (q:=0) (ps:=[]) (by kernel_rfl) ?_;simp only [BZ,cls,ab,S.gr.load c,S.gr.load d,S.gr.load k,S.gr.load p,seval];exact S.gr
   | some D=>
     obtain⟨m,F⟩:=D;rw [y]at a;have a:CelM h0 J K I.g m F:=a;obtain⟨Q,R,rfl,rfl⟩:=a.ptr;refine aa (n:=72) (rs:=[.tmp 2]) rfl Tryz.e9 rfl rfl rfl (lbt rfl) ?_;simp only [BZ,c,seval];refine ar (aA rfl) (q:=0) (ps:=[(10,14)]) (by kernel_rfl) ?_;simp only [BZ,cls,d,seval];refine bC (lN S.ok B) ?_;intro t e;replace S:=S.call e;simp only [BZ,cls,e.load c,seval];refine bC (bM S.ok (w.gr S.gr)) ?_;intro u j;replace S:=S.call j;simp only [BZ,cls,S.gr.load d,seval];refine cu (jM S.ok (B.gr S.gr) (by omega)) ?_;rintro v C ⟨l,E,_⟩;obtain⟨s,z,A⟩:=q e j l;replace S:=S.call l;simp only [BZ,cls,E.lenq,P,S.gr.load c,S.gr.load d,S.gr.load k,S.gr.load p,seval];refine⟨by simp only [aO,aU,aK,aX,aN,ne_eq,not_false_eq_true,bj,bG,aW,aS,bI,ce,aF,Xa,ah,cZ,aw s,av s,aw z,av z,aw A,av A,seval],?_⟩;refine ar (aA rfl) (q:=0) (ps:=[]) (by kernel_rfl) ?_;simp only [BZ,cls,S.gr.load c,S.gr.load d,S.gr.load k,S.gr.load p,seval];have Z:=S.gr.n;refine bC (fits_im S.ok (w.gr S.gr) M (by omega) (a.gr S.gr)) ?_;intro h g;have e4:=ao g (show b<_ by omega);replace S:=S.call g;simp only [BZ,cls,ab,seval];exact S.gr
theorem St.growB{L:List (Nat×Ob)}(S:St M h0 h L G){t w e:TypeId}{f k len b md:Nat}{y vs new:List Value}{x:Value}(B:Row h b vs md)(a:len*k=vs.length)(C:E.und t=some (.slice e))(D:fU E e f k y)(F:0<f)
 (q:eR E w=some false) (g:aP h k x=some (m,new)) (z:m*k=new.length) (H:0<m) (A:0<k) (r:(vs.length+new.length)*(f+1)<=70368744177664) {ts:List TypeId}:
 ∃h' v',dL E h (t::w::ts) (.slice (some ⟨b,0,none⟩) len len) x=some (h',v')/\St M h0 h' L ((v',k,vs++new)::G):=by
 obtain⟨⟨i,I,rfl,rfl⟩,J,K⟩:=D;obtain⟨p,N,j,d,s⟩:=B;have l:Nat.ble (len+m) len=false:=by
  cases q:Nat.ble (len+m) len with
  |false=>rfl|true=>exact absurd (lbt q) (by omega)
 have o:len+m<=vs.length+new.length:=by rw [<-a,<-z];have H:=XS len A;have O:=XS m A;omega
 have c:(Nat.ble ((len+m)*(i.bytes+1)) 70368744177664&&Nat.blt 0 i.bytes)=true:=by rw [Nat.ble_eq_true_of_le (Xj (Xh _ o) r)];simp only [Bool.true_and];rw [XV];exact F
 have u:Nat.beq y.length i.size=true:=by rw [K];exact Nat.beq_refl _
 have v:lg p vs.length 0 (len*i.size) new=some (p.pushAll vs.length new,vs.length+new.length):=by unfold lg;rw [a,Nat.beq_refl vs.length];rfl
 refine⟨h.new (.cells (p.pushAll vs.length new) (vs.length+new.length) e 1),.slice (some ⟨h.n,0,some i.size⟩) (len+m) (len+m),?_,S.newG (n:=len+m) ?_ ?_⟩
 . unfold dL;simp only [q];unfold lC;simp only [C,I,g];unfold ib;rw [l];simp only [cond_false];rw [c,J];simp only [cond_true,u];unfold pT;simp only [j,v]
 . rw [Nat.add_mul,a,z,Xt]
 . refine⟨p.pushAll vs.length new,e,?_,?_,fun n=>?_⟩
   . rw [Hp.get_new _ _ S.ok,if_pos rfl,Xt]
   . rw [Xt];exact Tr.sized_pushAll _ d
   . rw [Tr.get_pushAll _ _ _ d,List.getElem?_append]
     split
     . exact s n
     . rfl
theorem pos_first{ks:List Int}: ∀{i:Nat} (a:i<ks.length),ks[i]=x->(∀j (c:j<ks.length),j<i->ks[j]≠x)->pos ks x=some i:=by
 induction ks with
 |nil=>intro i a;simp at a| cons y k f=>
   intro i a b d;cases i with
   |zero=>simp only [List.getElem_cons_zero]at b;unfold pos;rw [if_pos b.symm]| succ i=>
     have g:y≠x:=d 0 (by simp) (by omega);have:=f (i:=i) (by simpa using a) (by simpa using b) (fun j c h=>by have:=d (j+1) (by simpa using c) (by omega);simpa using this);unfold pos;rw [if_neg (fun e=>g e.symm),this];rfl
theorem pos_no{ks:List Int}(a: ∀j (b:j<ks.length),ks[j]≠x):pos ks x=none:=by
 induction ks with
 |nil=>rfl| cons y f c=>
   have d:y≠x:=a 0 (by simp);unfold pos;rw [if_neg (fun e=>d e.symm),c (fun j b=>by have:=a (j+1) (by simpa using b);simpa using this)];rfl
theorem D0  (ok:OZ h0) {v:Value}  (K:aD h0 1 (encI .i64) v l) (hl:l.length<1000):
 Ret zM 37 [v] h0 fun r h'=>Gr h0 h'/\aD h' 1 (encI .i64) r (norm [] l)/\ ∀c,au r c->h0.n<=c:=by
 have S:=Si ok;have fv:=K.fl;refine aa (n:=46) (rs:=[.tmp 2]) rfl Tryz.e37 rfl rfl rfl (lbt rfl) ?_;simp only [BZ];replace S:=(S.nilG (k:=1)).nilG (k:=1);refine bA (fun(i:Nat) g h=>i<=l.length/\ ∃(L C:Value) (p ks:List Int),St NoM h0 h [] [(C,1,ints ks),(L,1,ints p)]/\norm [] l=p++norm ks (l.drop i)/\p.length=i/\ks.length<=i/\g 0=v/\g 3=L/\g 4=C/\g 5=.int .i64 i) (fun i=>l.length-i) ?_ 0 _ _ ?_
 . clear S;intro i W g h ⟨hi,L,C,p,ks,S,hnm,lo,lk,s,A,B,t⟩;have w:aq .i64 ((i:Int)+1)=((i+1:Nat):Int):=(by rw [wrap64]<;>omega);by_cases hlt:i<l.length
   . have X:l.drop i=l[i]::l.drop (i+1):=List.drop_eq_getElem_cons hlt;obtain⟨c0,o0,P,Y⟩:=K.ix (kd:=.i64) (cB .i64) hlt;generalize l[i]=x at X Y;simp only [BZ,s,t,K.lenq,aI,hlt,seval];refine bA (fun(a:Nat) g h'=>h'=h/\a<=ks.length/\(∀j (F:j<ks.length),j<a->ks[j]≠x)/\g 0=v/\g 3=L/\g 4=C/\g 5=.int .i64 i/\g 6=.int .i64 a) (fun a=>ks.length-a) ?_ 0 _ _ ?_
     . clear s A B t;rintro a Q g h' ⟨rfl,ha,R,s,A,B,t,M⟩;have wa:aq .i64 ((a:Int)+1)=((a+1:Nat):Int):=(by rw [wrap64]<;>omega);have N:aD h' 1 (encI .i64) C ks:=(S.gown _ m0).1.sl rfl (fun _=>rfl) (by decide);have D:h'.load c0 o0 1=some [.int .i64 x]:=S.gr.load Y;have G: ∀(q:Nat) (z:List Int) (u d:Value) (T:Nat->Value) (E:Hp),q=pQ ks x->z=pS ks x->St NoM h0 E [] [(u,1,ints z),(d,1,ints (p++[(q:Int)]))]->norm [] l=(p++[(q:Int)])++norm z (l.drop (i+1)):=fun q z u d T E e1 e2 _=>(by rw [hnm,X,norm,<-e1,<-e2,List.append_assoc];rfl);by_cases y:a<ks.length
       . obtain⟨c1,o1,Z,H⟩:=N.ix (kd:=.i64) (cB .i64) y;replace H:h'.load c1 o1 1=some [.int .i64 ks[a]]:=H;by_cases O:ks[a]=x
         . simp only [BZ];refine ar (aA rfl) (q:=0) (ps:=[]) (by kernel_rfl) ?_;have U: ¬(a:Int)=(ks.length:Int):=(by omega);rw [O]at H;simp only [BZ,cls,ab,s,A,B,t,M,N.lenq,aI,y,Z,H,P,D,U,seval];refine ac (cd (by exact Tryz.t41.1) (by exact XI) (by decide) (by rfl)) S ?_;clear S;intro h I S J;simp only [LC,bJ,bZ,ae,Xw,Xx,XD,XE,seval]at S;simp only [BZ,seval];have ps:=pos_first y O R;have f:aP h 1 (.slice (some ⟨I,0,none⟩) 1 1)=some (1,ints [(a:Int)]):=(by simp only [aP];rw [S.lds (b:=I) (o:=0) (n:=1*1) m0 (lbt rfl)];rfl);replace S:=S.drop1;refine dV (S.grow (j:=1) (m:=1) (new:=ints [(a:Int)]) rfl Tryz.t41.1 XI (by decide) Tryz.t41.2.2.2.2.2 f rfl (by decide) rfl (by rw [cL,cL];simp;omega)) ?_;clear S f;rintro E d S;simp only [LC]at S;rw [<-iM]at S;simp only [BZ,t,w,seval];refine W (i+1) _ _ (by omega) ⟨by omega,d,C,_,ks,S,G a ks C d g E (by unfold pQ;rw [ps]) (by unfold pS;rw [ps]) S,by simp [lo],by omega,by simp [aG,s,B]⟩
         . simp only [BZ];refine ar (aA rfl) (q:=0) (ps:=[]) (by kernel_rfl) ?_;simp only [BZ,cls,s,B,t,M,N.lenq,aI,y,Z,H,P,D,O,wa,seval];refine Q (a+1) _ _ (by omega) ⟨rfl,by omega,fun j F af=>?_,by simp [aG,s,A,B,t]⟩;by_cases e:j=a
           . subst e;exact O
           . exact R j F (by omega)
       . have ea:a=ks.length:=(by omega);subst ea;have ps:=pos_no (ks:=ks) (x:=x) (fun j F=>R j F F);simp only [BZ];refine ar (aA rfl) (q:=0) (ps:=[]) (by kernel_rfl) ?_;simp only [BZ,cls,ab,s,A,B,t,M,N.lenq,aI,y,P,D,seval];refine ac (cd (by exact Tryz.t41.1) (by exact XI) (by decide) (by rfl)) S ?_;clear S;intro h I S J;simp only [LC,bJ,bZ,ae,Xw,Xx,XD,XE,seval]at S;simp only [BZ,seval];have f:aP h 1 (.slice (some ⟨I,0,none⟩) 1 1)=some (1,ints [x]):=(by simp only [aP];rw [S.lds (b:=I) (o:=0) (n:=1*1) m0 (lbt rfl)];rfl);replace S:=S.drop1;refine dV (S.grow (j:=0) (m:=1) (new:=ints [x]) rfl Tryz.t41.1 XI (by decide) Tryz.t41.2.2.2.2.2 f rfl (by decide) rfl (by rw [cL,cL];simp;omega)) ?_;clear S f;rintro E u S;simp only [LC]at S;rw [<-iM]at S;simp only [BZ,A,M,seval];refine ac (cd (by exact Tryz.t41.1) (by exact XI) (by decide) (by rfl)) S ?_;clear S;intro h bu S ad;simp only [LC,bJ,bZ,ae,Xw,Xx,XD,XE,seval]at S;simp only [BZ,seval];have f:aP h 1 (.slice (some ⟨bu,0,none⟩) 1 1)=some (1,ints [((ks.length:Nat):Int)]):=(by simp only [aP];rw [S.lds (b:=bu) (o:=0) (n:=1*1) m0 (lbt rfl)];rfl);replace S:=S.drop1;refine dV (S.grow (j:=1) (m:=1) (new:=ints [((ks.length:Nat):Int)]) rfl Tryz.t41.1 XI (by decide) Tryz.t41.2.2.2.2.2 f rfl (by decide) rfl (by rw [cL,cL];simp;omega)) ?_;clear S f;rintro E d S;simp only [LC]at S;rw [<-iM]at S;simp only [BZ,t,w,seval];refine W (i+1) _ _ (by omega) ⟨by omega,d,u,_,_,S,G ks.length _ u d g E (by unfold pQ;rw [ps]) (by unfold pS;rw [ps]) S,by simp [lo],by simp;omega,by simp [aG,s]⟩
     . exact⟨rfl,XF _,fun j F h=>absurd h (by omega),by simp [aG,s,A,B,t]⟩
   . have V:i=l.length:=(by omega);simp only [BZ,ab,s,A,t,K.lenq,aI,hlt,seval];rw [V,List.drop_length,norm,Xc]at hnm;rw [hnm];exact⟨S.gr,(S.gown _ m1).1.sl rfl (fun _=>rfl) (by decide),fun c hc=>((S.gblk m1 hc).1).elim (fun h=>h) (fun h=>h.elim)⟩
 . exact⟨XF _,_,_,[],[],S,rfl,rfl,Xi _,by simp [aG,cZ]⟩
def TabY(h:Hp)(k:Nat)(a:Prop)(p:Value)(γ:Gra):Option Tab->Prop
 |none=>p=.pointer none|some T=>(∃m,k<m/\TabAt h m p γ.nodes T.l (kK T.to) (kK T.fr))/\TabL γ.nodes T/\T.l.length<=4/\fm γ.nodes T.l/\(a-> ∀i,i<T.l.length->kK T.to i=toR γ T.l i/\kK T.fr i=frR γ T.l i)
def CelY(h:Hp)(g:Prop)(a c:Value)(γ:Gra):Option (List Int×Bs)->Prop
 |none=>a=.pointer none/\c=.pointer none|some (m,F)=>CelM h a c γ m F/\ ∃i d j e k b f,a=ptrTo j/\c=ptrTo e/\ia h i a γ.nodes m d/\gY m+1=((b:Nat):Int)/\b<=100/\iB h e k b γ.arcs.length ((γ.arcs.length+7)/8) f/\(g->OkB γ d ((γ.arcs.length+7)/8) b 0 f)
def Im32(h:Hp)(b:Nat)(I:Img)(f g:Prop):Prop:=Good I.g/\ ∃a c d e i,Row h b [ptrTo a,c,d,e] 1/\aQ h i (ptrTo a) I.g/\TabY h 0 f c I.g I.T/\CelY h g d e I.g I.C
theorem b_andB2{t:TypeId}{p q:Operand}{x:Nat}(h:x<256):bS E .and t p q (.int .u8 (x:Int)) (.int .u8 1)=some (.int .u8 ((x%2:Nat):Int)):=by rw [<-Nat.and_one_is_mod];exact b_andN (k:=.u8) (x:=x) (y:=1) rfl (by simp only [pw];omega) (by decide)
theorem zw{j:Nat}(g:a<=255)(b:j<8){t:TypeId}{p q:Operand}:bS E .and t p q (.int .u8 (a:Int)) (.int .u8 ((2 ^j:Nat):Int))=some (.int .u8 ((if a/2 ^j%2=1 then 2 ^j else 0:Nat):Int)):=by
 have h:=b_andN (E:=E) (t:=t) (p:=p) (q:=q) (k:=.u8) (x:=a) (y:=2 ^j) rfl (by simp only [pw];omega) (pow8 b);rw [h];congr 2;have:a&&& 2 ^j=if a/2 ^j%2=1 then 2 ^j else 0:=by
  refine Nat.eq_of_testBit_eq fun i=>?_;rw [Nat.testBit_and,Nat.testBit_two_pow];have c:a.testBit j=decide (a/2 ^j%2=1):=Nat.testBit_eq_decide_div_mod_eq ..
  by_cases e:j=i
  . subst e;rw [c];by_cases d:a/2 ^j%2=1<;>simp [d]
  . have f: ¬i=j:=fun h=>e h.symm
    split<;>simp [Nat.testBit_two_pow,e,f]
 rw [this]
theorem TabY.mo{M:Nat->Prop}{h h':Hp}{k:Nat}{d:Prop}{γ:Gra}{p:Value}{T:Option Tab}(t:TabY h k d p γ T)(g:Mo M h h')(e: ∀b,M b->b<=k):TabY h' k d p γ T:=by
 cases T with
 |none=>exact t| some T=>
   obtain⟨⟨m,a,b⟩,c⟩:=t;exact⟨⟨m,a,b.mo g (fun x f=>by have:=e x f;omega)⟩,c⟩
theorem TabY.fl{k:Nat}{a:Prop}{T:Option Tab}(t:TabY h k a p γ T):Fl p:=by
 cases T with
 |none=>have t:p=.pointer none:=t;subst t;exact bF|some T=>obtain⟨⟨m,_,b⟩,_⟩:=t;obtain⟨_,_,_,_,rfl,_⟩:=b.ex;exact bF
def sJ(O:List Int)(i:Nat):Int:=if O.length=0 then 0 else(O.getD (i%O.length) 0).tmod 4
theorem rE(a:OZ h0){c:Int}:aT zM 60 [.bool true,.int .i64 c] h0 (.tuple #[]):=by have S:=Si a;refine aa (n:=9) (rs:=[]) rfl Tryz.e60 rfl rfl rfl (lbt rfl) ?_;simp only [BZ,ab,seval];exact S.gr
theorem Bp{hq:Hp}{L:List (Nat×Ob)}(S:St M h0 hq L G):
 Ret zM 150 [.func (.func g) #[] #[]] hq fun r h'=> ∃a,r=.func (.func 218) #[] #[ptrTo a]/\St M h0 h' ((a,.row [.func (.func g) #[] #[]] 1)::L) G:=by
 have c:=S.ok;refine aa (n:=4) (rs:=[.tmp 2]) rfl Tryz.e150 rfl rfl rfl (lbt rfl) ?_;simp only [BZ,seval];refine ac (aV (by intro x e;cases e)) S ?_;clear S;intro h a S b;simp only [ae]at S;simp only [BZ,ab,seval];exact⟨_,rfl,S⟩
def wayV(t c:Bool)(f:Value):List Value:=[.bool t,.bool c,f]
def tw:Nat->Bool
 |2=>true|3=>true|5=>true|_=>false
def cw:Nat->Bool
 |4=>true|5=>true|_=>false
def fw(b1 b2:Nat):Nat->Value
 |0=>.func (.func 218) #[] #[ptrTo b1]|1=>.func (.func 218) #[] #[ptrTo b2]|2=>.func (.func 151) #[] #[]|3=>.func (.func 152) #[] #[]|_=>.func (.func 149) #[] #[]
theorem fw_fl{b1 k:Nat}:Fl (fw b1 b2 k):=by unfold fw;split<;>exact fD
def dB(b1 b2:Nat)(k:Nat):List Value:=wayV (tw k) (cw k) (fw b1 b2 k)
theorem ways_at{b1:Nat}{k:Nat}(a:k<6):((dB b1 b2 0++(dB b1 b2 1++(dB b1 b2 2++(dB b1 b2 3++(dB b1 b2 4++dB b1 b2 5))))).drop (k*3)).take 3=dB b1 b2 k:=by
 have:k=0\/k=1\/k=2\/k=3\/k=4\/k=5:=by omega
 rcases this with rfl|rfl|rfl|rfl|rfl|rfl<;>rfl
theorem build_all{a b c d b1 b2 c0 e f g h i j k l m n o:Value}:lj zM 127 [(0,.agg ⟨[a,b,c]⟩),(1,.agg ⟨[d,b1,b2]⟩),(2,.agg ⟨[c0,e,f]⟩),(3,.agg ⟨[g,h,i]⟩),(4,.agg ⟨[j,k,l]⟩),(5,.agg ⟨[m,n,o]⟩)]=some (.agg ⟨[a,b,c,d,b1,b2,c0,e,f,g,h,i,j,k,l,m,n,o]⟩):=by unfold lj;simp only [Tryz.t127.2.2.2.1,Tryz.t127.1,Tryz.t126.2.1];rfl
theorem all_ok(b:OZ h0):Ret zM 61 [] h0 fun r h'=>Gr h0 h'/\ ∃b1 b2,r=.agg ⟨dB b1 b2 0++(dB b1 b2 1++(dB b1 b2 2++(dB b1 b2 3++(dB b1 b2 4++dB b1 b2 5))))⟩/\h'.load b1 0 1=some [.func (.func 45) #[] #[]]/\h'.load b2 0 1=some [.func (.func 50) #[] #[]]/\h0.n<=b1/\h0.n<=b2:=by
 have S:=Si b;refine aa (n:=13) (rs:=[.cell 0 127]) rfl Tryz.e61 rfl rfl rfl (lbt rfl) ?_;simp only [BZ];refine ac aB S ?_;clear S;intro h d S a;simp only [BZ];refine step_ret (Bp S) ?_;rintro _ h ⟨b1,rfl,S⟩;simp only [BZ,seval];refine step_ret (Bp S) ?_;rintro _ h ⟨b2,rfl,S⟩;simp only [BZ,build_all,seval];refine aC (S.store (i:=2) rfl ?_ ?_ rfl rfl ?_ ono) ?_
 . exact(by exact Tryz.t127.2.2.1)
 . exact(by intro x e;cases e)
 . exact lbt rfl
 clear S;rintro h ⟨S,c⟩;clear c;simp only [LC,ae,lay,Xy,Xz,seval]at S;simp only [BZ,ab];refine(aZ (by decide) (by simp only [aF,ah,seval];exact bz Tryz.t127.2.1 Tryz.t127.2.2.1 (S.lds (o:=0) (n:=18) m2 (lbt rfl)))).2 ?_;exact bQ.2 ⟨S.gr,b1,b2,rfl,S.ld m1 rfl,S.ld m0 rfl,(S.own _ m1).1.resolve_right (fun h=>h),(S.own _ m0).1.resolve_right (fun h=>h)⟩
theorem St.ne01{L:List (Nat×Ob)}(S:St M h0 h L G){i j b:Nat}{o o':Ob}(d:L[i]? =some (b,o))(e:L[j]? =some (c,o'))(a:i≠j):b≠c:=by rintro rfl;have f:=oz (G:=G) d;have g:=oz (G:=G) e;exact a (qg S.apart f g)
structure Ev2 where
 kind:Nat
 side:Bool
 id:Nat
 lab:Nat
structure Sd where
 K:Nat->Option Int
 L:Nat->Option Nat
 P:Nat->List Nat
 O:List Nat
structure Bi where
 sd:Bool->Sd
 ev:List Ev2
 dist:Nat
 meet:Nat
variable{σ τ:Bi}
def fsB(i:Bool):Arc->Nat:=if i then Arc.t else Arc.s
def ftB(i:Bool):Arc->Nat:=if i then Arc.s else Arc.t
def qB(pi:Nat->Int)(i:Bool)(v:Nat):Int:=if i then-pi v else pi v
def OpB(pi:Nat->Int)(v:Nat):Prop:= -(FAR:Int)<pi v/\pi v<(FAR:Int)
instance (pi:Nat->Int)(v:Nat):Decidable (OpB pi v):=by unfold OpB;infer_instance
def dA(f:Bool->Sd)(i:Bool)(x:Sd):Bool->Sd:=fun j=>if j=i then x else f j
def leO(o:Option Nat)(lab:Nat):Bool:=match o with
 |some w=>decide (w<=lab)|none=>false
def qF(o:Option Nat)(σ:Bi)(v lab:Nat):Bi:=match o with
 |some m=>if lab+m<σ.dist then⟨σ.sd,σ.ev,lab+m,v⟩else σ
 |none=>σ
def eo(pi:Nat->Int)(x:Sd)(i:Bool)(v lab:Nat)(p:List Nat):Sd:=⟨cM x.K v (some (2*lab+qB pi i v)),fun u=>if u=v then some lab else x.L u,mG x.P v p,x.O⟩
def cy(pi:Nat->Int)(i:Bool)(σ:Bi)(v lab:Nat)(p:List Nat):Bi:=
 if v∈(σ.sd i).O\/ ¬OpB pi v\/leO ((σ.sd i).L v) lab=true then σ else qF ((σ.sd (!i)).L v) ⟨dA σ.sd i (eo pi (σ.sd i) i v lab p),σ.ev,σ.dist,σ.meet⟩ v lab
def nK(σ:Bi)(i:Bool)(v:Nat):Nat:=((σ.sd i).L v).getD 0
def evB(σ:Bi)(e:Ev2):Bi:=⟨σ.sd,σ.ev++[e],σ.dist,σ.meet⟩
def cG(σ:Bi)(i:Bool)(v:Nat):Bi:=⟨dA σ.sd i ⟨cM (σ.sd i).K v none,(σ.sd i).L,(σ.sd i).P,(σ.sd i).O++[v]⟩,σ.ev++[⟨0,i,v,nK σ i v⟩],σ.dist,σ.meet⟩
def eY(A:List Arc)(al:Nat->Bool)(pi:Nat->Int)(i:Bool)(v:Nat)(σ:Bi)(a:Nat):Bi:=
 if al a=true then cy pi i (evB σ ⟨1,i,a,0⟩) (ftB i (A.getD a default)) (nK σ i v+(A.getD a default).w) (a::(σ.sd i).P v)else σ
def jR(A:List Arc)(al:Nat->Bool)(pi:Nat->Int)(i:Bool)(v:Nat)(σ:Bi):Bi:=(outs A (fsB i) A.length v).foldl (eY A al pi i v) σ
def gp:Sd:=⟨fun _=>none,fun _=>none,fun _=>[],[]⟩
def jq(pi:Nat->Int)(s t:Nat):Bi:=cy pi true (cy pi false ⟨fun _=>gp,[],FAR,0⟩ s 0 []) t 0 []
def StopB(σ:Bi):Prop:=(∃i,∀v,(σ.sd i).K v=none)\/ ∃v k u l,jN (σ.sd false).K v k/\jN (σ.sd true).K u l/\2*(σ.dist:Int)<=k+l
def TurnB(σ:Bi)(i:Bool):Prop:= ∃v k u l,jN (σ.sd false).K v k/\jN (σ.sd true).K u l/\k+l<2*(σ.dist:Int)/\i=decide (l<k)
inductive jG(A:List Arc)(al:Nat->Bool)(pi:Nat->Int):Bi->Bi->Prop where
 |stop {σ:Bi}:StopB σ->jG A al pi σ σ
 |step {σ τ:Bi} {i:Bool} {v:Nat} {k:Int}:TurnB σ i->jN (σ.sd i).K v k->jG A al pi (jR A al pi i v (cG σ i v)) τ->jG A al pi σ τ
theorem eg{f:Bool->Sd}{x:Sd}:dA f i x i=x:=if_pos rfl
theorem nZ{f:Bool->Sd}{x:Sd}:dA f i x (!i)=f (!i):=if_neg (by grind)
theorem ze{f:Bool->Sd}{x:Sd}(h:j≠i):dA f i x j=f j:=if_neg h
theorem pE{o:Option Nat}:(qF o σ v lab).sd=σ.sd/\(qF o σ v lab).ev=σ.ev:=by unfold qF;grind
section
variable{A:List Arc}{N:Nat}{al:Nat->Bool}{pi:Nat->Int}{σ:Bi}{rt:Bool->Nat}
structure SvB(A:List Arc)(N r:Nat)(al:Nat->Bool)(pi:Nat->Int)(i:Bool)(x:Sd):Prop where
 nd:x.O.Nodup
 lt: ∀v∈x.O,v<N/\x.L v≠none
 op: ∀v k,x.K v=some k->v∉x.O/\ ∃l,x.L v=some l/\k=2*(l:Int)+qB pi i v
 lab: ∀v l,x.L v=some l->v<N/\OpB pi v/\l<=x.O.length*bR/\(x.P v).length<=x.O.length/\(v∈x.O\/x.K v≠none)
 path: ∀v l,x.L v=some l->(v=r/\x.P v=[]/\l=0)\/ ∃a m,a<A.length/\al a=true/\ftB i (A.getD a default)=v/\fsB i (A.getD a default)∈x.O/\x.P v=a::x.P (fsB i (A.getD a default))/\x.L (fsB i (A.getD a default))=some m/\l=m+(A.getD a default).w
structure BiI(A:List Arc)(N:Nat)(rt:Bool->Nat)(al:Nat->Bool)(pi:Nat->Int)(σ:Bi):Prop where
 sv: ∀i,SvB A N (rt i) al pi i (σ.sd i)
 dm:(σ.dist=FAR/\ ∀i v x,(σ.sd i).L v=some x->(σ.sd (!i)).L v=none)\/(∀i,∃x y,(σ.sd i).L σ.meet=some x/\(σ.sd (!i)).L σ.meet=some y/\σ.dist=x+y)
 le: ∀i v x y,(σ.sd i).L v=some x->(σ.sd (!i)).L v=some y->σ.dist<=x+y
theorem SvB.len{x:Sd}(h:SvB A N r al pi i x):x.O.length<=N:=rh N x.O h.nd (fun v a=>(h.lt v a).1)
theorem rD(h:j≠i):j= !i:=by cases i<;>cases j<;>first|rfl|grind
theorem not_ne:(!i)≠i:=by grind
theorem SvB.put{x:Sd}{p:List Nat}(h:SvB A N r al pi b x)(y:v∉x.O)(j:OpB pi v)(E:v<N)(b1:lab<=x.O.length*bR)(b2:p.length<=x.O.length)
 (d:(v=r/\p=[]/\lab=0)\/ ∃a m,a<A.length/\al a=true/\ftB b (A.getD a default)=v/\fsB b (A.getD a default)∈x.O/\p=a::x.P (fsB b (A.getD a default))/\x.L (fsB b (A.getD a default))=some m/\lab=m+(A.getD a default).w):
 SvB A N r al pi b (eo pi x b v lab p):=by
 have F: ∀{u},u∈x.O->u≠v:=fun f e=>y (e▸f);have g: ∀{u},u≠v->(eo pi x b v lab p).L u=x.L u:=fun h=>if_neg h;have z: ∀{u},u≠v->(eo pi x b v lab p).K u=x.K u:=fun h=>if_neg h;have B: ∀{u},u≠v->(eo pi x b v lab p).P u=x.P u:=fun h=>if_neg h;have n:(eo pi x b v lab p).L v=some lab:=if_pos rfl;have C:(eo pi x b v lab p).K v=some (2*(lab:Int)+qB pi b v):=if_pos rfl;have D:(eo pi x b v lab p).P v=p:=if_pos rfl;refine⟨h.nd,fun u f=>⟨(h.lt u f).1,by rw [g (F f)];exact(h.lt u f).2⟩,fun u k i=>?_,fun u l c=>?_,fun u l c=>?_⟩
 . by_cases e:u=v
   . subst e;rw [C]at i;cases i;exact⟨y,lab,n,rfl⟩
   . rw [z e]at i;rw [g e];exact h.op u k i
 . by_cases e:u=v
   . subst e;rw [n]at c;cases c;exact⟨E,j,b1,by rw [D];exact b2,.inr (by rw [C];nofun)⟩
   . rw [g e]at c;rw [z e,B e];exact h.lab u l c
 . by_cases e:u=v
   . subst e;rw [n]at c;cases c;rw [D];rcases d with d|⟨a,m,o,q,s,t,G,H,w⟩
     . exact .inl d
     . exact .inr ⟨a,m,o,q,s,t,by grind,by grind,w⟩
   . rw [g e]at c;rw [B e];rcases h.path u l c with d|⟨a,m,o,q,s,t,G,H,w⟩
     . exact .inl d
     . exact .inr ⟨a,m,o,q,s,t,by grind,by grind,w⟩
theorem BiI.reach   {p:List Nat} (j:N<=12) (h:BiI A N rt al pi σ) (H:v<N) (b1:lab<=(σ.sd b).O.length*bR) (b2:p.length<=(σ.sd b).O.length)
 (I:(v=rt b/\p=[]/\lab=0)\/ ∃a m,a<A.length/\al a=true/\ftB b (A.getD a default)=v/\fsB b (A.getD a default)∈(σ.sd b).O/\p=a::(σ.sd b).P (fsB b (A.getD a default))/\(σ.sd b).L (fsB b (A.getD a default))=some m/\lab=m+(A.getD a default).w):
 BiI A N rt al pi (cy pi b σ v lab p):=by
 unfold cy
 split
 . exact h
 . rename_i C;simp only [not_or,Decidable.not_not]at C;obtain⟨J,B,hle⟩:=C;have k: ∀i,SvB A N (rt i) al pi i (dA σ.sd b (eo pi (σ.sd b) b v lab p) i):=fun i=>by
    by_cases e:i=b
    . subst e;rw [eg];exact(h.sv i).put J B H b1 b2 I
    . rw [ze e];exact h.sv i
   have s: ∀u,(dA σ.sd b (eo pi (σ.sd b) b v lab p) (!b)).L u=(σ.sd (!b)).L u:=fun u=>(by rw [nZ]);have K:(dA σ.sd b (eo pi (σ.sd b) b v lab p) b).L v=some lab:=(by rw [eg];exact if_pos rfl);have t: ∀{u},u≠v->(dA σ.sd b (eo pi (σ.sd b) b v lab p) b).L u=(σ.sd b).L u:=fun {u} e=>by rw [eg];exact if_neg e
   -- the smaller facts, for side b and its opposite
   have L:=h.sv b;have M:=c9;have U:=jv;have n: ∀{i u l},(σ.sd i).L u=some l->l<=12*bR:=fun {i u l} O=>(by have q:=((h.sv i).lab u l O).2.2.1;have o:=Xh bR (Xj (h.sv i).len j);omega);have D:lab<=12*bR:=(by have o:=Xh bR (Xj L.len j);omega);have c: ∀{P:Bool->Prop},P b->P (!b)-> ∀i,P i:=fun {P} V Q i=>by
    by_cases e:i=b
    . grind
    . rw [rD e];exact Q
   have E:(!(!b))=b:=(by cases b<;>rfl);cases R:(σ.sd (!b)).L v with
   | none =>
     unfold qF;simp only [];refine⟨k,?_,?_⟩
     . rcases h.dm with⟨F,S⟩|d
       . refine .inl ⟨F,c (P:=fun i=> ∀u x,(dA σ.sd b (eo pi (σ.sd b) b v lab p) i).L u=some x->(dA σ.sd b (eo pi (σ.sd b) b v lab p) (!i)).L u=none) (fun u x f=>?_) (fun u x f=>?_)⟩
         . grind
         grind
       . have T:σ.meet≠v:=fun e=>(by obtain⟨x,y,_,o,_⟩:=d b;grind);refine .inr (c (P:=fun i=> ∃x y,(dA σ.sd b (eo pi (σ.sd b) b v lab p) i).L σ.meet=some x/\(dA σ.sd b (eo pi (σ.sd b) b v lab p) (!i)).L σ.meet=some y/\σ.dist=x+y) ?_ ?_)
         . obtain⟨x,y,q,o,w⟩:=d b;grind
         . obtain⟨x,y,q,o,w⟩:=d (!b);grind
     . refine c (P:=fun i=> ∀u x y,(dA σ.sd b (eo pi (σ.sd b) b v lab p) i).L u=some x->(dA σ.sd b (eo pi (σ.sd b) b v lab p) (!i)).L u=some y->σ.dist<=x+y) (fun u x y f g=>?_) (fun u x y f g=>?_)
       . rw [s]at g;by_cases e:u=v
         . grind
         . rw [t e]at f;exact h.le b u x y f g
       . rw [s]at f;rw [E]at g;by_cases e:u=v
         . grind
         . rw [t e]at g;exact h.le (!b) u x y f (by grind)
   | some m =>
     have W:=n R;have X: ∀{i:Bool} {u x y:Nat},(dA σ.sd b (eo pi (σ.sd b) b v lab p) i).L u=some x->(dA σ.sd b (eo pi (σ.sd b) b v lab p) (!i)).L u=some y->(u=v/\x+y=lab+m)\/(u≠v/\σ.dist<=x+y):=fun {i u x y} f g=>by
      by_cases e:u=v
      . subst e;refine .inl ⟨rfl,?_⟩;by_cases z:i=b
        . grind
        . rw [rD z]at f g;grind
      . refine .inr ⟨e,?_⟩;by_cases z:i=b
        . subst z;rw [t e]at f;rw [s]at g;exact h.le i u x y f g
        . rw [rD z]at f g;rw [s]at f;rw [E,t e]at g;exact h.le (!b) u x y f (by grind)
     unfold qF;simp only []
     split
     . rename_i hlt;refine⟨k,.inr (c (P:=fun i=> ∃x y,(dA σ.sd b (eo pi (σ.sd b) b v lab p) i).L v=some x/\(dA σ.sd b (eo pi (σ.sd b) b v lab p) (!i)).L v=some y/\lab+m=x+y) ⟨lab,m,K,by grind,rfl⟩ ⟨m,lab,by grind,by grind,Nat.add_comm _ _⟩),fun i u x y f g=>?_⟩;grind
     . rename_i r;have r: ¬lab+m<σ.dist:=r;have G: ∀x,(σ.sd b).L v=some x->lab<x:=fun x f=>(by simp_all[hle,leO,decide_eq_true_eq]);refine⟨k,?_,fun i u x y f g=>?_⟩
       . rcases h.dm with⟨F,S⟩|d
         . omega
         . have T:σ.meet≠v:=fun e=>(by obtain⟨x,y,q,o,w⟩:=d b;grind);refine .inr (c (P:=fun i=> ∃x y,(dA σ.sd b (eo pi (σ.sd b) b v lab p) i).L σ.meet=some x/\(dA σ.sd b (eo pi (σ.sd b) b v lab p) (!i)).L σ.meet=some y/\σ.dist=x+y) ?_ ?_)
           . obtain⟨x,y,q,o,w⟩:=d b;grind
           . obtain⟨x,y,q,o,w⟩:=d (!b);grind
       grind
end
theorem uz(s:OZ h0){F:List Nat}{K:Nat->Option Int}(H:ct h0 F p N K):
 ∃(k:Int) (b:Bool),aT zM 210 [p] h0 (.tuple #[.int .i64 k,.bool b])/\((b=false/\ ∀v,K v=none)\/(b=true/\ ∃v,jN K v k)):=by
 obtain⟨m,q,t⟩:=s9 s H;obtain⟨P,Q,l,rfl,A,r,hlt,B⟩:=H.ex;by_cases d:m=0
 . refine⟨0,false,?_,.inl ⟨rfl,t.1 d⟩⟩;subst d;have S:=Si s;refine aa (n:=15) (rs:=[.tmp 2,.tmp 3]) rfl Tryz.e210 rfl rfl rfl (lbt rfl) ?_;simp only [BZ,seval];refine ag (q) ?_;intro h g;replace S:=S.call g;clear g;simp only [BZ,ab,Xb,seval];exact S.gr
 . have w: ¬((m:Int)=0):=(by omega);rcases B with⟨rfl,_⟩|⟨D,E,rfl,R⟩
   . exact absurd (t.2 r.nil) d
   . have a:0<l.length:=by
      cases l with
      |nil=>exact absurd (t.2 r.nil) d|cons x l=>simp
     refine⟨(l.getD 0 default).key,true,?_,.inr ⟨rfl,(l.getD 0 default).id,r.at a,fun u T G=>?_⟩⟩
     . have S:=Si s;refine aa (n:=15) (rs:=[.tmp 2,.tmp 3]) rfl Tryz.e210 rfl rfl rfl (lbt rfl) ?_;simp only [BZ,seval];refine ag (q) ?_;intro h g;replace S:=S.call g;replace R:=R.gr g;clear g;obtain⟨U,V,c,f,y,I,C,W,X⟩:=R.ex;have J:=R.row.load1 (o:=0) rfl;have L:=C.ld2 y a;have z:h.load D (0*2+1) 1=some [.int .i64 (l.getD 0 default).key]:=ra L (i:=1) (m:=1) (by omega);have M:ij (.int .i64 0) l.length=some 0:=gL (i:=0) a;simp only [BZ,ab,w,J,M,z,seval];exact S.gr
     . obtain⟨j,O,e⟩:=r.idx G;have:=AY A j O;rw [e]at this;unfold Ab.hle at this;simp only []at this;omega
theorem bpi_ok(k:OZ h0)(f:h0.load br 4 1=some [vPi])(d:aD h0 1 (encI .i64) vPi pis)(a:v<pis.length\/pis=[]/\vPi=.slice none 0 0):
 aT zM 207 [ptrTo br,.int .i64 (v:Nat)] h0 (.tuple #[.int .i64 (pis.getD v 0),.bool (decide (-(FAR:Int)<pis.getD v 0/\pis.getD v 0<FAR))]):=by
 have S:=Si k;have l:=c9;rcases a with a|a;rotate_left
 . obtain⟨rfl,_⟩:=a;refine aa (n:=29) (rs:=[.tmp 4,.tmp 5]) rfl Tryz.e207 rfl rfl rfl (lbt rfl) ?_;simp only [BZ,ab,Xb,f,d.lenq,seval];exact⟨by rw [decide_eq_true (by simp only [List.getD_nil];omega)];rfl,S.gr⟩
 have g: ¬((pis.length:Int)=0):=by omega
 obtain⟨c,o,h,b⟩:=d.ix (kd:=.i64) (cB .i64) a;have e:pis.getD v 0=pis[v]:=by rw [Xe,XP a,Xg]
 rw [e];generalize pis[v]=p at b;replace b:h0.load c o 1=some [.int .i64 p]:=b;refine aa (n:=29) (rs:=[.tmp 4,.tmp 5]) rfl Tryz.e207 rfl rfl rfl (lbt rfl) ?_;by_cases i:(-72057594037927936:Int)<p
 . by_cases j:p<72057594037927936
   . simp only [BZ,ab,f,d.lenq,g,h,b,i,j,seval];refine⟨?_,S.gr⟩;rw [decide_eq_true (by omega)]
   . simp only [BZ,ab,f,d.lenq,g,h,b,i,j,seval];refine⟨?_,S.gr⟩;rw [decide_eq_false (by omega)]
 . simp only [BZ,ab,f,d.lenq,g,h,b,i,seval];refine⟨?_,S.gr⟩;rw [decide_eq_false (by omega)]
theorem pair_nl{x:Option Tch}:jx none x=true:=by cases x<;>rfl
theorem pair_nr{x:Option Tch}:jx x none=true:=by
 cases x with
 |none=>rfl|some x=>cases x<;>rfl
theorem sg(a:OZ h0){b:Nat}(c:aQ h0 b p γ)(d:h0.load b2 0 1=some [p])(e:v<γ.nodes):aT zM 204 [.int .i64 (v:Nat),ptrTo b2] h0 (.bool true):=by
 have S:=Si a;have f:(0:Int)<=(v:Int):=by omega
 refine aa (n:=12) (rs:=[.tmp 3]) rfl Tryz.e204 rfl rfl rfl (lbt rfl) ?_;simp only [BZ,d,f,seval];refine ag (bM S.ok c) ?_;intro h g;replace S:=S.call g;simp only [BZ,ab,aI,e,seval];exact S.gr
theorem sj(d:OZ h0){b:Nat}(h:a=0\/a=b):aT zM 205 [.int .i64 (a:Nat),.int .i64 (b:Nat)] h0 (.bool true):=by
 have S:=Si d;refine aa (n:=12) (rs:=[.tmp 4]) rfl Tryz.e205 rfl rfl rfl (lbt rfl) ?_;by_cases c:a=0
 . subst c;simp only [BZ,ab,Xb,seval];exact S.gr
 . have e:a=b:=h.resolve_left c;subst e;have f: ¬(a:Int)=0:=(by omega);simp only [BZ,ab,f,seval];exact S.gr
theorem rightN_ok(J:OZ h0){K p to:Nat}(l:aQ h0 K (ptrTo p) γ)(L:s<γ.nodes)(M:to<γ.nodes):
 aT zM 127 [ptrTo p,.agg ⟨[.int .i64 (s:Nat),.int .i64 (to:Nat),.slice none 0 0,.slice none 0 0]⟩] h0 (.bool true):=by
 have S:=Si J;refine aa (n:=36) (rs:=[.tmp 4]) rfl Tryz.e127 rfl rfl rfl (lbt rfl) ?_;simp only [BZ,seval];refine ac (bK (by exact bF)) S ?_;clear S;intro h c S r;simp only [BZ,if_false,seval];refine ac (aV (by intro x e;cases e)) S ?_;clear S;intro h d S t;simp only [ae]at S;simp only [BZ,seval];have t2:=(S.row (b:=c) m1).lt S.ok;have t3:=(S.row (b:=d) m0).lt S.ok;have N:=S.gr.n;refine ar (aA rfl) (q:=0) (ps:=[(23,25),(22,25),(14,16),(13,16)]) (by kernel_rfl) ?_;simp only [BZ,cls,S.ld (b:=d) (o:=0) m0 rfl,seval];refine bC (sg S.ok (l.gr S.gr) (S.ld (b:=c) (o:=0) m1 rfl) L) ?_;intro O f;have u:=ao f t2;have v:=ao f t3;have w:=f.n;replace S:=S.call f;clear f;simp only [BZ,cls,S.ld (b:=d) (o:=1) m0 rfl,seval];refine bC (sg S.ok (l.gr S.gr) (S.ld (b:=c) (o:=0) m1 rfl) M) ?_;intro y g;have z:=ao g (Xd t2 w);have e5:=ao g (Xd t3 w);have P:=g.n;replace S:=S.call g;clear g;simp only [BZ,cls,Xb,S.ld (b:=d) (o:=2) m0 rfl,S.ld (b:=c) (o:=0) m1 rfl,seval];refine bC (kP S.ok (l.gr S.gr)) ?_;intro A i;have B:=ao i (show c<y.n by omega);have C:=ao i (show d<y.n by omega);have Q:=i.n;replace S:=S.call i;clear i;simp only [BZ,cls,seval];refine bC (sj (a:=0) (b:=γ.arcs.length) S.ok (.inl rfl)) ?_;intro D j;have e8:=ao j (show c<A.n by omega);have e9:=ao j (show d<A.n by omega);have R:=j.n;replace S:=S.call j;clear j;simp only [BZ,cls,Xb,S.ld (b:=d) (o:=3) m0 rfl,S.ld (b:=c) (o:=0) m1 rfl,seval];refine bC (bM S.ok (l.gr S.gr)) ?_;intro E k;have F:=ao k (show c<D.n by omega);have G:=ao k (show d<D.n by omega);have T:=k.n;replace S:=S.call k;clear k;simp only [BZ,cls,seval];refine bC (sj (a:=0) (b:=γ.nodes) S.ok (.inl rfl)) ?_;intro U m;have H:=ao m (show c<E.n by omega);have I:=ao m (show d<E.n by omega);replace S:=S.call m;simp only [BZ,cls,ab,seval];refine⟨by simp only [aO,aU,aK,aX,aN,ne_eq,not_false_eq_true,bj,bG,aW,aS,bI,ce,aF,Xa,ah,tN,kD,kT,pair_nl,pair_nr,av u,aw u,av v,aw v,av z,aw z,av e5,aw e5,av B,aw B,av C,aw C,av e8,aw e8,av e9,aw e9,av F,aw F,av G,aw G,av H,aw H,av I,aw I,seval],?_⟩;exact S.gr
theorem bright_ok(v:OZ h0){X y to:Nat}(r:aQ h0 X (ptrTo y) γ)(z:s<γ.nodes)(A:to<γ.nodes)(t:aD h0 1 (encI .i64) vPi pis)(i:pis.length=γ.nodes\/pis=[]/\vPi=.slice none 0 0):
 aT zM 127 [ptrTo y,.agg ⟨[.int .i64 (s:Nat),.int .i64 (to:Nat),.slice none 0 0,vPi]⟩] h0 (.bool true):=by
 rcases i with i|i;rotate_left
 . obtain⟨rfl,rfl⟩:=i;exact rightN_ok v r z A
 have S:=Si v;have Y:=t.fl;obtain⟨g,Z,si,ci,rfl⟩: ∃b o s c,vPi=.slice (some ⟨b,o,s⟩) pis.length c:=by
  rcases t with⟨_,rfl⟩|⟨b,o,s,c,e,_⟩
  . simp at i;omega
  . exact⟨b,o,s,c,e⟩
 have ti:g<h0.n:=t.blt v rfl;refine aa (n:=36) (rs:=[.tmp 4]) rfl Tryz.e127 rfl rfl rfl (lbt rfl) ?_;simp only [BZ,seval];refine ac (bK (by exact bF)) S ?_;clear S;intro h d S B;simp only [BZ,if_false,seval];refine ac (aV (by intro x e;cases e)) S ?_;clear S;intro h f S C;simp only [ae]at S;simp only [BZ,seval];have t2:=(S.row (b:=d) m1).lt S.ok;have t3:=(S.row (b:=f) m0).lt S.ok;have k0:=S.gr.n;refine ar (aA rfl) (q:=0) (ps:=[(23,25),(22,25),(14,16),(13,16)]) (by kernel_rfl) ?_;simp only [BZ,cls,S.ld (b:=f) (o:=0) m0 rfl,seval];refine bC (sg S.ok (r.gr S.gr) (S.ld (b:=d) (o:=0) m1 rfl) z) ?_;intro h1 j;have D:=ao j t2;have E:=ao j t3;have F:=ao j (show g<_ by omega);have G:=j.n;replace S:=S.call j;clear j;simp only [BZ,cls,S.ld (b:=f) (o:=1) m0 rfl,seval];refine bC (sg S.ok (r.gr S.gr) (S.ld (b:=d) (o:=0) m1 rfl) A) ?_;intro H k;have I:=ao k (Xd t2 G);have e5:=ao k (Xd t3 G);have J:=ao k (show g<_ by omega);have k2:=k.n;replace S:=S.call k;clear k;simp only [BZ,cls,Xb,S.ld (b:=f) (o:=2) m0 rfl,S.ld (b:=d) (o:=0) m1 rfl,seval];refine bC (kP S.ok (r.gr S.gr)) ?_;intro K l;have L:=ao l (show d<H.n by omega);have M:=ao l (show f<H.n by omega);have N:=ao l (show g<_ by omega);have k3:=l.n;replace S:=S.call l;clear l;simp only [BZ,cls,seval];refine bC (sj (a:=0) (b:=γ.arcs.length) S.ok (.inl rfl)) ?_;intro O m;have e8:=ao m (show d<K.n by omega);have e9:=ao m (show f<K.n by omega);have P:=ao m (show g<_ by omega);have k4:=m.n;replace S:=S.call m;clear m;simp only [BZ,cls,(t.gr S.gr).lenq,S.ld (b:=f) (o:=3) m0 rfl,S.ld (b:=d) (o:=0) m1 rfl,seval];refine bC (bM S.ok (r.gr S.gr)) ?_;intro w p;have Q:=ao p (show d<O.n by omega);have R:=ao p (show f<O.n by omega);have T:=ao p (show g<_ by omega);have k5:=p.n;replace S:=S.call p;clear p;simp only [BZ,cls,seval];refine bC (sj (a:=pis.length) (b:=γ.nodes) S.ok (.inr i)) ?_;intro h6 u;have U:=ao u (show d<w.n by omega);have V:=ao u (show f<w.n by omega);have W:=ao u (show g<w.n by omega);replace S:=S.call u;simp only [BZ,cls,ab,seval];refine⟨by simp only [aO,aU,aK,aX,aN,ne_eq,not_false_eq_true,bj,bG,aW,aS,bI,ce,aF,Xa,ah,tN,kD,kT,pair_nl,pair_nr,av D,aw D,av E,aw E,av I,aw I,av e5,aw e5,av L,aw L,av M,aw M,av e8,aw e8,av e9,aw e9,av Q,aw Q,av R,aw R,av U,aw U,av V,aw V,av F,aw F,av J,aw J,av N,aw N,av P,aw P,av T,aw T,av W,aw W,seval],?_⟩;exact S.gr
def jP(i:Bool):Nat:=if i then 1 else 0
def jD(e:Ev2):List Value:=[.int .i64 (e.kind:Nat),.int .i64 (jP e.side:Nat),.int .i64 (e.id:Nat),.int .i64 (e.lab:Nat)]
structure Sx where
 b:Nat
 p:Nat
 ml:Nat
 ma:Nat
 mc:Nat
 vA:Value
 vH:Value
 el:List (Value×Value×Nat)
 cl:Nat
 ea:List (Value×Value×Nat)
 ca:Nat
 ec:List (Value×Value×Nat)
 cc:Nat
def kZ(i:Bool):Int:=if i then-1 else 1
def Sx.row(x:Sx)(i:Bool):List Value:=[ptrTo x.p,.int .i64 (jP i:Nat),.int .i64 (kZ i),x.vA,x.vH,.map (some x.ml),.map (some x.ma),.map (some x.mc)]
def Sx.L(x:Sx)(i:Bool):List (Nat×Ob):=[(x.b,.row (x.row i) 1),(x.ml,.map x.el x.cl),(x.ma,.map x.ea x.ca),(x.mc,.map x.ec x.cc)]
structure Sx.Ok(x:Sx)(s:Sd):Prop where
 ml: ∃f,dS x.el x.cl f/\ ∀v:Nat,f v=(s.L v).map fun(l:Nat)=>Value.int .i64 l
 ma: ∃f,dS x.ea x.ca f/\ ∀v:Nat,(s.L v).isSome=true->f v=some (.int .i64 (byI (s.P v)))
 mc: ∃f,dS x.ec x.cc f/\ ∀v:Nat,f v=if v∈s.O then some (.int .i64 1)else none
def iw(pn:Value)(s t:Nat)(vPi:Value)(X:Bool->Sx)(vE:Value)(σ:Bi):List Value:=[pn,.int .i64 (s:Nat),.int .i64 (t:Nat),.slice none 0 0,vPi,ptrTo (X false).b,ptrTo (X true).b,.int .i64 (σ.dist:Nat),.slice none 0 0,vE,.int .i64 (σ.meet:Nat)]
def boL(i:Bool)(br:Nat)(pn:Value)(s t:Nat)(vPi:Value)(X:Bool->Sx)(vE:Value)(σ:Bi):List (Nat×Ob):=(br,.row (iw pn s t vPi X vE σ) 1)::((X i).L i++(X (!i)).L (!i))
def boG(vE:Value)(σ:Bi):List GL:=[(vE,4,σ.ev.flatMap jD)]
structure fK(h:Hp)(br:Nat)(pn:Value)(s t:Nat)(vPi:Value)(X:Bool->Sx)(F:Bool->List Nat)(vE:Value)(N:Nat)(σ:Bi):Prop where
 own: ∀q∈boL false br pn s t vPi X vE σ,Has h q.1 q.2
 ev:ik h (vE,4,σ.ev.flatMap jD)
 nd:(keys (boL false br pn s t vPi X vE σ) (boG vE σ)).Nodup
 heap: ∀i,ct h (F i) (ptrTo (X i).p) N (σ.sd i).K
 ok: ∀i,(X i).Ok (σ.sd i)
 apart: ∀i,∀c∈F i,c∉keys (boL false br pn s t vPi X vE σ) (boG vE σ)/\c∉F (!i)
def boB(br:Nat)(pn:Value)(s t:Nat)(vPi:Value)(X:Bool->Sx)(F:Bool->List Nat)(vE:Value)(σ:Bi):List Nat:=keys (boL false br pn s t vPi X vE σ) (boG vE σ)++(F false++F true)
section
variable{h h':Hp}{br:Nat}{pn:Value}{s t:Nat}{vPi:Value}{X:Bool->Sx}{F:Bool->List Nat}{vE:Value}{N:Nat}{σ:Bi}
theorem pH(i:Bool):List.Perm (boL i br pn s t vPi X vE σ) (boL false br pn s t vPi X vE σ):=by
 cases i with
 |false=>exact List.Perm.refl _|true=>exact List.Perm.cons _ List.perm_append_comm
theorem fK.apart'(a:fK h br pn s t vPi X F vE N σ)(i:Bool)(d:c∈F j):c∉keys (boL i br pn s t vPi X vE σ) (boG vE σ):=fun b=>by
 refine(a.apart j c d).1 ?_;unfold keys at b⊢;rcases List.mem_append.1 b with h|h
 . exact zO _ (((pH i).map _).mem_iff.1 h)
 . exact Xf _ h
theorem qZ(a:c∈F i):c∈boB br pn s t vPi X F vE σ:=Xf _ (by cases i;exact zO _ a;exact Xf _ a)
theorem fK.mo{M:Nat->Prop}(a:fK h br pn s t vPi X F vE N σ)(g:Mo M h h')(d: ∀b∈boB br pn s t vPi X F vE σ,¬M b):fK h' br pn s t vPi X F vE N σ:=
 ⟨fun q e=>g.has (a.own q e) (d _ (zO _ (iV e))),
  a.ev.of_get fun b c=>g.get b (a.ev.lt g.ok0 c) (d b (zO _ (fJ (p:=(vE,4,σ.ev.flatMap jD)) m0 c))),a.nd,
  fun i=>(a.heap i).mo g (fun b c=>d b (qZ c)),a.ok,a.apart⟩
theorem fK.gr(a:fK h br pn s t vPi X F vE N σ)(g:Gr h h'):fK h' br pn s t vPi X F vE N σ:=a.mo (M:=NoM) g.fr (fun _ _ h=>h)
theorem fK.st(a:fK h br pn s t vPi X F vE N σ)(d:OZ h)(i:Bool):St (· ∈boB br pn s t vPi X F vE σ) h h (boL i br pn s t vPi X vE σ) (boG vE σ):=by
 have S:St (· ∈boB br pn s t vPi X F vE σ) h h (boL false br pn s t vPi X vE σ) (boG vE σ):=
  ⟨Mo.refl d,fun p c=>⟨.inr (zO _ (iV c)),a.own p c⟩,fun p c=>by
   simp only [boG,List.mem_singleton]at c;subst c;exact⟨a.ev,fun b e=>.inr (zO _ (fJ (p:=(vE,4,σ.ev.flatMap jD)) m0 e))⟩,a.nd⟩
 exact S.permL (pH i)
theorem fK.of(i:Bool)(S:St M h0 h (boL i br pn s t vPi X vE σ) (boG vE σ))(e: ∀i,ct h (F i) (ptrTo (X i).p) N (σ.sd i).K)(f: ∀i,(X i).Ok (σ.sd i))(a: ∀j,∀c∈F j,c∉keys (boL i br pn s t vPi X vE σ) (boG vE σ)/\c∉F (!j)):fK h br pn s t vPi X F vE N σ:=by
 have T:=S.permL (pH (br:=br) (pn:=pn) (s:=s) (t:=t) (vPi:=vPi) (X:=X) (vE:=vE) (σ:=σ) i).symm;refine⟨fun q g=>(T.own q g).2,(T.gown _ m0).1,T.apart,e,f,fun j c b=>⟨fun d=>(a j c b).1 ?_,(a j c b).2⟩⟩;unfold keys at d⊢;rcases List.mem_append.1 d with h|h
 . exact zO _ (((pH i).map _).mem_iff.2 h)
 . exact Xf _ h
theorem fK.rows(a:fK h br pn s t vPi X F vE N σ):Row h br (iw pn s t vPi X vE σ) 1/\ ∀i,Row h (X i).b ((X i).row i) 1:=by
 refine⟨a.own (br,.row _ 1) (by simp [boL]),fun i=>?_⟩;cases i
 . exact a.own ((X false).b,.row _ 1) (by simp [boL,Sx.L])
 . exact a.own ((X true).b,.row _ 1) (by simp [boL,Sx.L])
end
theorem Cc(x:OZ h0){X:Bool->Sx}{F:Bool->List Nat}(a:fK h0 br pn s t vPi X F vE N σ)
 (y: ∀i v k,(σ.sd i).K v=some k-> -1000000000000000000<=k/\k<=1000000000000000000) (J:σ.dist<=FAR):
 Ret zM 134 [ptrTo br] h0 fun r h'=>Gr h0 h'/\((StopB σ/\r=.pointer none)\/ ∃i,TurnB σ i/\r=ptrTo (X i).b):=by
 have S:=Si x;have K:=c9;obtain⟨R,z⟩:=a.rows;obtain⟨b,L,B,C⟩:=uz x (a.heap false);have e:=R.load1 (o:=5) rfl;have f:=R.load1 (o:=6) rfl;have d:=R.load1 (o:=7) rfl;have D:=(z false).load1 (o:=0) rfl;have q:=(z true).load1 (o:=0) rfl;refine aa (n:=64) (rs:=[.tmp 2]) rfl Tryz.e134 rfl rfl rfl (lbt rfl) ?_;simp only [BZ,Xb,e,D,seval];refine ag B ?_;intro M g;replace S:=S.call g;obtain⟨c,O,E,G⟩:=uz S.ok ((a.heap true).gr g);replace e:=g.load e;replace f:=g.load f;replace d:=g.load d;replace q:=g.load q;simp only [BZ,Xb,f,q,seval];refine ag E ?_;intro P h;replace S:=S.call h;replace e:=h.load e;replace f:=h.load f;replace d:=h.load d;rcases C with⟨rfl,H⟩|⟨rfl,j,l⟩
 . simp only [BZ,ab,seval];exact⟨S.gr,.inl (.inl ⟨false,H⟩)⟩
 . rcases G with⟨rfl,I⟩|⟨rfl,m,t1⟩
   . simp only [BZ,ab,seval];exact⟨S.gr,.inl (.inl ⟨true,I⟩)⟩
   . have Q:=y false j b l.1;have T:=y true m c t1.1;have u:aq .i64 (b+c)=b+c:=(by rw [wrap64]<;>omega);have w:aq .i64 (2*(σ.dist:Int))=2*(σ.dist:Int):=(by rw [wrap64]<;>omega);by_cases p:2*(σ.dist:Int)<=b+c
     . simp only [BZ,ab,d,u,w,p,seval];exact⟨S.gr,.inl (.inr ⟨j,b,m,c,l,t1,p⟩)⟩
     . by_cases A:b<=c
       . simp only [BZ,ab,Xb,d,u,w,p,A,e,seval];exact⟨S.gr,.inr ⟨false,⟨j,b,m,c,l,t1,by omega,(decide_eq_false (by omega)).symm⟩,rfl⟩⟩
       . simp only [BZ,ab,Xb,d,u,w,p,A,f,seval];exact⟨S.gr,.inr ⟨true,⟨j,b,m,c,l,t1,by omega,(decide_eq_true (by omega)).symm⟩,rfl⟩⟩
theorem breach_ok  (ok:OZ h0)      {X:Bool->Sx} {F:Bool->List Nat}    (a:fK h0 br pn s t vPi X F vE N σ)
 (sP:aD h0 1 (encI .i64) vPi pis) (lP:pis.length=N\/pis=[]/\vPi=.slice none 0 0) (nP: ∀c,au vPi c->c∉boB br pn s t vPi X F vE σ) (hN:N<=12)   {p:List Nat} (hv:v<N) (hl:lab<=13*bR) (hd:σ.dist<=FAR)
 (hb: ∀j v l,(σ.sd j).L v=some l->l<=13*bR) (bm: ∀l,(σ.sd i).L v=some l->v∉(σ.sd i).O->(σ.sd i).K v=some (2*l+qB (fun v=>pis.getD v 0) i v)) (bn:(σ.sd i).L v=none->(σ.sd i).K v=none):
 Ret zM 133 [ptrTo br,ptrTo (X i).b,.int .i64 (v:Nat),.int .i64 (byI p),.int .i64 (lab:Nat)] h0 fun _ h'=>Mo (· ∈boB br pn s t vPi X F vE σ) h0 h'/\ ∃A F',fK h' br pn s t vPi A F' vE N (cy (fun v=>pis.getD v 0) i σ v lab p)/\(∀j,(A j).b=(X j).b/\(A j).vA=(X j).vA/\(A j).vH=(X j).vH)/\ ∀c∈boB br pn s t vPi A F' vE (cy (fun v=>pis.getD v 0) i σ v lab p),c∈boB br pn s t vPi X F vE σ\/h0.n<=c:=by
 have fr:=c9;have wm:=jv;have S:=a.st ok i;have T:cy (fun v=>pis.getD v 0) i σ v lab p=σ-> ∀h,Gr h0 h->Mo (· ∈boB br pn s t vPi X F vE σ) h0 h/\ ∃A F',fK h br pn s t vPi A F' vE N (cy (fun v=>pis.getD v 0) i σ v lab p)/\(∀j,(A j).b=(X j).b/\(A j).vA=(X j).vA/\(A j).vH=(X j).vH)/\ ∀c∈boB br pn s t vPi A F' vE (cy (fun v=>pis.getD v 0) i σ v lab p),c∈boB br pn s t vPi X F vE σ\/h0.n<=c:=
  fun e h g=>⟨g.fr,X,F,by rw [e];exact a.gr g,fun _=>⟨rfl,rfl,rfl⟩,fun c d=>.inl (by rw [e]at d;exact d)⟩
 have Ho:=a.ok i;have Hq:=a.ok (!i);have H:=a.heap i;have Hx:=a.heap (!i);have hk:=fun j c (d:c∈F j)=>a.apart' i d;have ad: ∀j,∀c∈F j,c∈boB br pn s t vPi X F vE σ\/h0.n<=c:=fun j c d=>.inl (qZ d);generalize bv:boB br pn s t vPi X F vE σ=BB at S T ad;rcases hX:X i with⟨y,xp,xl,xa,xc,vA,vH,el,cl,ea,ca,ec,cc⟩;rcases hY:X (!i)with⟨yb,yp,yl,ya,yc,wA,wH,fl,dl,fa,da,fc,dc⟩;rw [hX]at Ho H;rw [hY]at Hq Hx;obtain⟨gl,ML,be⟩:=Ho.ml;obtain⟨ga,MA,bo⟩:=Ho.ma;obtain⟨gc,MC,bf⟩:=Ho.mc;simp only []at ML MA MC;simp only [LC,boL,boG,iw,Sx.L,Sx.row,hX,hY]at S hk;have f: ∀j,∀c∈F j,c≠br/\c≠y/\c≠xl/\c≠xa:=fun j c d=>by have h:=hk j c d;simp only [keys,Xs,List.mem_append,XC,not_or]at h;exact⟨h.1.1,h.1.2.1,h.1.2.2.1,h.1.2.2.2.1⟩
 have l4:h0.load br 4 1=some [vPi]:=S.ld (b:=br) (o:=4) m0 rfl;have a6:=fun c d=>S.key_lt (b:=c) d;have af: ∀j:Bool,j≠i->j= !i:=fun j h=>by cases i<;>cases j<;>first|rfl|exact absurd rfl h
 have bh:(!i)≠i:=by cases i<;>decide
 have W : ∀(h':Hp) (F6:List Nat) (J K:List (Value×Value×Nat)) (Y Z:Nat) (U:Bi),U=cy (fun v=>pis.getD v 0) i σ v lab p->U.sd=dA σ.sd i (eo (fun v=>pis.getD v 0) (σ.sd i) i v lab p)->U.ev=σ.ev->
  St (· ∈BB) h0 h' [(br,.row [pn,.int .i64 (s:Nat),.int .i64 (t:Nat),.slice none 0 0,vPi,ptrTo (X false).b,ptrTo (X true).b,.int .i64 (U.dist:Nat),.slice none 0 0,vE,.int .i64 (U.meet:Nat)] 1),(y,.row [ptrTo xp,.int .i64 (jP i:Nat),.int .i64 (kZ i),vA,vH,.map (some xl),.map (some xa),.map (some xc)] 1),(xl,.map J Y),(xa,.map K Z),(xc,.map ec cc),(yb,.row [ptrTo yp,.int .i64 (jP (!i):Nat),.int .i64 (kZ (!i)),wA,wH,.map (some yl),.map (some ya),.map (some yc)] 1),(yl,.map fl dl),(ya,.map fa da),(yc,.map fc dc)] [(vE,4,σ.ev.flatMap jD)]->
  ct h' F6 (ptrTo xp) N (cM (σ.sd i).K v (some (2*lab+qB (fun v=>pis.getD v 0) i v)))->ct h' (F (!i)) (ptrTo yp) N (σ.sd (!i)).K->(∀c∈F6,c∈F i\/h0.n<=c)->dS J Y (dY gl v (some (.int .i64 (lab:Nat))))->dS K Z (dY ga v (some (.int .i64 (byI p))))->
  Mo (· ∈BB) h0 h'/\ ∃A F',fK h' br pn s t vPi A F' vE N (cy (fun v=>pis.getD v 0) i σ v lab p)/\(∀j,(A j).b=(X j).b/\(A j).vA=(X j).vA/\(A j).vH=(X j).vH)/\ ∀c∈boB br pn s t vPi A F' vE (cy (fun v=>pis.getD v 0) i σ v lab p),c∈BB\/h0.n<=c:=by
  intro h' F6 J K Y Z U bp e1 e2 S H6 E B G I;rw [<-bp]
  let A:Bool->Sx:=fun j=>if j=i then⟨y,xp,xl,xa,xc,vA,vH,J,Y,K,Z,ec,cc⟩else X j
  let F':Bool->List Nat:=fun j=>if j=i then F6 else F j
  have xi:A i=⟨y,xp,xl,xa,xc,vA,vH,J,Y,K,Z,ec,cc⟩:=if_pos rfl;have xo:A (!i)=X (!i):=if_neg bh;have fi:F' i=F6:=if_pos rfl;have fo:F' (!i)=F (!i):=if_neg bh;have a7: ∀j,(A j).b=(X j).b/\(A j).vA=(X j).vA/\(A j).vH=(X j).vH:=fun j=>by
   by_cases V:j=i
   . subst V;rw [xi,hX];exact⟨rfl,rfl,rfl⟩
   . rw [af j V,xo];exact⟨rfl,rfl,rfl⟩
  have eL:boL i br pn s t vPi A vE U=[(br,.row [pn,.int .i64 (s:Nat),.int .i64 (t:Nat),.slice none 0 0,vPi,ptrTo (X false).b,ptrTo (X true).b,.int .i64 (U.dist:Nat),.slice none 0 0,vE,.int .i64 (U.meet:Nat)] 1),(y,.row [ptrTo xp,.int .i64 (jP i:Nat),.int .i64 (kZ i),vA,vH,.map (some xl),.map (some xa),.map (some xc)] 1),(xl,.map J Y),(xa,.map K Z),(xc,.map ec cc),(yb,.row [ptrTo yp,.int .i64 (jP (!i):Nat),.int .i64 (kZ (!i)),wA,wH,.map (some yl),.map (some ya),.map (some yc)] 1),(yl,.map fl dl),(ya,.map fa da),(yc,.map fc dc)]:=by simp only [boL,iw,Sx.L,Sx.row,xi,xo,hY,(a7 false).1,(a7 true).1,Xl,Xo]
  have eG:boG vE U=[(vE,4,σ.ev.flatMap jD)]:=by unfold boG;rw [e2]
  have keyE: ∀c,c∈keys (boL i br pn s t vPi A vE U) (boG vE U)->c<h0.n:=fun c d=>by rw [eL,eG]at d;exact a6 c d
  have a4: ∀c,c∈F i\/c∈F (!i)->c∉keys (boL i br pn s t vPi A vE U) (boG vE U):=fun c d M=>by rw [eL,eG]at M;exact d.elim (fun h=>hk i c h M) (fun h=>hk (!i) c h M)
  rw [<-eL,<-eG]at S;have ap:=fun j c (d:c∈F j)=>(a.apart j c d).2;have lF:=fun j=>(a.heap j).lt ok;refine⟨S.fr,A,F',fK.of i S (fun j=>?_) (fun j=>?_) (fun j c d=>?_),a7,fun c d=>?_⟩
  . by_cases V:j=i
    . subst V;rw [fi,xi,e1,eg];exact H6
    . rw [af j V,fo,xo,e1,nZ,hY];exact E
  . by_cases V:j=i
    . subst V;rw [xi,e1,eg];refine⟨⟨_,G,fun u=>?_⟩,⟨_,I,fun u hu=>?_⟩,⟨gc,MC,bf⟩⟩
      . simp only [dY,eo];by_cases hu:u=v
        . subst hu;simp
        . rw [if_neg (by omega),if_neg hu];exact be u
      . simp only [dY,eo,mG]at hu⊢;by_cases a8:u=v
        . subst a8;simp
        . rw [if_neg (by omega),if_neg a8];rw [if_neg a8]at hu;exact bo u hu
    . rw [af j V,xo,e1,nZ];exact a.ok _
  . by_cases V:j=i
    . subst V;rw [fi]at d;rw [fo];rcases B c d with h|h
      . exact⟨a4 c (.inl h),ap _ c h⟩
      . exact⟨fun M=>by have:=keyE c M;omega,fun M=>by have:=lF _ c M;omega⟩
    . rw [af j V]at d⊢;rw [fo]at d;rw [XJ,fi];refine⟨a4 c (.inr d),fun M=>?_⟩;rcases B c M with h|h
      . exact ap _ c h d
      . have:=lF _ c d;omega
  . have hB: ∀j,∀c∈F' j,c∈BB\/h0.n<=c:=fun j c d=>by
     by_cases V:j=i
     . subst V;rw [fi]at d;exact(B c d).elim (fun h=>ad _ c h) .inr
     . rw [af j V,fo]at d;exact ad _ c d
    rcases List.mem_append.1 d with d|d
    . refine(S.key_own ?_).symm;unfold keys at d⊢;rcases List.mem_append.1 d with h|h
      . exact zO _ (((pH i).map _).mem_iff.2 h)
      . exact Xf _ h
    . rcases List.mem_append.1 d with d|d
      . exact hB _ c d
      . exact hB _ c d
 refine aa (n:=132) (rs:=[]) rfl Tryz.e133 rfl rfl rfl (lbt rfl) ?_;simp only [BZ,seval];refine ag (bpi_ok S.ok l4 sP (lP.imp (fun e=>by omega) id)) ?_;intro h1 g1;replace S:=S.call g1;replace H:=H.gr g1;replace Hx:=Hx.gr g1;have D:=nY (x:=(v:Int)) Tryz.t272.1 Tryz.t3.1 (z:=.int .i64 0) (by kernel_rfl) (show h1.get xl=some (.map el cl)from(S.own _ m2).2) ML;have O:=lK (x:=(v:Int)) Tryz.t230.1 Tryz.t3.1 (z:=.int .i64 0) (by kernel_rfl) (show h1.get xc=some (.map ec cc)from(S.own _ m4).2) MC;rw [be]at D;rw [bf]at O;generalize hp:pis.getD v 0=pv;by_cases L:OpB (fun v=>pis.getD v 0) v
 . have ho : decide (-(FAR:Int)<pv/\pv<FAR)=true:=decide_eq_true (by rw [<-hp];exact L);by_cases hO:v∈(σ.sd i).O
   . rw [if_pos hO]at O;simp only [BZ,ho,D,O,Xg,S.ld (b:=y) (o:=5) m1 rfl,S.ld (b:=y) (o:=7) m1 rfl,seval];exact T (by unfold cy;rw [if_pos (.inl hO)]) _ g1
   . rw [if_neg hO]at O;have bi:aq .i64 (2*(lab:Int))=2*(lab:Int):=(by rw [wrap64]<;>omega);have bx: -(FAR:Int)<pv/\pv<FAR:=of_decide_eq_true ho;have bk:aq .i64 (kZ i*pv)=kZ i*pv:=(by rw [wrap64]<;>cases i<;>simp only [kZ,if_true,if_false,XK]<;>omega);have Q:kZ i*pv=qB (fun v=>pis.getD v 0) i v:=(by unfold qB;simp only [hp];cases i<;>simp [kZ]);have a5:aq .i64 (2*(lab:Int)+kZ i*pv)=2*(lab:Int)+kZ i*pv:=(by rw [wrap64]<;>cases i<;>simp only [kZ,if_true,if_false,XK]<;>omega);cases hL:(σ.sd i).L v with
     | none =>
       rw [hL]at D;simp only [XT,Xm,XL]at D;have R:cy (fun v=>pis.getD v 0) i σ v lab p=qF ((σ.sd (!i)).L v) ⟨dA σ.sd i (eo (fun v=>pis.getD v 0) (σ.sd i) i v lab p),σ.ev,σ.dist,σ.meet⟩ v lab:=(by unfold cy;rw [if_neg (by rw [hL];rintro(h|h|h);exact hO h;exact h L;cases h)]);simp only [BZ,ho,D,O,Xm,S.ld (b:=y) (o:=5) m1 rfl,S.ld (b:=y) (o:=7) m1 rfl,seval];refine ar (aA rfl) (q:=0) (ps:=[]) (by kernel_rfl) ?_;simp only [BZ,cls,S.ld (b:=y) (o:=5) m1 rfl,S.ld (b:=y) (o:=6) m1 rfl,seval];obtain⟨h2,n1,e1,ai,bq,bs,_,S1,ba⟩:=S.mentI (i:=2) (x:=(v:Int)) rfl Tryz.t272.1 Tryz.t3.1 (z:=.int .i64 0) (by kernel_rfl) ML;refine mw (P:=fun h' v'=>h'=h2/\v'=.tuple #[(gl v).getD (.int .i64 0),.int .i64 (XZ n1)]) ⟨h2,_,e1,rfl,rfl⟩ ?_;rintro h' v' ⟨rfl,rfl⟩;clear S;have S:=S1;clear S1;simp only [LC]at S;obtain⟨J,ak,G⟩:=ba (.int .i64 (lab:Nat));simp only [BZ,cls,XA,seval];refine cP (S.mstoreI (i:=2) rfl ak) ?_;clear S;rintro h3 ⟨al,S⟩;simp only [LC]at S;simp only [BZ,cls,seval];obtain⟨h4,n2,e2,an,bt,bu,_,S1,bb⟩:=S.mentI (i:=3) (x:=(v:Int)) rfl Tryz.t230.1 Tryz.t3.1 (z:=.int .i64 0) (by kernel_rfl) MA;refine mw (P:=fun h' v'=>h'=h4/\v'=.tuple #[(ga v).getD (.int .i64 0),.int .i64 (XZ n2)]) ⟨h4,_,e2,rfl,rfl⟩ ?_;rintro h' v' ⟨rfl,rfl⟩;clear S;have S:=S1;clear S1;simp only [LC]at S;obtain⟨K,ax,I⟩:=bb (.int .i64 (byI p));simp only [BZ,cls,XA,seval];refine cP (S.mstoreI (i:=3) rfl ax) ?_;clear S;rintro h5 ⟨ay,S⟩;simp only [LC]at S;simp only [BZ,bi,bk,a5,S.ld (b:=y) (o:=2) m1 rfl,S.ld (b:=y) (o:=0) m1 rfl,seval];have H5:=(((H.mo ai (fun c d=>(f i c d).2.2.1)).mo al (fun c d=>(f i c d).2.2.1)).mo an (fun c d=>(f i c d).2.2.2)).mo ay (fun c d=>(f i c d).2.2.2);have bc:=(((Hx.mo ai (fun c d=>(f _ c d).2.2.1)).mo al (fun c d=>(f _ c d).2.2.1)).mo an (fun c d=>(f _ c d).2.2.2)).mo ay (fun c d=>(f _ c d).2.2.2);refine step_ret (pZ S.ok H5 hv (by omega) (bn hL)) ?_;rintro r h6 ⟨f6,F6,H6,bl⟩;have k5:=S.fr.n;have B: ∀c∈F6,c∈F i\/h0.n<=c:=fun c d=>(bl c d).imp (fun h=>h) (fun h=>by omega);have E:=bc.mo f6 (fun c d M=>(a.apart (!i) c d).2 (by rw [XJ];exact M));replace S:=S.stepF f6 (fun c d=>⟨ad i c d,hk i c d⟩);simp only [BZ];refine ar (aA rfl) (q:=0) (ps:=[]) (by kernel_rfl) ?_;have wo:aq .i64 (1-((jP i:Nat):Int))=((jP (!i):Nat):Int):=(by cases i<;>rfl);have io:ij (.int .i64 ((jP (!i):Nat):Int)) 2=some (jP (!i)):=gL (by cases i<;>decide);have ly:h6.load br (5+jP (!i)) 1=some [ptrTo yb]:=S.ld (b:=br) m0 (by
        cases i
        . show some (ptrTo (X true).b)=_;rw [show X true=_ from hY]
        . show some (ptrTo (X false).b)=_;rw [show X false=_ from hY])
       obtain⟨gq,MQ,bd⟩:=Hq.ml;have w:=nY (x:=(v:Int)) Tryz.t272.1 Tryz.t3.1 (z:=.int .i64 0) (by kernel_rfl) (show h6.get yl=some (.map fl dl)from(S.own _ m6).2) MQ;rw [bd]at w;cases hM:(σ.sd (!i)).L v with
       | none=>
         rw [hM]at w;simp only [XT,Xm,XL]at w;simp only [BZ,cls,wo,io,ly,w,S.ld (b:=y) (o:=1) m1 rfl,S.ld (b:=yb) (o:=5) m5 rfl,seval];refine W _ F6 _ _ _ _ ⟨dA σ.sd i (eo (fun v=>pis.getD v 0) (σ.sd i) i v lab p),σ.ev,σ.dist,σ.meet⟩ ?_ rfl rfl S (by rw [<-Q];exact H6) E B G I;rw [R,hM];rfl
       | some m=>
         have M:=hb _ v m hM;have aL:aq .i64 ((lab:Int)+(m:Int))=((lab+m:Nat):Int):=(by rw [wrap64]<;>omega);rw [hM]at w;simp only [XG,Xg,XM]at w;by_cases hlt:lab+m<σ.dist
         . have C:((lab+m:Nat):Int)<(σ.dist:Int):=(by omega);simp only [BZ,cls,wo,io,ly,w,aL,C,S.ld (b:=y) (o:=1) m1 rfl,S.ld (b:=yb) (o:=5) m5 rfl,S.ld (b:=br) (o:=7) m0 rfl,seval];refine aC (aE S (i:=0) rfl Tryz.t2.2.2.1 aJ (Xp (lbt rfl)) ono) ?_;clear S;rintro h7 ⟨S,a0⟩;simp only [LC]at S;simp only [BZ,seval];refine aC (aE S (i:=0) rfl Tryz.t3.2.2.1 aJ (Xp (lbt rfl)) ono) ?_;clear S;rintro h8 ⟨S,a1⟩;simp only [LC]at S;simp only [BZ];have a2: ∀c∈F6,¬c=br:=fun c d=>by
            rcases B c d with h|h
            . exact(f i c h).1
            . have:=a6 br (zO _ (Xu));intro e;omega
           refine W _ F6 _ _ _ _ ⟨dA σ.sd i (eo (fun v=>pis.getD v 0) (σ.sd i) i v lab p),σ.ev,lab+m,v⟩ ?_ rfl rfl S (by rw [<-Q];exact(H6.mo a0 a2).mo a1 a2) ((E.mo a0 (fun c d=>(f _ c d).1)).mo a1 (fun c d=>(f _ c d).1)) B G I;rw [R,hM];exact(if_pos hlt).symm
         . have C: ¬((lab+m:Nat):Int)<(σ.dist:Int):=(by omega);simp only [BZ,cls,wo,io,ly,w,aL,C,S.ld (b:=y) (o:=1) m1 rfl,S.ld (b:=yb) (o:=5) m5 rfl,S.ld (b:=br) (o:=7) m0 rfl,seval];refine W _ F6 _ _ _ _ ⟨dA σ.sd i (eo (fun v=>pis.getD v 0) (σ.sd i) i v lab p),σ.ev,σ.dist,σ.meet⟩ ?_ rfl rfl S (by rw [<-Q];exact H6) E B G I;rw [R,hM];exact(if_neg hlt).symm
     | some l =>
       rw [hL]at D;simp only [XG,Xg,XM]at D;by_cases hle:l<=lab
       . have a3:(l:Int)<=(lab:Int):=(by omega);simp only [BZ,ho,D,O,Xm,a3,S.ld (b:=y) (o:=5) m1 rfl,S.ld (b:=y) (o:=7) m1 rfl,seval];exact T (by unfold cy;rw [if_pos (.inr (.inr (by rw [hL];exact decide_eq_true hle)))]) _ g1
       . have a3: ¬(l:Int)<=(lab:Int):=(by omega);have R:cy (fun v=>pis.getD v 0) i σ v lab p=qF ((σ.sd (!i)).L v) ⟨dA σ.sd i (eo (fun v=>pis.getD v 0) (σ.sd i) i v lab p),σ.ev,σ.dist,σ.meet⟩ v lab:=(by unfold cy;rw [if_neg (by rw [hL];rintro(h|h|h);exact hO h;exact h L;exact hle (of_decide_eq_true h))]);simp only [BZ,ho,D,O,Xm,a3,S.ld (b:=y) (o:=5) m1 rfl,S.ld (b:=y) (o:=7) m1 rfl,seval];refine ar (aA rfl) (q:=0) (ps:=[]) (by kernel_rfl) ?_;simp only [BZ,cls,S.ld (b:=y) (o:=5) m1 rfl,S.ld (b:=y) (o:=6) m1 rfl,seval];obtain⟨h2,n1,e1,ai,bq,bs,_,S1,ba⟩:=S.mentI (i:=2) (x:=(v:Int)) rfl Tryz.t272.1 Tryz.t3.1 (z:=.int .i64 0) (by kernel_rfl) ML;refine mw (P:=fun h' v'=>h'=h2/\v'=.tuple #[(gl v).getD (.int .i64 0),.int .i64 (XZ n1)]) ⟨h2,_,e1,rfl,rfl⟩ ?_;rintro h' v' ⟨rfl,rfl⟩;clear S;have S:=S1;clear S1;simp only [LC]at S;obtain⟨J,ak,G⟩:=ba (.int .i64 (lab:Nat));simp only [BZ,cls,XA,seval];refine cP (S.mstoreI (i:=2) rfl ak) ?_;clear S;rintro h3 ⟨al,S⟩;simp only [LC]at S;simp only [BZ,cls,seval];obtain⟨h4,n2,e2,an,bt,bu,_,S1,bb⟩:=S.mentI (i:=3) (x:=(v:Int)) rfl Tryz.t230.1 Tryz.t3.1 (z:=.int .i64 0) (by kernel_rfl) MA;refine mw (P:=fun h' v'=>h'=h4/\v'=.tuple #[(ga v).getD (.int .i64 0),.int .i64 (XZ n2)]) ⟨h4,_,e2,rfl,rfl⟩ ?_;rintro h' v' ⟨rfl,rfl⟩;clear S;have S:=S1;clear S1;simp only [LC]at S;obtain⟨K,ax,I⟩:=bb (.int .i64 (byI p));simp only [BZ,cls,XA,seval];refine cP (S.mstoreI (i:=3) rfl ax) ?_;clear S;rintro h5 ⟨ay,S⟩;simp only [LC]at S;simp only [BZ,bi,bk,a5,S.ld (b:=y) (o:=2) m1 rfl,S.ld (b:=y) (o:=0) m1 rfl,seval];have H5:=(((H.mo ai (fun c d=>(f i c d).2.2.1)).mo al (fun c d=>(f i c d).2.2.1)).mo an (fun c d=>(f i c d).2.2.2)).mo ay (fun c d=>(f i c d).2.2.2);have bc:=(((Hx.mo ai (fun c d=>(f _ c d).2.2.1)).mo al (fun c d=>(f _ c d).2.2.1)).mo an (fun c d=>(f _ c d).2.2.2)).mo ay (fun c d=>(f _ c d).2.2.2);refine step_ret (rq S.ok H5 (by omega) (bm l hL hO) (k:=2*(lab:Int)+kZ i*pv) (by rw [Q];omega)) ?_;rintro r h6 ⟨f6,H6⟩;have B: ∀c∈F i,c∈F i\/h0.n<=c:=fun c d=>.inl d;have E:=bc.mo f6 (fun c d M=>(a.apart (!i) c d).2 (by rw [XJ];exact M));replace S:=S.stepF f6 (fun c d=>⟨ad i c d,hk i c d⟩);simp only [BZ];refine ar (aA rfl) (q:=0) (ps:=[]) (by kernel_rfl) ?_;have wo:aq .i64 (1-((jP i:Nat):Int))=((jP (!i):Nat):Int):=(by cases i<;>rfl);have io:ij (.int .i64 ((jP (!i):Nat):Int)) 2=some (jP (!i)):=gL (by cases i<;>decide);have ly:h6.load br (5+jP (!i)) 1=some [ptrTo yb]:=S.ld (b:=br) m0 (by
          cases i
          . show some (ptrTo (X true).b)=_;rw [show X true=_ from hY]
          . show some (ptrTo (X false).b)=_;rw [show X false=_ from hY])
         obtain⟨gq,MQ,bd⟩:=Hq.ml;have w:=nY (x:=(v:Int)) Tryz.t272.1 Tryz.t3.1 (z:=.int .i64 0) (by kernel_rfl) (show h6.get yl=some (.map fl dl)from(S.own _ m6).2) MQ;rw [bd]at w;cases hM:(σ.sd (!i)).L v with
         | none=>
           rw [hM]at w;simp only [XT,Xm,XL]at w;simp only [BZ,cls,wo,io,ly,w,S.ld (b:=y) (o:=1) m1 rfl,S.ld (b:=yb) (o:=5) m5 rfl,seval];refine W _ (F i) _ _ _ _ ⟨dA σ.sd i (eo (fun v=>pis.getD v 0) (σ.sd i) i v lab p),σ.ev,σ.dist,σ.meet⟩ ?_ rfl rfl S (by rw [<-Q];exact H6) E B G I;rw [R,hM];rfl
         | some m=>
           have M:=hb _ v m hM;have aL:aq .i64 ((lab:Int)+(m:Int))=((lab+m:Nat):Int):=(by rw [wrap64]<;>omega);rw [hM]at w;simp only [XG,Xg,XM]at w;by_cases hlt:lab+m<σ.dist
           . have C:((lab+m:Nat):Int)<(σ.dist:Int):=(by omega);simp only [BZ,cls,wo,io,ly,w,aL,C,S.ld (b:=y) (o:=1) m1 rfl,S.ld (b:=yb) (o:=5) m5 rfl,S.ld (b:=br) (o:=7) m0 rfl,seval];refine aC (aE S (i:=0) rfl Tryz.t2.2.2.1 aJ (Xp (lbt rfl)) ono) ?_;clear S;rintro h7 ⟨S,a0⟩;simp only [LC]at S;simp only [BZ,seval];refine aC (aE S (i:=0) rfl Tryz.t3.2.2.1 aJ (Xp (lbt rfl)) ono) ?_;clear S;rintro h8 ⟨S,a1⟩;simp only [LC]at S;simp only [BZ];have a2: ∀c∈F i,¬c=br:=fun c d=>by
              rcases B c d with h|h
              . exact(f i c h).1
              . have:=a6 br (zO _ (Xu));intro e;omega
             refine W _ (F i) _ _ _ _ ⟨dA σ.sd i (eo (fun v=>pis.getD v 0) (σ.sd i) i v lab p),σ.ev,lab+m,v⟩ ?_ rfl rfl S (by rw [<-Q];exact(H6.mo a0 a2).mo a1 a2) ((E.mo a0 (fun c d=>(f _ c d).1)).mo a1 (fun c d=>(f _ c d).1)) B G I;rw [R,hM];exact(if_pos hlt).symm
           . have C: ¬((lab+m:Nat):Int)<(σ.dist:Int):=(by omega);simp only [BZ,cls,wo,io,ly,w,aL,C,S.ld (b:=y) (o:=1) m1 rfl,S.ld (b:=yb) (o:=5) m5 rfl,S.ld (b:=br) (o:=7) m0 rfl,seval];refine W _ (F i) _ _ _ _ ⟨dA σ.sd i (eo (fun v=>pis.getD v 0) (σ.sd i) i v lab p),σ.ev,σ.dist,σ.meet⟩ ?_ rfl rfl S (by rw [<-Q];exact H6) E B G I;rw [R,hM];exact(if_neg hlt).symm
 . have ho:decide (-(FAR:Int)<pv/\pv<FAR)=false:=decide_eq_false (by rw [<-hp];exact L);simp only [BZ,ho,D,S.ld (b:=y) (o:=5) m1 rfl,seval];exact T (by unfold cy;rw [if_pos (.inr (.inl L))]) _ g1
theorem ct.lo{h:Hp}{F:List Nat}{p:Value}{N x:Nat}{K:Nat->Option Int}(a:ct h F p N K):ct {h with lo:=x} F p N K:=by obtain⟨c,d,l,e,f,g,i,j⟩:=a.ex;exact⟨⟨c,d,l,e,f,g,i,j.imp (fun h=>h) (fun⟨m,b,e,k⟩=>⟨m,b,e,⟨k.row,k.ex,k.ne⟩⟩)⟩⟩
theorem z9(k:OZ h0){p K:Nat}(L:aQ h0 K (ptrTo p) γ){a:List Value}(R:Row h0 br a 1)(d:a[0]? =some (ptrTo p))(f:a.length=11){vA g:Value}(M:Fl vA)(O:Fl g):
 Ret zM 128 [ptrTo br,.int .i64 (jP i:Nat),.int .i64 (v:Nat),.int .i64 (kZ i),vA,g] h0 fun _ h'=>Mo (· =br) h0 h'/\ ∃(x:Sx) (F:List Nat),Row h' br (a.set (5+jP i) (ptrTo x.b)) 1/\(∀q∈x.L i,Has h' q.1 q.2)/\x.vA=vA/\x.vH=g/\x.Ok gp/\ct h' F (ptrTo x.p) γ.nodes (fun _=>none)/\(∀c∈keys (x.L i) []++F,h0.n<=c)/\(keys (x.L i) []).Nodup/\ ∀c∈F,c∉keys (x.L i) []:=by
 have S:=St.init1 k (o:=.row a 1) R;have Q:=R.load1 (o:=0) d;refine aa (n:=32) (rs:=[]) rfl Tryz.e128 rfl rfl rfl (lbt rfl) ?_;simp only [BZ];refine ar (aA rfl) (q:=94400) (ps:=[]) (by kernel_rfl) ?_;simp only [BZ,cls,Q,seval];refine uX (bM (h0:={h0 with lo:=h0.n}) S.ok (L.keep k (fun _ _=>rfl))) ?_;intro l r;replace S:=S.call r;simp only [BZ,cls,seval];refine dq_ret (P:=fun v h'=> ∃F,ct h' F v γ.nodes (fun _=>none)/\ ∀b∈F,l.n<=b) ((tE (h0:={l with lo:=l.n}) S.ok (N:=γ.nodes)).mono fun v h' h=>⟨h.1,h.2.imp fun F h=>⟨h.1.lo,h.2⟩⟩) ?_;rintro s h2 m ⟨F,H,t⟩;replace S:=S.call m;have U:=S;replace S:=S.base;simp only [LC,keys,Xs,XH,Xv]at S;have V:Fl s:=by obtain⟨_,_,_,rfl,_⟩:=H.ex;exact bF
 simp only [BZ,cls,seval];refine dg oq S ?_;clear S;intro h W S u w;simp only [BZ,cls,seval];refine dg oq S ?_;clear S;intro h X S y z;simp only [BZ,cls,seval];refine dg oq S ?_;clear S;intro h Y S A B;simp only [BZ,cls,V,M,O,seval];refine dg (aV (by intro x e;cases e)) S ?_;clear S;intro h Z S C D;simp only [ae]at S;have io:ij (.int .i64 ((jP i:Nat):Int)) 2=some (jP i):=gL (by cases i<;>decide);simp only [BZ,cls,io,seval];refine cP (aE S (i:=4) rfl Tryz.t207.2.2.1 bF (by rw [f];cases i<;>decide) ono) ?_;clear S;rintro E ⟨S,mo⟩;simp only [LC]at S;simp only [BZ,seval];have k2:=m.n;have k1:=r.n;obtain⟨G,ep⟩: ∃b,s=ptrTo b:=by obtain⟨b,_,_,e,_⟩:=H.ex;exact⟨b,e⟩
 subst ep;have lF:=H.lt m.ok;have zb:=R.lt k;have H9:ct E F (ptrTo G) γ.nodes (fun _=>none):=H.mo S.fr (fun c d j=>by
  have:=t c d;have:c=br:=by simpa using j
  omega)
 have I:=S.apart;simp only [keys,Xs,XH,Xv,Xc,List.nodup_cons,XC,XB,or_false,not_or]at I;have T:St (· =br) h0 E _ _:=U.rebase S;refine⟨T.fr,⟨Z,G,W,X,Y,vA,g,[],0,[],0,[],0⟩,F,T.row m4,?_,rfl,rfl,?_,H9,?_,?_,?_⟩
 . intro q J;simp only [Sx.L,Sx.row,XC,XB,or_false]at J;rcases J with rfl|rfl|rfl|rfl
   . exact(T.own _ m0).2
   . exact(T.own _ m3).2
   . exact(T.own _ m2).2
   . exact(T.own _ m1).2
 . exact⟨⟨_,nH,fun v=>rfl⟩,⟨_,nH,fun v h=>by cases h⟩,⟨_,nH,fun v=>(if_neg (by simp [gp])).symm⟩⟩
 . intro c d;rcases List.mem_append.1 d with d|d
   . simp only [Sx.L,keys,Xs,XH,Xv,Xc,XC,XB,or_false]at d;rcases d with rfl|rfl|rfl|rfl<;>omega
   . have:=t c d;omega
 . simp only [Sx.L,keys,Xs,XH,Xv,Xc,List.nodup_cons,XC,XB,or_false,not_or,List.nodup_nil,and_true,not_false_eq_true];obtain⟨⟨a1,a2,a3,a4⟩,⟨b1,b2,b3⟩,⟨c1,c2⟩,_⟩:=I;exact⟨⟨a3,a2,a1⟩,⟨fun e=>c1 e.symm,fun e=>b2 e.symm⟩,fun e=>b1 e.symm⟩
 . intro c d j;have:=lF c d;simp only [Sx.L,keys,Xs,XH,Xv,Xc,XC,XB,or_false]at j;rcases j with rfl|rfl|rfl|rfl<;>omega
inductive NxtL(nx:Nat->Option (Nat×Nat)):Nat->List Nat->Prop where
 |nil {v:Nat}:nx v=none->NxtL nx v []
 |cons {v x w:Nat} {l:List Nat}:nx v=some (x,w)->NxtL nx w l->NxtL nx v (x::l)
def nxV:Option (Nat×Nat)->Value
 |none=>.tuple #[.int .i64 0,.int .i64 0,.bool false]|some (x,w)=>.tuple #[.int .i64 (x:Nat),.int .i64 (w:Nat),.bool true]
theorem chain_ok(L:OZ h0){post:Array Value}{nx:Nat->Option (Nat×Nat)}{D:Nat->Prop}(E: ∀h,Gr h0 h-> ∀v,D v->Ret zM g ([.int .i64 (v:Nat)]++post.toList) h fun r h'=>Gr h h'/\r=nxV (nx v))(M: ∀v x w,D v->nx v=some (x,w)->D w){l:List Nat}(i:D v)(p:NxtL nx v l)(F:l.length<=1000):
 Ret zM 211 [.int .i64 (v:Nat),.func (.func g) #[] post] h0 fun r h'=>Gr h0 h'/\ik h' (r,1,l.flatMap bO)/\ ∀c,au r c->h0.n<=c:=by
 have S:=Si L;refine aa (n:=28) (rs:=[.tmp 4]) rfl Tryz.e211 rfl rfl rfl (lbt rfl) ?_;simp only [BZ,seval];refine step_ret (E _ S.gr v i) ?_;rintro r Z ⟨N,rfl⟩;replace S:=S.call N;have q: ∀(o:Option (Nat×Nat)),∃x w b,nxV o=.tuple #[.int .i64 x,.int .i64 w,.bool b]:=fun o=>by
  rcases o with _|⟨x,w⟩
  . exact⟨_,_,_,rfl⟩
  . exact⟨_,_,_,rfl⟩
 obtain⟨O,P,Q,A⟩:=q (nx v);simp only [BZ,A,seval];replace S:=S.nilG (k:=1);refine bA (fun(a:List Nat) f h=> ∃done v x w b B,l=done++a/\D v/\NxtL nx v a/\nxV (nx v)=.tuple #[.int .i64 x,.int .i64 w,.bool b]/\St NoM h0 h [] [(B,1,fk done)]/\f 1=.func (.func g) #[] post/\f 4=B/\f 5=.int .i64 x/\f 6=.int .i64 w/\f 7=.bool b) (fun a=>a.length) ?_ l _ _ ?_
 . clear S p i A;intro a R f h ⟨done,v,x,w,b,B,t,i,p,e,S,r1,r4,r5,r6,r7⟩;cases p with
   | nil z=>
     rw [z]at e;simp only [nxV,Value.tuple.injEq,Array.mk.injEq,List.cons.injEq,Value.bool.injEq,Value.int.injEq]at e;obtain⟨⟨_,rfl⟩,⟨_,rfl⟩,rfl,_⟩:=e;simp only [BZ,ab,r4,r7,seval];rw [Xc]at t;subst t;refine⟨S.gr,(S.gown _ m0).1,fun c T=>?_⟩;exact((S.gown _ m0).2 c (mH (S.gown _ m0).1 T)).elim (fun h=>h) (fun h=>h.elim)
   | @cons _ y u d z U=>
     rw [z]at e;simp only [nxV,Value.tuple.injEq,Array.mk.injEq,List.cons.injEq,Value.bool.injEq,Value.int.injEq]at e;obtain⟨⟨_,rfl⟩,⟨_,rfl⟩,rfl,_⟩:=e;have G:done.length+(d.length+1)<=1000:=(by rw [t]at F;simpa using F);have H:=M _ _ _ i z;simp only [BZ,r4,r5,r7,seval];refine ac (cd (by exact Tryz.t41.1) (by exact XI) (by decide) (by rfl)) S ?_;clear S;intro h I S J;simp only [LC,bJ,bZ,ae,Xw,Xx,XD,XE,seval]at S;simp only [BZ,seval];have s:aP h 1 (.slice (some ⟨I,0,none⟩) 1 1)=some (1,fk [y]):=(by simp only [aP];rw [S.lds (b:=I) (o:=0) (n:=1*1) m0 (lbt rfl)];rfl);replace S:=S.drop1;refine dV (S.grow (j:=0) (m:=1) (new:=fk [y]) rfl Tryz.t41.1 XI (by decide) Tryz.t41.2.2.2.2.2 s rfl (by decide) rfl (by rw [ni,ni];simp;omega)) ?_;clear S s;rintro h C S;simp only [LC,<-Ba]at S;simp only [BZ,r1,r6,seval];refine step_ret (E _ S.gr u H) ?_;rintro r h2 ⟨V,rfl⟩;replace S:=S.call V;obtain⟨W,X,Y,K⟩:=q (nx u);simp only [BZ,K,seval];exact R d _ _ (by simp) ⟨done++[y],u,W,X,Y,C,by rw [t];simp,H,U,K,S,by simp [aG,r1]⟩
 . exact⟨[],v,O,P,Q,.slice none 0 0,rfl,i,p,A,S,by simp [aG,cZ]⟩
theorem head1_ok(d:OZ h0){a:Arc}:aT zM 130 [.agg ⟨cI a⟩] h0 (.int .i64 (a.t:Nat)):=by have S:=Si d;refine aa (n:=5) (rs:=[.tmp 2]) rfl Tryz.e130 rfl rfl rfl (lbt rfl) ?_;simp only [BZ,cI,seval];refine ac (aV (by intro x e;cases e)) S ?_;clear S;intro h f S c;simp only [ae]at S;simp only [BZ,ab,S.ld (b:=f) (o:=1) m0 rfl,seval];exact S.gr
theorem head2_ok(d:OZ h0){a:Arc}:aT zM 132 [.agg ⟨cI a⟩] h0 (.int .i64 (a.s:Nat)):=by have S:=Si d;refine aa (n:=5) (rs:=[.tmp 2]) rfl Tryz.e132 rfl rfl rfl (lbt rfl) ?_;simp only [BZ,cI,seval];refine ac (aV (by intro x e;cases e)) S ?_;clear S;intro h f S c;simp only [ae]at S;simp only [BZ,ab,S.ld (b:=f) (o:=0) m0 rfl,seval];exact S.gr
def nxB(A:List Arc)(i:Bool)(P:Nat->List Nat)(v:Nat):Option (Nat×Nat):=match P v with
 | []=>none|a::_=>some (a,fsB i (A.getD a default))
def mY(i:Bool):FuncId:=if i then 132 else 130
theorem AX(b:OZ h0){a:Arc}:aT zM (mY i) [.agg ⟨cI a⟩] h0 (.int .i64 (ftB i a:Nat)):=by
 cases i
 . exact head1_ok b
 . exact head2_ok b
structure BkAt(h:Hp)(br:Nat)(pn:Value)(m:Nat)(i:Bool)(x:Sx)(s:Sd):Prop where
 l0:h.load br 0 1=some [pn]
 l10:h.load br 10 1=some [.int .i64 (m:Nat)]
 row:Row h x.b (x.row i) 1
 map:h.get x.ma=some (.map x.ea x.ca)
 ok:x.Ok s
theorem BkAt.gr{h h':Hp}{br:Nat}{pn:Value}{m:Nat}{i:Bool}{x:Sx}{s:Sd}(a:BkAt h br pn m i x s)(g:Gr h h'):BkAt h' br pn m i x s:=⟨g.load a.l0,g.load a.l10,a.row.gr g,g.at a.map,a.ok⟩
theorem fK.bk{X:Bool->Sx}{F:Bool->List Nat}(a:fK h br pn s t vPi X F vE N σ)(i:Bool):BkAt h br pn σ.meet i (X i) (σ.sd i):=by
 obtain⟨R,b⟩:=a.rows;refine⟨R.load1 (o:=0) rfl,R.load1 (o:=10) rfl,b i,?_,a.ok i⟩;have c:Has h (X i).ma (.map (X i).ea (X i).ca):=by
  cases i
  . exact a.own ((X false).ma,.map _ _) (by simp [boL,Sx.L])
  . exact a.own ((X true).ma,.map _ _) (by simp [boL,Sx.L])
 exact c
theorem back1_ok(t:OZ h0){F L:Nat}{x:Sx}{d:Sd}(M:aQ h0 L (ptrTo F) γ)(f:Good γ)(a:BkAt h0 br (ptrTo F) m i x d)(N:x.vH=.func (.func (mY i)) #[] #[])
  (O:h0.load b2 0 1=some [ptrTo br]) (k:h0.load u 0 1=some [ptrTo x.b]) (P:(d.L v).isSome=true) (Q: ∀e∈d.P v,e<γ.arcs.length):
 Ret zM 212 ([.int .i64 (v:Nat)]++[ptrTo u,ptrTo b2]) h0 fun r h'=>Gr h0 h'/\r=nxV (nxB γ.arcs i d.P v):=by
 have S:=Si t;have n2:=f.n2;obtain⟨ga,R,w⟩:=a.ok.ma;have A:=a.l0;have G:=a.row.load1 (o:=6) rfl;have B:=a.row.load1 (o:=4) rfl;rw [N]at B;have T:=a.map;have c:=lK (x:=(v:Int)) Tryz.t230.1 Tryz.t3.1 (z:=.int .i64 0) (by kernel_rfl) T R;rw [w v P,Xg]at c;refine aa (n:=40) (rs:=[.tmp 4,.tmp 5,.tmp 6]) rfl Tryz.e212 rfl rfl rfl (lbt rfl) ?_;cases g:d.P v with
 | nil=>rw [g]at c;replace c:dN _ h0 _ _ _ _=some (.int .i64 (-1)):=c;simp only [BZ,ab,k,G,c,seval];exact⟨S.gr,by unfold nxB;rw [g];rfl⟩| cons e l=>
   rw [g]at c;replace c:dN _ h0 _ _ _ _=some (.int .i64 (e:Nat)):=c;have C:=Q e (by rw [g];simp);have U: ¬((e:Int)<0):=(by omega);simp only [BZ,k,G,c,U,O,A,seval];refine step_ret (jB S.ok M C) ?_;rintro r h1 ⟨V,rfl⟩;replace S:=S.call V;obtain⟨W,X,Y⟩:=f.arcs _ (XQ C);have j:γ.arcs.getD e default=γ.arcs[e]:=(by simp [Xe,C]);generalize γ.arcs[e]=y at W X Y j;simp only [BZ,cI,seval];refine ac aB S ?_;clear S;intro h p S H;simp only [BZ,seval];refine aC (S.store (i:=0) rfl ?_ ?_ rfl rfl ?_ ono) ?_
   . exact(by exact Tryz.t96.2.1)
   . exact(by intro x e;cases e)
   . exact lbt rfl
   clear S;rintro h ⟨S,Z⟩;clear Z;simp only [LC,ae,lay,Xy,Xz,seval]at S;have D:=S.old k (fun h=>h);have E:=S.old B (fun h=>h);have z3:=bD t k;have z4:=bD t B;have w1:aq .i64 ((y.s:Int)+(y.t:Int))=(y.s:Int)+(y.t:Int):=(by rw [wrap64]<;>omega);have w2:aq .i64 ((y.s:Int)+(y.t:Int)-(ftB i y:Int))=((fsB i y:Nat):Int):=(by cases i<;>simp only [ftB,fsB,if_true,if_false,XK]<;>rw [wrap64]<;>omega);simp only [BZ,seval];refine ar (aA rfl) (q:=0) (ps:=[(4,11),(2,11)]) (by kernel_rfl) ?_;simp only [BZ,cls,D,E,w1,S.ld (b:=p) (o:=0) m0 rfl,S.ld (b:=p) (o:=1) m0 rfl,S.lds (b:=p) (o:=0) (n:=3) m0 (lbt rfl),seval];have k8:=(S.row (b:=p) m0).lt S.ok;have n0:=S.gr.n;refine bC (AX (a:=y) S.ok) ?_;intro h9 s;have I:=ao s (show u<_ by omega);have J:=ao s (show x.b<_ by omega);have K:=ao s k8;replace S:=S.call s;simp only [BZ,cls,ab,w2,seval];refine⟨by simp only [aO,aU,aK,aX,aN,ne_eq,not_false_eq_true,bj,bG,aW,aS,bI,ce,aF,Xa,ah,av I,aw I,av J,aw J,av K,aw K,seval],?_⟩;refine⟨S.gr,?_⟩;unfold nxB;rw [g];simp only [j];rfl
theorem back_ok(C:OZ h0){E:Nat}{x:Sx}{d:Sd}(F:aQ h0 E (ptrTo t) γ)(k:Good γ)(a:BkAt h0 br (ptrTo t) m i x d)(G:x.vH=.func (.func (mY i)) #[] #[])
 {D:Nat->Prop} (f: ∀v,D v->(d.L v).isSome=true/\ ∀e∈d.P v,e<γ.arcs.length) (l: ∀v y w,D v->nxB γ.arcs i d.P v=some (y,w)->D w) (H:D m) (p:NxtL (nxB γ.arcs i d.P) m (d.P m)) (I:(d.P m).length<=1000):
 Ret zM 136 [ptrTo br,ptrTo x.b] h0 fun r h'=>Gr h0 h'/\ik h' (r,1,(d.P m).flatMap bO)/\ ∀c,au r c->h0.n<=c:=by
 have S:=Si C;have q:=a.l10;refine aa (n:=11) (rs:=[.tmp 4]) rfl Tryz.e136 rfl rfl rfl (lbt rfl) ?_;simp only [BZ,seval];refine ac (bK (by exact bF)) S ?_;clear S;intro h s S u;simp only [BZ,if_false,seval];refine ac (bK (by exact bF)) S ?_;clear S;intro h z S A;have j:=S.old q (fun h=>h);simp only [BZ,j,S.ld (b:=s) (o:=0) m1 rfl,seval];have J:=S.gr.n;have K:=S.ld (b:=s) (o:=0) m1 rfl;have L:=S.ld (b:=z) (o:=0) m0 rfl;refine step_ret (chain_ok S.ok (g:=212) (post:=#[ptrTo z,ptrTo s]) (nx:=nxB γ.arcs i d.P) (D:=D) (fun h' g v B=>back1_ok g.ok (F.gr (S.gr.trans g)) k (a.gr (S.gr.trans g)) G (g.load K) (g.load L) (f v B).1 (f v B).2) l H p I) ?_;rintro r Q ⟨M,N,O⟩;simp only [BZ,ab,seval];exact⟨S.gr.trans M,N,fun c P=>Xj J (O c P)⟩
section
variable{A:List Arc}{N:Nat}{al:Nat->Bool}{pi:Nat->Int}{σ:Bi}{rt:Bool->Nat}
structure KeB(b:Bool)(σ τ:Bi):Prop where
 O:(τ.sd b).O=(σ.sd b).O
 L: ∀v∈(σ.sd b).O,(τ.sd b).L v=(σ.sd b).L v/\(τ.sd b).P v=(σ.sd b).P v
 ot:τ.sd (!b)=σ.sd (!b)
theorem KeB.refl:KeB b σ σ:=⟨rfl,fun _ _=>⟨rfl,rfl⟩,rfl⟩
theorem KeB.trans{b:Bool}{τ c:Bi}(h:KeB b σ τ)(g:KeB b τ c):KeB b σ c:=
 ⟨g.O.trans h.O,fun v a=>⟨(g.L v (h.O▸a)).1.trans (h.L v a).1,(g.L v (h.O▸a)).2.trans (h.L v a).2⟩,g.ot.trans h.ot⟩
theorem ou{p:List Nat}:KeB b σ (cy pi b σ v lab p):=by
 unfold cy
 split
 . exact .refl
 . rename_i a;simp only [not_or,Decidable.not_not]at a;refine⟨?_,fun u c=>?_,?_⟩
   . rw [pE.1];show(dA σ.sd b _ b).O=_;rw [eg];rfl
   . rw [pE.1];show(dA σ.sd b _ b).L u=_/\(dA σ.sd b _ b).P u=_;rw [eg];have e:u≠v:=fun e=>a.1 (e▸c);exact⟨if_neg e,if_neg e⟩
   . rw [pE.1];exact nZ
theorem evB_I{e:Ev2}(h:BiI A N rt al pi σ):BiI A N rt al pi (evB σ e):=⟨h.sv,h.dm,h.le⟩
def qD(σ:Bi)(b:Bool)(v m:Nat):Prop:=v∈(σ.sd b).O/\(σ.sd b).L v=some m/\m+bR<=(σ.sd b).O.length*bR/\((σ.sd b).P v).length+1<=(σ.sd b).O.length
theorem qD.ke(r:qD σ b v m)(k:KeB b σ τ):qD τ b v m:=by obtain⟨a,c,d,e⟩:=r;exact⟨by rw [k.O];exact a,by rw [(k.L v a).1];exact c,by rw [k.O];exact d,by rw [k.O,(k.L v a).2];exact e⟩
theorem wZ(j:N<=12)(k: ∀a∈A,a.s<N/\a.t<N/\a.w<=bR)(h:BiI A N rt al pi σ)(r:qD σ b v m)(l:a<A.length)(d:fsB b (A.getD a default)=v):
 BiI A N rt al pi (eY A al pi b v σ a)/\KeB b σ (eY A al pi b v σ a):=by
 unfold eY
 split
 . rename_i e;obtain⟨n,i,s,o⟩:=r;have q:A.getD a default∈A:=(by grind);obtain⟨t,u,w⟩:=k _ q;have c:nK σ b v=m:=(by unfold nK;rw [i];rfl);have f:ftB b (A.getD a default)<N:=(by unfold ftB;grind);have g:=ou (pi:=pi) (σ:=evB σ ⟨1,b,a,0⟩) (b:=b) (v:=ftB b (A.getD a default)) (lab:=nK σ b v+(A.getD a default).w) (p:=a::(σ.sd b).P v);refine⟨(evB_I h).reach j f ?_ ?_ (.inr ⟨a,m,l,e,rfl,?_,?_,?_,?_⟩),⟨g.O,g.L,g.ot⟩⟩
   . show nK σ b v+_<=(σ.sd b).O.length*bR;omega
   . show((σ.sd b).P v).length+1<=(σ.sd b).O.length;exact o
   . rw [d];exact n
   . rw [d];rfl
   . rw [d];exact i
   . rw [c]
 . exact⟨h,.refl⟩
theorem CA{b:Bool}{v m:Nat}(d:N<=12)(e: ∀a∈A,a.s<N/\a.t<N/\a.w<=bR): ∀(l:List Nat) {σ:Bi},BiI A N rt al pi σ->qD σ b v m->(∀a∈l,a<A.length/\fsB b (A.getD a default)=v)->
 BiI A N rt al pi (l.foldl (eY A al pi b v) σ)/\KeB b σ (l.foldl (eY A al pi b v) σ)
 | [],_,h,_,_=>⟨h,.refl⟩| a::l,σ,h,r,c=>by obtain⟨g,f⟩:=wZ d e h r (c a Xu).1 (c a Xu).2;obtain⟨i,j⟩:=CA d e l g (r.ke f) (fun x k=>c x (XW _ k));exact⟨i,f.trans j⟩
theorem xj(h:BiI A N rt al pi σ)(z:(σ.sd b).K v=some k):BiI A N rt al pi (cG σ b v)/\ ∃m,qD (cG σ b v) b v m/\(σ.sd b).L v=some m/\k=2*(m:Int)+qB pi b v/\v∉(σ.sd b).O:=by
 have c:=h.sv b;obtain⟨B,m,w,o⟩:=c.op v k z;obtain⟨L,M,O,P,Q⟩:=c.lab v m w;have p: ∀i u,((cG σ b v).sd i).L u=(σ.sd i).L u:=fun i u=>by
  show(dA σ.sd b _ i).L u=_;by_cases e:i=b
  . subst e;rw [eg]
  . rw [ze e]
 refine⟨⟨fun i=>?_,?_,fun i u x y f q=>?_⟩,m,⟨?_,by grind,?_,?_⟩,w,o,B⟩
 . show SvB A N (rt i) al pi i (dA σ.sd b _ i);by_cases e:i=b
   . subst e;rw [eg];have C:((σ.sd i).O++[v]).length*bR=(σ.sd i).O.length*bR+bR:=(by grind);refine⟨?_,fun u g=>?_,fun u j n=>?_,fun u l r=>?_,fun u l r=>?_⟩
     . rw [List.nodup_append];exact⟨c.nd,by simp,fun x f y q e=>by grind⟩
     . rcases List.mem_append.1 g with g|g
       . exact c.lt u g
       grind
     . by_cases e:u=v
       . subst e;simp [cM]at n
       . have n:(σ.sd i).K u=some j:=(by simpa [cM,e]using n);obtain⟨s,t⟩:=c.op u j n;grind
     . obtain⟨s,t,D,E,F⟩:=c.lab u l r;refine⟨s,t,by show l<=((σ.sd i).O++[v]).length*bR;omega,by grind,?_⟩;grind[Xf,List.mem_singleton,zO,cM]
     . rcases c.path u l r with G|⟨a,j,s,t,D,E,F⟩
       . exact .inl G
       grind
   . rw [ze e];exact h.sv i
 . rcases h.dm with⟨H,R⟩|d
   . exact .inl ⟨H,fun i u x f=>by grind⟩
   . exact .inr fun i=>by obtain⟨x,y,I,J,K⟩:=d i;exact⟨x,y,by rw [p];exact I,by rw [p];exact J,K⟩
 . rw [p]at f q;exact h.le i u x y f q
 . show v∈(dA σ.sd b _ b).O;rw [eg];grind
 . show m+bR<=(dA σ.sd b _ b).O.length*bR;grind[eg,bR,Xt,XU,Nat.succ_mul]
 . show((dA σ.sd b _ b).P v).length+1<=(dA σ.sd b _ b).O.length;grind[eg,Xt,XU]
theorem se:a∈outs A (fsB b) A.length v↔a<A.length/\fsB b (A.getD a default)=v:=iP
theorem uW(c:N<=12)(d: ∀a∈A,a.s<N/\a.t<N/\a.w<=bR)(h:BiI A N rt al pi σ)(e:(σ.sd b).K v=some k):
 BiI A N rt al pi (jR A al pi b v (cG σ b v))/\KeB b (cG σ b v) (jR A al pi b v (cG σ b v)):=by
 obtain⟨f,m,r,_⟩:=xj h e;exact CA c d _ f r (fun a g=>se.1 g)
def InB(A:List Arc)(al:Nat->Bool)(pi:Nat->Int)(a:Nat):Prop:=al a=true/\OpB pi (A.getD a default).s/\OpB pi (A.getD a default).t
instance (a:Nat):Decidable (InB A al pi a):=by unfold InB;infer_instance
def hB(A:List Arc)(al:Nat->Bool)(pi:Nat->Int)(b:Bool):List Arc:=((Xn A.length).filter fun a=>decide (InB A al pi a)).map fun a=>⟨fsB b (A.getD a default),ftB b (A.getD a default),(A.getD a default).w⟩
theorem mU{a:Arc}:a∈hB A al pi b↔ ∃i,i<A.length/\InB A al pi i/\(⟨fsB b (A.getD i default),ftB b (A.getD i default),(A.getD i default).w⟩:Arc)=a:=by unfold hB;grind
def oO(A:List Arc)(al:Nat->Bool)(pi:Nat->Int):Prop:= ∀i,i<A.length->InB A al pi i->pi (A.getD i default).s<=2*(A.getD i default).w+pi (A.getD i default).t
theorem oO.q(h:oO A al pi){i:Nat}(a:i<A.length)(c:InB A al pi i)(b:Bool):qB pi b (fsB b (A.getD i default))<=2*(A.getD i default).w+qB pi b (ftB b (A.getD i default)):=by
 have:=h i a c;cases b
 . exact this
 . show-pi (A.getD i default).t<=2*((A.getD i default).w:Int)+ -pi (A.getD i default).s;omega
structure FeB(A:List Arc)(r:Nat)(al:Nat->Bool)(pi:Nat->Int)(b:Bool)(x:Sd)(ex:Nat->Prop):Prop where
 opt: ∀v∈x.O,∀l w,x.L v=some l->Wk (hB A al pi b) r v w->l<=w
 fr: ∀a,a<A.length->InB A al pi a->fsB b (A.getD a default)∈x.O-> ¬ex a-> ∃l m,x.L (fsB b (A.getD a default))=some m/\x.L (ftB b (A.getD a default))=some l/\l<=m+(A.getD a default).w
 st:x.L r=some 0
theorem SvB.wk{x:Sd}(h:SvB A N r al pi b x): ∀(n:Nat) {v l:Nat},(x.P v).length<=n->x.L v=some l->Wk (hB A al pi b) r v l:=by
 intro n
 induction n with
 | zero=>
   intro v l e c;rcases h.path v l c with⟨rfl,_,rfl⟩|⟨a,m,_,_,_,_,f,_⟩
   . exact .nil
   grind
 | succ n k=>
   intro v l e c;rcases h.path v l c with⟨rfl,_,rfl⟩|⟨a,m,o,p,g,u,f,i,q⟩
   . exact .nil
   . rw [f]at e;have s:=k (v:=fsB b (A.getD a default)) (l:=m) (by grind) i;have j:=(h.lab _ _ c).2.1;have t:=(h.lab _ _ i).2.1;have d:InB A al pi a:=(by refine⟨p,?_,?_⟩<;>cases b<;>first|exact t|(rw [<-g]at j;exact j));exact s.snoc' (mU.2 ⟨a,o,d,rfl⟩) rfl g q
theorem FeB.front{x:Sd}(f:FeB A r al pi b x (fun _=>False))(h:SvB A N r al pi b x)(p:oO A al pi){w:Nat}(k:Wk (hB A al pi b) r v w):
 (v∈x.O/\ ∃l,x.L v=some l/\l<=w)\/ ∃y j,x.K y=some j/\j<=2*(w:Int)+qB pi b v:=by
 induction k with
 | nil =>
   rcases(h.lab r 0 f.st).2.2.2.2 with c|c
   . exact .inl ⟨c,0,f.st,Xi _⟩
   . cases g:x.K r with
     |none=>grind| some j=>
       obtain⟨_,l,n,q⟩:=h.op r j g;rw [f.st]at n;grind
 | @snoc w a s E t=>
   obtain⟨i,o,d,rfl⟩:=mU.1 s;have F:=p.q o d b;rcases t with⟨u,z,B,hle⟩|⟨y,j,c,G⟩
   . obtain⟨l,m,H,n,C⟩:=f.fr i o d u (fun h=>h);have e:m=z:=(by grind);subst e;rcases(h.lab _ l n).2.2.2.2 with c|c
     . grind
     . cases g:x.K (ftB b (A.getD i default))with
       |none=>grind| some j=>
         obtain⟨_,I,D,q⟩:=h.op _ j g;grind
   grind
theorem FeB.key{x:Sd}(f:FeB A r al pi b x (fun _=>False))(h:SvB A N r al pi b x)(c:oO A al pi)(d:jN x.K v k){w:Nat}(g:u∉x.O)(e:Wk (hB A al pi b) r u w):k<=2*(w:Int)+qB pi b u:=by
 rcases f.front h c e with a|⟨y,j,a,i⟩
 . grind
 . have:=d.2 y j a;omega
end
section
variable{A:List Arc}{N:Nat}{al:Nat->Bool}{pi:Nat->Int}{σ:Bi}{rt:Bool->Nat}
theorem clo_b:(cG σ b v).sd b=⟨cM (σ.sd b).K v none,(σ.sd b).L,(σ.sd b).P,(σ.sd b).O++[v]⟩:=eg
theorem clo_n:(cG σ b v).sd (!b)=σ.sd (!b):=nZ
theorem FeB.close{r b v}(f:FeB A r al pi b (σ.sd b) (fun _=>False))(h:SvB A N r al pi b (σ.sd b))(n:oO A al pi)(i:jN (σ.sd b).K v k):FeB A r al pi b ((cG σ b v).sd b) (fun a=>fsB b (A.getD a default)=v):=by
 obtain⟨o,m,t,x⟩:=h.op v k i.1;rw [clo_b];refine⟨fun u c l w p j=>?_,fun a q g d y=>?_,f.st⟩
 . rcases List.mem_append.1 c with c|c
   . exact f.opt u c l w p j
   . have e:=List.mem_singleton.1 c;subst e;have s:l=m:=(by grind);subst s;have:=f.key h n i o j;omega
 . rcases List.mem_append.1 d with d|d
   . exact f.fr a q g d (fun h=>h)
   grind
theorem zg{p:List Nat}:(∀u,u≠v->((cy pi b σ v lab p).sd b).L u=(σ.sd b).L u)/\(v∉(σ.sd b).O->OpB pi v-> ∃l,((cy pi b σ v lab p).sd b).L v=some l/\l<=lab/\ ∀l',(σ.sd b).L v=some l'->l<=l')/\
 ((((cy pi b σ v lab p).sd b).L v=(σ.sd b).L v)\/(∀l',(σ.sd b).L v=some l'->lab<l')):=by
 unfold cy
 split
 . rename_i a;refine⟨fun _ _=>rfl,fun i j=>?_,.inl rfl⟩;rcases a with h|h|h
   . grind
   . grind
   . cases d:(σ.sd b).L v with
     |none=>rw [d]at h;cases h
     |some l=>rw [d]at h;exact⟨l,rfl,of_decide_eq_true h,fun l' c=>by grind⟩
 . rename_i a;simp only [not_or,Decidable.not_not]at a;have e:(qF ((σ.sd (!b)).L v) ⟨dA σ.sd b (eo pi (σ.sd b) b v lab p),σ.ev,σ.dist,σ.meet⟩ v lab).sd b=eo pi (σ.sd b) b v lab p:=(by rw [pE.1];exact eg);have f: ∀l',(σ.sd b).L v=some l'->lab<l':=fun l' c=>(by simp_all[leO,decide_eq_true_eq]);rw [e];exact⟨fun u g=>if_neg g,fun _ _=>⟨lab,if_pos rfl,Xi _,fun l' c=>Nat.le_of_lt (f l' c)⟩,.inr f⟩
theorem FeB.scan1   {z ex':Nat->Prop} (f:FeB A r al pi b (σ.sd b) z) (h:SvB A N r al pi b (σ.sd b)) (I:qD σ b v m) (J:a<A.length) (K:fsB b (A.getD a default)=v) (B: ∀c,¬ex' c-> ¬z c\/c=a):
 FeB A r al pi b ((eY A al pi b v σ a).sd b) ex':=by
 obtain⟨R,C,_⟩:=I;have D:nK σ b v=m:=by unfold nK;rw [C];rfl
 unfold eY
 split
 . rename_i k;have n:(evB σ ⟨1,b,a,0⟩).sd b=σ.sd b:=rfl;obtain⟨E,L,j⟩:=zg (pi:=pi) (σ:=evB σ ⟨1,b,a,0⟩) (b:=b) (v:=ftB b (A.getD a default)) (lab:=nK σ b v+(A.getD a default).w) (p:=a::(σ.sd b).P v);have t:=ou (pi:=pi) (σ:=evB σ ⟨1,b,a,0⟩) (b:=b) (v:=ftB b (A.getD a default)) (lab:=nK σ b v+(A.getD a default).w) (p:=a::(σ.sd b).P v);generalize cy pi b (evB σ ⟨1,b,a,0⟩) (ftB b (A.getD a default)) (nK σ b v+(A.getD a default).w) (a::(σ.sd b).P v)=F at E L j t;have G:(F.sd b).O=(σ.sd b).O:=t.O;have H: ∀u∈(σ.sd b).O,(F.sd b).L u=(σ.sd b).L u:=fun u o=>(t.L u o).1;refine⟨fun u o l w s M=>?_,fun c x d q g=>?_,?_⟩
   . rw [G]at o;rw [H u o]at s;exact f.opt u o l w s M
   . rw [G]at q;rw [H _ q];rcases B c g with i|e
     . obtain⟨l,S,T,O,U⟩:=f.fr c x d q i;by_cases e:ftB b (A.getD c default)=ftB b (A.getD a default)
       . by_cases y:ftB b (A.getD a default)∈(σ.sd b).O
         . grind
         . have P:=(h.lab _ l O).2.1;grind
       grind
     . subst e;have P:OpB pi (ftB b (A.getD c default)):=by
        cases b with
        |false=>exact d.2.2|true=>exact d.2.1
       by_cases y:ftB b (A.getD c default)∈(σ.sd b).O
       . obtain⟨_,Q⟩:=h.lt _ y;cases s:(σ.sd b).L (ftB b (A.getD c default))with
         |none=>grind| some l=>refine⟨l,m,by grind,by grind,f.opt _ y l _ s ?_⟩;exact(h.wk _ (Xi _) C).snoc' (mU.2 ⟨c,J,d,rfl⟩) K rfl rfl
       grind
   . by_cases e:r=ftB b (A.getD a default)
     . rcases j with j|j
       . rw [e,j,n,<-e];exact f.st
       . have:=j 0 (by rw [n,<-e];exact f.st);omega
     . rw [E r e];exact f.st
 . rename_i k;refine⟨f.opt,fun c x d q g=>?_,f.st⟩;rcases B c g with i|e
   . exact f.fr c x d q i
   . subst e;exact absurd d.1 k
theorem FeB.scanL{r v m:Nat}{b:Bool}(j:N<=12)(k: ∀a∈A,a.s<N/\a.t<N/\a.w<=bR)(n:r=rt b): ∀(l:List Nat) {σ:Bi},FeB A r al pi b (σ.sd b) (· ∈l)->BiI A N rt al pi σ->qD σ b v m->(∀a∈l,a<A.length/\fsB b (A.getD a default)=v)->
 FeB A r al pi b ((l.foldl (eY A al pi b v) σ).sd b) (fun _=>False)
 | [],_,f,_,_,_=>⟨f.opt,fun a d g q _=>f.fr a d g q (by simp),f.st⟩
 | a::l,σ,f,h,i,o=>by
   obtain⟨d,p⟩:=o a Xu;have s:=FeB.scan1 (ex':=(· ∈l)) f (by rw [n];exact h.sv b) i d p (fun c t=>by
    by_cases e:c=a
    . exact .inr e
    . exact .inl (fun u=>(List.mem_cons.1 u).elim e t))
   obtain⟨w,y⟩:=wZ j k h i d p;exact FeB.scanL j k n l s w (i.ke y) (fun x z=>o x (XW _ z))
def BiF(A:List Arc)(rt:Bool->Nat)(al:Nat->Bool)(pi:Nat->Int)(σ:Bi):Prop:= ∀i,FeB A (rt i) al pi i (σ.sd i) (fun _=>False)
theorem stepB_F(n:N<=12)(o: ∀a∈A,a.s<N/\a.t<N/\a.w<=bR)(p:oO A al pi)(h:BiI A N rt al pi σ)(f:BiF A rt al pi σ)(d:jN (σ.sd b).K v k):BiF A rt al pi (jR A al pi b v (cG σ b v)):=by
 obtain⟨q,m,r,_⟩:=xj h d.1;obtain⟨_,s⟩:=uW n o h d.1;intro i;by_cases e:i=b
 . subst e;exact FeB.scanL n o rfl _ (by
    have g:=(f i).close (h.sv i) p d;exact⟨g.opt,fun a c j t l=>g.fr a c j t (fun u=>l (se.2 ⟨c,u⟩)),g.st⟩) q r (fun a c=>se.1 c)
 . rw [rD e,s.ot,clo_n];exact f (!b)
theorem xZ(b:N<=12)(c: ∀a∈A,a.s<N/\a.t<N/\a.w<=bR)(d:jG A al pi σ τ):BiI A N rt al pi σ->BiI A N rt al pi τ:=by
 induction d with
 |stop _=>exact fun h=>h
 |step _ e _ f=>exact fun h=>f (uW b c h e.1).1
theorem ends_F(b:N<=12)(c: ∀a∈A,a.s<N/\a.t<N/\a.w<=bR)(e:oO A al pi)(g:jG A al pi σ τ):BiI A N rt al pi σ->BiF A rt al pi σ->BiF A rt al pi τ/\StopB τ:=by
 induction g with
 |stop j=>grind|step _ d _ i=>exact fun h f=>i (uW b c h d.1).1 (stepB_F b c e h f d)
theorem hB_turn{a:Arc}(c:a∈hB A al pi false):(⟨a.t,a.s,a.w⟩:Arc)∈hB A al pi true:=by obtain⟨i,d,b,rfl⟩:=mU.1 c;exact mU.2 ⟨i,d,b,rfl⟩
theorem hB_turn'{a:Arc}(c:a∈hB A al pi true):(⟨a.t,a.s,a.w⟩:Arc)∈hB A al pi false:=by obtain⟨i,d,b,rfl⟩:=mU.1 c;exact mU.2 ⟨i,d,b,rfl⟩
theorem stop_le (o:oO A al pi) (h:BiI A N rt al pi σ) (f:BiF A rt al pi σ) (E:StopB σ) {W:Nat} (q:Wk (hB A al pi false) (rt false) (rt true) W):σ.dist<=W:=by
 have n: ∀{v c b l:Nat},v∉(σ.sd false).O->(σ.sd false).L v=some l->l<=c->Wk (hB A al pi false) (rt false) v c->Wk (hB A al pi true) (rt true) v b->σ.dist<=c+b:=by
  intro v c b l r s hle p e;by_cases d:v∈(σ.sd true).O
  . obtain⟨_,F⟩:=(h.sv true).lt _ d;cases z:(σ.sd true).L v with
    |none=>grind| some B=>have:=(f true).opt v d B b z e;have:=h.le false v l B s z;omega
  . rcases E with⟨i,C⟩|⟨P,k,Q,j,G,H,R⟩
    . cases i
      . rcases(f false).front (h.sv false) o p with g|⟨y,j,g,_⟩
        . grind
        grind
      . rcases(f true).front (h.sv true) o e with g|⟨y,j,g,_⟩
        . grind
        grind
    . have S:=(f false).key (h.sv false) o G r p;have T:=(f true).key (h.sv true) o H d e;have I:qB pi false v=pi v:=rfl;have D:qB pi true v= -pi v:=rfl;omega
 have t: ∀{v c:Nat},Wk (hB A al pi false) (rt false) v c-> ∀{b},Wk (hB A al pi true) (rt true) v b->σ.dist<=c+b\/(v∈(σ.sd false).O/\ ∃l,(σ.sd false).L v=some l/\l<=c):=by
  intro v c p
  induction p with
  | nil=>
    intro b e;by_cases d:rt false∈(σ.sd false).O
    . exact .inr ⟨d,0,(f false).st,Xi _⟩
    . exact .inl (n d (f false).st (Xi _) .nil e)
  | @snoc w a u q J=>
    intro b e;have K:Wk (hB A al pi true) (rt true) a.s (b+a.w):=e.snoc' (hB_turn u) rfl rfl rfl;rcases J K with g|⟨d,L,M,hle⟩
    . omega
    . obtain⟨i,C,x,rfl⟩:=mU.1 u;obtain⟨l,m,I,D,U⟩:=(f false).fr i C x d (fun h=>h);have O:m=L:=(by grind);subst O;by_cases r:ftB false (A.getD i default)∈(σ.sd false).O
      . grind
      . exact .inl (n r D (by grind) (.snoc u q) e)
 rcases t q .nil with g|⟨d,l,s,hle⟩
 . exact g
 . have:=h.le false _ l 0 s (f true).st;omega
theorem dist_wk(h:BiI A N rt al pi σ):σ.dist=FAR\/Wk (hB A al pi false) (rt false) (rt true) σ.dist:=by
 rcases h.dm with⟨d,_⟩|d
 . exact .inl d
 . obtain⟨x,y,b,c,e⟩:=d false;have f:=(h.sv false).wk _ (Xi _) b;have g:=(h.sv true).wk _ (Xi _) c;refine .inr ?_;rw [e,Nat.add_comm];exact Wk.back (fun a i=>⟨_,hB_turn' i,rfl,rfl,rfl⟩) g f
end
def rtB(s t:Nat)(i:Bool):Nat:=if i then t else s
def lZ(σ:Bi):List Nat:=((σ.sd false).P σ.meet).reverse++(σ.sd true).P σ.meet
section
variable{A:List Arc}{N s t:Nat}{al:Nat->Bool}{pi:Nat->Int}{σ:Bi}
theorem yT:BiI A N (rtB s t) al pi ⟨fun _=>gp,[],FAR,0⟩:=
 ⟨fun i=>⟨.nil,fun v c=>(by cases c),fun v k d=>(by cases d),fun v l a=>(by cases a),fun v l a=>(by cases a)⟩,.inl ⟨rfl,fun i v x b=>rfl⟩,fun i v x y b=>(by cases b)⟩
theorem qS(a:N<=12)(c:s<N)(d:t<N):BiI A N (rtB s t) al pi (jq pi s t):=
 (yT.reach (b:=false) (p:=[]) (lab:=0) a c (XF _) (XF _) (.inl ⟨rfl,rfl,rfl⟩)).reach (b:=true) (p:=[]) (lab:=0) a d (XF _) (XF _) (.inl ⟨rfl,rfl,rfl⟩)
theorem zn(i:Bool):((jq pi s t).sd i).O=[]:=by
 have a:=ou (pi:=pi) (σ:=⟨fun _=>gp,[],FAR,0⟩) (b:=false) (v:=s) (lab:=0) (p:=[]);have c:=ou (pi:=pi) (σ:=cy pi false ⟨fun _=>gp,[],FAR,0⟩ s 0 []) (b:=true) (v:=t) (lab:=0) (p:=[]);cases i
 . have:=c.ot;show((cy pi true _ t 0 []).sd (!true)).O=[];rw [this];exact a.O
 . exact c.O.trans (by rw [show(true:Bool)=(!false)from rfl,a.ot];rfl)
theorem initB_ev:(jq pi s t).ev=[]:=by grind[cy,pE,jq]
theorem initB_F(os:OpB pi s)(d:OpB pi t):BiF A (rtB s t) al pi (jq pi s t):=by
 have e:=ou (pi:=pi) (σ:=⟨fun _=>gp,[],FAR,0⟩) (b:=false) (v:=s) (lab:=0) (p:=[]);have f:=ou (pi:=pi) (σ:=cy pi false ⟨fun _=>gp,[],FAR,0⟩ s 0 []) (b:=true) (v:=t) (lab:=0) (p:=[]);have k:((cy pi false ⟨fun _=>gp,[],FAR,0⟩ s 0 []).sd true).O=[]:=by rw [show(true:Bool)=(!false)from rfl,e.ot];rfl
 have g:=(zg (pi:=pi) (σ:=⟨fun _=>gp,[],FAR,0⟩) (b:=false) (v:=s) (lab:=0) (p:=[])).2.1 (fun h=>by cases h) os;have j:=(zg (pi:=pi) (σ:=cy pi false ⟨fun _=>gp,[],FAR,0⟩ s 0 []) (b:=true) (v:=t) (lab:=0) (p:=[])).2.1 (fun h=>by grind) d;intro i;refine⟨fun v c=>(by rw [zn]at c;cases c),fun a _ _ c=>(by rw [zn]at c;cases c),?_⟩;cases i
 . obtain⟨l,a,b,_⟩:=g;show((cy pi true _ t 0 []).sd (!true)).L s=some 0;rw [f.ot,show(!true)=false from rfl,a];congr 1;omega
 . obtain⟨l,a,b,_⟩:=j;show((cy pi true _ t 0 []).sd true).L t=some 0;grind
theorem SvB.pathF{x:Sd}(h:SvB A N s al pi false x): ∀(n:Nat) {v l:Nat},(x.P v).length<=n->x.L v=some l->iL A s (x.P v).reverse v l:=by
 intro n
 induction n with
 | zero=>
   intro v l c b;rcases h.path v l b with⟨rfl,d,rfl⟩|⟨a,m,_,_,_,_,e,_⟩
   . rw [d];exact .nil
   grind
 | succ n f=>
   intro v l c b;rcases h.path v l b with⟨rfl,d,rfl⟩|⟨a,m,g,_,i,_,e,j,k⟩
   . grind
   . rw [e]at c⊢;rw [k,List.reverse_cons,<-i];exact .snoc (f (by grind) j) g
theorem SvB.pathT{x:Sd}(h:SvB A N t al pi true x): ∀(n:Nat) {v l w:Nat} {ids:List Nat},(x.P v).length<=n->x.L v=some l->iL A s ids v w->iL A s (ids++x.P v) t (w+l):=by
 intro n
 induction n with
 | zero=>
   intro v l w ids d b e;rcases h.path v l b with⟨rfl,g,rfl⟩|⟨a,m,_,_,_,_,f,_⟩
   . grind
   grind
 | succ n i=>
   intro v l w ids d b e;rcases h.path v l b with⟨rfl,g,rfl⟩|⟨a,m,j,_,c,_,f,k,o⟩
   . grind
   . rw [f]at d⊢;have c:(A.getD a default).s=v:=c;have:=i (by grind) k (.snoc (by rw [c];exact e) j);grind
theorem tW(h:BiI A N (rtB s t) al pi σ)(g:σ.dist<FAR):iL A s (lZ σ) t σ.dist/\(lZ σ).length<=2*N:=by
 rcases h.dm with⟨d,_⟩|d
 . omega
 . obtain⟨x,y,a,b,c⟩:=d false;have e:=(show SvB A N s al pi false (σ.sd false)from h.sv false).pathF _ (Xi _) a;have f:=(show SvB A N t al pi true (σ.sd true)from h.sv true).pathT _ (Xi _) b e;rw [c];refine⟨f,?_⟩;have i:=((h.sv false).lab _ _ a).2.2.2.1;have j:=((h.sv true).lab _ _ b).2.2.2.1;have k:=(h.sv false).len;have l:=(h.sv true).len;unfold lZ;grind
theorem BO{B:List Arc}(b:N<=12)(g: ∀a∈A,a.s<N/\a.t<N/\a.w<=bR)(h:oO A al pi)(i:s<N)(j:t<N)(l:jG A al pi (jq pi s t) τ)(c:IsD B s t D)
 (m: ∀x,Wk (hB A al pi false) s t x->Wk B s t x) (p: ∀x,Wk B s t x->OpB pi s/\OpB pi t/\Wk (hB A al pi false) s t x):τ.dist=D:=by
 have n:=xZ b g l (qS b i j);have o:τ.dist=FAR\/Wk (hB A al pi false) s t τ.dist:=dist_wk n;by_cases hf:D<FAR
 . obtain⟨q,r,k⟩:=p D (c.far hf);obtain⟨f,u⟩:=ends_F b g h l (qS b i j) (initB_F q r);have hle:τ.dist<=D:=stop_le h n f u k;rcases o with e|d
   . omega
   . have:=(c.wk (m _ d)).2.1;omega
 . rcases o with e|d
   . have:=c.le;omega
   . exact absurd (c.wk (m _ d)).1 hf
theorem reachB_ev{p:List Nat}:(cy pi b σ v lab p).ev=σ.ev:=by grind[cy,pE]
end
theorem BiI.distLe{b:Bool->Nat}(h:BiI A N b al pi σ)(a:N<=12):σ.dist<=FAR:=by
 have g:=c9;have i:=jv;rcases h.dm with⟨e,_⟩|c
 . omega
 . obtain⟨x,y,d,f,j⟩:=c false;have k:=((h.sv false).lab _ x d).2.2.1;have l:=((h.sv (!false)).lab _ y f).2.2.1;have m:=Xh bR (Xj (h.sv false).len a);have n:=Xh bR (Xj (h.sv (!false)).len a);omega
theorem SvB.has{x:Sd}(h:SvB A N r al pi i x){l:Nat}(a:x.L v=some l)(c:v∉x.O):x.K v=some (2*(l:Int)+qB pi i v):=by
 have d:=((h.lab v l a).2.2.2.2).resolve_left c;cases b:x.K v with
 |none=>exact absurd b d| some k=>
   obtain⟨_,g,e,f⟩:=h.op v k b;rw [a]at e;cases e;rw [f]
theorem SvB.hasNo{x:Sd}(h:SvB A N r al pi i x)(a:x.L v=none):x.K v=none:=by
 cases b:x.K v with
 |none=>rfl| some k=>
   obtain⟨_,c,e,d⟩:=h.op v k b;rw [a]at e;cases e
theorem tB(f:OZ h0){X:Bool->Sx}{F:Bool->List Nat}(a:fK h0 br pn s t vPi X F vE N σ)
 (g:aD h0 1 (encI .i64) vPi pis) (k:pis.length=N\/pis=[]/\vPi=.slice none 0 0) (m: ∀c,au vPi c->c∉boB br pn s t vPi X F vE σ) (d:N<=12)  {n:Bool->Nat}  (I:BiI A N n al (fun v=>pis.getD v 0) σ)   {p:List Nat} (o:v<N) (e:lab<=13*bR):
 Ret zM 133 [ptrTo br,ptrTo (X i).b,.int .i64 (v:Nat),.int .i64 (byI p),.int .i64 (lab:Nat)] h0 fun _ h'=>Mo (· ∈boB br pn s t vPi X F vE σ) h0 h'/\ ∃b F',fK h' br pn s t vPi b F' vE N (cy (fun v=>pis.getD v 0) i σ v lab p)/\(∀j,(b j).b=(X j).b/\(b j).vA=(X j).vA/\(b j).vH=(X j).vH)/\ ∀c∈boB br pn s t vPi b F' vE (cy (fun v=>pis.getD v 0) i σ v lab p),c∈boB br pn s t vPi X F vE σ\/h0.n<=c:=
 breach_ok f a g k m d o e (I.distLe d) (fun j u l q=>by
  have w:=((I.sv j).lab u l q).2.2.1;have x:=Xh bR (Xj (I.sv j).len d);have y:=jv;omega) (fun l e r=>(I.sv i).has e r) (fun h=>(I.sv i).hasNo h)
theorem note_look{ρ:Operand->Value}{a:Bool}{t:TypeId}{m k:Operand}:df ρ b (.lookup t m k a) h h'=(match ρ m with| .map (some r)=>some (.blk r)|_=>none):=by simp only [df,dZ,lq,gD,touch,cond_false];cases ρ m<;>first|rfl|(rename_i x;cases x<;>rfl)
theorem wX{A:List Arc}{al:Nat->Bool}{pi:Nat->Int}{b:Bool}{v:Nat}: ∀(l:List Nat) {σ:Bi},(l.foldl (eY A al pi b v) σ).ev.length<=σ.ev.length+l.length
 | [],_=>Xi _| a::l,σ=>by
   have h:=wX (A:=A) (al:=al) (pi:=pi) (b:=b) (v:=v) l (σ:=eY A al pi b v σ a);have c:(eY A al pi b v σ a).ev.length<=σ.ev.length+1:=by
    unfold eY
    split
    . rw [reachB_ev];simp [evB]
    . omega
   rw [List.foldl_cons,List.length_cons];omega
theorem uk: ∀e:Ev2,(jD e).length=4:=fun _=>rfl
def outF(i:Bool):FuncId:=if i then 131 else 129
theorem outF_ok(b:OZ h0){e:Nat}(c:aQ h0 e p γ)(a:γ.arcs.length<1000)(d:v<γ.nodes):Ret zM (outF i) [p,.int .i64 v] h0 fun r h'=>Gr h0 h'/\aD h' 1 bO r (outs γ.arcs (fsB i) γ.arcs.length v)/\ ∀c,au r c->h0.n<=c:=by
 cases i
 . exact uH b c a d
 . exact xm b c a d
theorem fK.lt{h:Hp}(b:OZ h){br:Nat}{pn:Value}{s t:Nat}{vPi:Value}{X:Bool->Sx}{F:Bool->List Nat}{vE:Value}{N:Nat}{σ:Bi}(a:fK h br pn s t vPi X F vE N σ): ∀c∈boB br pn s t vPi X F vE σ,c<h.n:=fun c d=>
 (List.mem_append.1 d).elim (fun h=>(a.st b false).key_lt h) (fun h=>(List.mem_append.1 h).elim (fun h=>(a.heap false).lt b c h) (fun h=>(a.heap true).lt b c h))
theorem bo_fin{X:Bool->Sx}{F:Bool->List Nat}(a:fK h0 br pn s t vPi X F vE N σ){x2:Sx}(e:x2.b=(X i).b/\x2.vA=(X i).vA/\x2.vH=(X i).vH){y:Sd}(k:τ.sd=dA σ.sd i y){vE2:Value}{F6:List Nat}
 (S:St (· ∈boB br pn s t vPi X F vE σ) h0 h' ((br,.row (iw pn s t vPi X vE2 τ) 1)::(x2.L i++(X (!i)).L (!i))) (boG vE2 τ)) (z:ct h' F6 (ptrTo x2.p) N y.K) (v:ct h' (F (!i)) (ptrTo (X (!i)).p) N (σ.sd (!i)).K) (w:x2.Ok y)
 (x: ∀c∈F6,c∈F i\/h0.n<=c) (l: ∀c∈F6,c∉keys ((br,Ob.row (iw pn s t vPi X vE2 τ) 1)::(x2.L i++(X (!i)).L (!i))) (boG vE2 τ)/\c∉F (!i)) (n: ∀c∈F (!i),c∉keys ((br,Ob.row (iw pn s t vPi X vE2 τ) 1)::(x2.L i++(X (!i)).L (!i))) (boG vE2 τ)):
 ∃f F',fK h' br pn s t vPi f F' vE2 N τ/\(∀j,(f j).b=(X j).b/\(f j).vA=(X j).vA/\(f j).vH=(X j).vH)/\ ∀c∈boB br pn s t vPi f F' vE2 τ,c∈boB br pn s t vPi X F vE σ\/h0.n<=c:=by
 have g: ∀j:Bool,j≠i->j= !i:=fun j h=>rD h;have o:(!i)≠i:=not_ne
 let f:Bool->Sx:=fun j=>if j=i then x2 else X j
 let F':Bool->List Nat:=fun j=>if j=i then F6 else F j
 have p:f i=x2:=if_pos rfl;have q:f (!i)=X (!i):=if_neg o;have r:F' i=F6:=if_pos rfl;have u:F' (!i)=F (!i):=if_neg o;have m: ∀j,(f j).b=(X j).b/\(f j).vA=(X j).vA/\(f j).vH=(X j).vH:=fun j=>by
  by_cases d:j=i
  . subst d;rw [p];exact e
  . rw [g j d,q];exact⟨rfl,rfl,rfl⟩
 have A:boL i br pn s t vPi f vE2 τ=(br,.row (iw pn s t vPi X vE2 τ) 1)::(x2.L i++(X (!i)).L (!i)):=by simp only [boL,iw,p,q,(m false).1,(m true).1]
 rw [<-A]at S l n;refine⟨f,F',fK.of i S (fun j=>?_) (fun j=>?_) (fun j c b=>?_),m,fun c b=>?_⟩
 . by_cases d:j=i
   . subst d;rw [r,p,k,eg];exact z
   . rw [g j d,u,q,k,nZ];exact v
 . by_cases d:j=i
   . subst d;rw [p,k,eg];exact w
   . rw [g j d,q,k,nZ];exact a.ok _
 . by_cases d:j=i
   . subst d;rw [r]at b;rw [u];exact l c b
   . rw [g j d]at b⊢;rw [u]at b;rw [XJ,r];exact⟨n c b,fun B=>(l c B).2 b⟩
 . have hB: ∀j,∀c∈F' j,c∈boB br pn s t vPi X F vE σ\/h0.n<=c:=fun j c b=>by
    by_cases d:j=i
    . subst d;rw [r]at b;exact(x c b).elim (fun h=>.inl (qZ h)) .inr
    . rw [g j d,u]at b;exact .inl (qZ b)
   rcases List.mem_append.1 b with b|b
   . refine(S.key_own ?_).symm;unfold keys at b⊢;rcases List.mem_append.1 b with h|h
     . exact zO _ (((pH i).map _).mem_iff.2 h)
     . exact Xf _ h
   . rcases List.mem_append.1 b with b|b
     . exact hB _ c b
     . exact hB _ c b
theorem bstep_ok {hq:Hp} (gq:Gr hq h0) {g nb:Nat}    {X:Bool->Sx} {F:Bool->List Nat}    (D:Good γ) (hn:aQ hq nb (ptrTo g) γ) (a:fK h0 br (ptrTo g) s t vPi X F vE γ.nodes σ) (hB: ∀c∈boB br (ptrTo g) s t vPi X F vE σ,hq.n<=c)
 (sP:aD hq 1 (encI .i64) vPi pis) (lP:pis.length=γ.nodes\/pis=[]/\vPi=.slice none 0 0) {rt:Bool->Nat} (I:BiI γ.arcs γ.nodes rt (fun _=>true) (fun v=>pis.getD v 0) σ) (cO:σ.ev.length<=100000)    (hp:jN (σ.sd i).K v k) (hA:(X i).vA=.func (.func (outF i)) #[ptrTo g] #[]) (hH:(X i).vH=.func (.func (mY i)) #[] #[]):
 Ret zM 135 [ptrTo br,ptrTo (X i).b] h0 fun _ h'=>Mo (· ∈boB br (ptrTo g) s t vPi X F vE σ) h0 h'/\ ∃X' F' B,fK h' br (ptrTo g) s t vPi X' F' B γ.nodes (jR γ.arcs (fun _=>true) (fun v=>pis.getD v 0) i v (cG σ i v))/\(∀j,(X' j).b=(X j).b/\(X' j).vA=(X j).vA/\(X' j).vH=(X j).vH)/\ ∀c∈boB br (ptrTo g) s t vPi X' F' B (jR γ.arcs (fun _=>true) (fun v=>pis.getD v 0) i v (cG σ i v)),c∈boB br (ptrTo g) s t vPi X F vE σ\/h0.n<=c:=by
 have ok:=gq.ok;have n2:=D.n2;have S:=a.st ok i;have Ho:=a.ok i;have H:=a.heap i;have Hx:=a.heap (!i);have hk:=fun j c (d:c∈F j)=>a.apart' i d;have ba: ∀j,∀c∈F j,c∈boB br (ptrTo g) s t vPi X F vE σ\/h0.n<=c:=fun j c d=>.inl (qZ d);generalize ak:boB br (ptrTo g) s t vPi X F vE σ=BB at S ba;rcases hX:X i with⟨xb,xp,xl,xa,xc,vA,vH,el,cl,ea,ca,ec,cc⟩;rcases hY:X (!i)with⟨yb,yp,yl,ya,yc,wA,wH,fl,dl,fa,da,fc,dc⟩;rw [hX]at Ho H hA hH;rw [hY]at Hx;obtain⟨gl,ML,bb⟩:=Ho.ml;obtain⟨gc,MC,bc⟩:=Ho.mc;simp only []at ML MC hA hH;subst hA hH;simp only [LC,boL,boG,iw,Sx.L,Sx.row,hX,hY]at S hk;have cT:=fun c d=>S.key_lt (b:=c) d;obtain⟨b0,l,an,cW⟩:=(I.sv i).op v k hp.1;have b1:=((I.sv i).lab v l an).1;refine aa (n:=125) (rs:=[]) rfl Tryz.e135 rfl rfl rfl (lbt rfl) ?_;simp only [BZ,S.ld (b:=xb) (o:=0) m1 rfl,seval];refine step_ret (tF S.ok H (by omega)) ?_;rintro rv h2 (⟨_,ax,_⟩|⟨v',k',rfl,b2,bd,f2,H2⟩)
 . exact absurd ((ax v).symm.trans hp.1) (by nofun)
 . obtain ⟨rfl,rfl⟩:=hp.uniq (⟨b2,bd⟩:jN (σ.sd i).K v' k');replace S:=S.stepF f2 (fun c d=>⟨ba i c d,hk i c d⟩);have be:=Hx.mo f2 (fun c d f=>(a.apart (!i) c d).2 (by rw [XJ];exact f));have S2:=S;have b3:=H2.lt S2.ok;have b4:=be.lt S2.ok;replace S:=S.base;have bf:=lK (x:=(v:Int)) Tryz.t230.1 Tryz.t3.1 (z:=.int .i64 0) (by kernel_rfl) (show h2.get xc=some (.map ec cc)from(S.own _ m4).2) MC;rw [bc,if_neg b0,Xm]at bf;have w1:aq .i64 ((0:Int)+1)=1:=rfl;simp only [BZ,bf,S.ld (b:=xb) (o:=7) m1 rfl,seval];refine aC (S.mputI (i:=4) rfl Tryz.t230.1 Tryz.t3.1 MC _) ?_;clear S;rintro h3 ⟨cX,b5,b6,b7,S⟩;simp only [LC]at S;have bh:=lK (x:=(v:Int)) Tryz.t272.1 Tryz.t3.1 (z:=.int .i64 0) (by kernel_rfl) (show h3.get xl=some (.map el cl)from(S.own _ m2).2) ML;rw [bb,an,XG,Xg]at bh;have cY:Fl vE:=(S.gown _ m0).1.fl;simp only [BZ];refine ar (aA rfl) (q:=262144) (ps:=[]) (by kernel_rfl) ?_;simp only [BZ,cls,bh,S.ld (b:=br) (o:=9) m0 rfl,S.ld (b:=xb) (o:=1) m1 rfl,S.ld (b:=xb) (o:=5) m1 rfl,seval];refine dg (cd (by exact Tryz.t44.1) (by exact XX) (by decide) (by rfl)) S ?_;clear S;intro h bs S bi bk;simp only [LC,bJ,bZ,ae,Xw,Xx,XD,XE,seval]at S;simp only [BZ,cls,seval];have G:aP h 4 (.slice (some ⟨bs,0,none⟩) 1 1)=some (1,jD ⟨0,i,v,l⟩):=(by simp only [aP];rw [S.lds (b:=bs) (o:=0) (n:=1*4) m0 (lbt rfl)];rfl);replace S:=S.drop1;refine mw (S.grow (j:=0) (m:=1) (new:=jD ⟨0,i,v,l⟩) rfl Tryz.t44.1 XX (by decide) Tryz.t44.2.2.2.2.2 G rfl (by decide) rfl (by rw [cC uk];show(_+4)*_<=_;omega)) ?_;clear S G;rintro h4 B S;simp only [LC]at S;have bl:Fl B:=(S.gown _ m0).1.fl;simp only [BZ,cls,seval];refine cP (aE S (i:=0) rfl Tryz.t44.2.2.1 bl (Xp (lbt rfl)) ono) ?_;clear S;rintro h5 ⟨S,c1⟩;simp only [LC]at S;have T:=S2.rebase S;have J:nK σ i v=l:=(by unfold nK;rw [an];rfl);have bo:=bo_fin a (i:=i) (x2:=⟨xb,xp,xl,xa,xc,.func (.func (outF i)) #[ptrTo g] #[],.func (.func (mY i)) #[] #[],el,cl,ea,ca,b5,b6⟩) (by rw [hX];exact⟨rfl,rfl,rfl⟩) (τ:=cG σ i v) (y:=⟨cM (σ.sd i).K v none,(σ.sd i).L,(σ.sd i).P,(σ.sd i).O++[v]⟩) rfl (vE2:=B) (F6:=F i) (h':=h5) (by
    rw [ak];simp only [iw,Sx.L,Sx.row,hY,Xl,Xo,boG,cG,J,Xk,Xq,Xr,Xc];exact T) (H2.mo S.fr (fun c d=>hk i c d)) (by rw [hY];exact be.mo S.fr (fun c d=>hk _ c d)) (⟨⟨gl,ML,bb⟩,Ho.ma,⟨_,b7,fun u=>by
    simp only [dY];by_cases hu:u=v
    . subst hu;simp;rfl
    . rw [if_neg (by omega),bc u];simp [hu]⟩⟩) (fun c d=>.inl d) (fun c d=>⟨fun f=>by
    simp only [iw,Sx.L,Sx.row,hY,Xl,Xo,boG,cG,J,Xk,Xq,Xr,Xc]at f;exact(S.key_own f).elim (fun h=>by have:=b3 c d;omega) (fun h=>hk i c d h),(a.apart i c d).2⟩) (fun c d f=>by
    simp only [iw,Sx.L,Sx.row,hY,Xl,Xo,boG,cG,J,Xk,Xq,Xr,Xc]at f;exact(S.key_own f).elim (fun h=>by have:=b4 c d;omega) (fun h=>hk _ c d h))
   obtain⟨X2,F2,A2,e2,bm⟩:=bo;have ay: ∀c∈BB,hq.n<=c:=fun c d=>hB c (by rw [ak];exact d);have b8:Gr hq h5:=gq.mo' T.fr ay;obtain⟨I5,m5,R5,c2,_,_⟩:=xj I hp.1;simp only [BZ,S.ld (b:=xb) (o:=3) m1 rfl,seval];refine step_ret (outF_ok (i:=i) S.ok (hn.gr b8) (by have:=D.many;omega) b1) ?_;rintro vL h6 ⟨g6,V,nL⟩;have f6:Mo (· ∈BB) h0 h6:=T.fr.trans (g6.fr (M:=NoM)) (fun _ h=>h.elim);have A6:=A2.gr g6;have n6:h5.n<=h6.n:=g6.n;have cb: ∀c∈boB br (ptrTo g) s t vPi X2 F2 B (cG σ i v),c<h5.n:=A2.lt S.ok;generalize hL:outs γ.arcs (fsB i) γ.arcs.length v=L at V;have cf: ∀e∈L,e<γ.arcs.length/\fsB i (γ.arcs.getD e default)=v:=fun e he=>(by rw [<-hL]at he;exact se.1 he);have c3:L.length<=γ.arcs.length:=(by rw [<-hL];exact kX _ _ _ _);have aL:jR γ.arcs (fun _=>true) (fun v=>pis.getD v 0) i v (cG σ i v)=L.foldl (eY γ.arcs (fun _=>true) (fun v=>pis.getD v 0) i v) (cG σ i v):=(by unfold jR;rw [hL]);rw [aL];have c4:(X2 i).b=xb:=(by rw [(e2 i).1,hX]);simp only [BZ,V.lenq,seval];refine bA (fun(j:Nat) ρ h=>j<=L.length/\ ∃K F3 E,fK h br (ptrTo g) s t vPi K F3 E γ.nodes ((L.take j).foldl (eY γ.arcs (fun _=>true) (fun v=>pis.getD v 0) i v) (cG σ i v))/\BiI γ.arcs γ.nodes rt (fun _=>true) (fun v=>pis.getD v 0) ((L.take j).foldl (eY γ.arcs (fun _=>true) (fun v=>pis.getD v 0) i v) (cG σ i v))/\qD ((L.take j).foldl (eY γ.arcs (fun _=>true) (fun v=>pis.getD v 0) i v) (cG σ i v)) i v m5/\(∀j,(K j).b=(X j).b/\(K j).vA=(X j).vA/\(K j).vH=(X j).vH)/\Mo (· ∈BB) h0 h/\(∀c∈boB br (ptrTo g) s t vPi K F3 E ((L.take j).foldl (eY γ.arcs (fun _=>true) (fun v=>pis.getD v 0) i v) (cG σ i v)),(c∈BB\/h0.n<=c)/\ ¬au vL c)/\aD h 1 bO vL L/\ρ 0=ptrTo br/\ρ 1=ptrTo xb/\ρ 4=.int .i64 (v:Nat)/\ρ 55=vL/\ρ 56=.int .i64 (L.length:Nat)/\ρ 57=.int .i64 j) (fun j=>L.length-j) ?_ 0 _ _ ?_
   . clear S A6 V;intro j ih ρ h ⟨hj,K,F3,E,A3,I3,R3,e3,f3,sub3,V,r0,r1,r4,r55,r56,r57⟩;have w:aq .i64 ((j:Int)+1)=((j+1:Nat):Int):=(by have:=D.many;rw [wrap64]<;>omega);by_cases hlt:j<L.length
     . obtain⟨c0,o0,x0,y0⟩:=V.ix (kd:=.i64) dw hlt;obtain⟨N,af⟩:=cf _ (XQ hlt);have bn:L.take (j+1)=L.take j++[L[j]]:=List.take_succ_eq_append_getElem hlt;generalize L[j]=e at y0 N af bn;replace y0:h.load c0 o0 1=some [.int .i64 (e:Nat)]:=y0;generalize bq:(L.take j).foldl (eY γ.arcs (fun _=>true) (fun v=>pis.getD v 0) i v) (cG σ i v)=τ at A3 I3 R3 sub3;have O:=f3.ok;have S:=A3.st O i;have bt:=A3.ok i;have H3:=A3.heap i;have a0:=A3.heap (!i);have P:=fun j c (d:c∈F3 j)=>A3.apart' i d;have W:=e3 i;rw [hX]at W;generalize Q:boB br (ptrTo g) s t vPi K F3 E τ=c5 at S sub3;rcases hX3:K i with⟨R,c6,Y,db,dd,de,dj,a4,a5,dm,dn,dq,ds⟩;rcases hY3:K (!i)with⟨dt,dv,dx,dy,dF,dO,d0,d1,d2,d3,d4,d5,d7⟩;rw [hX3]at bt H3 W;rw [hY3]at a0;simp only []at W;obtain⟨rfl,rfl,rfl⟩:=W;simp only [LC,boL,boG,iw,Sx.L,Sx.row,hX3,hY3]at S P;simp only [BZ,Xb,r0,r55,r56,r57,aI,hlt,x0,y0,S.ld (b:=br) (o:=3) m0 rfl,seval];have cx:Fl E:=(S.gown _ m0).1.fl;have S2:=S;have ch:=H3.lt O;have bu:=a0.lt O;replace S:=S.base;refine ar (aA rfl) (q:=4096) (ps:=[]) (by kernel_rfl) ?_;simp only [BZ,cls,r0,r1,S.ld (b:=br) (o:=9) m0 rfl,S.ld (b:=R) (o:=1) m1 rfl,seval];refine dg (cd (by exact Tryz.t44.1) (by exact XX) (by decide) (by rfl)) S ?_;clear S;intro h bs S bi bk;simp only [LC,bJ,bZ,ae,Xw,Xx,XD,XE,seval]at S;simp only [BZ,cls,seval];have G:aP h 4 (.slice (some ⟨bs,0,none⟩) 1 1)=some (1,jD ⟨1,i,e,0⟩):=(by simp only [aP];rw [S.lds (b:=bs) (o:=0) (n:=1*4) m0 (lbt rfl)];rfl);replace S:=S.drop1;have cz:τ.ev.length<=1000000:=by have C:=wX (A:=γ.arcs) (al:=fun _=>true) (pi:=fun v=>pis.getD v 0) (b:=i) (v:=v) (L.take j) (σ:=cG σ i v);rw [bq,List.length_take]at C;have h2:(cG σ i v).ev.length=σ.ev.length+1:=(by simp [cG]);have:=D.many;omega
       refine mw (S.grow (j:=0) (m:=1) (new:=jD ⟨1,i,e,0⟩) rfl Tryz.t44.1 XX (by decide) Tryz.t44.2.2.2.2.2 G rfl (by decide) rfl (by rw [cC uk];show(_+4)*_<=_;omega)) ?_;clear S G;rintro h8 U S;simp only [LC]at S;have bv:Fl U:=(S.gown _ m0).1.fl;simp only [BZ,cls,seval];refine cP (aE S (i:=0) rfl Tryz.t44.2.2.1 bv (Xp (lbt rfl)) ono) ?_;clear S;rintro h9 ⟨S,d8⟩;simp only [LC]at S;have T:=S2.rebase S;have cj:(evB τ ⟨1,i,e,0⟩).sd=dA τ.sd i (τ.sd i):=by
        funext j;unfold dA;by_cases hj:j=i
        . rw [if_pos hj,hj];rfl
        . rw [if_neg hj];rfl
       have bo:=bo_fin A3 (i:=i) (x2:=K i) ⟨rfl,rfl,rfl⟩ (τ:=evB τ ⟨1,i,e,0⟩) cj (vE2:=U) (F6:=F3 i) (h':=h9) (by
        rw [Q];simp only [iw,Sx.L,Sx.row,hX3,hY3,Xl,Xo,boG,evB,Xk,Xq,Xr,Xc];exact T) (by rw [hX3];exact H3.mo S.fr (fun c d=>P i c d)) (by rw [hY3];exact a0.mo S.fr (fun c d=>P _ c d)) (A3.ok i) (fun c d=>.inl d) (fun c d=>⟨fun f=>by
        simp only [iw,Sx.L,Sx.row,hX3,hY3,Xl,Xo,boG,evB,Xk,Xq,Xr,Xc]at f;exact(S.key_own f).elim (fun h=>by have:=ch c d;omega) (fun h=>P i c d h),(A3.apart i c d).2⟩) (fun c d f=>by
        simp only [iw,Sx.L,Sx.row,hX3,hY3,Xl,Xo,boG,evB,Xk,Xq,Xr,Xc]at f;exact(S.key_own f).elim (fun h=>by have:=bu c d;omega) (fun h=>P _ c d h))
       obtain⟨X4,F4,A4,e4,ai⟩:=bo;have f9:Mo (· ∈BB) h0 h9:=f3.trans T.fr (fun c d=>(sub3 c d).1);have bx:=gq.mo' f9 ay;have ck:(X4 i).b=R:=(by rw [(e4 i).1,hX3]);simp only [BZ,r0,S.ld (b:=br) (o:=0) m0 rfl,seval];refine step_ret (jB S.ok (hn.gr bx) N) ?_;rintro r hA ⟨gA,rfl⟩;have a6:=gA.ok;have bB:γ.arcs.getD e default=γ.arcs[e]:=(by simp [Xe,N]);obtain⟨a1,a2,a3⟩:=D.arcs _ (XQ N);generalize γ.arcs[e]=x at bB a1 a2 a3;have AA:=A4.gr gA;replace S:=S.call gA;have l4:=S.ld (b:=R) (o:=4) m1 rfl;have l5:=S.ld (b:=R) (o:=5) m1 rfl;have gx:=S.gown;have SA:=S;clear S;have S:=Si a6;simp only [BZ,cI,seval];refine ac aB S ?_;clear S;intro h b9 S cA;simp only [BZ,seval];refine aC (S.store (i:=0) rfl ?_ ?_ rfl rfl ?_ ono) ?_
       . exact(by exact Tryz.t96.2.1)
       . exact(by intro x e;cases e)
       . exact lbt rfl
       clear S;rintro h ⟨S,mo⟩;clear mo;simp only [LC,ae,lay,Xy,Xz,seval]at S;have cn:=S.old l4 (fun h=>h);have eb:=S.old l5 (fun h=>h);simp only [BZ,seval];refine ar (aA rfl) (q:=0) (ps:=[(7,16),(7,14),(7,12)]) (by kernel_rfl) ?_;simp only [BZ,cls,r0,r1,cn,S.lds (b:=b9) (o:=0) (n:=3) m0 (lbt rfl),seval];have k9:=(S.row (b:=b9) m0).lt S.ok;refine bC (AX (a:=x) S.ok) ?_;intro cp Z;have z4:=bD a6 l4;have nA:=S.gr.n;have p1:=ao Z (show R<_ by omega);have p2:=ao Z k9;have p3:=ao Z (show Y<_ from Xd (iF a6 (show hA.get Y=some (.map a4 a5)from(SA.own _ m2).2)) nA);replace S:=S.call Z;have bE:=S.old l5 (fun h=>h);have bL:cp.get Y=some (.map a4 a5):=S.gr.at (show hA.get Y=some (.map a4 a5)from(SA.own _ m2).2);obtain⟨ed,cr,a7⟩:=bt.ml;have bP:=lK (x:=(v:Int)) Tryz.t272.1 Tryz.t3.1 (z:=.int .i64 0) (by kernel_rfl) bL cr;rw [a7 v,R3.2.1,XG,Xg]at bP;have ee:=R3.2.2.1;have cN:=Xh bR (Xj (I3.sv i).len n2);have ei:=jv;have bT:aq .i64 ((m5:Int)+(x.w:Int))=((m5+x.w:Nat):Int):=(by rw [wrap64]<;>omega);simp only [BZ,cls,r1,r4,bE,bP,bT,S.ld (b:=b9) (o:=2) m0 rfl,seval];have ej:=f3.n;have ek:=gq.n;have a8: ∀c∈boB br (ptrTo g) s t vPi X4 F4 U (evB τ ⟨1,i,e,0⟩),hq.n<=c/\(c∈BB\/h0.n<=c):=fun c d=>by
        rcases ai c d with C|C
        . rw [Q]at C;have h2:=(sub3 c C).1;exact⟨h2.elim (ay c) (fun h=>by omega),h2⟩
        . exact⟨by omega,.inr (by omega)⟩
       have ad:=gA.trans S.gr;have n9:=T.fr.n;have em:=ad.n;have bX: ∀c∈boB br (ptrTo g) s t vPi X4 F4 U (evB τ ⟨1,i,e,0⟩),¬au vL c:=fun c d hb=>by
        rcases ai c d with C|C
        . rw [Q]at C;exact(sub3 c C).2 hb
        . have:=V.blt O hb;omega
       have cs:=bx.trans ad;have cv:ftB i x<γ.nodes:=(by unfold ftB;split<;>assumption);have rc:=tB S.ok (AA.gr S.gr) (sP.gr cs) lP (fun c d f=>by have C:=sP.blt gq.ok0 d;have h2:=(a8 c f).1;omega) n2 (evB_I I3) (i:=i) (v:=ftB i x) (lab:=m5+x.w) (p:=e::(τ.sd i).P v) cv (by omega);rw [ck]at rc;refine cu rc ?_;rintro r hC ⟨fC,X5,F5,A5,e5,bY⟩;simp only [BZ,r57,w,seval];refine⟨by simp only [aO,aU,aK,aX,aN,ne_eq,not_false_eq_true,bj,bG,aW,aS,bI,ce,aF,Xa,r0,r1,r4,r55,r56,r57,ah,note_look,av p1,aw p1,av p2,aw p2,av p3,aw p3,seval],?_⟩;have es:eY γ.arcs (fun _=>true) (fun v=>pis.getD v 0) i v τ e=cy (fun v=>pis.getD v 0) i (evB τ ⟨1,i,e,0⟩) (ftB i x) (m5+x.w) (e::(τ.sd i).P v):=(by have:nK τ i v=m5:=(by unfold nK;rw [R3.2.1];rfl);unfold eY;rw [if_pos rfl,bB,this]);have ef:(L.take (j+1)).foldl (eY γ.arcs (fun _=>true) (fun v=>pis.getD v 0) i v) (cG σ i v)=eY γ.arcs (fun _=>true) (fun v=>pis.getD v 0) i v τ e:=(by rw [bn,List.foldl_append,bq];rfl);obtain⟨I6,K6⟩:=wZ n2 (fun a ha=>D.arcs a ha) I3 R3 N af;refine ih (j+1) _ _ (by omega) ⟨by omega,X5,F5,U,by rw [ef,es];exact A5,by rw [ef];exact I6,by rw [ef];exact R3.ke K6,fun q=>⟨(e5 q).1.trans ((e4 q).1.trans (e3 q).1),(e5 q).2.1.trans ((e4 q).2.1.trans (e3 q).2.1),(e5 q).2.2.trans ((e4 q).2.2.trans (e3 q).2.2)⟩,?_,?_,?_,by simp [aG,r0,ah,r1,r4,r55,r56]⟩
       . exact(f9.trans (ad.fr (M:=NoM)) (fun _ h=>h.elim)).trans fC (fun c d=>(a8 c d).2)
       . intro c d;rw [ef,es]at d;rcases bY c d with C|C
         . exact⟨(a8 c C).2,bX c C⟩
         . refine⟨.inr (by omega),fun hb=>?_⟩;have:=V.blt O hb;omega
       . exact((V.mo T.fr (fun c d f=>(sub3 c f).2 d)).gr ad).mo fC (fun c d f=>bX c f d)
     . have:j=L.length:=(by omega);subst this;rw [List.take_length]at A3 sub3;simp only [BZ,r56,r57,aI,hlt,seval];exact⟨f3,K,F3,E,A3,e3,fun c d=>(sub3 c d).1⟩
   . exact⟨XF _,X2,F2,B,A6,I5,R5,e2,f6,fun c d=>⟨by rw [<-ak];exact bm c d,fun hb=>by have C:=nL c hb;have h2:=cb c d;omega⟩,V,by simp [aG,cZ,ah]⟩
section
variable{A:List Arc}{N r:Nat}{al:Nat->Bool}{pi:Nat->Int}{i:Bool}{x:Sd}
theorem SvB.ids(h:SvB A N r al pi i x): ∀(n:Nat) {v:Nat},(x.P v).length<=n->(x.L v).isSome=true-> ∀e∈x.P v,e<A.length:=by
 intro n
 induction n with
 | zero=>
   intro v c _ e b;rw [List.length_eq_zero_iff.1 (Nat.le_zero.1 c)]at b;cases b
 | succ n f=>
   intro v c d e b;obtain⟨l,d⟩:=Option.isSome_iff_exists.1 d;rcases h.path v l d with⟨_,g,_⟩|⟨a,m,j,_,_,_,k,o,_⟩
   . rw [g]at b;cases b
   . rw [k]at c b;rcases List.mem_cons.1 b with rfl|b
     . exact j
     . exact f (by rw [List.length_cons]at c;omega) (by rw [o];rfl) e b
end
end Go.Ab

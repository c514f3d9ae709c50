/- Nets, cells, flags: what the functions do (part 6). -/
import Derived.Test.YtddjlflghenhkaaGreatDoorKbtE
open Go.Ab.Tryz
open Go.Ab.Tryz renaming abEnv->zM,e3E->Xz,e2E->XO
open Bool renaming and_true->zO
open List renaming take_succ_cons->Xa,drop->Xb,take->Xc,getD_eq_getElem?_getD->Xd,take_zero->Xe,drop_zero->Xf,all_cons->Xh,getElem?_eq_getElem->Xi,all_nil->Xj,not_mem_nil->Xm,filterMap_nil->Xn,getElem_mem->Xo,map_cons->Xr,range->Xt,map_nil->Xu,mem_cons->Xv,mem_append_left->Xx,getElem?_cons_zero->XB,getElem?_cons_succ->XC,mem_append_right->XF,append_nil->XG,length_take->XI,map_toArray->XJ,nil_sublist->XL,nodup_cons->XM,length_singleton->XN
open Nat renaming lt_of_succ_le->Xg,zero_le->Xk,le_trans->Xl,le_refl->Xp,zero_add->Xw,mul_one->Xy,zero_mul->XA,one_mul->XD,lt_of_lt_of_le->XH
open Int renaming cast_ofNat_Int->Xq,tmod_eq_emod_of_nonneg->Xs,natCast_emod->XK
open Option renaming getD_some->XE
set_option maxHeartbeats 4000000
set_option linter.defProp false
set_option linter.unusedVariables false
set_option linter.unusedSimpArgs false
namespace Go.Ab
variable{N b b2 b5 b6 d m s t v w x:Nat}
variable{f i j k p pn z:Value}
variable{act l pis:List Int}
variable{h h0:Hp}
variable{A:List Arc}
variable{al:Nat->Bool}
variable{pi:Nat->Int}
variable{γ:Gra}
variable{a c:Int}
variable{τ:Bi}
variable{g:FuncId}
variable{Q R:Nat->List Int}
open Go.Proofs
set_option maxRecDepth 10000
section
variable{A:List Arc}{N r:Nat}{al:Nat->Bool}{pi:Nat->Int}{i:Bool}{x:Sd}
theorem SvB.nxt(h:SvB A N r al pi i x): ∀(n:Nat) {v:Nat},(x.P v).length<=n->(x.L v).isSome=true->NxtL (nxB A i x.P) v (x.P v):=by
 intro n
 induction n with
 | zero=>intro v b _;have e:=List.length_eq_zero_iff.1 (Nat.le_zero.1 b);rw [e];exact .nil (by unfold nxB;rw [e])| succ n g=>
   intro v b c;obtain⟨l,c⟩:=Option.isSome_iff_exists.1 c;rcases h.path v l c with⟨_,f,_⟩|⟨a,m,k,_,_,_,d,j,_⟩
   . rw [f];exact .nil (by unfold nxB;rw [f])
   . have e:=g (v:=fsB i (A.getD a default)) (by rw [d,List.length_cons]at b;omega) (by rw [j];rfl);rw [d];exact .cons (by unfold nxB;rw [d]) e
theorem SvB.nxtD(h:SvB A N r al pi i x){y:Nat}(c:(x.L v).isSome=true)(b:nxB A i x.P v=some (y,w)):(x.L w).isSome=true:=by
 obtain⟨l,c⟩:=Option.isSome_iff_exists.1 c;rcases h.path v l c with⟨_,d,_⟩|⟨a,m,g,_,_,_,e,f,_⟩
 . unfold nxB at b;rw [d]at b;cases b
 . unfold nxB at b;rw [e]at b;cases b;rw [f];rfl
end
theorem bo_init{k l o:Hp}{br:Nat}{vPi:Value}{x y:Sx}{m n:List Nat}(H:OZ k)(R:Row o br (iw pn s t vPi (fun j=>if j=true then y else x) (.slice none 0 0) ⟨fun _=>gp,[],FAR,0⟩) 1)(U:br<k.n)
 (v:Mo (· =br) l o) (p:k.n<=l.n) (C: ∀q∈x.L false,Has l q.1 q.2) (I: ∀q∈y.L true,Has o q.1 q.2) (J:x.Ok gp) (K:y.Ok gp) (D:ct l m (ptrTo x.p) N (fun _=>none)) (L:ct o n (ptrTo y.p) N (fun _=>none))
 (nx: ∀c∈keys (x.L false) []++m,k.n<=c) (E: ∀c∈keys (y.L true) []++n,l.n<=c) (M:(keys (x.L false) []).Nodup) (O:(keys (y.L true) []).Nodup) (P: ∀c∈m,c∉keys (x.L false) []) (Q: ∀c∈n,c∉keys (y.L true) []):
 fK o br pn s t vPi (fun j=>if j=true then y else x) (fun j=>if j=true then n else m) (.slice none 0 0) N ⟨fun _=>gp,[],FAR,0⟩/\ ∀c∈boB br pn s t vPi (fun j=>if j=true then y else x) (fun j=>if j=true then n else m) (.slice none 0 0) ⟨fun _=>gp,[],FAR,0⟩,c=br\/k.n<=c:=by
 have r:=v.ok0;have F: ∀c∈keys (x.L false) [],c<l.n:=fun c d=>by simp only [keys,Xn,XG]at d;obtain⟨q,f,rfl⟩:=List.mem_map.1 d;exact(C q f).lt r
 have G:=D.lt r;have w: ∀c∈keys (x.L false) [],k.n<=c:=fun c d=>nx c (Xx _ d);have z: ∀c∈m,k.n<=c:=fun c d=>nx c (XF _ d);have u: ∀c∈keys (y.L true) [],l.n<=c:=fun c d=>E c (Xx _ d);have A: ∀c∈n,l.n<=c:=fun c d=>E c (XF _ d);have B:keys (boL false br pn s t vPi (fun j=>if j=true then y else x) (.slice none 0 0) ⟨fun _=>gp,[],FAR,0⟩) (boG (.slice none 0 0) ⟨fun _=>gp,[],FAR,0⟩)=br::(keys (x.L false) []++keys (y.L true) []):=by simp [keys,boL,boG,eJ]
 have own: ∀q∈boL false br pn s t vPi (fun j=>if j=true then y else x) (.slice none 0 0) ⟨fun _=>gp,[],FAR,0⟩,Has o q.1 q.2:=fun q f=>by
  rcases List.mem_cons.1 f with rfl|f
  . exact R
  . rcases List.mem_append.1 f with f|f
    . have f:q∈x.L false:=f;refine v.has (C q f) fun e=>?_;have:=w q.1 (by simp only [keys,Xn,XG];exact List.mem_map.2 ⟨q,f,rfl⟩);omega
    . exact I q f
 refine⟨⟨own,.inl ⟨rfl,rfl⟩,?_,?_,?_,?_⟩,?_⟩
 . rw [B,XM,List.nodup_append];refine⟨fun g=>?_,M,O,fun a S b T e=>?_⟩
   . rcases List.mem_append.1 g with h|h
     . have:=w _ h;omega
     . have:=u _ h;omega
   . have:=F a S;have:=u b T;omega
 . intro i;cases i
   . exact D.mo v (fun c d e=>by have:=z c d;omega)
   . exact L
 . intro i;cases i
   . exact J
   . exact K
 . intro i c d;rw [B];cases i
   . have d:c∈m:=d;have:=G c d;have:=z c d;refine⟨fun g=>?_,fun g=>?_⟩
     . rcases List.mem_cons.1 g with h|h
       . omega
       . rcases List.mem_append.1 h with h|h
         . exact P c d h
         . have:=u c h;omega
     . have:=A c g;omega
   . have d:c∈n:=d;have:=A c d;refine⟨fun g=>?_,fun g=>?_⟩
     . rcases List.mem_cons.1 g with h|h
       . omega
       . rcases List.mem_append.1 h with h|h
         . have:=F c h;omega
         . exact Q c d h
     . have g:c∈m:=g;have:=G c g;omega
 . intro c d;unfold boB at d;rw [B]at d;rcases List.mem_append.1 d with h|h
   . rcases List.mem_cons.1 h with h|h
     . exact .inl h
     . rcases List.mem_append.1 h with h|h
       . exact .inr (w c h)
       . exact .inr (Xl p (u c h))
   . rcases List.mem_append.1 h with h|h
     . exact .inr (z c h)
     . exact .inr (Xl p (A c h))
theorem st_rg(i:OZ h){l:List Value}{v:Value}{vs:List Value}(R:Row h b l 1)(G:ik h (v,1,vs))(a: ∀c,au v c->c≠b):St (fun c=>c=b\/au v c) h h [(b,.row l 1)] [(v,1,vs)]:=by
 refine⟨Mo.refl i,fun p d=>?_,fun p d=>?_,?_⟩
 . rw [List.mem_singleton.1 d];exact⟨.inr (.inl rfl),R⟩
 . rw [List.mem_singleton.1 d];refine⟨G,fun c f=>.inr (.inr ?_)⟩;rcases G with⟨e,_⟩|⟨g,n,e,_⟩
   . simp only []at e;subst e;cases f
   . simp only []at e;subst e;cases f;rfl
 . rcases G with⟨e,_⟩|⟨g,n,e,_⟩
   . simp only []at e;subst e;exact(by simp:([b]:List Nat).Nodup)
   . simp only []at e;subst e;have:=a g rfl;simp [keys,eJ];exact fun h=>this h.symm
theorem natC_flat(l:List Nat):(l.flatMap bO).all mN=true:=by
 induction l with
 |nil=>rfl|cons x l a=>rw [List.flatMap_cons,List.all_append,a];rfl
theorem BiI.keyB{a:Bool->Nat}{σ:Bi}(h:BiI A N a al pi σ)(b:N<=12)(i:Bool)(v:Nat)(k:Int)(c:(σ.sd i).K v=some k): -1000000000000000000<=k/\k<=1000000000000000000:=by
 obtain⟨_,l,d,e⟩:=(h.sv i).op v k c;obtain⟨_,f,j,_⟩:=(h.sv i).lab v l d;have m:=Nat.mul_le_mul_right bR (Xl (h.sv i).len b);have n:=jv;have o:=c9;obtain⟨p,q⟩:=f;cases i
 . have g:qB pi false v=pi v:=rfl;omega
 . have g:qB pi true v= -pi v:=rfl;omega
theorem yt  (ok:OZ h0) {B nb:Nat}  (H:Good γ) (U:aQ h0 nb (ptrTo B) γ) {vPi:Value}  (sP:aD h0 1 (encI .i64) vPi pis) (lP:pis.length=γ.nodes\/pis=[]/\vPi=.slice none 0 0) (hs:s<γ.nodes) (ht:t<γ.nodes) (a2:s≠t):
 Ret zM 50 [ptrTo B,.agg ⟨[.int .i64 (s:Nat),.int .i64 (t:Nat),.slice none 0 0,vPi]⟩] h0 fun r h'=>Gr h0 h'/\ ∃vA vE τ,r=.tuple #[.agg ⟨[.int .i64 (τ.dist:Nat),vA,vE]⟩,.int .i64 0]/\jG γ.arcs (fun _=>true) (fun v=>pis.getD v 0) (jq (fun v=>pis.getD v 0) s t) τ/\
  aD h' 4 jD vE τ.ev/\aD h' 1 bO vA (if τ.dist<FAR then lZ τ else [])/\ ∀c,au vA c\/au vE c->h0.n<=c:=by
 have S:=Si ok;have fP:=sP.fl;have V:=H.n2;have b9:=c9;have bb: ¬((s:Int)=(t:Int)):=by omega
 have hA: ∀a∈γ.arcs,a.s<γ.nodes/\a.t<γ.nodes/\a.w<=bR:=fun a ha=>H.arcs a ha;refine aa (n:=113) (rs:=[.cell 4 96,.tmp 5]) rfl Tryz.e50 rfl rfl rfl (lbt rfl) ?_;simp only [BZ,seval];refine ac (aV (by intro x e;cases e)) S ?_;clear S;intro h W S b5;simp only [ae]at S;simp only [BZ];refine ac aB S ?_;clear S;intro h Y S b6;simp only [BZ,Xf,Xa,Xe,S.lds (b:=W) (o:=0) (n:=4) m1 (lbt rfl),seval];refine ag (bright_ok S.ok (U.gr S.gr) hs ht (sP.gr S.gr) lP) ?_;intro h g;replace S:=S.call g;clear g;simp only [BZ,bb,Xf,Xa,Xe,S.ld (b:=W) (o:=0) m1 rfl,S.ld (b:=W) (o:=1) m1 rfl,S.lds (b:=W) (o:=0) (n:=4) m1 (lbt rfl),seval];refine ac (aV (by intro x e;cases e)) S ?_;clear S;intro h d S bt;simp only [ae]at S;have Rq:=S.row (b:=d) m0;have R3:=S.row (b:=W) m2;have R4:=S.row (b:=Y) m1;have k3:=R3.lt S.ok;have k4:=R4.lt S.ok;have kq:=Rq.lt S.ok;have ap:=S.apart;simp only [keys,Xr,Xu,Xn,XG,XM,Xv,Xm,or_false,not_or]at ap;have a3:W≠d:=fun e=>by omega
 have bc:Y≠d:=fun e=>by omega
 have g0:=S.gr;have bd:=S.ok;have eF:((FAR:Nat):Int)=72057594037927936:=by rw [c9];rfl
 rename Hp=>hA';have E: ∀{h:Hp},Mo (· =d) hA' h->Gr h0 h:=fun f=>(g0.fr.trans f (fun i C=>.inr (by subst C;omega)):Mo NoM h0 _).gr;have a4: ∀{h:Hp} {b:Nat} {l:List Value},Mo (· =d) hA' h->Row hA' b l 1->b≠d->Row h b l 1:=fun {h b l} f r e=>f.has (b:=b) (o:=.row l 1) r e;simp only [BZ,S.ld (b:=W) (o:=0) m2 rfl,seval];have N:Ret zM 128 [ptrTo d,.int .i64 0,.int .i64 (s:Nat),.int .i64 1,.func (.func (outF false)) #[ptrTo B] #[],.func (.func (mY false)) #[] #[]] hA' _:=z9 bd (U.gr g0) Rq rfl rfl (i:=false) (v:=s) fD fD;refine step_ret N ?_;rintro r O ⟨Z,x,F1,R1,hx,xA,xH,ox,Hx,nx,dx,ax⟩;clear N;clear S;have S:=Si Z.ok;have be:Row O W _ 1:=Z.has (b:=W) (o:=.row _ 1) R3 a3;simp only [BZ,be.load1 (o:=1) rfl,seval];have N:Ret zM 128 [ptrTo d,.int .i64 1,.int .i64 (t:Nat),.int .i64 (-1),.func (.func (outF true)) #[ptrTo B] #[],.func (.func (mY true)) #[] #[]] O _:=z9 Z.ok (U.gr (E Z)) R1 rfl rfl (i:=true) (v:=t) fD fD;refine step_ret N ?_;rintro r P ⟨f2,y,F2,R2,hy,yA,yH,oy,Hy,ny,dy,ay⟩;clear N;have bf:Row P d (iw (ptrTo B) s t vPi (fun j=>if j=true then y else x) (.slice none 0 0) ⟨fun _=>gp,[],FAR,0⟩) 1:=by unfold iw;rw [eF];exact R2
 obtain⟨A0,J⟩:=bo_init bd bf kq f2 Z.n hx hy ox oy Hx Hy nx ny dx dy ax ay;have ad: ∀j:Bool,((fun j:Bool=>if j=true then y else x) j).vA=.func (.func (outF j)) #[ptrTo B] #[]/\((fun j:Bool=>if j=true then y else x) j).vH=.func (.func (mY j)) #[] #[]:=fun j=>by
  cases j
  . exact⟨xA,xH⟩
  . exact⟨yA,yH⟩
 have K:Mo (· =d) hA' P:=Z.trans f2 (fun i C=>.inl C);clear R2 bf hx hy ox oy Hx Hy nx ny dx dy ax ay xA xH yA yH Z f2 R1 be S;generalize(fun j:Bool=>if j=true then y else x)=X0 at A0 J ad;generalize(fun j:Bool=>if j=true then F2 else F1)=F0 at A0 J;have nP: ∀{h:Hp} {X:Bool->Sx} {F:Bool->List Nat} {vE:Value} {σ:Bi},(∀c∈boB d (ptrTo B) s t vPi X F vE σ,c=d\/hA'.n<=c)-> ∀c,au vPi c->c∉boB d (ptrTo B) s t vPi X F vE σ:=fun {h X F vE σ} pB c z hm=>by have O:=sP.blt ok z;have P:=g0.n;rcases pB c hm with h|h<;>omega
 have bh:=K.ok;have S:=Si bh;rename Hp=>hB;have l5:=A0.rows.1.load1 (o:=5) rfl;have bi:=(a4 K R3 a3).load1 (o:=0) rfl;simp only [BZ];refine ar (aA rfl) (q:=0) (ps:=[]) (by kernel_rfl) ?_;simp only [BZ,cls,Xq,l5,bi,seval];have N:Ret zM 133 [ptrTo d,ptrTo (X0 false).b,.int .i64 (s:Nat),.int .i64 (-1),.int .i64 0] hB _:=tB bh A0 (sP.gr (E K)) lP (nP (h:=hB) J) V (yT (A:=γ.arcs) (al:=fun _=>true) (s:=s) (t:=t)) (i:=false) (v:=s) (lab:=0) (p:=[]) hs (Xk _);refine cu N ?_;rintro r hC ⟨f4,X1,F1,A1,e1,a0⟩;clear N;simp only [BZ,seval];have af: ∀c∈boB d (ptrTo B) s t vPi X1 F1 (.slice none 0 0) _,c=d\/hA'.n<=c:=fun c z=>(a0 c z).elim (fun h=>J c h) (fun h=>.inr (Xl K.n h));have G:Mo (· =d) hA' hC:=K.trans f4 J;have I1:=(yT (A:=γ.arcs) (al:=fun _=>true) (pi:=fun v=>pis.getD v 0) (s:=s) (t:=t)).reach (b:=false) (v:=s) (p:=[]) (lab:=0) V hs (Xk _) (Xk _) (.inl ⟨rfl,rfl,rfl⟩);clear S;have S:=Si G.ok;have l6:=A1.rows.1.load1 (o:=6) rfl;have bk:=(a4 G R3 a3).load1 (o:=1) rfl;refine ar (aA rfl) (q:=0) (ps:=[]) (by kernel_rfl) ?_;simp only [BZ,cls,Xq,l6,bk,seval];have N:Ret zM 133 [ptrTo d,ptrTo (X1 true).b,.int .i64 (t:Nat),.int .i64 (-1),.int .i64 0] hC _:=tB G.ok A1 (sP.gr (E G)) lP (nP (h:=hC) af) V I1 (i:=true) (v:=t) (lab:=0) (p:=[]) ht (Xk _);refine cu N ?_;rintro r hD ⟨f5,X2,F2,A2,e2,Q⟩;clear N;simp only [BZ,seval];have eI:cy (fun v=>pis.getD v 0) true (cy (fun v=>pis.getD v 0) false ⟨fun _=>gp,[],FAR,0⟩ s 0 []) t 0 []=jq (fun v=>pis.getD v 0) s t:=rfl;rw [eI]at A2 Q;have bl: ∀c∈boB d (ptrTo B) s t vPi X2 F2 (.slice none 0 0) (jq (fun v=>pis.getD v 0) s t),c=d\/hA'.n<=c:=fun c z=>(Q c z).elim (fun h=>af c h) (fun h=>.inr (Xl G.n h));have a5:Mo (· =d) hA' hD:=G.trans f5 af;have I2:=qS (A:=γ.arcs) (al:=fun _=>true) (pi:=fun v=>pis.getD v 0) V hs ht;have bm: ∀j,(X2 j).vA=.func (.func (outF j)) #[ptrTo B] #[]/\(X2 j).vH=.func (.func (mY j)) #[] #[]:=fun j=>⟨(e2 j).2.1.trans ((e1 j).2.1.trans (ad j).1),(e2 j).2.2.trans ((e1 j).2.2.trans (ad j).2)⟩;have O2:=fun j=>zn (pi:=fun v=>pis.getD v 0) (s:=s) (t:=t) j;refine step_ret (Cc a5.ok A2 (I2.keyB V) (I2.distLe V)) ?_;rintro r hE ⟨gE,nx⟩;simp only [BZ,seval];have A3:=A2.gr gE;have bn:Mo (· =d) hA' hE:=a5.trans (gE.fr (M:=NoM)) (fun _ h=>h.elim);refine bA (fun(σ:Bi) ρ h=> ∃X F vE,Mo (· =d) hA' h/\fK h d (ptrTo B) s t vPi X F vE γ.nodes σ/\(∀c∈boB d (ptrTo B) s t vPi X F vE σ,c=d\/hA'.n<=c)/\(∀j,(X j).vA=.func (.func (outF j)) #[ptrTo B] #[]/\(X j).vH=.func (.func (mY j)) #[] #[])/\BiI γ.arcs γ.nodes (rtB s t) (fun _=>true) (fun v=>pis.getD v 0) σ/\σ.ev.length<=200*((σ.sd false).O.length+(σ.sd true).O.length)/\
  (∀τ,jG γ.arcs (fun _=>true) (fun v=>pis.getD v 0) σ τ->jG γ.arcs (fun _=>true) (fun v=>pis.getD v 0) (jq (fun v=>pis.getD v 0) s t) τ)/\((StopB σ/\ρ 7=.pointer none)\/ ∃i,TurnB σ i/\ρ 7=ptrTo (X i).b)/\ρ 0=ptrTo B/\ρ 4=ptrTo Y/\ρ 6=ptrTo d) (fun σ=>2*γ.nodes-((σ.sd false).O.length+(σ.sd true).O.length)) ?_ (jq (fun v=>pis.getD v 0) s t) _ _ ?_
 . clear A2 A3 A1 A0 I2 I1 O2 J af bl K G a5 bn nx e1 e2 ad bm a0 Q eI gE f4 f5 S l5 bi l6 bk;intro σ ih ρ h ⟨X,F,vE,fh,A,pB,eV,I,hev,hEnd,nx,r0,r4,r6⟩;have o1:=(I.sv false).len;have o2:=(I.sv true).len;rcases nx with⟨a2,r7⟩|⟨i,tu,r7⟩
   . have gh:=E fh;have L:=fh.ok;have S0:=A.st L false;have l7:=A.rows.1.load1 (o:=7) rfl;have l5:=A.rows.1.load1 (o:=5) rfl;have a6:=a4 fh R4 bc;have ca:=a6.lt L;have nE: ∀c,au vE c->h0.n<=c/\c≠d/\c≠Y/\c<h.n:=fun c z=>by
      have O:=pB c (Xx _ (fJ (p:=(vE,4,σ.ev.flatMap jD)) m0 (mH A.ev z)));have P:c≠d:=fun e=>(S0.gblk m0 z).2 (by rw [e];exact m0);have h3:=A.ev.lt L (mH A.ev z);have:=g0.n;rcases O with h|h
      . exact absurd h P
      . exact⟨by omega,P,by omega,h3⟩
     have sE:aD h 4 jD vE σ.ev:=A.ev.sl rfl uk (by decide);have fE:=sE.fl;by_cases hd:σ.dist<FAR
     . have a7:(σ.dist:Int)<72057594037927936:=(by omega);obtain⟨x,y,q1,q2,_⟩:=(I.dm.resolve_left (fun h=>by omega)) false;have q2:(σ.sd true).L σ.meet=some y:=q2;have ai:=I.sv false;have ak:=I.sv true;have b7:=(ai.lab _ _ q1).2.2.2.1;have b8:=(ak.lab _ _ q2).2.2.2.1;have nd:=(List.nodup_cons.1 (show(d::_).Nodup from A.nd)).1;have bu:(X true).b≠d:=fun e=>nd (by rw [<-e];simp [Sx.L]);have bv:(X true).ma≠d:=fun e=>nd (by rw [<-e];simp [Sx.L]);clear S0;simp only [BZ,Xq,r6,r7,l7,a7,l5,seval];refine step_ret (back_ok L (U.gr gh) H (A.bk false) (eV false).2 (D:=fun v=>((σ.sd false).L v).isSome=true) (fun v hv=>⟨hv,ai.ids _ (Xp _) hv⟩) (fun v y w hv U=>ai.nxtD hv U) (by rw [q1];rfl) (ai.nxt _ (Xp _) (by rw [q1];rfl)) (by omega)) ?_;rintro v1 O ⟨g1,G1,n1⟩;have bx:Fl v1:=G1.fl;have a8: ∀c,au v1 c->c≠d:=fun c z e=>(by have:=n1 c z;have:=A.rows.1.lt L;omega);have S:=st_rg g1.ok (A.rows.1.gr g1) G1 a8;simp only [iw]at S;simp only [BZ,seval];refine aC (aE S (i:=0) rfl Tryz.t41.2.2.1 bx (Xg (lbt rfl)) ono) ?_;clear S;rintro P ⟨S,bB⟩;simp only [LC]at S;simp only [BZ,r6,S.ld (b:=d) (o:=8) m0 rfl,seval];refine step_ret (wJ S.ok (S.gown _ m0).1 (by omega)) ?_;rintro r h3 ⟨f3,G3⟩;have an:Row h3 d _ 1:=f3.has (b:=d) (o:=.row _ 1) (S.row m0) (fun z=>a8 _ z rfl);have S3:=st_rg f3.ok an G3 a8;clear S;have S:=S3;clear S3;have fT:Mo (· =d) h h3:=((g1.fr (M:=(· =d))).trans bB (fun i C=>.inl C)).trans f3 (fun i C=>.inr (n1 i C));have bE:Mo (· =d) hA' h3:=fh.trans fT (fun i C=>.inl C);have B1:BkAt h3 d (ptrTo B) σ.meet true (X true) (σ.sd true):=⟨an.load1 (o:=0) rfl,an.load1 (o:=10) rfl,fT.has (b:=(X true).b) (o:=.row _ 1) (A.rows.2 true) bu,fT.has (b:=(X true).ma) (o:=.map _ _) (A.bk true).map bv,A.ok true⟩;have bL:=an.lt f3.ok;simp only [BZ];refine ar (aA rfl) (q:=0) (ps:=[(5,12)]) (by kernel_rfl) ?_;simp only [BZ,cls,Xq,r6,S.ld (b:=d) (o:=8) m0 rfl,S.ld (b:=d) (o:=6) m0 rfl,seval];refine cu (back_ok f3.ok (U.gr (E bE)) H B1 (eV true).2 (D:=fun v=>((σ.sd true).L v).isSome=true) (fun v hv=>⟨hv,ak.ids _ (Xp _) hv⟩) (fun v y w hv U=>ak.nxtD hv U) (by rw [q2];rfl) (ak.nxt _ (Xp _) (by rw [q2];rfl)) (by omega)) ?_;rintro v2 h4 ⟨g4,G2,cb⟩;have bo:=ao g4 bL;replace S:=S.call g4;have s2:aD h4 1 bO v2 ((σ.sd true).P σ.meet):=G2.sl rfl dw (by decide);simp only [BZ,cls,seval];refine mw (S.grow (j:=0) (m:=((σ.sd true).P σ.meet).length) (new:=((σ.sd true).P σ.meet).flatMap bO) rfl Tryz.t41.1 Xz (by decide) Tryz.t41.2.2.2.2.2 s2.src (by rw [pz];omega) (by decide) (natC_flat _) (by rw [pz,pz,List.length_reverse];omega)) ?_;clear S;rintro h5 vA S;simp only [LC]at S;have bq:Fl vA:=(S.gown _ m0).1.fl;simp only [BZ,cls,seval];refine cP (aE S (i:=0) rfl Tryz.t41.2.2.1 bq (Xg (lbt rfl)) ono) ?_;clear S;rintro h6 ⟨S,cc⟩;simp only [LC]at S;simp only [BZ,r6,seval];refine⟨by simp only [aO,aU,aK,aX,aN,ne_eq,not_false_eq_true,bj,bG,aW,aS,bI,ce,aF,zO,r0,r4,r6,r7,ah,hU,av bo,aw bo,seval],?_⟩;have br:=S.ok;have bP:Mo (fun c=>c=d\/au v1 c) h3 h6:=S.fr;have ba:Mo (· =d) h h6:=fT.trans bP (fun i C=>C.elim .inl (fun h=>.inr (n1 i h)));have bT:Row h6 Y _ 1:=ba.has (b:=Y) (o:=.row _ 1) a6 bc;have R:=S.lds (b:=d) (o:=7) (n:=3) m0 (lbt rfl);simp only [Xb,Xc]at R;have sA:aD h6 1 bO vA (lZ σ):=(S.gown _ m0).1.sl (by unfold lZ;rw [List.flatMap_append]) dw (by decide);have nA: ∀c,au vA c->h0.n<=c/\c≠Y:=fun c z=>by
        obtain⟨O,P⟩:=S.gblk m0 z;have:=gh.n;have:=fT.n;rcases O with h|h|h
        . exact⟨by omega,by omega⟩
        . exact absurd (by rw [h];exact m0) P
        . have:=n1 c h;exact⟨by omega,by omega⟩
       have bX:=sE.mo ba (fun c z e=>(nE c z).2.1 e);have g6:Gr h0 h6:=E (fh.trans ba (fun i C=>.inl C));clear S;have S:=St.init1 br (o:=.row _ 1) bT;simp only [BZ,r4,R,seval];refine aC (S.store (i:=0) rfl Tryz.t96.2.1 (by intro x e;cases e) rfl (by simp only [ae,Xh,Xj,bq.2.1,fE.2.1,zO];rfl) (lbt rfl) ono) ?_;clear S;rintro h7 ⟨S,aL⟩;simp only [LC,ae,lay,Xc,Xb,seval]at S;simp only [BZ,ab];refine(aZ (by decide) (by simp only [aF,r4,ah,seval];exact bz Tryz.t96.1 Tryz.t96.2.1 (S.lds (b:=Y) (o:=0) (n:=3) m0 (lbt rfl)))).2 ?_;refine(dK (by decide)).2 (bQ.2 ?_);have gZ:Gr h0 h7:=(g6.fr.trans S.fr (fun i C=>.inr (by subst C;omega)):Mo NoM h0 h7).gr;exact⟨gZ,vA,vE,σ,rfl,hEnd σ (.stop a2),bX.mo aL (fun c z e=>(nE c z).2.2.1 e),by rw [if_pos hd];exact sA.mo aL (fun c z e=>(nA c z).2 e),fun c z=>z.elim (fun h=>(nA c h).1) (fun h=>(nE c h).1)⟩
     . have a7: ¬(σ.dist:Int)<72057594037927936:=(by omega);have R:=A.rows.1.load (o:=7) (n:=3) (lbt rfl);simp only [iw,Xb,Xc]at R;have g6:=gh;have fN:Fl (.slice none 0 0):=bg;have S:=St.init1 L (o:=.row _ 1) a6;simp only [BZ,r6,r7,l7,a7,seval];simp only [BZ,r4,R,seval];refine aC (S.store (i:=0) rfl Tryz.t96.2.1 (by intro x e;cases e) rfl (by simp only [ae,Xh,Xj,fN.2.1,fE.2.1,zO];rfl) (lbt rfl) ono) ?_;clear S;rintro h7 ⟨S,aL⟩;simp only [LC,ae,lay,Xc,Xb,seval]at S;simp only [BZ,ab];refine(aZ (by decide) (by simp only [aF,r4,ah,seval];exact bz Tryz.t96.1 Tryz.t96.2.1 (S.lds (b:=Y) (o:=0) (n:=3) m0 (lbt rfl)))).2 ?_;refine(dK (by decide)).2 (bQ.2 ?_);have gZ:Gr h0 h7:=(g6.fr.trans S.fr (fun i C=>.inr (by subst C;omega)):Mo NoM h0 h7).gr;exact⟨gZ,_,vE,σ,rfl,hEnd σ (.stop a2),sE.mo aL (fun c z e=>(nE c z).2.2.1 e),by rw [if_neg hd];exact .inl ⟨rfl,rfl⟩,fun c z=>z.elim (fun h=>h.elim) (fun h=>(nE c h).1)⟩
   . obtain⟨v,k,hp⟩: ∃v k,jN (σ.sd i).K v k:=by
      obtain⟨v,k,u,l,p1,p2,_,_⟩:=tu;cases i
      . exact⟨v,k,p1⟩
      . exact⟨u,l,p2⟩
     have gh:=E fh;have bY: ∀c∈boB d (ptrTo B) s t vPi X F vE σ,h0.n<=c:=fun c z=>(pB c z).elim (fun e=>by omega) (fun e=>Xl g0.n e);simp only [BZ,r6,r7,seval];refine step_ret (bstep_ok gh H U A bY sP lP I (by omega) hp (eV i).1 (eV i).2) ?_;rintro r O ⟨Z,X',F',b0,A',e',a1⟩;obtain⟨I',ke⟩:=uW V hA I hp.1;have b1:(jR γ.arcs (fun _=>true) (fun v=>pis.getD v 0) i v (cG σ i v)).ev.length<=σ.ev.length+200:=(by have O:=wX (A:=γ.arcs) (al:=fun _=>true) (pi:=fun v=>pis.getD v 0) (b:=i) (v:=v) (outs γ.arcs (fsB i) γ.arcs.length v) (σ:=cG σ i v);have P:(cG σ i v).ev.length=σ.ev.length+1:=(by simp [cG]);have h3:=kX γ.arcs (fsB i) γ.arcs.length v;have:=H.many;unfold jR;omega);have eO:((jR γ.arcs (fun _=>true) (fun v=>pis.getD v 0) i v (cG σ i v)).sd false).O.length+((jR γ.arcs (fun _=>true) (fun v=>pis.getD v 0) i v (cG σ i v)).sd true).O.length=(σ.sd false).O.length+(σ.sd true).O.length+1:=by
      have k1:=ke.O;have k2:=ke.ot;rw [clo_b]at k1;rw [clo_n]at k2;cases i
      . rw [k1,show((jR γ.arcs (fun _=>true) (fun v=>pis.getD v 0) false v (cG σ false v)).sd true)=σ.sd true from k2];simp only [List.length_append,XN];omega
      . rw [k1,show((jR γ.arcs (fun _=>true) (fun v=>pis.getD v 0) true v (cG σ true v)).sd false)=σ.sd false from k2];simp only [List.length_append,XN];omega
     have T: ∀τ,jG γ.arcs (fun _=>true) (fun v=>pis.getD v 0) (jR γ.arcs (fun _=>true) (fun v=>pis.getD v 0) i v (cG σ i v)) τ->jG γ.arcs (fun _=>true) (fun v=>pis.getD v 0) (jq (fun v=>pis.getD v 0) s t) τ:=fun τ h=>hEnd τ (.step tu hp h);generalize jR γ.arcs (fun _=>true) (fun v=>pis.getD v 0) i v (cG σ i v)=τ at A' a1 I' b1 eO T;have p1:=(I'.sv false).len;have p2:=(I'.sv true).len;have bs:Mo (· =d) hA' O:=fh.trans Z pB;simp only [BZ,r6,seval];refine step_ret (Cc bs.ok A' (I'.keyB V) (I'.distLe V)) ?_;rintro r P ⟨g2,b2⟩;simp only [BZ,seval];refine ih τ _ _ (by omega) ⟨X',F',b0,bs.trans (g2.fr (M:=NoM)) (fun _ h=>h.elim),A'.gr g2,fun c z=>(a1 c z).elim (pB c) (fun h=>.inr (Xl fh.n h)),fun j=>⟨(e' j).2.1.trans (eV j).1,(e' j).2.2.trans (eV j).2⟩,I',by omega,T,?_,by simp [aG,r0,ah,r4,r6]⟩;rcases b2 with⟨a,rfl⟩|⟨j,a,rfl⟩
     . exact .inl ⟨a,by simp [aG]⟩
     . exact .inr ⟨j,a,by simp [aG,ah]⟩
 . refine⟨X2,F2,_,bn,A3,bl,bm,I2,by rw [initB_ev];exact Xk _,fun τ h=>h,?_,by simp [aG,cZ,ah]⟩;rcases nx with⟨a,rfl⟩|⟨j,a,rfl⟩
   . exact .inl ⟨a,by simp [aG]⟩
   . exact .inr ⟨j,a,by simp [aG,ah]⟩
def pR(a b:Int):Int:=if wy a<72057594037927936 then(if wy b<72057594037927936 then wy a-wy b else 72057594037927936)else 72057594037927936
theorem twinD_nn{b:Int}(c:0<=a)(d:0<=b):pR a b=if a<(FAR:Int)/\b<(FAR:Int)then a-b else(FAR:Int):=by grind[c9,pR,wy]
section
variable{γ:Gra}{l:List Int}
theorem Df(c: ∀{s:Nat},s<γ.nodes-> ∀v,IsD (seen γ.arcs Arc.t Arc.s) s v (dOf (seen γ.arcs Arc.t Arc.s) s v))(e: ∀{s:Nat},s<γ.nodes-> ∀v,IsD (seen γ.arcs Arc.s Arc.t) s v (dOf (seen γ.arcs Arc.s Arc.t) s v))(n:fm γ.nodes l)
 {u:Nat} (h:v<γ.nodes) (j:u<γ.nodes) (k:w<γ.nodes) (m:IsD (seen γ.arcs Arc.s Arc.t) v u d) (f:d<FAR) (i:Int):fg γ.nodes l.length (toR γ l) (frR γ l) i w u<=d+fg γ.nodes l.length (toR γ l) (frR γ l) i w v:=by
 unfold fg;by_cases a:0<=i/\i<(l.length:Int)
 . rw [if_pos ⟨by omega,by omega,a⟩,if_pos ⟨by omega,by omega,a⟩];obtain⟨i,rfl⟩:=Int.eq_ofNat_of_zero_le a.1;have a:i<l.length:=(by omega);have p:=n.2 i a;obtain⟨s,o⟩: ∃s:Nat,l.getD i 0=s:=⟨(l.getD i 0).toNat,by omega⟩;have b:s<γ.nodes:=(by omega);rw [qR a h,qR a k,qR a j,qT a h,qT a k,qT a j,o,Int.toNat_natCast];have q:=c9;have r:=(c b v).le;have t:=(c b w).le;have x:=(e b v).le;have y:=(e b w).le;have z:=(c b u).le;have A:=(e b u).le;have t1:=fun g=>tri_to (Ag γ.arcs) m (c b v) (c b u) f g;have t2:=fun g=>tri_fr m (e b v) (e b u) f g;rw [mE (by omega) (by omega),mE (by omega) (by omega),mE (by omega) (by omega),mE (by omega) (by omega)];grind
 omega
theorem xP(b: ∀{s:Nat},s<γ.nodes-> ∀v,IsD (seen γ.arcs Arc.t Arc.s) s v (dOf (seen γ.arcs Arc.t Arc.s) s v))(c: ∀{s:Nat},s<γ.nodes-> ∀v,IsD (seen γ.arcs Arc.s Arc.t) s v (dOf (seen γ.arcs Arc.s Arc.t) s v))(e:fm γ.nodes l)
 {u:Nat} (g:v<γ.nodes) (j:u<γ.nodes) (k:w<γ.nodes) (m:IsD (seen γ.arcs Arc.s Arc.t) v u d) (a:d<FAR) (act:List Int):cE γ.nodes l.length (toR γ l) (frR γ l) w u act<=d+cE γ.nodes l.length (toR γ l) (frR γ l) w v act:=by
 have h:=(iN (f:=fun i=>fg γ.nodes l.length (toR γ l) (frR γ l) i w v) act 0).1 (Int.le_refl _);refine(iN (f:=fun i=>fg γ.nodes l.length (toR γ l) (frR γ l) i w u) act 0).2 ⟨?_,fun i n=>?_⟩
 . have:=h.1;unfold cE;omega
 . have o:=Df b c e g j k m a i;grind[cE]
noncomputable def twP(γ:Gra)(l act:List Int)(s w:Nat)(v:Nat):Int:=pR (cE γ.nodes l.length (toR γ l) (frR γ l) v w act) (cE γ.nodes l.length (toR γ l) (frR γ l) s v act)
theorem yL:twP γ l act s w v=if cE γ.nodes l.length (toR γ l) (frR γ l) v w act<(FAR:Int)/\cE γ.nodes l.length (toR γ l) (frR γ l) s v act<(FAR:Int)then cE γ.nodes l.length (toR γ l) (frR γ l) v w act-cE γ.nodes l.length (toR γ l) (frR γ l) s v act else(FAR:Int):=twinD_nn gm gm
theorem twP_op:OpB (twP γ l act s w) v↔cE γ.nodes l.length (toR γ l) (frR γ l) v w act<(FAR:Int)/\cE γ.nodes l.length (toR γ l) (frR γ l) s v act<(FAR:Int):=by have a:=gm (N:=γ.nodes) (n:=l.length) (R:=toR γ l) (Q:=frR γ l) (v:=(v:Int)) (w:=(w:Int)) (act:=act);have b:=gm (N:=γ.nodes) (n:=l.length) (R:=toR γ l) (Q:=frR γ l) (v:=(s:Int)) (w:=(v:Int)) (act:=act);grind[OpB,yL,absurd]
theorem AR(j: ∀{s:Nat},s<γ.nodes-> ∀v,IsD (seen γ.arcs Arc.t Arc.s) s v (dOf (seen γ.arcs Arc.t Arc.s) s v))(b: ∀{s:Nat},s<γ.nodes-> ∀v,IsD (seen γ.arcs Arc.s Arc.t) s v (dOf (seen γ.arcs Arc.s Arc.t) s v))(k:fm γ.nodes l)(c:Good γ)
  (q:s<γ.nodes) (r:w<γ.nodes) (act:List Int) (al:Nat->Bool):oO γ.arcs al (twP γ l act s w):=by
 intro i x d;obtain⟨_,m,n⟩:=d;have e:γ.arcs.getD i default∈γ.arcs:=by grind
 generalize γ.arcs.getD i default=a at e m n;obtain⟨f,o,y⟩:=c.arcs a e;have t:=twP_op.1 m;have u:=twP_op.1 n;rw [yL,yL,if_pos t,if_pos u];have g:=b f a.t;have h:Wk (seen γ.arcs Arc.s Arc.t) a.s a.t (0+a.w):=by rw [iI];exact .snoc e .nil
 have p:=g.wk h;have z:=qd j b k f o r g p.1 act;have A:=xP j b k f o q g p.1 act;omega
theorem Cd(f: ∀{s:Nat},s<γ.nodes-> ∀v,IsD (seen γ.arcs Arc.t Arc.s) s v (dOf (seen γ.arcs Arc.t Arc.s) s v))(b: ∀{s:Nat},s<γ.nodes-> ∀v,IsD (seen γ.arcs Arc.s Arc.t) s v (dOf (seen γ.arcs Arc.s Arc.t) s v))(g:fm γ.nodes l)
 {y:Nat} (c:s<γ.nodes) (h:w<γ.nodes) (d:v<γ.nodes) (act:List Int) (i:Wk γ.arcs s v x) (j:Wk γ.arcs v w y):OpB (twP γ l act s w) v:=by
 refine twP_op.2 ⟨?_,?_⟩
 . have a:=b d w;have e:=a.wk (by rw [iI];exact j);have:=qd f b g d h h a e.1 act;rw [qj]at this;omega
 . have a:=b c v;have e:=a.wk (by rw [iI];exact i);have:=xP f b g c d c a e.1 act;rw [qj]at this;omega
theorem wk_hB(b: ∀i,al i=true)(g: ∀v x y,Wk A s v x->Wk A v w y->OpB pi v)(h:Wk A s v x):(∃y,Wk A v w y)->Wk (hB A al pi false) s v x:=by
 induction h with
 |nil=>intro _;exact .nil| @snoc z a c j k=>
   rintro⟨y,d⟩;have m:Wk A a.s w (0+a.w+y):=(Wk.snoc c .nil).trans d;obtain⟨i,n,e⟩:=List.getElem_of_mem c;have f:A.getD i default=a:=(by grind);refine .snoc (mU.2 ⟨i,n,⟨b i,by grind,by rw [f];exact g _ _ _ (.snoc c j) d⟩,by rw [f];rfl⟩) (k ⟨_,m⟩)
theorem hB_sub{a:Arc}(h:a∈hB A al pi false):a∈A:=by obtain⟨i,b,_,rfl⟩:=mU.1 h;have:(⟨fsB false (A.getD i default),ftB false (A.getD i default),(A.getD i default).w⟩:Arc)=A.getD i default:=rfl;grind
theorem Ey(p: ∀{s:Nat},s<γ.nodes-> ∀v,IsD (seen γ.arcs Arc.t Arc.s) s v (dOf (seen γ.arcs Arc.t Arc.s) s v))(j: ∀{s:Nat},s<γ.nodes-> ∀v,IsD (seen γ.arcs Arc.s Arc.t) s v (dOf (seen γ.arcs Arc.s Arc.t) s v))(q:fm γ.nodes l)(c:Good γ)
  (f:s<γ.nodes) (g:w<γ.nodes)   (k: ∀i,al i=true)  (r:jG γ.arcs al (twP γ l act s w) (jq (twP γ l act s w) s w) τ):
 IsD γ.arcs s w τ.dist/\(τ.dist<FAR->iL γ.arcs s (lZ τ) w τ.dist/\(lZ τ).length<=24):=by
 have t: ∀a∈γ.arcs,a.s<γ.nodes/\a.t<γ.nodes/\a.w<=bR:=fun a m=>c.arcs a m;have z:=AR p j q c f g act al;have A: ∀v x,Wk γ.arcs v w x->v=w\/v<γ.nodes:=fun v x d=>tJ (fun a m=>(c.arcs a m).1) d;have n: ∀v x y,Wk γ.arcs s v x->Wk γ.arcs v w y->OpB (twP γ l act s w) v:=fun v x y B u=>Cd p j q f g ((A v y u).elim (fun h=>h▸g) (fun h=>h)) act B u;have o:=j f w;rw [iI]at o;have e:=BO c.n2 t z f g r o (fun x d=>d.mono (fun _=>hB_sub)) (fun x d=>⟨n s 0 x .nil d,n w x 0 d .nil,wk_hB k n d ⟨0,.nil⟩⟩);refine⟨by rw [e];exact o,fun C=>?_⟩;obtain⟨a,b⟩:=tW (xZ c.n2 t r (qS c.n2 f g)) C;exact⟨a,by have:=c.n2;omega⟩
end
theorem AC(Y:OZ h0){post:Array Value}{D W:Nat->Prop}{xs:List Int}(Z:sX zM g post.toList h0 D W (xs.map fun(x:Int)=>[.int .i64 x]))(I: ∀b,W b->b<h0.n)(hn:xs.length<100000):
 Ret zM 213 [.slice none 0 0,.func (.func g) #[] post] h0 fun r h'=>Mo W h0 h'/\ik h' (r,1,ints xs)/\ ∀c,au r c->h0.n<=c:=by
 have S:=Si Y;refine aa (n:=13) (rs:=[.tmp 4]) rfl Tryz.e213 rfl rfl rfl (lbt rfl) ?_;simp only [BZ,seval];refine ac (bK (by exact bg)) S ?_;clear S;intro h l S t;simp only [BZ,if_false,seval];replace S:=S.nilG (k:=1);have J:=S.gr;replace S:=S.monoM (M:=W);have C:=S.fr;refine ie S (g:=g) (a:=#[]) (b:=post) (by simp [bI,aG,cK,dD]) rfl rfl ?_;intro E u s p ad af K;obtain⟨X,N,p⟩: ∃X:fZ,X=_/\St W h0 E [(s,.loop X),(u,.dfr),(l,.row [.slice none 0 0] 1)] [(.slice none 0 0,1,[])]:=⟨_,rfl,p⟩;have O: ∀c,h0.n<=c-> ¬W c:=fun c h G=>by have:=I c G;omega
 have hJ:Yld zM s (fun k h' F=> ∃(e:Value),St W h0 h' [(s,.loop X),(u,.dfr),(l,.row [e] 1)] [(e,1,ints (xs.take k))]/\k<=xs.length/\(∀c∈F,h0.n<=c)/\F=keys [(s,.loop X),(u,.dfr),(l,.row [e] 1)] [(e,1,ints (xs.take k))]) (fun _ _=>False) (xs.map fun(x:Int)=>[.int .i64 x]):=by
  refine⟨?_,?_,fun _ _ h=>h.elim,?_⟩
  . rintro i h F ⟨e,S,_,_,rfl⟩;exact⟨S.ok,fun b f=>S.key_lt f⟩
  . rintro i h F h' ⟨e,S,a,b,rfl⟩ B;exact⟨e,S.call B,a,b,rfl⟩
  . rintro i x hR F v ⟨e,S,a,b,rfl⟩;have w:i<xs.length:=(by have:=(List.getElem?_eq_some_iff.1 v).1;simpa using this);rw [List.getElem?_map,Xi w]at v;cases v;have tk:ints (xs.take (i+1))=ints (xs.take i)++[.int .i64 xs[i]]:=(by rw [List.take_add_one,Xi w];exact iM _ _);have tl:(xs.take i).length<=i:=(by rw [XI];omega);subst N;refine ii (S.get m0) (by rw [Tryz.e213];rfl) rfl ?_;have P:=S;replace S:=S.base;simp only [BZ,seval];refine gu S (i:=0) rfl rfl rfl rfl rfl ?_;clear S;intro h S;simp only [LC]at S;simp only [BZ,S.ld (b:=l) (o:=0) m2 rfl,seval];refine ac (cd (by exact Tryz.t23.1) (by exact XO) (by decide) (by rfl)) S ?_;clear S;intro h Q S R;simp only [LC,bJ,bZ,ae,XA,Xw,Xy,XD,seval]at S;simp only [BZ,seval];have z:aP h 1 (.slice (some ⟨Q,0,none⟩) 1 1)=some (1,[.int .i64 xs[i]]):=(by simp only [aP];rw [S.lds (b:=Q) (o:=0) (n:=1*1) m0 (lbt rfl)];rfl);replace S:=S.drop1;refine dV (S.grow (j:=0) (m:=1) (new:=[.int .i64 xs[i]]) rfl Tryz.t23.1 XO (by decide) Tryz.t23.2.2.2.2.2 z rfl (by decide) rfl (by rw [cL];simp;omega)) ?_;clear S z;rintro h A S;simp only [LC]at S;have fv:Fl A:=(S.gown _ m0).1.fl;simp only [BZ,seval];refine aC (aE S (i:=2) rfl Tryz.t23.2.2.1 fv (Xg (lbt rfl)) ono) ?_;clear S;rintro h ⟨S,_⟩;simp only [LC]at S;simp only [BZ];refine dP S (i:=0) rfl ?_;clear S;intro h S;simp only [LC]at S;rw [<-tk]at S;have H:=P.rebase S;refine .inl ⟨rfl,_,⟨A,H,by omega,fun c d=>?_,rfl⟩,S.fr,fun c d=>(S.key_own d).symm⟩;rcases S.key_own d with U|U
    . have:=P.fr.n;omega
    . exact b c U
 have q: ∀c∈keys [(s,Ob.loop X),(u,.dfr),(l,.row [.slice none 0 0] 1)] [(.slice none 0 0,1,[])],h0.n<=c:=fun c d=>by have n2:=t;have:=C.n;simp [keys,eJ]at d;omega
 refine cH (Z s _ _ (fun _ _ h=>h) hJ ?_ E _ ?_ ?_ (fun c d=>O c (q c d)) ⟨_,p,Xk _,q,rfl⟩) fun o rc h' y=>i6 y ?_
 . rintro i h F h' ⟨e,S,a,b,rfl⟩ B;exact⟨e,S.step B (fun c d=>.inl d) (fun c d G=>O c (b c d) G),a,b,rfl⟩
 . have B:Mo W h0 E:=p.fr;exact⟨p.ok,p.fr.n,fun b f _=>(J.trans K).get b f,fun b f h=>by have:=q b f;omega,fun b f=>p.key_lt f⟩
 . exact fun b f=>(J.trans K).get b (I b f)
 . rintro F ⟨e,T,a,b,rfl⟩;rw [List.length_map,List.take_length]at T b;subst N;refine⟨_,T.get m0,Nat.zero_ne_one,?_⟩;replace T:=T.dead;have S:=T;show Run _ _ _ _ _ _ _ _;simp only [BZ,S.ld (b:=l) (o:=0) m1 rfl,seval];refine cS (gG [u] _ (L:=[(l,_)]) T.base fun h3 V=>⟨rfl,_,rfl,?_⟩);refine⟨(T.fr.trans V.fr (fun c d=>(T.key_own d).symm):Mo W h0 h3),(V.gown _ m0).1,fun x v=>?_⟩;refine b x ?_;have:eJ (e,1,ints xs)=some x:=mH (T.gown _ m0).1 v;exact fJ m0 this
theorem CR(a:OZ h0){post:Array Value}{D W:Nat->Prop}{xs:List Int}(d:sX zM g post.toList h0 D W (xs.map fun(x:Int)=>[.int .i64 x]))(e: ∀b,W b->b<h0.n)(i:xs.length<100000):
 Ret zM 138 [.func (.func g) #[] post] h0 fun r h'=>Mo W h0 h'/\ik h' (r,1,ints xs)/\ ∀c,au r c->h0.n<=c:=by
 have S:=Si a;refine aa (n:=5) (rs:=[.tmp 2]) rfl Tryz.e138 rfl rfl rfl (lbt rfl) ?_;simp only [BZ,seval];refine step_ret (AC S.ok d e i) ?_;rintro r h ⟨f,q⟩;simp only [BZ,ab,seval];exact⟨f,q⟩
theorem CV(c:OZ h0){v t:Int}:aT zM 140 [.int .i64 v,.int .i64 t] h0 (.int .i64 (pR v t)):=by
 have S:=Si c;have d:=tK v;have e:=tK t;have w:aq .i64 (wy v-wy t)=wy v-wy t:=by rw [wrap64]<;>omega
 refine aa (n:=18) (rs:=[.tmp 4]) rfl Tryz.e140 rfl rfl rfl (lbt rfl) ?_;simp only [BZ,seval];refine ag (og S.ok) ?_;intro h g;replace S:=S.call g;clear g;unfold pR;by_cases a:wy v<72057594037927936
 . simp only [BZ,a,seval];refine ag (og S.ok) ?_;intro h g;replace S:=S.call g;clear g;by_cases b:wy t<72057594037927936
   . simp only [BZ,b,seval];refine ag (mX S.ok) ?_;intro h g;replace S:=S.call g;clear g;simp only [BZ,seval];refine ag (mX S.ok) ?_;intro h g;replace S:=S.call g;clear g;simp only [BZ,ab,w,seval];exact S.gr
   . simp only [BZ,ab,b,seval];exact S.gr
 . simp only [BZ,ab,a,seval];exact S.gr
theorem twin1_ok{hq:Hp}(a:OZ hq)(t:TabAt hq m p N l R Q)(u: ∀i,i<l.length->(R i).length=N)(x: ∀i,i<l.length->(Q i).length=N)(y:l.length<1000)(g:aD hq 1 (encI .i64) z act)(d:act.length<1000){s w:Int}{b4 j:Nat}(J:hq.load b4 0 1=some [p])(K:hq.load b5 0 1=some [z])(L:hq.load b6 0 1=some [.int .i64 s])(M:hq.load j 0 1=some [.int .i64 w]):
 TellF zM hq 139 [ptrTo b4,ptrTo b5,ptrTo j,ptrTo b6] N (fun v=>pR (cE N l.length R Q v w act) (cE N l.length R Q s v act)):=by
 intro h e k v W;have X:Fl p:=by obtain⟨b,_,_,_,rfl,_⟩:=t.ex;exact bF
 have Y:=g.fl;have S:=Si e;have o:=k.load a J;have r:=k.load a K;have A:=k.load a L;have B:=k.load a M;have O:=bD e o;have P:=bD e r;have T:=bD e A;have U:=bD e B;refine aa (n:=18) (rs:=[.tmp 6]) rfl Tryz.e139 rfl rfl rfl (lbt rfl) ?_;simp only [BZ];refine ar (aA rfl) (q:=0) (ps:=[(4,7),(4,6),(4,5)]) (by kernel_rfl) ?_;simp only [BZ,cls,o,r,B,seval];refine bC (xd S.ok (t.keep a k) u x y (g.keep a k) d) ?_;intro Z c;have C:=ao c O;have e5:=ao c P;have D:=ao c T;have E:=ao c U;replace S:=S.call c;have n1:=c.n;simp only [BZ,cls,c.load o,c.load r,c.load A,seval];refine bC (xd S.ok ((t.keep a k).gr c) u x y ((g.keep a k).gr c) d) ?_;intro h2 f;have F:=ao f (show b4<_ by omega);have G:=ao f (show b5<_ by omega);have H:=ao f (show b6<_ by omega);have I:=ao f (show j<_ by omega);replace S:=S.call f;simp only [BZ,cls,seval];refine bC (CV S.ok) ?_;intro h3 V;replace S:=S.call V;simp only [BZ,cls,ab,seval];refine⟨by simp only [aO,aU,aK,aX,aN,ne_eq,not_false_eq_true,bj,bG,aW,aS,bI,ce,aF,zO,ah,cK,dD,av C,aw C,av e5,aw e5,av D,aw D,av E,aw E,av F,aw F,av G,aw G,av H,aw H,av I,aw I,seval],?_⟩;exact S.gr
theorem bTwin_ok(I:OZ h0)(t:TabAt h0 m p N l R Q)(J: ∀i,i<l.length->(R i).length=N)(K: ∀i,i<l.length->(Q i).length=N)(L:l.length<1000)(M:N<=1000)(A:aD h0 1 (encI .i64) z act)(k:act.length<1000)(hs:s<N)(hw:w<N):
 Ret zM 51 [p,z,.int .i64 (s:Nat),.int .i64 (w:Nat)] h0 fun r h'=>Gr h0 h'/\aD h' 1 (encI .i64) r ((Xt N).map fun(v:Nat)=>pR (cE N l.length R Q v w act) (cE N l.length R Q s v act))/\ ∀c,au r c->h0.n<=c:=by
 have O:Fl p:=by obtain⟨b,_,_,_,rfl,_⟩:=t.ex;exact bF
 have fa:=A.fl;have S:=Si I;have P:0<=(w:Int)/\(w:Int)<(N:Int):=by omega
 have T:0<=(s:Int)/\(s:Int)<(N:Int):=by omega
 have U:decide (0<=(w:Int)/\(w:Int)<(N:Int))=true:=decide_eq_true P;have V:decide (0<=(s:Int)/\(s:Int)<(N:Int))=true:=decide_eq_true T;refine aa (n:=23) (rs:=[.tmp 8]) rfl Tryz.e51 rfl rfl rfl (lbt rfl) ?_;simp only [BZ,seval];refine ac (bK (by assumption)) S ?_;clear S;intro h W S B;simp only [BZ,if_false,seval];refine ac (bK (by assumption)) S ?_;clear S;intro h X S C;simp only [BZ,if_false,seval];refine ac (bK (by exact aJ)) S ?_;clear S;intro h Y S D;simp only [BZ,if_false,seval];refine ac (bK (by exact aJ)) S ?_;clear S;intro h Z S E;have a:=S.gr;have j:=S.ld (b:=W) (o:=0) m3 rfl;have l5:=S.ld (b:=X) (o:=0) m2 rfl;have F:=S.ld (b:=Y) (o:=0) m1 rfl;have H:=S.ld (b:=Z) (o:=0) m0 rfl;have d:=S.ok;clear S;rename Hp=>hq;have S:=Si d;have tf:=twin1_ok d (t.gr a) J K L (A.gr a) k j l5 F H;simp only [BZ,j,F,seval];refine ag (iO S.ok (t.gr a)) ?_;intro h g;replace S:=S.call g;clear g;simp only [BZ,V,S.old j (fun h=>h),S.old H (fun h=>h),seval];refine ag (iO S.ok ((t.gr a).gr S.gr)) ?_;intro h g;replace S:=S.call g;clear g;simp only [BZ,U,S.old j (fun h=>h),seval];refine step_ret (Cv S.ok O fD) ?_;rintro r h ⟨g,q,u,rfl,n1,n2,y1,y2⟩;replace S:=S.call g;clear g;have y:=CL d S.ok S.gr.keep S.fr.n (t.gr a) M tf y1 y2;have kn:=S.fr.n;have kG:=a.n;rename Hp=>hE;simp only [BZ,seval];generalize e:((Xt N).map fun(v:Nat)=>pR (cE N l.length R Q v w act) (cE N l.length R Q s v act))=xs;have ad:xs.length=N:=by rw [<-e];simp
 replace y:m9 zM 203 [] [ptrTo q,ptrTo u] hE (fun c=>c=q\/c=u\/c<hq.n) (xs.map fun x=>[.int .i64 x]):=by rw [<-e,List.map_map];exact y
 refine step_ret (CR S.ok (post:=#[ptrTo q,ptrTo u]) (iter_w y) (fun _ h=>h.elim) (by omega)) ?_;rintro r h2 ⟨f,G,nr⟩;have g2:=f.gr;simp only [BZ,ab,seval];exact⟨a.trans (S.gr.trans g2),G.sl rfl (fun _=>rfl) (by decide),fun c hc=>by have:=nr c hc;omega⟩
theorem pq(a:OZ h0):Ret zM 52 [.bool true,.int .i64 c] h0 fun _ h'=>Gr h0 h':=by have S:=Si a;refine aa (n:=9) (rs:=[]) rfl Tryz.e52 rfl rfl rfl (lbt rfl) ?_;simp only [BZ,seval];exact S.gr
def trouV(c:Int):Value:=.iface 104 (.agg ⟨[.int .i64 c]⟩)
theorem need_no(a:OZ h0):eS zM 52 [.bool false,.int .i64 c] none h0 fun o b h'=>o=.pan (trouV c)/\Gr h0 h':=by have S:=Si a;refine enter (n:=9) (rs:=[]) rfl Tryz.e52 rfl rfl rfl (lbt rfl) ?_;simp only [BZ,seval];exact eZ (bV ⟨rfl,S.gr⟩)
section
variable{h0:Hp}{bp nb s w:Nat}{γ:Gra}
theorem Ap(b:OZ h0)(c:aQ h0 nb (ptrTo bp) γ){a:Nat}(l:h0.load a 0 1=some [ptrTo bp])(d:v<γ.nodes):aT zM 122 [.int .i64 (v:Nat),ptrTo a] h0 (.bool true):=by
 have S:=Si b;have e:(0:Int)<=(v:Int):=by omega
 refine aa (n:=12) (rs:=[.tmp 3]) rfl Tryz.e122 rfl rfl rfl (lbt rfl) ?_;simp only [BZ,l,e,seval];refine ag (bM S.ok (c.gr S.gr)) ?_;intro h g;replace S:=S.call g;clear g;simp only [BZ,ab,aI,d,seval];exact S.gr
theorem asked2_ok(b:OZ h0){a:Nat}(l:h0.load a 0 1=some [ptrTo bp]):Ret zM 123 [ptrTo a] h0 fun _ h'=>Gr h0 h':=by have S:=Si b;refine aa (n:=4) (rs:=[]) rfl Tryz.e123 rfl rfl rfl (lbt rfl) ?_;simp only [BZ,l,seval];refine step_ret (pq S.ok) ?_;intro r h g;replace S:=S.call g;clear g;simp only [BZ];exact S.gr
theorem asked3_ok(b:OZ h0)(c:aQ h0 nb (ptrTo bp) γ){a:Nat}(d:h0.load a 0 1=some [ptrTo bp])(e:h0.load b6 0 1=some [.func (.func 122) #[] #[ptrTo a]])(f:h0.load b5 1 1=some [.int .i64 (s:Nat)])(i:s<γ.nodes):Ret zM 124 [ptrTo b6,ptrTo b5] h0 fun _ h'=>Gr h0 h':=by have S:=Si b;refine aa (n:=7) (rs:=[]) rfl Tryz.e124 rfl rfl rfl (lbt rfl) ?_;simp only [BZ,e,f,seval];refine ag (Ap S.ok c d i) ?_;intro h g;replace S:=S.call g;clear g;simp only [BZ,seval];refine step_ret (pq S.ok) ?_;intro r h g;replace S:=S.call g;clear g;simp only [BZ];exact S.gr
theorem asked4_ok(b:OZ h0)(c:aQ h0 nb (ptrTo bp) γ){a:Nat}(d:h0.load a 0 1=some [ptrTo bp])(e:h0.load b6 0 1=some [.func (.func 122) #[] #[ptrTo a]])(f:h0.load b5 2 1=some [.int .i64 (w:Nat)])(i:w<γ.nodes):Ret zM 125 [ptrTo b6,ptrTo b5] h0 fun _ h'=>Gr h0 h':=by have S:=Si b;refine aa (n:=7) (rs:=[]) rfl Tryz.e125 rfl rfl rfl (lbt rfl) ?_;simp only [BZ,e,f,seval];refine ag (Ap S.ok c d i) ?_;intro h g;replace S:=S.call g;clear g;simp only [BZ,seval];refine step_ret (pq S.ok) ?_;intro r h g;replace S:=S.call g;clear g;simp only [BZ];exact S.gr
theorem asked5_ok(f:OZ h0)(c:aQ h0 nb (ptrTo bp) γ){g:Value}(t:TabAt h0 m g γ.nodes l R Q)(E:l.length<=16)(y:1<=l.length){e b4:Nat}(j:h0.load e 0 1=some [ptrTo bp])(h:h0.load b4 0 1=some [g]):Ret zM 126 [ptrTo b4,ptrTo e] h0 fun _ h'=>Gr h0 h':=by
 have S:=Si f;have F:Fl g:=by obtain⟨b,_,_,_,rfl,_⟩:=t.ex;exact bF
 have z:=bD f j;have A:=bD f h;have B:(0:Int)<(l.length:Int):=by omega
 refine aa (n:=14) (rs:=[]) rfl Tryz.e126 rfl rfl rfl (lbt rfl) ?_;simp only [BZ];refine Eo (by kernel_rfl) (n:=11) (by kernel_rfl) (aA rfl) (q:=0) (ps:=[(6,7)]) (by kernel_rfl) ?_;simp only [List.length_cons,List.length_nil,Xw,Xa,Xe,List.drop_succ_cons,Xf,seval];simp only [BZ,cls,h,seval];refine cu (jM S.ok (t.gr S.gr) (by omega)) ?_;rintro r y ⟨a,C,_⟩;replace S:=S.call a;have k:=ao a A;have o:=ao a z;simp only [BZ,cls,C.lenq,B,a.load h,seval];refine bC (lN S.ok (t.gr S.gr)) ?_;intro G d;have H:=a.n;have I:=d.n;have p:=ao d (show b4<_ by omega);have u:=ao d (show e<_ by omega);replace S:=S.call d;simp only [BZ,cls,d.load (a.load j),seval];refine bC (bM S.ok (c.gr S.gr)) ?_;intro J i;have v:=ao i (show b4<_ by omega);have x:=ao i (show e<_ by omega);replace S:=S.call i;simp only [BZ,cls,seval];refine⟨by simp only [aO,aU,aK,aX,aN,ne_eq,not_false_eq_true,bj,bG,aW,aS,bI,ce,aF,zO,ah,cZ,av o,aw o,av k,aw k,av u,aw u,av p,aw p,av x,aw x,av v,aw v,seval],?_⟩
 try simp only [BZ,RetQ,jS,cQ,jU,cls,touch,iC,ae,ab,n_new,decide_eq_true_eq,Bool.not_eq_true',decide_eq_false_iff_not,List.length_set,Bool.false_and,Bool.true_and,Int.ofNat_eq_natCast,Xq,Bool.true_eq_false,Bool.false_eq_true,Option.map_some,Option.map_none,ah,seval]
 refine step_ret (pq S.ok) ?_;intro r K D;replace S:=S.call D;simp only [BZ];exact S.gr
theorem build_ask{a b c d:FuncId}{e f g h:Array Value}:lj zM 204 [(0,.func (.func a) #[] e),(1,.func (.func b) #[] f),(2,.func (.func c) #[] g),(3,.func (.func d) #[] h)]=some (.agg ⟨[.func (.func a) #[] e,.func (.func b) #[] f,.func (.func c) #[] g,.func (.func d) #[] h]⟩):=by unfold lj;rw [Tryz.t204.2.2.2.1,Tryz.t204.1];simp only [Tryz.t1.2.1];rfl
theorem rK{a b c d:FuncId}{e f g h:Array Value}:jH zM 204 (.agg ⟨[.func (.func a) #[] e,.func (.func b) #[] f,.func (.func c) #[] g,.func (.func d) #[] h]⟩) (.int .i64 0)=some (.func (.func a) #[] e)/\
 jH zM 204 (.agg ⟨[.func (.func a) #[] e,.func (.func b) #[] f,.func (.func c) #[] g,.func (.func d) #[] h]⟩) (.int .i64 1)=some (.func (.func b) #[] f)/\
 jH zM 204 (.agg ⟨[.func (.func a) #[] e,.func (.func b) #[] f,.func (.func c) #[] g,.func (.func d) #[] h]⟩) (.int .i64 2)=some (.func (.func c) #[] g)/\
 jH zM 204 (.agg ⟨[.func (.func a) #[] e,.func (.func b) #[] f,.func (.func c) #[] g,.func (.func d) #[] h]⟩) (.int .i64 3)=some (.func (.func d) #[] h):=by
 unfold jH;rw [Tryz.t204.1];simp only [Tryz.t1.2.1];refine⟨?_,?_,?_,?_⟩<;>rfl
theorem asked_ok(C:OZ h0)(c:aQ h0 nb (ptrTo bp) γ){q u:Value}(t:TabAt h0 m q γ.nodes l R Q)(D:l.length<=16)(E:1<=l.length)(P:Fl u)(F:s<γ.nodes)(G:w<γ.nodes):
 Ret zM 48 [ptrTo bp,q,.agg ⟨[u,.int .i64 (s:Nat),.int .i64 (w:Nat),.int .i64 a]⟩] h0 fun _ h'=>Gr h0 h':=by
 have T:Fl q:=by obtain⟨b,_,_,_,rfl,_⟩:=t.ex;exact bF
 have S:=Si C;refine aa (n:=21) (rs:=[]) rfl Tryz.e48 rfl rfl rfl (lbt rfl) ?_;simp only [BZ,seval];refine ac (bK (by exact bF)) S ?_;clear S;intro h H S v;simp only [BZ,if_false,seval];refine ac (bK (by assumption)) S ?_;clear S;intro h I S y;simp only [BZ,if_false,seval];refine ac (aV (by intro x e;cases e)) S ?_;clear S;intro h z S A;simp only [ae]at S;simp only [BZ,seval];refine ac aB S ?_;clear S;intro h J S B;simp only [BZ,seval];refine aC (aE S (i:=0) rfl ?_ ?_ ?_ ono) ?_
 . exact(by simp only [FA0])
 . exact(by exact fD)
 . exact Xg (lbt rfl)
 clear S;rintro h ⟨S,K⟩;clear K;simp only [LC,ae,lay,Xc,Xb,seval]at S;have j:=S.ld (b:=H) (o:=0) m3 rfl;have p:=S.ld (b:=I) (o:=0) m2 rfl;have d:=S.ld (b:=z) (o:=1) m1 rfl;have f:=S.ld (b:=z) (o:=2) m1 rfl;have k:=S.ld (b:=J) (o:=0) m0 rfl;have L:aq .i64 1=1:=rfl;have M:aq .i64 2=2:=rfl;have N:aq .i64 3=3:=rfl;have O:aq .i64 4=4:=rfl;simp only [BZ,build_ask,seval];rw [cq];simp only [BZ,rK,seval];refine step_ret (asked2_ok S.ok j) ?_;intro r h g;replace S:=S.call g;replace j:=g.load j;replace p:=g.load p;replace d:=g.load d;replace f:=g.load f;replace k:=g.load k;clear g;simp only [BZ,L,seval];rw [cq];simp only [BZ,rK,seval];refine step_ret (asked3_ok S.ok (c.gr S.gr) j k d F) ?_;intro r h g;replace S:=S.call g;replace j:=g.load j;replace p:=g.load p;replace d:=g.load d;replace f:=g.load f;replace k:=g.load k;clear g;simp only [BZ,M,seval];rw [cq];simp only [BZ,rK,seval];refine step_ret (asked4_ok S.ok (c.gr S.gr) j k f G) ?_;intro r h g;replace S:=S.call g;replace j:=g.load j;replace p:=g.load p;replace d:=g.load d;replace f:=g.load f;replace k:=g.load k;clear g;simp only [BZ,N,seval];rw [cq];simp only [BZ,rK,seval];refine step_ret (asked5_ok S.ok (c.gr S.gr) (t.gr S.gr) D E j p) ?_;intro r h g;replace S:=S.call g;clear g;simp only [BZ,O,seval];rw [cq];simp only [BZ,seval];exact S.gr
theorem Cu(a:OZ h0):eS zM 47 [ptrTo b] none h0 fun o c h'=>(∃v,o=.ret v)/\c=none/\Gr h0 h':=by have S:=Si a;refine enter (n:=18) (rs:=[]) rfl Tryz.e47 rfl rfl rfl (lbt rfl) ?_;simp only [BZ,seval];exact cg (bV ⟨rfl,_,rfl,⟨_,rfl⟩,rfl,S.gr⟩)
theorem trun1_yes(k:OZ h0){a:List Value}(R:Row h0 b a 1)(d:a.length=4):eS zM 47 [ptrTo b] (some (trouV c,false)) h0 fun o l h'=>(∃v,o=.ret v)/\l=some (trouV c,true)/\Mo (· =b) h0 h'/\Row h' b [.int .i64 c,.int .i64 0,.slice none 0 0,.slice none 0 0] 1:=by
 have S:=St.init1 k (o:=.row a 1) R;refine enter (n:=18) (rs:=[]) rfl Tryz.e47 rfl rfl rfl (lbt rfl) ?_;simp only [BZ,trouV,seval];refine ac aB S ?_;clear S;intro h m S f;simp only [BZ,seval];refine aC (S.store (i:=0) rfl ?_ ?_ rfl rfl ?_ ono) ?_
 . exact(by exact Tryz.t104.2.1)
 . exact(by intro x e;cases e)
 . exact lbt rfl
 clear S;rintro h ⟨S,g⟩;clear g;simp only [LC,ae,lay,Xc,Xb,seval]at S;simp only [BZ,S.ld (b:=m) (o:=0) m0 rfl,seval];refine aC (S.store (i:=1) rfl Tryz.t43.2.1 (by intro x e;cases e) rfl rfl (by rw [d];exact Xp _) ono) ?_;clear S;rintro q ⟨S,g⟩;simp only [LC]at S;have j:=S.row (b:=b) m1;have p:lay a 0 (ae (.agg ⟨[.int .i64 c,.int .i64 0,.slice none 0 0,.slice none 0 0]⟩))=[.int .i64 c,.int .i64 0,.slice none 0 0,.slice none 0 0]:=by
  match a,d with
  | [_,_,_,_],_=>rfl
 rw [p]at j;simp only [BZ];exact cg (bV ⟨rfl,_,rfl,⟨_,rfl⟩,rfl,S.fr,j⟩)
theorem got_ok(f:OZ h0){d:Int}{vA vE:Value}(j:Fl vA)(k:Fl vE):Ret zM 49 [.agg ⟨[.int .i64 d,vA,vE]⟩,.int .i64 0] h0 fun r h'=>Gr h0 h'/\r=.agg ⟨[.int .i64 d,vA,vE]⟩:=by have S:=Si f;refine aa (n:=10) (rs:=[.cell 4 96]) rfl Tryz.e49 rfl rfl rfl (lbt rfl) ?_;simp only [BZ,seval];refine ac (aV (by intro x e;cases e)) S ?_;clear S;intro h l S a;simp only [ae]at S;simp only [BZ];refine ac aB S ?_;clear S;intro h m S c;simp only [BZ,seval];refine step_ret (pq S.ok) ?_;intro r h g;replace S:=S.call g;clear g;simp only [BZ,Xf,Xa,Xe,S.lds (b:=l) (o:=0) (n:=3) m1 (lbt rfl),seval];refine aC (S.store (i:=0) rfl Tryz.t96.2.1 (by intro x e;cases e) rfl (by simp only [ae,Xh,Xj,j.2.1,k.2.1,zO];rfl) (lbt rfl) ono) ?_;clear S;rintro p ⟨S,q⟩;simp only [LC,ae,lay,Xc,Xb,seval]at S;simp only [BZ,ab];refine(aZ (by decide) (by simp only [aF,ah,seval];exact bz Tryz.t96.1 Tryz.t96.2.1 (S.lds (b:=m) (o:=0) (n:=3) m0 (lbt rfl)))).2 (bQ.2 ?_);exact⟨S.gr,rfl⟩
end
def twL(N:Nat)(l:List Int)(R Q:Nat->List Int)(act:List Int)(s w:Nat):List Int:=(Xt N).map fun(v:Nat)=>pR (cE N l.length R Q v w act) (cE N l.length R Q s v act)
def natI(l:List Nat):List Int:=l.map fun(x:Nat)=>(x:Int)
theorem Ea(ok:OZ h0){bp nb:Nat}(F:Good γ)(hn:aQ h0 nb (ptrTo bp) γ){V q0:Value}(t:TabAt h0 m V γ.nodes l R Q)(lR: ∀i,i<l.length->(R i).length=γ.nodes)(lQ: ∀i,i<l.length->(Q i).length=γ.nodes)(hl:l.length<=16)(h1:1<=l.length)(fq:Fl q0)(W:s<γ.nodes)(X:w<γ.nodes):
 Ret zM 13 [ptrTo bp,V,.agg ⟨[q0,.int .i64 (s:Nat),.int .i64 (w:Nat),.int .i64 a]⟩] h0 fun r h'=>Gr h0 h'/\ ∃c d vA E vE,r=.tuple #[nX c d vA E,vE]/\(∀x,(au vA x\/au E x\/au vE x)->h0.n<=x)/\
  ((s =w/\c=0/\d=0/\vA=.slice none 0 0/\E=.slice none 0 0/\vE=.slice none 0 0)\/
   (s ≠w/\ ∃τ,jG γ.arcs (fun _=>true) (fun v=>(twL γ.nodes l R Q (natI (iq γ.nodes l.length R Q s w a)) s w).getD v 0) (jq (fun v=>(twL γ.nodes l R Q (natI (iq γ.nodes l.length R Q s w a)) s w).getD v 0) s w) τ/\
     aD h' 4 jD vE τ.ev/\
     ((FAR<=τ.dist/\c=20/\d=0/\vA=.slice none 0 0/\E=.slice none 0 0)\/
      (τ.dist<FAR/\c=0/\d=(τ.dist:Nat)/\aD h' 1 bO vA (lZ τ)/\aD h' 1 bO E (iq γ.nodes l.length R Q s w a))))):=by
 have S:=Si ok;have ft:Fl V:=by obtain⟨b,_,_,_,rfl,_⟩:=t.ex;exact bF
 have ax:=c9;refine aa (n:=59) (rs:=[.cell 6 43,.tmp 7]) rfl Tryz.e13 rfl rfl rfl (lbt rfl) ?_;simp only [BZ,seval];refine ac (aV (by intro x e;cases e)) S ?_;clear S;intro h p S al;simp only [ae]at S;simp only [BZ];refine ac aB S ?_;clear S;intro h u S G;simp only [BZ,Xf,Xa,Xe,S.lds (b:=p) (o:=0) (n:=4) m1 (lbt rfl),seval];refine step_ret (asked_ok S.ok (hn.gr S.gr) (t.gr S.gr) hl h1 fq W X) ?_;intro r h g;replace S:=S.call g;clear g;by_cases y:s=w
 . subst y;simp only [BZ,Xf,Xa,Xe,S.ld (b:=p) (o:=1) m1 rfl,S.ld (b:=p) (o:=2) m1 rfl,S.lds (b:=u) (o:=0) (n:=4) m0 (lbt rfl),seval];refine aC (S.store (i:=0) rfl Tryz.t43.2.1 (by intro x e;cases e) rfl rfl (lbt rfl) ono) ?_;clear S;rintro Y ⟨S,Z⟩;simp only [LC,ae,lay,Xc,Xb,seval]at S;simp only [BZ];refine cS (un_fn (cH (Cu S.ok) fun o rc h' ⟨a,b,g⟩=>⟨a,b,bV ⟨rfl,?_⟩⟩));replace S:=S.call g;refine(aZ (by decide) (by simp only [aF,ah,seval];exact bz Tryz.t43.1 Tryz.t43.2.1 (S.lds (b:=u) (o:=0) (n:=4) m0 (lbt rfl)))).2 ?_;refine(dK (by decide)).2 (bQ.2 ?_);exact⟨S.gr,_,_,_,_,_,rfl,fun x H=>(by rcases H with h|h|h<;>exact h.elim),.inl ⟨rfl,rfl,rfl,rfl,rfl⟩⟩
 . have ad: ¬((s:Int)=(w:Int)):=(by omega);simp only [BZ,ad,S.ld (b:=p) (o:=1) m1 rfl,S.ld (b:=p) (o:=2) m1 rfl,S.ld (b:=p) (o:=3) m1 rfl,seval];have k6:=(S.row (b:=u) m0).lt S.ok;refine step_ret (sY S.ok (t.gr S.gr) lR lQ hl) ?_;rintro E h ⟨g,N,nB⟩;replace S:=S.call g;clear g;have la:(iq γ.nodes l.length R Q s w a).length<=16:=(by unfold iq;rw [XI];omega);have R5:=S.row (b:=p) m1;have R6:=S.row (b:=u) m0;have S0:=S;have gV:=S.gr;have kV:=gV.n;have z:=S.ok;have af:=R5.load1 (o:=1) rfl;have ai:=R5.load1 (o:=2) rfl;have p5:=R5.lt z;have f1:=F.n2;simp only [BZ,seval];clear S;have S:=Si z;rename Hp=>hV;refine ar (mK (ord:=[17,0,1,2,3,4,5,6,7,8,9,10,11,12,13,14,15,16,18]) rfl rfl (by simp only [iv,qx,gK,XB,XC,XJ,Xr,Xu,cond_true,cond_false,seval];exact rfl)) (q:=1) (ps:=[(0,17),(0,14),(5,12),(3,12),(0,12)]) (by kernel_rfl) ?_;simp only [BZ,cls,seval];refine dg aB S ?_;clear S;intro h B S an I;have p9:=S.fr.n;have O:=S.gr;have J:=S.row (b:=B) m0;have q9:=J.lt S.ok;simp only [BZ,cls,O.load af,O.load ai,seval];refine cu (bTwin_ok S.ok ((t.gr gV).gr O) lR lQ (by omega) (by omega) (yg (N.gr O)) (by rw [List.length_map];omega) W X) ?_;rintro vP h ⟨g,sP,nP⟩;have e1:leaves _ _ p=true:=ao g (XH p5 p9);have e2:leaves _ _ B=true:=ao g q9;have kq:=g.n;replace S:=S.call g;clear g;simp only [BZ,cls,sP.fl,seval];refine cu (yt S.ok F ((hn.gr gV).gr S.gr) sP (by simp) W X y) ?_;rintro r h ⟨g,xA,xE,τ,rfl,he,P,T,j⟩;have e3:leaves _ _ p=true:=ao g (XH p5 (Xl p9 kq));have e4:leaves _ _ B=true:=ao g (XH q9 kq);have kr:=g.n;have U:Fl xA:=T.fl;have y2:Fl xE:=P.fl;replace S:=S.call g;simp only [BZ,cls,seval];refine cu (got_ok S.ok U y2) ?_;rintro r h ⟨g,rfl⟩;have e5:leaves _ _ p=true:=ao g (by omega);have e6:leaves _ _ B=true:=ao g (by omega);have P:=P.gr g;have T:=T.gr g;replace S:=S.call g;simp only [BZ,cls,seval];refine cP (S.store (i:=0) rfl Tryz.t96.2.1 (by intro x e;cases e) rfl (by simp only [ae,Xh,Xj,U.2.1,y2.2.1,zO];rfl) (lbt rfl) ono) ?_;have ay:=S.ok;have K: ∀c,au xA c\/au xE c->c≠B:=fun c k e=>(by have:=j c k;omega);clear S;rintro Y ⟨S,Z⟩;simp only [LC,ae,lay,Xc,Xb,seval]at S;simp only [BZ,seval];refine⟨by simp only [aO,aU,aK,aX,aN,ne_eq,not_false_eq_true,bj,bG,aW,aS,bI,ce,aF,zO,ah,hU,aw e1,av e1,aw e2,av e2,aw e3,av e3,aw e4,av e4,aw e5,av e5,aw e6,av e6,<-I,seval],?_⟩;have J:=S.row (b:=B) m0;have j0:=J.load1 (o:=0) rfl;have j1:=J.load1 (o:=1) rfl;have j2:=J.load1 (o:=2) rfl;have n9:u≠B:=fun e=>(by have:=(S0.row (b:=u) m0).lt z;omega);have L:aD Y 1 bO xA _:=T.mo Z (fun c k e=>K c (.inl k) e);have M:aD Y 4 jD xE τ.ev:=P.mo Z (fun c k e=>K c (.inr k) e);have ak:=N.gr S.gr;have k5:=(S0.row (b:=u) m0).lt z;have S1:=S0.call S.gr;clear S;have S:=S1;clear S1;simp only [BZ,j0,j2,seval];by_cases hd:τ.dist<FAR
   . have C:(τ.dist:Int)<72057594037927936:=(by omega);simp only [decide_true,C];refine step_ret (pq S.ok) ?_;intro r h4 A;replace S:=S.call A;simp only [BZ,U,N.fl,A.load j0,A.load j1,seval];refine aC (S.store (i:=0) rfl Tryz.t43.2.1 (by intro x e;cases e) rfl (by simp only [ae,Xh,Xj,U.2.1,N.fl.2.1,zO];rfl) (lbt rfl) ono) ?_;clear S;rintro h5 ⟨S,D⟩;simp only [LC,ae,lay,Xc,Xb,seval]at S;simp only [BZ,seval];refine cS (un_fn (cH (Cu S.ok) fun o rc h' ⟨a,b,g⟩=>⟨a,b,bV ⟨rfl,?_⟩⟩));replace S:=S.call g;refine(aZ (by decide) (by simp only [aF,ah,seval];exact bz Tryz.t43.1 Tryz.t43.2.1 (S.lds (b:=u) (o:=0) (n:=4) m0 (lbt rfl)))).2 ?_;refine(dK (by decide)).2 (bQ.2 ?_);rw [if_pos hd]at L;have zE:=((M.gr A).mo D (fun c k e=>by have:=j c (.inr k);omega)).gr g;have zA:=((L.gr A).mo D (fun c k e=>by have:=j c (.inl k);omega)).gr g;have zB:=((ak.gr A).mo D (fun c k e=>by have:=nB c k;omega)).gr g;exact⟨S.gr,_,_,_,_,_,rfl,fun x H=>(by rcases H with h|h|h;(have:=j x (.inl h);omega);(have:=nB x h;omega);(have:=j x (.inr h);omega)),.inr ⟨y,τ,he,zE,.inr ⟨hd,rfl,rfl,zA,zB⟩⟩⟩
   . have C: ¬(τ.dist:Int)<72057594037927936:=(by omega);simp only [decide_false,C];refine jt (need_no S.ok) ?_;rintro x rc h4 ⟨rfl,A⟩;replace S:=S.call A;simp only [BZ];refine eZ (oh (cH (trun1_yes S.ok (S.row (b:=u) m0) rfl) fun o rc h' ⟨a,e,f,R⟩=>⟨a,_,_,e,bV ?_⟩));have gz:Gr h0 h':=(S.fr.trans f (fun i hi=>.inr (by subst hi;exact G)):Mo NoM h0 h').gr;simp only [if_true];refine(aZ (by decide) (by simp only [aF,ah,seval];exact bz Tryz.t43.1 Tryz.t43.2.1 (R.load (o:=0) (n:=4) (lbt rfl)))).2 ?_;refine(dK (by decide)).2 (bQ.2 ?_);have zE:=(M.gr A).mo f (fun c k e=>by have:=j c (.inr k);omega);exact⟨gz,_,_,_,_,_,rfl,fun x H=>(by rcases H with h|h|h;exact h.elim;exact h.elim;(have:=j x (.inr h);omega)),.inr ⟨y,τ,he,zE,.inl ⟨by omega,rfl,rfl,rfl,rfl⟩⟩⟩
structure Pm(P:Hp->Int->Int->Value->Value->Value->Prop):Prop where
 fl: ∀{h:Hp} {c d:Int} {vA vB vE:Value},P h c d vA vB vE->Fl vA/\Fl vB/\Fl vE
 mo: ∀{M:Nat->Prop} {h h':Hp} {c d:Int} {vA vB vE:Value},P h c d vA vB vE->Mo M h h'->(∀x,(au vA x\/au vB x\/au vE x)-> ¬M x)->P h' c d vA vB vE
def oY(P:Hp->Int->Int->Value->Value->Value->Prop)(h0:Hp)(r:Value)(h':Hp):Prop:=Gr h0 h'/\ ∃c d a b e,r=.tuple #[nX c d a b,e]/\(∀x,(au a x\/au b x\/au e x)->h0.n<=x)/\P h' c d a b e
section
variable{P:Hp->Int->Int->Value->Value->Value->Prop}
def FndR(P:Hp->Int->Int->Value->Value->Value->Prop)(h0:Hp)(r:Value)(h':Hp):Prop:=Gr h0 h'/\ ∃(D:Nat) (b a:Value),r=.tuple #[.agg ⟨[.int .i64 (D:Nat),b,a]⟩,.int .i64 0]/\Fl b/\Fl a/\(∀x,(au b x\/au a x)->h0.n<=x)/\(D<FAR->P h' 0 (D:Nat) b (.slice none 0 0) a)/\(FAR<=D->P h' 20 0 (.slice none 0 0) (.slice none 0 0) a)
theorem uP(r:Pm P)(K:OZ h0){A:Nat}{L M N B C:Value}(R:Row h0 b [pn,L,M,N] 1)(Z:Fl pn)(O:h0.load A 0 1=some [.func (.func g) #[] #[]])(f0:Fl B)(f3:Fl C){s w:Int}
 (Q: ∀h,Gr h0 h->Ret zM g [pn,.agg ⟨[.int .i64 s,.int .i64 w,.slice none 0 0,.slice none 0 0]⟩] h (FndR P h)):
 Ret zM 218 [ptrTo b,.agg ⟨[B,.int .i64 s,.int .i64 w,C]⟩,ptrTo A] h0 (oY P h0):=by
 have S:=Si K;have T:=R.load1 (o:=0) rfl;refine aa (n:=36) (rs:=[.cell 5 43,.tmp 6]) rfl Tryz.e218 rfl rfl rfl (lbt rfl) ?_;simp only [BZ,seval];refine ac (aV (by intro x e;cases e)) S ?_;clear S;intro h u S E;simp only [ae]at S;simp only [BZ];refine ac aB S ?_;clear S;intro h l S F;simp only [BZ];refine ar (mK (ord:=[14,0,1,2,3,4,5,6,7,8,9,10,11,12,13,15,16]) rfl rfl (by simp only [iv,qx,gK,XB,XC,XJ,Xr,Xu,cond_true,cond_false,seval];exact rfl)) (q:=1) (ps:=[(0,11)]) (by kernel_rfl) ?_;simp only [BZ,cls,seval];refine dg aB S ?_;clear S;intro h a S G p;simp only [BZ,cls,S.gr.load O,S.gr.load T,S.ld (b:=u) (o:=1) m2 rfl,S.ld (b:=u) (o:=2) m2 rfl,seval];refine cu (Q _ S.gr) ?_;have kS:=S.fr.n;have t: ∀c∈[a,l,u],c<_:=fun c U=>S.key_lt (by simpa [keys]using U);rintro _ h ⟨g,D,vA,vE,rfl,v,V,f,H,I⟩;have J:=ao g (S.key_lt (b:=a) (by simp [keys]));replace S:=S.call g;simp only [BZ,cls,seval];refine cP (S.store (i:=0) rfl Tryz.t96.2.1 (by intro x e;cases e) rfl (by simp only [ae,Xh,Xj,v.2.1,V.2.1,zO];rfl) (lbt rfl) ono) ?_;clear S;rintro h ⟨S,m⟩;simp only [LC,ae,lay,Xc,Xb,seval]at S;have W:=fun y=>r.mo (H y) m (fun x d e=>by
  have e:x=a:=e;have:=t a m0;rcases d with h|h|h
  . have:=f x (.inl h);omega
  . exact h
  . have:=f x (.inr h);omega)
 have X:=fun y=>r.mo (I y) m (fun x d e=>by
  have e:x=a:=e;have:=t a m0;rcases d with h|h|h
  . exact h
  . exact h
  . have:=f x (.inr h);omega)
 clear H I m;simp only [BZ,cls,seval];refine⟨by simp only [aO,aU,aK,aX,aN,ne_eq,not_false_eq_true,bj,bG,aW,aS,bI,ce,aF,zO,ah,cZ,<-p,av J,aw J,seval],?_⟩;have k:=S.ne01 (i:=0) (j:=1) rfl rfl (by decide);by_cases Y:D<FAR
 . have z: ¬(72057594037927936:Int)<=(D:Int):=(by have:=c9;omega);simp only [BZ,z,S.ld (b:=a) (o:=0) m0 rfl,seval];refine ar (aA rfl) (q:=0) (ps:=[(6,7)]) (by kernel_rfl) ?_;simp only [BZ,cls,v,S.ld (b:=a) (o:=0) m0 rfl,S.ld (b:=a) (o:=1) m0 rfl,S.ld (b:=a) (o:=2) m0 rfl,seval];refine cP (S.store (i:=1) rfl Tryz.t43.2.1 (by intro x e;cases e) rfl (by simp only [ae,Xh,Xj,v.2.1,zO];rfl) (lbt rfl) ono) ?_;clear S;rintro h ⟨S,m⟩;simp only [LC,ae,lay,Xc,Xb,seval]at S;simp only [BZ,cls,ab,seval];refine⟨by simp only [aO,aU,aK,aX,aN,ne_eq,not_false_eq_true,bj,bG,aW,aS,bI,ce,aF,zO,ah,hU,di k,di k.symm,seval],?_⟩;refine(aZ (by decide) (by simp only [aF,ah,seval];exact bz Tryz.t43.1 Tryz.t43.2.1 (S.lds (b:=l) (o:=0) (n:=4) m1 (lbt rfl)))).2 ?_;refine(dK (by decide)).2 (bQ.2 ?_);exact⟨S.gr,_,_,_,_,_,rfl,fun x d=>by
    rcases d with h|h|h
    . have:=f x (.inl h);omega
    . exact h.elim
    . have:=f x (.inr h);omega,r.mo (W Y) m (fun x d e=>by
    have e:x=l:=e;have:=t l m1;rcases d with h|h|h
    . have:=f x (.inl h);omega
    . exact h
    . have:=f x (.inr h);omega)⟩
 . have z:(72057594037927936:Int)<=(D:Int):=(by have:=c9;omega);simp only [BZ,z,S.ld (b:=a) (o:=0) m0 rfl,seval];refine ar (aA rfl) (q:=0) (ps:=[(2,3)]) (by kernel_rfl) ?_;simp only [BZ,cls,S.ld (b:=a) (o:=0) m0 rfl,S.ld (b:=a) (o:=1) m0 rfl,S.ld (b:=a) (o:=2) m0 rfl,seval];refine cP (S.store (i:=1) rfl Tryz.t43.2.1 (by intro x e;cases e) rfl rfl (lbt rfl) ono) ?_;clear S;rintro h ⟨S,m⟩;simp only [LC,ae,lay,Xc,Xb,seval]at S;simp only [BZ,cls,ab,seval];refine⟨by simp only [aO,aU,aK,aX,aN,ne_eq,not_false_eq_true,bj,bG,aW,aS,bI,ce,aF,zO,ah,hU,di k,di k.symm,seval],?_⟩;refine(aZ (by decide) (by simp only [aF,ah,seval];exact bz Tryz.t43.1 Tryz.t43.2.1 (S.lds (b:=l) (o:=0) (n:=4) m1 (lbt rfl)))).2 ?_;refine(dK (by decide)).2 (bQ.2 ?_);exact⟨S.gr,_,_,_,_,_,rfl,fun x d=>by
    rcases d with h|h|h
    . exact h.elim
    . exact h.elim
    . have:=f x (.inr h);omega,r.mo (X (by omega)) m (fun x d e=>by
    have e:x=l:=e;have:=t l m1;rcases d with h|h|h
    . exact h
    . exact h
    . have:=f x (.inr h);omega)⟩
theorem DY(u:Pm P)(B:OZ h0){a v w l:Value}(R:Row h0 b [pn,a,v,w] 1)(J:Fl pn)(ft:Fl a)(K:Fl v)(L:Fl w)(M:Fl f)(N:Fl j)(O:Fl k)(Q:Fl l)
 (C: ∀h,Gr h0 h->Ret zM 11 [pn,a,.agg ⟨[f,j,k,l]⟩] h (oY P h)):
 Ret zM 151 [ptrTo b,.agg ⟨[f,j,k,l]⟩] h0 (oY P h0):=by
 have S:=Si B;have D:=R.load1 (o:=0) rfl;have m:=R.load1 (o:=1) rfl;have p:=R.load1 (o:=2) rfl;have r:=R.load1 (o:=3) rfl;refine aa (n:=18) (rs:=[.cell 4 43,.tmp 5]) rfl Tryz.e151 rfl rfl rfl (lbt rfl) ?_;simp only [BZ,seval];refine ac (aV (by intro x e;cases e)) S ?_;clear S;intro h E S y;simp only [ae]at S;simp only [BZ];refine ac aB S ?_;clear S;intro h s S z;simp only [BZ];refine ar (aA rfl) (q:=0) (ps:=[]) (by kernel_rfl) ?_;simp only [BZ,cls,S.gr.load D,S.gr.load m,S.gr.load p,S.gr.load r,Xf,Xa,Xe,S.lds (b:=E) (o:=0) (n:=4) m1 (lbt rfl),seval];have F:=S.fr.n;have T:=S.key_lt (b:=s) (by simp [keys]);refine cu (C _ S.gr) ?_;rintro _ h ⟨g,c,d,U,V,W,rfl,A,o⟩;obtain⟨G,H,X⟩:=u.fl o;replace S:=S.call g;simp only [BZ,cls,nX,seval];refine cP (S.store (i:=0) rfl Tryz.t43.2.1 (by intro x e;cases e) rfl (by simp only [ae,Xh,Xj,G.2.1,H.2.1,zO];rfl) (lbt rfl) ono) ?_;clear S;rintro h ⟨S,I⟩;simp only [LC,ae,lay,Xc,Xb,seval]at S;simp only [BZ,cls,ab,seval];refine(aZ (by decide) (by simp only [aF,ah,seval];exact bz Tryz.t43.1 Tryz.t43.2.1 (S.lds (b:=s) (o:=0) (n:=4) m0 (lbt rfl)))).2 ?_;refine(dK (by decide)).2 (bQ.2 ?_);exact⟨S.gr,_,_,_,_,_,rfl,fun x t=>Xl F (A x t),u.mo o I (fun x t e=>by
  have e:x=s:=e;have:=A x t;omega)⟩
theorem C9(u:Pm P)(B:OZ h0){a v w l:Value}(R:Row h0 b [pn,a,v,w] 1)(J:Fl pn)(ft:Fl a)(K:Fl v)(L:Fl w)(M:Fl f)(N:Fl j)(O:Fl k)(Q:Fl l)
 (C: ∀h,Gr h0 h->Ret zM 13 [pn,a,.agg ⟨[f,j,k,l]⟩] h (oY P h)):
 Ret zM 152 [ptrTo b,.agg ⟨[f,j,k,l]⟩] h0 (oY P h0):=by
 have S:=Si B;have D:=R.load1 (o:=0) rfl;have m:=R.load1 (o:=1) rfl;have p:=R.load1 (o:=2) rfl;have r:=R.load1 (o:=3) rfl;refine aa (n:=18) (rs:=[.cell 4 43,.tmp 5]) rfl Tryz.e152 rfl rfl rfl (lbt rfl) ?_;simp only [BZ,seval];refine ac (aV (by intro x e;cases e)) S ?_;clear S;intro h E S y;simp only [ae]at S;simp only [BZ];refine ac aB S ?_;clear S;intro h s S z;simp only [BZ];refine ar (aA rfl) (q:=0) (ps:=[]) (by kernel_rfl) ?_;simp only [BZ,cls,S.gr.load D,S.gr.load m,S.gr.load p,S.gr.load r,Xf,Xa,Xe,S.lds (b:=E) (o:=0) (n:=4) m1 (lbt rfl),seval];have F:=S.fr.n;have T:=S.key_lt (b:=s) (by simp [keys]);refine cu (C _ S.gr) ?_;rintro _ h ⟨g,c,d,U,V,W,rfl,A,o⟩;obtain⟨G,H,X⟩:=u.fl o;replace S:=S.call g;simp only [BZ,cls,nX,seval];refine cP (S.store (i:=0) rfl Tryz.t43.2.1 (by intro x e;cases e) rfl (by simp only [ae,Xh,Xj,G.2.1,H.2.1,zO];rfl) (lbt rfl) ono) ?_;clear S;rintro h ⟨S,I⟩;simp only [LC,ae,lay,Xc,Xb,seval]at S;simp only [BZ,cls,ab,seval];refine(aZ (by decide) (by simp only [aF,ah,seval];exact bz Tryz.t43.1 Tryz.t43.2.1 (S.lds (b:=s) (o:=0) (n:=4) m0 (lbt rfl)))).2 ?_;refine(dK (by decide)).2 (bQ.2 ?_);exact⟨S.gr,_,_,_,_,_,rfl,fun x t=>Xl F (A x t),u.mo o I (fun x t e=>by
  have e:x=s:=e;have:=A x t;omega)⟩
theorem wh(w:Pm P)(B:OZ h0){a l m:Value}(R:Row h0 b [pn,a,f,j] 1)(L:Fl pn)(ft:Fl a)(C:Fl f)(D:Fl j)(M:Fl k)(N:Fl l)(O:Fl m)(Q:Fl p)
 (E: ∀h,Gr h0 h->Ret zM 14 [pn,a,.agg ⟨[f,j]⟩,.agg ⟨[k,l,m,p]⟩] h (oY P h)):
 Ret zM 149 [ptrTo b,.agg ⟨[k,l,m,p]⟩] h0 (oY P h0):=by
 have S:=Si B;have F:=R.load1 (o:=0) rfl;have r:=R.load1 (o:=1) rfl;have s:=R.load1 (o:=2) rfl;have t:=R.load1 (o:=3) rfl;refine aa (n:=27) (rs:=[.cell 4 43,.tmp 5]) rfl Tryz.e149 rfl rfl rfl (lbt rfl) ?_;simp only [BZ,seval];refine ac (aV (by intro x e;cases e)) S ?_;clear S;intro h G S y;simp only [ae]at S;simp only [BZ];refine ac aB S ?_;clear S;intro h u S z;simp only [BZ];refine ar (aA rfl) (q:=0) (ps:=[]) (by kernel_rfl) ?_;simp only [BZ,cls,C,D,S.gr.load F,S.gr.load r,S.gr.load s,S.gr.load t,Xf,Xa,Xe,S.lds (b:=G) (o:=0) (n:=4) m1 (lbt rfl),seval];have H:=S.fr.n;have T:=S.key_lt (b:=u) (by simp [keys]);refine cu (E _ S.gr) ?_;rintro _ h ⟨g,c,d,U,V,W,rfl,A,o⟩;obtain⟨I,J,X⟩:=w.fl o;replace S:=S.call g;simp only [BZ,cls,nX,seval];refine cP (S.store (i:=0) rfl Tryz.t43.2.1 (by intro x e;cases e) rfl (by simp only [ae,Xh,Xj,I.2.1,J.2.1,zO];rfl) (lbt rfl) ono) ?_;clear S;rintro h ⟨S,K⟩;simp only [LC,ae,lay,Xc,Xb,seval]at S;simp only [BZ,cls,ab,seval];refine(aZ (by decide) (by simp only [aF,ah,seval];exact bz Tryz.t43.1 Tryz.t43.2.1 (S.lds (b:=u) (o:=0) (n:=4) m0 (lbt rfl)))).2 ?_;refine(dK (by decide)).2 (bQ.2 ?_);exact⟨S.gr,_,_,_,_,_,rfl,fun x v=>Xl H (A x v),w.mo o K (fun x v e=>by
  have e:x=u:=e;have:=A x v;omega)⟩
def trouA(c:Int):Value:=.iface 122 (.agg ⟨[.int .i64 c]⟩)
theorem ry(a:OZ h0):eS zM 60 [.bool false,.int .i64 c] none h0 fun o b h'=>o=.pan (trouA c)/\Gr h0 h':=by have S:=Si a;refine enter (n:=9) (rs:=[]) rfl Tryz.e60 rfl rfl rfl (lbt rfl) ?_;simp only [BZ,seval];exact eZ (bV ⟨rfl,S.gr⟩)
end
theorem Ew{b1 k:Nat}(a:k<6):jH zM 127 (.agg ⟨dB b1 b2 0++(dB b1 b2 1++(dB b1 b2 2++(dB b1 b2 3++(dB b1 b2 4++dB b1 b2 5))))⟩) (.int .i64 (k:Nat))=some (.agg ⟨dB b1 b2 k⟩):=by have:=ways_at (b1:=b1) (b2:=b2) a;have b:(dB b1 b2 0++(dB b1 b2 1++(dB b1 b2 2++(dB b1 b2 3++(dB b1 b2 4++dB b1 b2 5))))).length=18:=rfl;generalize dB b1 b2 0++(dB b1 b2 1++(dB b1 b2 2++(dB b1 b2 3++(dB b1 b2 4++dB b1 b2 5))))=L at this b;unfold jH;simp only [Tryz.t127.1,gL a,Tryz.t126.2.1];unfold partOf;simp only [Tryz.t126.1,Tryz.t126.2.1,this,b];rw [Nat.ble_eq_true_of_le (by omega),cond_true]
theorem ask1_ok(a:OZ h0):eS zM 58 [ptrTo b2,ptrTo b] none h0 fun o c h'=>(∃v,o=.ret v)/\c=none/\Gr h0 h':=by have S:=Si a;refine enter (n:=19) (rs:=[]) rfl Tryz.e58 rfl rfl rfl (lbt rfl) ?_;simp only [BZ,seval];exact cg (bV ⟨rfl,_,rfl,⟨_,rfl⟩,rfl,S.gr⟩)
theorem Im32.at{h:Hp}{b:Nat}{I:Img}{g i:Prop}(j:Im32 h b I g i):ImAt h b I:=by
 obtain⟨d,n,o,p,q,k,R,l,a,c⟩:=j;refine⟨_,_,_,_,R,⟨k,l⟩,d.b,?_,?_⟩
 . cases e:I.T with
   |none=>rw [e]at a;exact a|some T=>rw [e]at a;obtain⟨⟨m,_,x⟩,y,_⟩:=a;exact⟨⟨m,x⟩,y⟩
 . cases f:I.C with
   |none=>rw [f]at c;exact c|some C=>obtain⟨m,F⟩:=C;rw [f]at c;exact c.1
theorem Im32.gr{h h':Hp}{b:Nat}{I:Img}{f i:Prop}(k:Im32 h b I f i)(g:Gr h h'):Im32 h' b I f i:=by
 obtain⟨c,l,n,o,p,q,R,r,s,a⟩:=k;refine⟨c,l,n,o,p,q,R.gr g,r.gr g,s.mo (M:=NoM) g.fr (fun _ h=>h.elim),?_⟩;cases j:I.C with
 |none=>rw [j]at a;exact a| some C=>
   obtain⟨m,F⟩:=C;rw [j]at a;obtain⟨x,t,u,v,w,y,z,A,B,D,d,e,E,G,H⟩:=a;exact⟨x.gr g,t,u,v,w,y,z,A,B,D,d.gr g,e,E,G.gr g,H⟩
theorem rA(j:OZ h0){c:Nat}{xs ys:List Value}(k:Has h0 b (.row xs 1))(l:Has h0 c (.row ys 1))(f:xs.length=4)(m:ys.length=1)(a:b≠c){e:Int}:eS zM 58 [ptrTo b,ptrTo c] (some (trouA e,false)) h0 fun o p h'=>(∃v,o=.ret v)/\p=some (trouA e,true)/\Mo (fun x=>x=b\/x=c) h0 h'/\Row h' b [.int .i64 e,.int .i64 0,.slice none 0 0,.slice none 0 0] 1/\Row h' c [.slice none 0 0] 1:=by
 have S:St (fun x=>x=b\/x=c) h0 h0 [(b,.row xs 1),(c,.row ys 1)] []:=((St.init j).push (.inr (.inr rfl)) l (by simp [keys])).push (.inr (.inl rfl)) k (by simp [keys,a]);obtain⟨y,rfl⟩: ∃y,ys=[y]:=List.length_eq_one_iff.1 m;refine enter (n:=19) (rs:=[]) rfl Tryz.e58 rfl rfl rfl (lbt rfl) ?_;simp only [BZ,trouA,seval];refine ac aB S ?_;clear S;intro h q S g;simp only [BZ,seval];refine aC (S.store (i:=0) rfl ?_ ?_ rfl rfl ?_ ono) ?_
 . exact(by exact Tryz.t122.2.1)
 . exact(by intro x e;cases e)
 . exact lbt rfl
 clear S;rintro h ⟨S,d⟩;clear d;simp only [LC,ae,lay,Xc,Xb,seval]at S;simp only [BZ,S.ld (b:=q) (o:=0) m0 rfl,seval];refine aC (S.store (i:=1) rfl Tryz.t43.2.1 (by intro x e;cases e) rfl rfl (by rw [f];exact Xp _) ono) ?_;clear S;rintro r ⟨S,d⟩;simp only [LC]at S;have s:lay xs 0 (ae (.agg ⟨[.int .i64 e,.int .i64 0,.slice none 0 0,.slice none 0 0]⟩))=[.int .i64 e,.int .i64 0,.slice none 0 0,.slice none 0 0]:=by
  match xs,f with
  | [_,_,_,_],_=>rfl
 rw [s]at S;simp only [BZ,if_false,seval];refine aC (aE S (i:=2) rfl Tryz.t44.2.2.1 bg (Xg (lbt rfl)) ono) ?_;clear S;rintro r ⟨S,d⟩;simp only [LC]at S;simp only [BZ];exact cg (bV ⟨rfl,_,rfl,⟨_,rfl⟩,rfl,S.fr,S.row m1,S.row m2⟩)
theorem ui(d:OZ h0){a f:Nat}(R:Row h0 b [ptrTo a,i,j,k] 1)(l:h0.load b2 0 1=some [ptrTo b])(m:aQ h0 f (ptrTo a) γ){s:Int}:aT zM 59 [.int .i64 s,ptrTo b2] h0 (.bool (decide (0<=s/\s<γ.nodes))):=by
 have S:=Si d;have p:=R.load1 (o:=0) rfl;by_cases c:(0:Int)<=s
 . have e:decide (0<=s/\s<(γ.nodes:Int))=decide (s<(γ.nodes:Int)):=decide_eq_decide.2 (by omega);rw [e];refine aa (n:=15) (rs:=[.tmp 3]) rfl Tryz.e59 rfl rfl rfl (lbt rfl) ?_;simp only [BZ,l,p,c,seval];refine ag (bM S.ok (m.gr S.gr)) ?_;intro h g;replace S:=S.call g;clear g;simp only [BZ,ab,seval];exact S.gr
 . have e:decide (0<=s/\s<(γ.nodes:Int))=false:=decide_eq_false (by omega);rw [e];refine aa (n:=15) (rs:=[.tmp 3]) rfl Tryz.e59 rfl rfl rfl (lbt rfl) ?_;simp only [BZ,ab,c,seval];exact S.gr
def PtrB(p:Value)(t:Bool):Prop:=(t=true/\ ∃x,p=ptrTo x)\/(t=false/\p=.pointer none)
theorem hasB_ok(p:OZ h0){g q:Value}{x y j k:Bool}(R:Row h0 b [pn,g,i,q] 1)(r:PtrB g j)(l:PtrB i k)(v:Fl f):aT zM 62 [.agg ⟨wayV x y f⟩,ptrTo b] h0 (.bool ((!x||j)&&(!y||k))):=by
 have S:=Si p;have s:=R.load1 (o:=1) rfl;have t:=R.load1 (o:=2) rfl;refine aa (n:=27) (rs:=[.tmp 4]) rfl Tryz.e62 rfl rfl rfl (lbt rfl) ?_;simp only [BZ,wayV,seval];refine ac (aV (by intro x e;cases e)) S ?_;clear S;intro h d S m;simp only [ae]at S;have a:=S.gr.load s;have c:=S.gr.load t;rcases r with⟨rfl,w,rfl⟩|⟨rfl,rfl⟩
 . rcases l with⟨rfl,u,rfl⟩|⟨rfl,rfl⟩
   . cases x
     all_goals cases y
     all_goals
      simp only [BZ,ab,a,c,S.ld (b:=d) (o:=0) m0 rfl,S.ld (b:=d) (o:=1) m0 rfl,seval];exact⟨rfl,S.gr⟩
   . cases x
     all_goals cases y
     all_goals
      simp only [BZ,ab,a,c,S.ld (b:=d) (o:=0) m0 rfl,S.ld (b:=d) (o:=1) m0 rfl,seval];exact⟨rfl,S.gr⟩
 . rcases l with⟨rfl,u,rfl⟩|⟨rfl,rfl⟩
   . cases x
     all_goals cases y
     all_goals
      simp only [BZ,ab,a,c,S.ld (b:=d) (o:=0) m0 rfl,S.ld (b:=d) (o:=1) m0 rfl,seval];exact⟨rfl,S.gr⟩
   . cases x
     all_goals cases y
     all_goals
      simp only [BZ,ab,a,c,S.ld (b:=d) (o:=0) m0 rfl,S.ld (b:=d) (o:=1) m0 rfl,seval];exact⟨rfl,S.gr⟩
def gH(N:Nat)(a b:Bool)(k s w:Int):Int:=
 if¬(0<=k/\k<6)then 16 else if¬(0<=s/\s<N)then 17 else if¬(0<=w/\w<N)then 18 else if((!tw k.toNat||a)&&(!cw k.toNat||b))=true then 0 else 19
theorem askAny_ok{P:Hp->Int->Int->Value->Value->Value->Prop}(pm:Pm P)(ok:OZ h0){I:Img}{oT oF:Prop}(im:Im32 h0 b I oT oF){k s w:Int}
 (Q: ∀(l v z:Nat),k=l->s=v->w=z->l<6->v<I.g.nodes->z<I.g.nodes->(tw l=true->I.T.isSome=true)->(cw l=true->I.C.isSome=true)->v≠z-> ∀h b1 b2,Gr h0 h->h.load b1 0 1=some [.func (.func 45) #[] #[]]->h.load b2 0 1=some [.func (.func 50) #[] #[]]-> ∃g x c,fw b1 b2 l=.func (.func g) x c/\Ret zM g (x.toList++[ptrTo b,.agg ⟨[.int .i64 k,.int .i64 s,.int .i64 w,.int .i64 a]⟩]++c.toList) h (oY P h)):
 Ret zM 15 [ptrTo b,.agg ⟨[.int .i64 k,.int .i64 s,.int .i64 w,.int .i64 a]⟩] h0 fun r h'=>Gr h0 h'/\ ∃c d vA U vE,r=.tuple #[nX c d vA U,vE]/\Fl vA/\Fl U/\Fl vE/\
  (((gH I.g.nodes I.T.isSome I.C.isSome k s w≠0\/s=w)/\c=gH I.g.nodes I.T.isSome I.C.isSome k s w/\d=0/\vA=.slice none 0 0/\U=.slice none 0 0/\vE=.slice none 0 0)\/
   (gH I.g.nodes I.T.isSome I.C.isSome k s w=0/\s≠w/\P h' c d vA U vE)):=by
 have S:=Si ok;have ad:=im;obtain⟨af,bp,pt,pc,pf,nb,R,hn,tY,cY⟩:=ad;have n1:=af.n1;have ai:PtrB pt I.T.isSome:=by
  cases eT:I.T with
  |none=>rw [eT]at tY;exact .inr ⟨rfl,tY⟩|some T=>rw [eT]at tY;obtain⟨⟨_,_,x⟩,_⟩:=tY;obtain⟨y,_,_,_,e,_⟩:=x.ex;exact .inl ⟨rfl,y,e⟩
 have ak:PtrB pc I.C.isSome:=by
  cases eC:I.C with
  |none=>rw [eC]at cY;exact .inr ⟨rfl,cY.1⟩|some C=>rw [eC]at cY;obtain⟨_,_,_,y,_,_,_,_,e,_⟩:=cY;exact .inl ⟨rfl,y,e⟩
 generalize I.T.isSome=A at*
 generalize I.C.isSome=B at*
 refine aa (n:=53) (rs:=[.cell 4 43,.cell 5 44]) rfl Tryz.e15 rfl rfl rfl (lbt rfl) ?_;simp only [BZ,seval];refine ac (aV (by intro x e;cases e)) S ?_;clear S;intro h b2 S aL;simp only [ae]at S;simp only [BZ,if_false,seval];refine ac (aV (by intro x e;cases e)) S ?_;clear S;intro h u S a0;simp only [ae]at S;simp only [BZ];refine ac aB S ?_;clear S;intro h N S m;simp only [BZ];refine ac aB S ?_;clear S;intro h b5 S p;simp only [BZ,S.ld (b:=b2) (o:=0) m3 rfl,seval];refine ag (right_ok S.ok (im.at.gr S.gr)) ?_;intro h g;replace S:=S.call g;clear g;simp only [BZ,seval];refine ag (rE S.ok) ?_;intro h g;replace S:=S.call g;clear g;by_cases c0:(0:Int)<=k;rotate_left
 . have t:gH I.g.nodes A B k s w=16:=if_pos (by omega);simp only [BZ,c0,S.ld (b:=u) (o:=0) m2 rfl,seval];refine jt (ry S.ok) ?_;rintro _ D h4 ⟨rfl,E⟩;replace S:=S.call E;simp only [BZ];refine eZ (oh (cH (rA S.ok (S.own _ m1).2 (S.own _ m0).2 rfl rfl (S.ne01 (i:=1) (j:=0) rfl rfl (by decide))) fun o D h' ⟨a,e,f,F,G⟩=>⟨a,_,_,e,bV ?_⟩));have H:Gr h0 h':=(S.fr.trans f (fun i J=>.inr (by rcases J with rfl|rfl;exact m;exact p)):Mo NoM h0 h').gr;simp only [if_true];refine(aZ (by decide) (by simp only [aF,ah,seval];exact bz Tryz.t43.1 Tryz.t43.2.1 (F.load (o:=0) (n:=4) (lbt rfl)))).2 ?_;refine(aZ (by decide) (by simp only [aF,ah,seval];exact mj Tryz.t44.2.1 (G.load1 (o:=0) rfl))).2 ?_;exact bQ.2 ⟨H,_,_,_,_,_,rfl,bg,bg,bg,.inl ⟨.inl (by rw [t];decide),by rw [t],rfl,rfl,rfl,rfl⟩⟩
 by_cases c6:k<6;rotate_left
 . have t:gH I.g.nodes A B k s w=16:=if_pos (by omega);simp only [BZ,c0,c6,S.ld (b:=u) (o:=0) m2 rfl,seval];refine jt (ry S.ok) ?_;rintro _ D h4 ⟨rfl,E⟩;replace S:=S.call E;simp only [BZ];refine eZ (oh (cH (rA S.ok (S.own _ m1).2 (S.own _ m0).2 rfl rfl (S.ne01 (i:=1) (j:=0) rfl rfl (by decide))) fun o D h' ⟨a,e,f,F,G⟩=>⟨a,_,_,e,bV ?_⟩));have H:Gr h0 h':=(S.fr.trans f (fun i J=>.inr (by rcases J with rfl|rfl;exact m;exact p)):Mo NoM h0 h').gr;simp only [if_true];refine(aZ (by decide) (by simp only [aF,ah,seval];exact bz Tryz.t43.1 Tryz.t43.2.1 (F.load (o:=0) (n:=4) (lbt rfl)))).2 ?_;refine(aZ (by decide) (by simp only [aF,ah,seval];exact mj Tryz.t44.2.1 (G.load1 (o:=0) rfl))).2 ?_;exact bQ.2 ⟨H,_,_,_,_,_,rfl,bg,bg,bg,.inl ⟨.inl (by rw [t];decide),by rw [t],rfl,rfl,rfl,rfl⟩⟩
 simp only [BZ,c0,c6,S.ld (b:=u) (o:=0) m2 rfl,seval];refine ag (rE S.ok) ?_;intro h g;replace S:=S.call g;clear g;simp only [BZ,S.ld (b:=u) (o:=1) m2 rfl,seval];refine ag (ui S.ok (R.gr S.gr) (S.ld m3 rfl) (hn.gr S.gr) (s:=s)) ?_;intro h g;replace S:=S.call g;clear g;by_cases hs:0<=s/\s<(I.g.nodes:Int);rotate_left
 . have t:gH I.g.nodes A B k s w=17:=(by unfold gH;rw [if_neg (by omega),if_pos hs]);have d1:=decide_eq_false hs;simp only [BZ,d1,seval];refine jt (ry S.ok) ?_;rintro _ D h4 ⟨rfl,E⟩;replace S:=S.call E;simp only [BZ];refine eZ (oh (cH (rA S.ok (S.own _ m1).2 (S.own _ m0).2 rfl rfl (S.ne01 (i:=1) (j:=0) rfl rfl (by decide))) fun o D h' ⟨a,e,f,F,G⟩=>⟨a,_,_,e,bV ?_⟩));have H:Gr h0 h':=(S.fr.trans f (fun i J=>.inr (by rcases J with rfl|rfl;exact m;exact p)):Mo NoM h0 h').gr;simp only [if_true];refine(aZ (by decide) (by simp only [aF,ah,seval];exact bz Tryz.t43.1 Tryz.t43.2.1 (F.load (o:=0) (n:=4) (lbt rfl)))).2 ?_;refine(aZ (by decide) (by simp only [aF,ah,seval];exact mj Tryz.t44.2.1 (G.load1 (o:=0) rfl))).2 ?_;exact bQ.2 ⟨H,_,_,_,_,_,rfl,bg,bg,bg,.inl ⟨.inl (by rw [t];decide),by rw [t],rfl,rfl,rfl,rfl⟩⟩
 have d1:=decide_eq_true hs;simp only [BZ,d1,seval];refine ag (rE S.ok) ?_;intro h g;replace S:=S.call g;clear g;simp only [BZ,S.ld (b:=u) (o:=2) m2 rfl,seval];refine ag (ui S.ok (R.gr S.gr) (S.ld m3 rfl) (hn.gr S.gr) (s:=w)) ?_;intro h g;replace S:=S.call g;clear g;by_cases hw:0<=w/\w<(I.g.nodes:Int);rotate_left
 . have t:gH I.g.nodes A B k s w=18:=(by unfold gH;rw [if_neg (by omega),if_neg (by omega),if_pos hw]);have d2:=decide_eq_false hw;simp only [BZ,d2,seval];refine jt (ry S.ok) ?_;rintro _ D h4 ⟨rfl,E⟩;replace S:=S.call E;simp only [BZ];refine eZ (oh (cH (rA S.ok (S.own _ m1).2 (S.own _ m0).2 rfl rfl (S.ne01 (i:=1) (j:=0) rfl rfl (by decide))) fun o D h' ⟨a,e,f,F,G⟩=>⟨a,_,_,e,bV ?_⟩));have H:Gr h0 h':=(S.fr.trans f (fun i J=>.inr (by rcases J with rfl|rfl;exact m;exact p)):Mo NoM h0 h').gr;simp only [if_true];refine(aZ (by decide) (by simp only [aF,ah,seval];exact bz Tryz.t43.1 Tryz.t43.2.1 (F.load (o:=0) (n:=4) (lbt rfl)))).2 ?_;refine(aZ (by decide) (by simp only [aF,ah,seval];exact mj Tryz.t44.2.1 (G.load1 (o:=0) rfl))).2 ?_;exact bQ.2 ⟨H,_,_,_,_,_,rfl,bg,bg,bg,.inl ⟨.inl (by rw [t];decide),by rw [t],rfl,rfl,rfl,rfl⟩⟩
 have d2:=decide_eq_true hw;simp only [BZ,d2,seval];refine ag (rE S.ok) ?_;intro h g;replace S:=S.call g;clear g;obtain⟨l,rfl⟩: ∃n:Nat,k=n:=⟨k.toNat,by omega⟩;obtain⟨v,rfl⟩: ∃n:Nat,s=n:=⟨s.toNat,by omega⟩;obtain⟨z,rfl⟩: ∃n:Nat,w=n:=⟨w.toNat,by omega⟩;have V:l<6:=by omega
 have eA:gH I.g.nodes A B (l:Nat) (v:Nat) (z:Nat)=if((!tw l||A)&&(!cw l||B))=true then 0 else 19:=by unfold gH;rw [if_neg (by omega),if_neg (by omega),if_neg (by omega)];rfl
 simp only [BZ];refine ar (mK (ord:=[4,0,1,2,3,5]) rfl rfl (by simp only [iv,qx,gK,XB,XC,XJ,Xr,Xu,cond_true,cond_false,seval];exact rfl)) (q:=1) (ps:=[(1,3),(0,1)]) (by kernel_rfl) ?_;simp only [BZ,cls,seval];refine dg aB S ?_;clear S;intro h O S a1 W;simp only [BZ,cls,seval];have k3:=S.key_lt (b:=u) (by simp [keys]);refine cu (all_ok S.ok) ?_;have k7:=S.key_lt (b:=O) (by simp [keys]);rintro _ h ⟨g,X,Y,rfl,L,M,z1,z2⟩;have v3:=ao g k3;have v7:=ao g k7;replace S:=S.call g;simp only [BZ,cls,Ew V,S.ld (b:=u) (o:=0) m3 rfl,seval];refine cP (S.store (i:=0) rfl Tryz.t126.2.1 (by intro x e;cases e) rfl (by simp only [ae,dB,wayV,Xh,Xj,fw_fl.2.1,zO];rfl) (lbt rfl) ono) ?_;have al:=bD S.ok L;have an:=bD S.ok M;clear S;rintro h ⟨S,K⟩;simp only [dB,wayV]at S;simp only [LC,ae,lay,Xc,Xb,seval]at S;replace L:h.load X 0 1=some [.func (.func 45) #[] #[]]:=by have:=K.get X al (fun e=>by have e:X=O:=e;omega);rw [<-L];simp only [Hp.load,this]
 replace M:h.load Y 0 1=some [.func (.func 50) #[] #[]]:=by have:=K.get Y an (fun e=>by have e:Y=O:=e;omega);rw [<-M];simp only [Hp.load,this]
 clear K;simp only [BZ,seval];refine⟨by simp only [aO,aU,aK,aX,aN,ne_eq,not_false_eq_true,bj,bG,aW,aS,bI,ce,aF,zO,ah,cZ,<-W,aw v3,av v3,aw v7,av v7,seval],?_⟩;simp only [BZ,Xf,Xa,Xe,S.lds (b:=O) (o:=0) (n:=3) m0 (lbt rfl),S.ld (b:=b2) (o:=0) m4 rfl,seval];have hH:=hasB_ok (f:=fw X Y l) (x:=tw l) (y:=cw l) S.ok (R.gr S.gr) ai ak fw_fl;unfold wayV at hH;refine ag hH ?_;intro h g;replace L:=g.load L;replace M:=g.load M;replace S:=S.call g;clear g hH;by_cases hB:((!tw l||A)&&(!cw l||B))=true;rotate_left
 . have t:gH I.g.nodes A B (l:Nat) (v:Nat) (z:Nat)=19:=(by rw [eA,if_neg hB]);rw [eq_false_of_ne_true hB];simp only [BZ,seval];refine jt (ry S.ok) ?_;rintro _ D h4 ⟨rfl,E⟩;replace S:=S.call E;simp only [BZ];refine eZ (oh (cH (rA S.ok (S.own _ m2).2 (S.own _ m1).2 rfl rfl (S.ne01 (i:=2) (j:=1) rfl rfl (by decide))) fun o D h' ⟨a,e,f,F,G⟩=>⟨a,_,_,e,bV ?_⟩));have H:Gr h0 h':=(S.fr.trans f (fun i J=>.inr (by rcases J with rfl|rfl;exact m;exact p)):Mo NoM h0 h').gr;simp only [if_true];refine(aZ (by decide) (by simp only [aF,ah,seval];exact bz Tryz.t43.1 Tryz.t43.2.1 (F.load (o:=0) (n:=4) (lbt rfl)))).2 ?_;refine(aZ (by decide) (by simp only [aF,ah,seval];exact mj Tryz.t44.2.1 (G.load1 (o:=0) rfl))).2 ?_;exact bQ.2 ⟨H,_,_,_,_,_,rfl,bg,bg,bg,.inl ⟨.inl (by rw [t];decide),by rw [t],rfl,rfl,rfl,rfl⟩⟩
 rw [if_pos hB]at eA;rw [hB];simp only [BZ,seval];refine ag (rE S.ok) ?_;intro h g;replace L:=g.load L;replace M:=g.load M;replace S:=S.call g;clear g;by_cases Z:v=z
 . have c1:((v:Int)=(z:Int))=True:=eq_true (by omega);subst Z;simp only [BZ,Xf,Xa,Xe,S.ld (b:=u) (o:=1) m3 rfl,S.ld (b:=u) (o:=2) m3 rfl,S.lds (b:=N) (o:=0) (n:=4) m2 (lbt rfl),seval];refine aC (S.store (i:=2) rfl Tryz.t43.2.1 (by intro x e;cases e) rfl rfl (lbt rfl) ono) ?_;clear S;rintro h ⟨S,K⟩;simp only [LC,ae,lay,Xc,Xb,seval]at S;simp only [BZ,seval];refine aC (aE S (i:=1) rfl Tryz.t44.2.2.1 bg (Xg (lbt rfl)) ono) ?_;clear S;rintro h ⟨S,K⟩;simp only [LC,ae,lay,Xc,Xb,seval]at S;simp only [BZ];refine cS (un_fn (cH (ask1_ok S.ok) fun _ _ h' ⟨a,e,g⟩=>⟨a,e,bV ⟨rfl,?_⟩⟩));replace S:=S.call g;refine(aZ (by decide) (by simp only [aF,ah,seval];exact bz Tryz.t43.1 Tryz.t43.2.1 (S.lds (b:=N) (o:=0) (n:=4) m2 (lbt rfl)))).2 ?_;refine(aZ (by decide) (by simp only [aF,ah,seval];exact mj Tryz.t44.2.1 (S.ld m1 rfl))).2 ?_;exact bQ.2 ⟨S.gr,0,0,_,_,_,rfl,bg,bg,bg,.inl ⟨.inr (by trivial),eA.symm,rfl,rfl,rfl,rfl⟩⟩
 . have c1:((v:Int)=(z:Int))=False:=eq_false (by omega);simp only [BZ,c1,Xf,Xa,Xe,S.ld (b:=u) (o:=1) m3 rfl,S.ld (b:=u) (o:=2) m3 rfl,S.ld (b:=O) (o:=2) m0 rfl,S.ld (b:=b2) (o:=0) m4 rfl,S.lds (b:=u) (o:=0) (n:=4) m3 (lbt rfl),seval];have kk: ∀c∈[O,b5,N,u,b2],c<_:=fun c hc=>S.key_lt (by simpa [keys]using hc);obtain⟨ax,ay⟩:(tw l=true->A=true)/\(cw l=true->B=true):=(by revert hB;cases tw l<;>cases cw l<;>cases A<;>cases B<;>simp);obtain⟨g,x,c,ef,hr⟩:=Q l v z rfl rfl rfl V (by omega) (by omega) ax ay Z _ X Y S.gr L M;simp only [BZ,ef];refine step_ret hr ?_;rintro _ h ⟨g,c,d,vA,U,vE,rfl,nV,o⟩;obtain⟨fA,fB,fE⟩:=pm.fl o;replace S:=S.call g;simp only [BZ,nX,seval];refine aC (S.store (i:=2) rfl Tryz.t43.2.1 (by intro x e;cases e) rfl (by simp only [ae,Xh,Xj,fA.2.1,fB.2.1,zO];rfl) (lbt rfl) ono) ?_;clear S;rintro h ⟨S,K⟩;simp only [LC,ae,lay,Xc,Xb,seval]at S;replace o:=pm.mo o K (fun x hx e=>by have e:x=N:=e;have:=nV x hx;have:=kk N m2;omega);simp only [BZ,seval];refine aC (aE S (i:=1) rfl Tryz.t44.2.2.1 fE (Xg (lbt rfl)) ono) ?_;clear S;rintro h ⟨S,K⟩;simp only [LC,ae,lay,Xc,Xb,seval]at S;replace o:=pm.mo o K (fun x hx e=>by have e:x=b5:=e;have:=nV x hx;have:=kk b5 m1;omega);simp only [BZ];refine cS (un_fn (cH (ask1_ok S.ok) fun _ _ h' ⟨a,e,g⟩=>⟨a,e,bV ⟨rfl,?_⟩⟩));replace S:=S.call g;refine(aZ (by decide) (by simp only [aF,ah,seval];exact bz Tryz.t43.1 Tryz.t43.2.1 (S.lds (b:=N) (o:=0) (n:=4) m2 (lbt rfl)))).2 ?_;refine(aZ (by decide) (by simp only [aF,ah,seval];exact mj Tryz.t44.2.1 (S.ld m1 rfl))).2 ?_;exact bQ.2 ⟨S.gr,_,_,_,_,_,rfl,fA,fB,fE,.inr ⟨eA,by omega,pm.mo o g.fr (fun _ _ h=>h)⟩⟩
def tG(h:Hp)(D:Nat)(ids a:List Nat)(c d:Int)(vA b:Value):Prop:=
 (FAR<=D/\c=20/\d=0/\vA=.slice none 0 0/\b=.slice none 0 0)\/(D<FAR/\c=0/\d=(D:Nat)/\aD h 1 bO vA ids/\aD h 1 bO b a)
theorem tG.fl{h:Hp}{D:Nat}{ids a:List Nat}{c d:Int}{vA b:Value}(t:tG h D ids a c d vA b):Fl vA/\Fl b:=by
 rcases t with⟨_,_,_,rfl,rfl⟩|⟨_,_,_,x,y⟩
 . exact⟨bg,bg⟩
 . exact⟨x.fl,y.fl⟩
theorem tG.mo{M:Nat->Prop}{h h':Hp}{D:Nat}{ids e:List Nat}{c d:Int}{vA f:Value}(t:tG h D ids e c d vA f)(g:Mo M h h')(i: ∀x,(au vA x\/au f x)-> ¬M x):tG h' D ids e c d vA f:=
 t.imp (fun h=>h) fun⟨a,b,c,x,y⟩=>⟨a,b,c,x.mo g fun z h=>i z (.inl h),y.mo g fun z h=>i z (.inr h)⟩
def oE(γ:Gra)(als:List Bool)(pis:List Int)(a:List Nat)(s w:Nat)(h:Hp)(c d:Int)(vA e vE:Value):Prop:=
 ∃b,Ends γ.arcs (alF als) (piF pis) w (gb (piF pis) s) b/\aD h 4 iZ vE b.ev/\tG h b.dist b.arcs a c d vA e
def AnsD(γ:Gra)(pis:List Int)(a:List Nat)(s w:Nat)(h:Hp)(c d:Int)(vA e vE:Value):Prop:=
 ∃b,jG γ.arcs (fun _=>true) (fun v=>pis.getD v 0) (jq (fun v=>pis.getD v 0) s w) b/\aD h 4 jD vE b.ev/\tG h b.dist (lZ b) a c d vA e
theorem ansS_pm{als:List Bool}{a:List Nat}:Pm (oE γ als pis a s w):=
 ⟨fun⟨_,_,e,t⟩=>⟨t.fl.1,t.fl.2,e.fl⟩,fun⟨c,x,e,t⟩ g b=>⟨c,x,e.mo g (fun z h=>b z (.inr (.inr h))),t.mo g fun z h=>b z (h.elim .inl fun h=>.inr (.inl h))⟩⟩
theorem ansD_pm{a:List Nat}:Pm (AnsD γ pis a s w):=
 ⟨fun⟨_,_,e,t⟩=>⟨t.fl.1,t.fl.2,e.fl⟩,fun⟨c,x,e,t⟩ g b=>⟨c,x,e.mo g (fun z h=>b z (.inr (.inr h))),t.mo g fun z h=>b z (h.elim .inl fun h=>.inr (.inl h))⟩⟩
def bestP(γ:Gra)(l:List Int)(R Q:Nat->List Int)(s w:Nat)(a:Int):List Int:=(Xt γ.nodes).map fun(v:Nat)=>cE γ.nodes l.length R Q v w ((iq γ.nodes l.length R Q s w a).map fun(x:Nat)=>(x:Int))
def onL(γ:Gra)(a:Nat->Nat)(r:Nat):List Bool:=(Xt γ.arcs.length).map (iD a ((γ.arcs.length+7)/8) r)
def nj(γ:Gra)(l:List Int)(R Q:Nat->List Int)(b c:Nat->Nat)(k:Nat)(s w:Nat)(a:Int):Hp->Int->Int->Value->Value->Value->Prop:=
 match k with
 |0=>oE γ [] [] [] s w|1=>AnsD γ [] [] s w|2=>oE γ [] (bestP γ l R Q s w a) (iq γ.nodes l.length R Q s w a) s w|3=>AnsD γ (twL γ.nodes l R Q (natI (iq γ.nodes l.length R Q s w a)) s w) (iq γ.nodes l.length R Q s w a) s w|4=>oE γ (onL γ c (b w)) [] [] s w|_=>oE γ (onL γ c (b w)) (bestP γ l R Q s w a) (iq γ.nodes l.length R Q s w a) s w
theorem pA{b c:Nat->Nat}{k:Nat}:Pm (nj γ l R Q b c k s w a):=by
 unfold nj
 split<;>first|exact ansS_pm|exact ansD_pm
structure ImP(h:Hp)(b:Nat)(γ:Gra)(tb cb:Bool)(l:List Int)(R Q:Nat->List Int)(cf Bt:Nat->Nat)(Mc:Nat):Prop where
 good:Good γ
 ex: ∃bp nb pt pc pf,Row h b [ptrTo bp,pt,pc,pf] 1/\aQ h nb (ptrTo bp) γ/\(tb=true-> ∃bt nt,pt=ptrTo bt/\TabAt h nt pt γ.nodes l R Q)/\(tb=false->pt=.pointer none)/\
  (cb=true-> ∃mb ck fp fb m,pc=ptrTo ck/\pf=ptrTo fp/\ia h mb pc γ.nodes m cf/\gY m+1=((Mc:Nat):Int)/\iB h fp fb Mc γ.arcs.length ((γ.arcs.length+7)/8) Bt)/\(cb=false->pc=.pointer none/\pf=.pointer none)
 tab:tb=true->1<=l.length/\fm γ.nodes l/\(∀i,i<l.length->(R i).length=γ.nodes)/\ ∀i,i<l.length->(Q i).length=γ.nodes
 no:tb=false->l=[]
 l4:l.length<=4
 cel:Mc<=100
theorem ImP.gr{h h':Hp}{b:Nat}{γ:Gra}{d f:Bool}{l:List Int}{R Q:Nat->List Int}{i j:Nat->Nat}{k:Nat}(n:ImP h b γ d f l R Q i j k)(g:Gr h h'):ImP h' b γ d f l R Q i j k:=by
 obtain⟨a,⟨o,p,q,r,s,u,v,t1,t2,w,y⟩,x⟩:=n;refine⟨a,⟨o,p,q,r,s,u.gr g,v.gr g,fun e=>?_,t2,fun e=>?_,y⟩, ‹_›, ‹_›, ‹_›, ‹_›⟩
 . obtain⟨z,A,e,t⟩:=t1 e;exact⟨z,A,e,t.gr g⟩
 . obtain⟨B,C,D,E,m,F,G,c,H,I⟩:=w e;exact⟨B,C,D,E,m,F,G,c.gr g,H,I.gr g⟩
theorem Ai{T:List (List Int)}{n:Nat}(a:T.length=n)(h: ∀r∈T,r.length=N/\ ∀x∈r,0<=x/\x<=72057594037927936): ∀i,i<n->(kK T i).length=N:=by
 intro i b;have e:kK T i=T[i]'(by omega):=by unfold kK;rw [Xd,Xi (by omega),XE]
 rw [e];exact(h _ (Xo _)).1
theorem Im32.opened{I:Img}{k v:Prop}(M:Im32 h b I k v): ∃l R Q c d a,ImP h b I.g I.T.isSome I.C.isSome l R Q c d a/\(k->R=toR I.g l/\Q=frR I.g l)/\(v->I.C.isSome=true->OkB I.g c ((I.g.arcs.length+7)/8) a 0 d):=by
 obtain⟨w,N,n,p,x,O,R,P,q,r⟩:=M;obtain⟨l,g,j,t1,t2,t3,t4,t5,t6⟩: ∃l g j,(I.T.isSome=true-> ∃s t,n=ptrTo s/\TabAt h t n I.g.nodes l g j)/\(I.T.isSome=false->n=.pointer none)/\(I.T.isSome=true->1<=l.length/\fm I.g.nodes l/\(∀i,i<l.length->(g i).length=I.g.nodes)/\ ∀i,i<l.length->(j i).length=I.g.nodes)/\(I.T.isSome=false->l=[])/\l.length<=4/\(k->g=toR I.g l/\j=frR I.g l):=by
  cases H:I.T with
  | none=>
    rw [H]at q;exact⟨[],toR I.g [],frR I.g [],fun e=>(by cases e),fun _=>q,fun e=>(by cases e),fun _=>rfl,Xk _,fun _=>⟨rfl,rfl⟩⟩
  | some T=>
    rw [H]at q;obtain⟨⟨t,_,y⟩,f,J,K,own⟩:=q;obtain⟨s,_,_,_,e,_⟩:=id y.ex;by_cases o:k
    . have own:=own o;exact⟨T.l,toR I.g T.l,frR I.g T.l,fun _=>⟨s,t,e,y.congr (fun i z=>(own i z).1) (fun i z=>(own i z).2)⟩,fun e=>(by cases e),fun _=>⟨f.l1,K,fun i _=>toR_len,fun i _=>frR_len⟩,fun e=>(by cases e),J,fun _=>⟨rfl,rfl⟩⟩
    . exact⟨T.l,kK T.to,kK T.fr,fun _=>⟨s,t,e,y⟩,fun e=>(by cases e),fun _=>⟨f.l1,K,Ai f.to f.rTo,Ai f.fr f.rFr⟩,fun e=>(by cases e),J,fun h=>absurd h o⟩
 obtain⟨c,d,a,S,U,V,W⟩: ∃c d a,(I.C.isSome=true-> ∃A B u D m,p=ptrTo B/\x=ptrTo u/\ia h A p I.g.nodes m c/\gY m+1=((a:Nat):Int)/\iB h u D a I.g.arcs.length ((I.g.arcs.length+7)/8) d)/\(I.C.isSome=false->p=.pointer none/\x=.pointer none)/\a<=100/\(v->I.C.isSome=true->OkB I.g c ((I.g.arcs.length+7)/8) a 0 d):=by
  cases L:I.C with
  | none=>
    rw [L]at r;exact⟨fun _=>0,fun _=>0,0,fun e=>(by cases e),fun _=>r,Xk _,fun _ e=>(by cases e)⟩
  | some C=>
    rw [L]at r;obtain⟨m',F⟩:=C;obtain⟨_,A,c,B,u,D,a,d,X,Y,E,G,Z,bm,oB⟩:=r;exact⟨c,d,a,fun _=>⟨A,B,u,D,_,X,Y,E,G,bm⟩,fun e=>(by cases e),Z,fun o _=>oB o⟩
 exact⟨l,g,j,c,d,a,⟨w,⟨N,O,n,p,x,R,P,t1,t2,S,U⟩,t3,t4,t5,V⟩,t6,W⟩
theorem AH{f c:Nat}{m:List Int}{d:Nat->Nat}(a:ia h0 f p N m d)(g:gY m+1=((c:Nat):Int)): ∀v,v<N->d v<c:=fun v h=>by
 have i:=a.len;have j:=a.val v h;have b:v<m.length:=by omega
 have e:m.getD v 0=m[v]:=by rw [Xd,Xi b,XE]
 have:=lmax_ge (Xo b);omega
section
variable{h0:Hp}{b b1 b2:Nat}{γ:Gra}{tb cb:Bool}{l:List Int}{R Q:Nat->List Int}{cf Bt:Nat->Nat}{Mc:Nat}
theorem altK_ok{j n nt:Nat}{m:Value}(o:OZ h0)(e:Good γ)(p:aQ h0 n (ptrTo j) γ)(T:TabAt h0 nt k γ.nodes l R Q)(q: ∀i,i<l.length->(R i).length=γ.nodes)(u: ∀i,i<l.length->(Q i).length=γ.nodes)(M:1<=l.length)(N:l.length<=4)(v:Fl m)(O:s<γ.nodes)(P:w<γ.nodes)(x:s≠w):
 Ret zM 11 [ptrTo j,k,.agg ⟨[m,.int .i64 (s:Nat),.int .i64 (w:Nat),.int .i64 a]⟩] h0 (oY (nj γ l R Q cf Bt 2 s w a) h0):=by
 have y:mC γ.nodes γ.nodes l.length (s:Int) (w:Int)=0:=by unfold mC;rw [if_neg (by omega),if_neg (by omega),if_pos ⟨by omega,rfl⟩]
 refine(DJ (f:=s) (t:=w) (a:=a) o e p (.inl ⟨_,T,q,u⟩) (by omega) v).mono ?_;rintro r S ⟨g,c,d,z,A,B,rfl,C,⟨h,_⟩|⟨_,D,E,F,G,U,V,H,I,_,J,K,L⟩⟩
 . rw [y]at h;rcases h with h|h
   . exact absurd rfl h
   . omega
 . obtain rfl:E=s:=(by omega);obtain rfl:F=w:=(by omega);exact⟨g,c,d,z,A,B,rfl,C,G,J,K,L⟩
theorem twinK_ok{k o nt:Nat}{m n:Value}(p:OZ h0)(f:Good γ)(q:aQ h0 o (ptrTo k) γ)(T:TabAt h0 nt m γ.nodes l R Q)(t: ∀i,i<l.length->(R i).length=γ.nodes)(u: ∀i,i<l.length->(Q i).length=γ.nodes)(v:1<=l.length)(H:l.length<=4)(x:Fl n)(y:s<γ.nodes)(z:w<γ.nodes)(h:s≠w):
 Ret zM 13 [ptrTo k,m,.agg ⟨[n,.int .i64 (s:Nat),.int .i64 (w:Nat),.int .i64 a]⟩] h0 (oY (nj γ l R Q cf Bt 3 s w a) h0):=by
 refine(Ea p f q T t u (by omega) v x y z (a:=a)).mono ?_;rintro r I ⟨g,c,d,A,B,C,rfl,D,j⟩;rcases j with⟨e,_⟩|⟨_,E,F,G,j⟩
 . exact absurd e h
 . exact⟨g,c,d,A,B,C,rfl,D,E,F,G,j⟩
theorem BL{L q:Nat}{x:Value}(M:OZ h0)(j:Good γ)(y:aQ h0 L (ptrTo v) γ)(T:TabQ h0 x q l R Q)(Z:l.length<=4){z A O:Nat}{m:List Int}(e:ia h0 N (ptrTo z) γ.nodes m cf)(n:gY m+1=((Mc:Nat):Int))(P:Mc<=100)(B:iB h0 A O Mc γ.arcs.length ((γ.arcs.length+7)/8) Bt)
 {k:Nat} (C:k=4\/k=5) (S:k=5->q=γ.nodes/\1<=l.length)   (hs:s<γ.nodes) (hw:w<γ.nodes) (U:s≠w):
 Ret zM 14 [ptrTo v,x,.agg ⟨[ptrTo z,ptrTo A]⟩,.agg ⟨[.int .i64 (k:Nat),.int .i64 (s:Nat),.int .i64 (w:Nat),.int .i64 a]⟩] h0 (oY (nj γ l R Q cf Bt k s w a) h0):=by
 have o:((k:Nat):Int)=4\/((k:Nat):Int)=5:=by omega
 refine(D2 (f:=s) (t:=w) (a:=a) (way:=(k:Nat)) M j y T (by omega) bF bF (Et j y e n B) (fun _=>⟨e,rfl,B,P,rfl,AH e n⟩)).mono ?_;rintro r h' ⟨g,c,d,D,E,F,rfl,G,i⟩;have p:kY true (k:Nat) l.length q γ.nodes=true:=by
  unfold kY;rcases C with rfl|rfl
  . rfl
  . obtain⟨u,H⟩:=S rfl;simp [u];omega
 have u:decide (((k:Nat):Int)=4\/((k:Nat):Int)=5)=true:=decide_eq_true o;have H:decide (0<=(s:Int)/\(s:Int)<(γ.nodes:Int))=true:=decide_eq_true (by omega);have V:decide (0<=(w:Int)/\(w:Int)<(γ.nodes:Int))=true:=decide_eq_true (by omega);rw [p,u,H,V]at i;have W:tS true true true true=0:=rfl;rw [W]at i;rcases i with⟨h,_⟩|⟨_,X,Y,I,es,ew,_,_,_,J,K,i⟩
 . rcases h with h|h
   . exact absurd rfl h
   . omega
 . obtain rfl:X=s:=(by omega);obtain rfl:Y=w:=(by omega);rcases C with rfl|rfl
   . exact⟨g,c,d,D,E,F,rfl,G,I,J,K,i⟩
   . exact⟨g,c,d,D,E,F,rfl,G,I,J,K,i⟩
theorem wayK_ok(f:ImP h0 b γ tb cb l R Q cf Bt Mc){k:Nat}(M:k<6)(q:s<γ.nodes)(t:w<γ.nodes)(B:tw k=true->tb=true)(V:cw k=true->cb=true)(i:s≠w)(u:OZ h0)(y1:h0.load b1 0 1=some [.func (.func 45) #[] #[]])(y2:h0.load b2 0 1=some [.func (.func 50) #[] #[]]):
 ∃g x c,fw b1 b2 k=.func (.func g) x c/\Ret zM g (x.toList++[ptrTo b,.agg ⟨[.int .i64 (k:Nat),.int .i64 (s:Nat),.int .i64 (w:Nat),.int .i64 a]⟩]++c.toList) h0 (oY (nj γ l R Q cf Bt k s w a) h0):=by
 have j:=f.good;obtain⟨bp,nb,W,X,Y,y,z,t1,t2,Z,c2⟩:=f.ex;have H:Fl W:=by
  cases tb with
  |true=>obtain⟨_,_,rfl,_⟩:=t1 rfl;exact bF
  |false=>rw [t2 rfl];exact bF
 have N:Fl X/\Fl Y:=by
  cases cb with
  |true=>obtain⟨_,_,_,_,_,rfl,rfl,_⟩:=Z rfl;exact⟨bF,bF⟩
  |false=>rw [(c2 rfl).1,(c2 rfl).2];exact⟨bF,bF⟩
 obtain⟨I,J⟩:=N;have n: ∀{k:Nat},k=4\/k=5->(k=5->tb=true)->cb=true-> ∀h,Gr h0 h->Ret zM 14 [ptrTo bp,W,.agg ⟨[X,Y]⟩,.agg ⟨[.int .i64 (k:Nat),.int .i64 (s:Nat),.int .i64 (w:Nat),.int .i64 a]⟩] h (oY (nj γ l R Q cf Bt k s w a) h):=by
  intro k M h5 O h g;obtain⟨mb,ck,fp,fb,m,rfl,rfl,C,D,bm⟩:=Z O;cases d:tb with
  | true=>
    obtain⟨_,_,E,F⟩:=f.tab d;obtain⟨bt,nt,rfl,T⟩:=t1 d;exact BL g.ok j (z.gr g) (.inl ⟨_,T.gr g,E,F⟩) f.l4 (C.gr g) D f.cel (bm.gr g) M (fun _=>⟨rfl,(f.tab d).1⟩) q t i
  | false=>
    exact BL g.ok j (z.gr g) (.inr ⟨t2 d,rfl,f.no d⟩) f.l4 (C.gr g) D f.cel (bm.gr g) M (fun e=>by rw [h5 e]at d;cases d) q t i
 have:k=0\/k=1\/k=2\/k=3\/k=4\/k=5:=by omega
 rcases this with rfl|rfl|rfl|rfl|rfl|rfl
 . refine⟨_,_,_,rfl,uP pA u y bF y1 aJ aJ fun h g=>?_⟩;refine(tt g.ok j (z.gr g) q t (vAl:=.slice none 0 0) (vPi:=.slice none 0 0) (als:=[]) (pis:=[]) (.inl ⟨rfl,rfl⟩) (.inl rfl) (.inl ⟨rfl,rfl⟩) (.inl rfl)).mono ?_;rintro r P ⟨g,v,G,rfl,⟨K,L,rfl,gA,gE,n1,n2⟩,o⟩;have A:aD P 1 bO K G.arcs:=gA.sl rfl (fun _=>rfl) (by decide);have p:aD P 4 iZ L G.ev:=gE.sl rfl re (by decide);rcases o with⟨e,_⟩|⟨_,o⟩
   . exact absurd e i
   exact⟨g,G.dist,K,L,rfl,A.fl,p.fl,fun x h=>h.elim (fun h=>(n1 x h).1) (n2 x),fun e=>⟨G,o,p,.inr ⟨e,rfl,rfl,A,.inl ⟨rfl,rfl⟩⟩⟩,fun e=>⟨G,o,p,.inl ⟨e,rfl,rfl,rfl,rfl⟩⟩⟩
 . refine⟨_,_,_,rfl,uP pA u y bF y2 aJ aJ fun h g=>?_⟩;refine(yt g.ok j (z.gr g) (vPi:=.slice none 0 0) (pis:=[]) (.inl ⟨rfl,rfl⟩) (.inr ⟨rfl,rfl⟩) q t i).mono ?_;rintro r P ⟨g,K,L,S,rfl,o,p,A,nV⟩;refine⟨g,S.dist,K,L,rfl,A.fl,p.fl,nV,fun e=>⟨S,o,p,.inr ⟨e,rfl,rfl,?_,.inl ⟨rfl,rfl⟩⟩⟩,fun e=>⟨S,o,p,.inl ⟨e,rfl,rfl,rfl,rfl⟩⟩⟩;rw [if_pos e]at A;exact A
 . obtain⟨U,_,E,F⟩:=f.tab (B rfl);obtain⟨bt,nt,rfl,T⟩:=t1 (B rfl);exact⟨_,_,_,rfl,DY pA u y bF H I J aJ aJ aJ aJ fun h g=>altK_ok g.ok j (z.gr g) (T.gr g) E F U f.l4 aJ q t i⟩
 . obtain⟨U,_,E,F⟩:=f.tab (B rfl);obtain⟨bt,nt,rfl,T⟩:=t1 (B rfl);exact⟨_,_,_,rfl,C9 pA u y bF H I J aJ aJ aJ aJ fun h g=>twinK_ok g.ok j (z.gr g) (T.gr g) E F U f.l4 aJ q t i⟩
 . exact⟨_,_,_,rfl,wh pA u y bF H I J aJ aJ aJ aJ fun h g=>n (.inl rfl) (fun e=>by cases e) (V rfl) h g⟩
 . exact⟨_,_,_,rfl,wh pA u y bF H I J aJ aJ aJ aJ fun h g=>n (.inr rfl) (fun _=>B rfl) (V rfl) h g⟩
theorem askK_ok(f:OZ h0){I:Img}{i j:Prop}(m:Im32 h0 b I i j)(n:ImP h0 b I.g I.T.isSome I.C.isSome l R Q cf Bt Mc){k s w:Int}:
 Ret zM 15 [ptrTo b,.agg ⟨[.int .i64 k,.int .i64 s,.int .i64 w,.int .i64 a]⟩] h0 fun r h'=>Gr h0 h'/\ ∃c d vA e vE,r=.tuple #[nX c d vA e,vE]/\Fl vA/\Fl e/\Fl vE/\
  (((gH I.g.nodes I.T.isSome I.C.isSome k s w≠0\/s=w)/\c=gH I.g.nodes I.T.isSome I.C.isSome k s w/\d=0/\vA=.slice none 0 0/\e=.slice none 0 0/\vE=.slice none 0 0)\/
   (gH I.g.nodes I.T.isSome I.C.isSome k s w=0/\s≠w/\nj I.g l R Q cf Bt k.toNat s.toNat w.toNat a h' c d vA e vE)):=
 askAny_ok pA f m fun C D E o p q t u v x y z h b1 b2 g A B=>by subst o p q;exact wayK_ok (n.gr g) t u v x y z g.ok A B
end
def keyE(e:Ev2):Value:=.agg ⟨[.int .i64 (e.kind:Nat),.int .i64 (jP e.side:Nat),.int .i64 (e.id:Nat)]⟩
def sameK(a b:Ev2):Prop:=a.kind=b.kind/\a.side=b.side/\a.id=b.id
instance (a b:Ev2):Decidable (sameK a b):=by unfold sameK;infer_instance
section
variable{γ:Gra}{l:List Int}{pi:Nat->Int}
theorem twin_of(o: ∀{s:Nat},s<γ.nodes-> ∀v,IsD (seen γ.arcs Arc.t Arc.s) s v (dOf (seen γ.arcs Arc.t Arc.s) s v))(p: ∀{s:Nat},s<γ.nodes-> ∀v,IsD (seen γ.arcs Arc.s Arc.t) s v (dOf (seen γ.arcs Arc.s Arc.t) s v))(q:fm γ.nodes l)(c:Good γ)
  (r:s<γ.nodes) (f:w<γ.nodes)  (al:Nat->Bool) (b: ∀v,v<γ.nodes->pi v=twP γ l act s w v):oO γ.arcs al pi/\ ∀v x y,Wk γ.arcs s v x->Wk γ.arcs v w y->OpB pi v:=by
 have u: ∀v x,Wk γ.arcs v w x->v=w\/v<γ.nodes:=fun v x z=>tJ (fun a g=>(c.arcs a g).1) z;refine⟨fun i j k=>?_,fun v x y e d=>?_⟩
 . have g:γ.arcs.getD i default∈γ.arcs:=(by rw [Xd,Xi j];exact Xo j);obtain⟨e,d,_⟩:=c.arcs _ g;have A:=AR o p q c r f act al i j;obtain⟨B,m,n⟩:=k;unfold OpB at m n;rw [b _ e]at m;rw [b _ d]at n;have:=A ⟨B,m,n⟩;rw [b _ e,b _ d];exact this
 . have t:v<γ.nodes:=(u v y d).elim (fun h=>h▸f) (fun h=>h);have:=Cd o p q r f t act e d;unfold OpB at this⊢;rw [b _ t];exact this
theorem C0(q: ∀{s:Nat},s<γ.nodes-> ∀v,IsD (seen γ.arcs Arc.t Arc.s) s v (dOf (seen γ.arcs Arc.t Arc.s) s v))(n: ∀{s:Nat},s<γ.nodes-> ∀v,IsD (seen γ.arcs Arc.s Arc.t) s v (dOf (seen γ.arcs Arc.s Arc.t) s v))(r:fm γ.nodes l)(c:Good γ)
  (f:s<γ.nodes) (g:w<γ.nodes)   (h: ∀i,al i=true) (j: ∀v,v<γ.nodes->pi v=twP γ l act s w v)  (o:jG γ.arcs al pi (jq pi s w) τ):
 IsD γ.arcs s w τ.dist/\(τ.dist<FAR->iL γ.arcs s (lZ τ) w τ.dist/\(lZ τ).length<=24):=by
 have p: ∀a∈γ.arcs,a.s<γ.nodes/\a.t<γ.nodes/\a.w<=bR:=fun a t=>c.arcs a t;obtain⟨u,k⟩:=twin_of q n r c f g al j;have m:=n f w;rw [iI]at m;have e:=BO c.n2 p u f g o m (fun x d=>d.mono (fun _=>hB_sub)) (fun x d=>⟨k s 0 x .nil d,k w x 0 d .nil,wk_hB h k d ⟨0,.nil⟩⟩);refine⟨by rw [e];exact m,fun y=>?_⟩;obtain⟨a,b⟩:=tW (xZ c.n2 p o (qS c.n2 f g)) y;exact⟨a,by have:=c.n2;omega⟩
theorem twL_at(a:v<γ.nodes):((Xt γ.nodes).map fun(v:Nat)=>pR (cE γ.nodes l.length (toR γ l) (frR γ l) v w act) (cE γ.nodes l.length (toR γ l) (frR γ l) s v act)).getD v 0=twP γ l act s w v:=by simp [Xd,a,twP]
end
theorem twin_any(b:Good γ)(d:s<γ.nodes)(e:w<γ.nodes)(f:jG γ.arcs (fun _=>true) pi (jq pi s w) τ)(g:τ.dist<FAR):iL γ.arcs s (lZ τ) w τ.dist/\(lZ τ).length<=1000:=by have c:=b.n2;have h: ∀a∈γ.arcs,a.s<γ.nodes/\a.t<γ.nodes/\a.w<=bR:=b.arcs;obtain⟨i,j⟩:=tW (xZ c h f (qS c d e)) g;exact⟨i,by omega⟩
section
variable{γ:Gra}{l:List Int}{R Q:Nat->List Int}{cf Bt:Nat->Nat}{k s w:Nat}{a c d:Int}{h:Hp}{vA vB vE:Value}
def WalkA(h:Hp)(γ:Gra)(s w:Nat)(c d:Int)(vA vB:Value):Prop:=
 (c=20/\d=0/\vA=.slice none 0 0/\vB=.slice none 0 0)\/(c=0/\ ∃(D:Nat) (b:List Nat),d=(D:Nat)/\D<FAR/\aD h 1 bO vA b/\Fl vB/\b.length<=1000/\iL γ.arcs s b w D)
theorem oE.walkA{als:List Bool}{b:List Nat}(f:Good γ)(i:s<γ.nodes)(g:s≠w)(o:oE γ als pis b s w h c d vA vB vE):WalkA h γ s w c d vA vB:=by
 obtain⟨t,j,_,n⟩:=o;rcases n with⟨_,e⟩|⟨m,rfl,rfl,p,q⟩
 . exact .inl e
 . have u:=found_len f i (.inr ⟨g,j⟩);exact .inr ⟨rfl,_,_,rfl,m,p,q.fl,by omega,ul (fun a r=>(f.arcs a r).2) j (pG i) m⟩
theorem AnsD.walkA{b:List Nat}(f:Good γ)(i:s<γ.nodes)(j:w<γ.nodes)(o:AnsD γ pis b s w h c d vA vB vE):WalkA h γ s w c d vA vB:=by
 obtain⟨u,m,_,n⟩:=o;rcases n with⟨_,e⟩|⟨g,rfl,rfl,p,q⟩
 . exact .inl e
 . obtain⟨r,t⟩:=twin_any f i j m g;exact .inr ⟨rfl,_,_,rfl,g,p,q.fl,t,r⟩
theorem nj.walkA(b:Good γ)(f:s<γ.nodes)(g:w<γ.nodes)(e:s≠w)(o:nj γ l R Q cf Bt k s w a h c d vA vB vE):WalkA h γ s w c d vA vB:=by
 unfold nj at o
 split at o<;>first|exact oE.walkA b f e o|exact AnsD.walkA b f g o
theorem twP_nil:(fun v=>([]:List Int).getD v 0)=twP γ [] [] s w:=by have f:=c9;funext v;rw [yL];have e: ∀a b:Nat,cE γ.nodes ([]:List Int).length (toR γ []) (frR γ []) a b []=0:=fun _ _=>rfl;rw [e,e,if_pos (by omega)];simp
theorem oE.dist{als:List Bool}{pis:List Int}{b:List Nat}{D:Nat}(o:oE γ als pis b s w h c d vA vB vE)(f: ∀e,Ends γ.arcs (alF als) (piF pis) w (gb (piF pis) s) e->e.dist=D):(FAR<=D/\c=20)\/(D<FAR/\c=0/\d=(D:Nat)):=by obtain⟨e,g,_,i⟩:=o;have:=f e g;rw [<-this];exact i.imp (fun x=>⟨x.1,x.2.1⟩) fun x=>⟨x.1,x.2.1,x.2.2.1⟩
theorem AnsD.dist{pis:List Int}{b:List Nat}{D:Nat}(o:AnsD γ pis b s w h c d vA vB vE)(e: ∀τ,jG γ.arcs (fun _=>true) (fun v=>pis.getD v 0) (jq (fun v=>pis.getD v 0) s w) τ->τ.dist=D):(FAR<=D/\c=20)\/(D<FAR/\c=0/\d=(D:Nat)):=by obtain⟨f,g,_,i⟩:=o;have:=e f g;rw [<-this];exact i.imp (fun x=>⟨x.1,x.2.1⟩) fun x=>⟨x.1,x.2.1,x.2.2.1⟩
theorem nj.own(n: ∀{s:Nat},s<γ.nodes-> ∀v,IsD (seen γ.arcs Arc.t Arc.s) s v (dOf (seen γ.arcs Arc.t Arc.s) s v))(g: ∀{s:Nat},s<γ.nodes-> ∀v,IsD (seen γ.arcs Arc.s Arc.t) s v (dOf (seen γ.arcs Arc.s Arc.t) s v))(b:Good γ)(p:s<γ.nodes)(j:w<γ.nodes)(r:s≠w)(N:k<6)
 (u:tw k=true->fm γ.nodes l/\R=toR γ l/\Q=frR γ l) {D:Nat} (F:cw k=true->(∀v,v<γ.nodes->cf v<D)/\OkB γ cf ((γ.arcs.length+7)/8) D 0 Bt) (o:nj γ l R Q cf Bt k s w a h c d vA vB vE):(FAR<=dOf γ.arcs s w/\c=20)\/(dOf γ.arcs s w<FAR/\c=0/\d=(dOf γ.arcs s w:Nat)):=by
 have q:=g p w;rw [iI]at q;have G:=c9;have E:=b.many;have t:cw k=true-> ∀i,i<γ.arcs.length->(alF (onL γ Bt (cf w)) i=true↔i∈dR γ cf (cf w)):=fun e i H=>by obtain⟨y,I⟩:=F e;unfold onL;rw [alF_of H,I _ i (by omega)];simp only [Xe,Xm,and_false,or_false,y w j,true_and]
 have:k=0\/k=1\/k=2\/k=3\/k=4\/k=5:=by omega
 rcases this with rfl|rfl|rfl|rfl|rfl|rfl
 . refine oE.dist o fun A f=>?_;have z:piF ((Xt γ.nodes).map fun(v:Nat)=>cE γ.nodes ([]:List Int).length (toR γ []) (frR γ []) v w [])=piF []:=piF_zero _ fun _=>rfl;rw [<-z]at f;exact(zI n g (wR _) b p j r f).1.uniq q
 . refine AnsD.dist o fun J f=>?_;rw [twP_nil (γ:=γ) (s:=s) (w:=w)]at f;exact(Ey n g (wR _) b p j (al:=fun _=>true) (fun _=>rfl) f).1.uniq q
 . obtain⟨m,rfl,rfl⟩:=u rfl;exact oE.dist o fun A f=>(zI n g m b p j r f).1.uniq q
 . obtain⟨m,rfl,rfl⟩:=u rfl;exact AnsD.dist o fun J f=>(C0 n g m b p j (al:=fun _=>true) (fun _=>rfl) (fun v K=>twL_at K) f).1.uniq q
 . refine oE.dist o fun A f=>?_;obtain⟨B,C,L,M⟩:=A8 (l:=l) (act:=[]) (R:=R) (Q:=Q) (way:=4) n g (fun h=>by cases h) b j (alF (onL γ Bt (cf w)));exact(xJ n g b p j (t rfl) B C f).1.uniq q
 . obtain⟨m,rfl,rfl⟩:=u rfl;refine oE.dist o fun A f=>?_;obtain⟨B,C,L,M⟩:=A8 (l:=l) (act:=(iq γ.nodes l.length (toR γ l) (frR γ l) s w a).map fun(x:Nat)=>(x:Int)) (R:=toR γ l) (Q:=frR γ l) (way:=5) n g (fun _=>⟨m,rfl,rfl⟩) b j (alF (onL γ Bt (cf w)));exact(xJ n g b p j (t rfl) B C f).1.uniq q
end
theorem EL  (ok:OZ h0) {vB vO vM vN q5 q6 q7:Value} {a:Nat} {B O ms ns:List Int} (hB:SlW h0 .u8 vB B) (hO:SlW h0 .u8 vO O) (cO: ∀x∈O,0<=x/\x<=255) (hM:SlW h0 .u8 vM ms) (bx: ∀x∈ms,0<=x/\x<=255) (hN:SlW h0 .i64 vN ns) (cN: ∀x∈ns,-9223372036854775808<=x/\x<=9223372036854775807) (hh:a<=255) (z4:a/4%2=0) (z8:a/8%2=0):
 Ret zM 8 [.agg ⟨[vB,vO,vM,.int .u8 (a:Nat),vN,q5,q6,q7]⟩] h0 fun r h'=>Gr h0 h'/\ ∃b I,r=ptrTo b/\Im32 h' b I (a/4%2=0) (a/8%2=0)/\I.T.isSome=decide (a%2=1)/\I.C.isSome=decide (a/2%2=1):=by
 have S:=Si ok;have fB:=hB.sl.fl;have fO:=hO.sl.fl;have fM:=hM.sl.fl;have fN:=hN.sl.fl;have mn:min (B.length:Int) 50=((min B.length 50:Nat):Int):=by omega
 obtain⟨bc,bE,sB,bB⟩:=hB.low (kd':=.i64) (n:=min B.length 50) Tryz.t22.1 Tryz.t5.2.2.1 (Nat.min_le_left _ _);have bP:=sB.fl;refine aa (n:=278) (rs:=[.tmp 2]) rfl Tryz.e8 rfl rfl rfl (lbt rfl) ?_;simp only [BZ,seval];refine ac (aV (by intro x e;cases e)) S ?_;clear S;intro h u S cW;simp only [ae]at S;simp only [BZ,Option.map_some,Option.map_none,hB.sl.lenq,mn,bE,bP,S.ld (b:=u) (o:=0) m0 rfl,seval];refine ac (aV (by intro x e;cases e)) S ?_;clear S;intro h bd S be;simp only [ae]at S;have bX:aD h 1 (encI .u8) bc (B.take (min B.length 50)):=sB.gr S.gr;have nB: ¬au bc bd:=fun J=>by have:=sB.lt ok J;omega
 have bY:(B.take (min B.length 50)).length<1000000:=by rw [XI];omega
 simp only [BZ,seval];have k0:=S.fr.n;have ap:=S.apart;simp only [keys,Xr,Xu,Xn,XG,XM,Xv,Xm,or_false,not_or]at ap;have c6:=(S.row (b:=u) m1).lt S.ok;refine step_ret (raw_ok S.ok (S.row m0) ⟨bX,nB,bY,by omega⟩) ?_;rintro v h ⟨fr,A,vx,vy,va,rfl,X,ga,hz⟩;have n1:=X.n1;have n2:=X.n2;replace S:=S.drop1.step fr (fun c J=>by subst J;exact .inr be) (fun c J e=>by simp [keys]at J;omega);have fx:=ga.X.fl;have fy:=ga.Y.fl;have fa:=ga.A.fl;have gS:=S.gr;have S0:=S;replace S:=S.base;simp only [BZ,iX];refine ac aB S ?_;clear S;intro h D S cY;simp only [BZ,seval];refine aC (S.store (i:=0) rfl Tryz.t57.2.1 (by intro x e;cases e) rfl (by simp only [ae,Xh,Xj,fx.2.1,fy.2.1,fa.2.1,zO];rfl) (lbt rfl) ono) ?_;clear S;rintro h ⟨S,mo⟩;simp only [LC,ae,lay,Xc,Xb,seval]at S;have b0:=ga.mo S.fr (fun c J N=>by have:=hz c J;simp [keys]at N;omega);simp only [BZ,Xf,Xa,Xe,S.lds (b:=D) (o:=0) (n:=4) m0 (lbt rfl),seval];have q4:=(S.row (b:=D) m0).lt S.ok;have q1:=(S.row (b:=u) m1).lt S.ok;refine step_ret (netNew_ok S.ok X.b b0) ?_;rintro v h ⟨p,rfl,g,hp⟩;replace S:=S.call g;clear g;obtain⟨V,rfl⟩:=hp.ptr;replace S:=S0.rebase S;have a3:=S.gr;have da:=S.ok;clear S0;replace S:=S.base;simp only [LC,keys,Xr,Xu,Xn]at S;rename Hp=>hC0;have z4:=(S.row (b:=D) m0).lt S.ok;have z1:=(S.row (b:=u) m1).lt S.ok;simp only [BZ,seval];refine ac (aV (by intro x e;cases e)) S ?_;clear S;intro h E S bf;simp only [ae]at S;have d1:decide (((a%2:Nat):Int)=1)=decide (a%2=1):=decide_eq_decide.2 (by omega);have a2: ∀(t:TypeId) (p q:Operand),bS zM .and t p q (.int .u8 (a:Nat)) (.int .u8 2)=some (.int .u8 ((if a/2%2=1 then 2 else 0:Nat):Int)):=fun t p q=>zw hh (j:=1) (by decide);have d2:decide (((if a/2%2=1 then 2 else 0:Nat):Int)=2)=decide (a/2%2=1):=decide_eq_decide.2 (by split<;>omega);have a4: ∀(t:TypeId) (p q:Operand),bS zM .and t p q (.int .u8 (a:Nat)) (.int .u8 4)=some (.int .u8 ((if a/4%2=1 then 4 else 0:Nat):Int)):=fun t p q=>zw hh (j:=2) (by decide);have d4:decide (((if a/4%2=1 then 4 else 0:Nat):Int)=4)=decide (a/4%2=1):=decide_eq_decide.2 (by split<;>omega);have a8: ∀(t:TypeId) (p q:Operand),bS zM .and t p q (.int .u8 (a:Nat)) (.int .u8 8)=some (.int .u8 ((if a/8%2=1 then 8 else 0:Nat):Int)):=fun t p q=>zw hh (j:=3) (by decide);have d8:decide (((if a/8%2=1 then 8 else 0:Nat):Int)=8)=decide (a/8%2=1):=decide_eq_decide.2 (by split<;>omega);have n7:=bf;have nb: ∀c,c<h0.n-> ¬c∈[D,u]:=fun c J N=>by simp only [Xv,Xm,or_false]at N;have:=gS.n;omega
 have b2: ∀c,c∈[D,u]->h0.n<=c:=fun c N=>by simp only [Xv,Xm,or_false]at N;have:=gS.n;omega
 have b3: ∀c,au vM c->c<h0.n:=fun c J=>hM.sl.lt ok J;have b5: ∀c,au vO c->c<h0.n:=fun c J=>hO.sl.lt ok J;have db: ∀c,au vN c->c<h0.n:=fun c J=>hN.sl.lt ok J;have an: ∀{Q:Hp},Mo (· ∈[D,u]) hC0 Q->aQ Q _ (ptrTo V) A:=fun f=>hp.mo f (fun c N=>by simp only [Xv,Xm,or_false]at N;omega);simp only [BZ,b_andB2 (show a<256 by omega),d1,S.ld (b:=u) (o:=3) m2 rfl,seval];refine tR (fun s h'=> ∃pt T,St (· ∈[D,u]) hC0 h' [(E,.row [ptrTo V,pt,.pointer none,.pointer none] 1),(D,.row [.int .i64 A.nodes,vx,vy,va] 1),(u,.row [vB,vO,vM,.int .u8 (a:Nat),vN,q5,q6,q7] 1)] []/\TabY h' E (a/4%2=0) pt A T/\T.isSome=decide (a%2=1)/\s 1=ptrTo u/\s 4=ptrTo D/\s 5=ptrTo V/\s 7=ptrTo E) ?_ ?_ ?_
 . intro a5;have b6:(A.nodes:Int)≠0:=(by omega);have b8:aq .u8 ((a:Int).tdiv 16)=((a/16:Nat):Int):=(by rw [Int.tdiv_eq_ediv_of_nonneg (by omega),show(a:Int)/16=((a/16:Nat):Int) by omega];exact Cg rfl (by simp only [pw];omega));have b9:aq .i64 ((a/16:Nat):Int)=((a/16:Nat):Int):=(by rw [wrap64]<;>omega);have bh:((a/16:Nat):Int).tmod (A.nodes:Int)=((a/16%A.nodes:Nat):Int):=(by rw [Xs (by omega)];exact(XK _ _).symm);have dc:a/16%A.nodes<A.nodes:=Nat.mod_lt _ (by omega);simp only [BZ,jS,cQ,jU,oK (n:=16) (by decide),b8,b9,pX b6,bh,S.ld (b:=u) (o:=3) m2 rfl,S.ld (b:=D) (o:=0) m1 rfl,seval];generalize dd:((a/16%A.nodes:Nat):Int)=x0;have a1:0<=x0/\x0<A.nodes:=(by omega);refine ac (cd (by exact Tryz.t41.1) (by exact Xz) (by decide) (by rfl)) S ?_;clear S;intro h Z S c2;simp only [LC,bJ,bZ,ae,XA,Xw,Xy,XD,seval]at S;simp only [BZ,seval];refine wU (fun s h'=> ∃(P:Value) (l:List Int) (G:List GL),St (· ∈[D,u]) hC0 h' [(Z,.row [.int .i64 x0] 1),(E,.row [ptrTo V,.pointer none,.pointer none,.pointer none] 1),(D,.row [.int .i64 A.nodes,vx,vy,va] 1),(u,.row [vB,vO,vM,.int .u8 (a:Nat),vN,q5,q6,q7] 1)] G/\((G=[]/\P=.slice (some ⟨Z,0,none⟩) 1 1/\l=[x0])\/G=[(P,1,ints l)])/\fm A.nodes l/\1<=l.length/\l.length<=4/\s 1=ptrTo u/\s 4=ptrTo D/\s 5=ptrTo V/\s 7=ptrTo E/\s 8=P)
    (fun(i:Nat) s h'=>i<=ms.length/\i<=3/\ ∃(P:Value) (l:List Int) (G:List GL),St (· ∈[D,u]) hC0 h' [(Z,.row [.int .i64 x0] 1),(E,.row [ptrTo V,.pointer none,.pointer none,.pointer none] 1),(D,.row [.int .i64 A.nodes,vx,vy,va] 1),(u,.row [vB,vO,vM,.int .u8 (a:Nat),vN,q5,q6,q7] 1)] G/\((G=[]/\P=.slice (some ⟨Z,0,none⟩) 1 1/\l=[x0])\/G=[(P,1,ints l)])/\fm A.nodes l/\1<=l.length/\l.length<=i+1/\s 1=ptrTo u/\s 4=ptrTo D/\s 5=ptrTo V/\s 7=ptrTo E/\s 8=P/\s 9=.int .i64 i) (fun i=>ms.length-i) ?_ ?_ 0 ⟨Xk _,Xk _,_,[x0],[],S,.inl ⟨rfl,rfl,rfl⟩,(wR _).push (by simp) a1.1 a1.2 (by simp),Xp _,by simp,by simp [aG,ah]⟩
   . clear S;intro i ih s h' ⟨hi,hi3,P,l,G,S,hG,hl,hl0,hli,F,H,L,r7,r8,r9⟩;have bi:=(hM.sl.gr a3).mo S.fr (fun c J=>nb c (b3 c J));have af: ∀(n:Nat) (d:List Deferred) (rc:Option (Value×Bool)) (Y:Nat->Value),Y 1=ptrTo u->Y 4=ptrTo D->Y 5=ptrTo V->Y 7=ptrTo E->Y 8=P->JP n d rc (fun s h'=> ∃(P:Value) (l:List Int) (G:List GL),St (· ∈[D,u]) hC0 h' [(Z,.row [.int .i64 x0] 1),(E,.row [ptrTo V,.pointer none,.pointer none,.pointer none] 1),(D,.row [.int .i64 A.nodes,vx,vy,va] 1),(u,.row [vB,vO,vM,.int .u8 (a:Nat),vN,q5,q6,q7] 1)] G/\((G=[]/\P=.slice (some ⟨Z,0,none⟩) 1 1/\l=[x0])\/G=[(P,1,ints l)])/\fm A.nodes l/\1<=l.length/\l.length<=4/\s 1=ptrTo u/\s 4=ptrTo D/\s 5=ptrTo V/\s 7=ptrTo E/\s 8=P) .normal (LL n Y d rc) h':=fun n d rc Y e1 e4 e5 e7 e8=>iH ⟨P,l,G,S,hG,hl,hl0,by omega,e1,e4,e5,e7,e8⟩;have sR:aD h' 1 (encI .i64) P l:=by
      rcases hG with⟨_,rfl,rfl⟩|rfl
      . exact .inr ⟨Z,0,none,1,rfl,Xp _,S.lds (b:=Z) (o:=0) (n:=1*1) m0 (lbt rfl)⟩
      . exact(S.gown _ m0).1.sl rfl (fun _=>rfl) (by decide)
     by_cases hlt:i<ms.length
     . by_cases h3:i<3
       . have c3:(i:Int)<3:=(by omega);obtain⟨c,o,ai,ax⟩:=bi.ix (kd:=.i64) (cB .u8) hlt;have hx:=bx _ (Xo hlt);obtain⟨x,ex⟩: ∃x:Nat,ms[i]=x:=⟨ms[i].toNat,by omega⟩;rw [ex]at ax hx;have nz:(A.nodes:Int)≠0:=(by omega);have wc:aq .i64 (x:Int)=(x:Int):=(by rw [wrap64]<;>omega);have tm:(x:Int).tmod (A.nodes:Int)=((x%A.nodes:Nat):Int):=(by rw [Xs (by omega)];exact(XK _ _).symm);have W:x%A.nodes<A.nodes:=Nat.mod_lt _ (by omega);have w:aq .i64 ((i:Int)+1)=((i+1:Nat):Int):=(by rw [wrap64]<;>omega);simp only [BZ,F,r9,hM.sl.lenq,aI,hlt,c3,S.ld (b:=u) (o:=2) m3 rfl,seval];refine ar (aA rfl) (q:=0) (ps:=[]) (by kernel_rfl) ?_;simp only [BZ,jS,cQ,jU,cls,F,H,r9,ai,ax,encI,wc,pX nz,tm,S.ld (b:=D) (o:=0) m2 rfl,S.ld (b:=u) (o:=2) m3 rfl,seval];generalize x%A.nodes=v at W;clear bi;refine bA (fun(k:Nat) s Q=>k<=l.length/\Q=h'/\s 1=ptrTo u/\s 4=ptrTo D/\s 5=ptrTo V/\s 7=ptrTo E/\s 8=P/\s 9=.int .i64 i/\s 10=.int .i64 v/\s 11=.bool (decide ((v:Int)∈l.take k))/\s 12=.int .i64 k) (fun k=>l.length-k) ?_ 0 _ _ ⟨Xk _,rfl,by simp [aG,F,ah,H,L,r7,r8,r9]⟩;clear F H L r7 r8 r9;rintro k bk s Q ⟨hk,rfl,F,H,L,r7,r8,r9,ay,R,aL⟩;have wk:aq .i64 ((k:Int)+1)=((k+1:Nat):Int):=(by rw [wrap64]<;>omega);by_cases ad:k<l.length
         . have tk:l.take (k+1)=l.take k++[l[k]]:=List.take_succ_eq_append_getElem ad;by_cases N:(v:Int)∈l.take k
           . rw [decide_eq_true N]at R;have ca:(v:Int)∈l.take (k+1):=(by rw [tk];exact Xx _ N);simp only [BZ,r8,R,aL,sR.lenq,aI,ad,wk,seval];exact bk (k+1) _ _ (by omega) ⟨by omega,rfl,by simp [aG,F,ah,H,L,r7,r8,r9,ay,ca]⟩
           . rw [decide_eq_false N]at R;obtain⟨c1,o1,i1,y1⟩:=sR.ix (kd:=.i64) (cB .i64) ad;have m2:decide (l[k]=(v:Int))=decide ((v:Int)∈l.take (k+1)):=decide_eq_decide.2 ⟨fun he=>by rw [tk,he];exact XF _ (List.mem_singleton.2 rfl),fun h=>by
              rw [tk]at h;rcases List.mem_append.1 h with h|h
              . exact absurd h N
              . exact(List.mem_singleton.1 h).symm⟩
             simp only [BZ,r8,ay,R,aL,sR.lenq,aI,ad,wk,i1,y1,encI,m2,seval];exact bk (k+1) _ _ (by omega) ⟨by omega,rfl,by simp [aG,F,ah,H,L,r7,r8,r9,ay]⟩
         . have ek:k=l.length:=(by omega);subst ek;rw [List.take_length]at R;by_cases N:(v:Int)∈l
           . rw [decide_eq_true N]at R;simp only [BZ,r8,r9,R,aL,sR.lenq,aI,ad,w,seval];exact ih (i+1) _ _ (by omega) ⟨by omega,by omega,P,l,G,S,hG,hl,hl0,by omega,by simp [aG,F,ah,H,L,r7,r8]⟩
           . rw [decide_eq_false N]at R;simp only [BZ,r8,r9,ay,R,aL,sR.lenq,aI,ad,seval];refine ac (cd (by exact Tryz.t41.1) (by exact Xz) (by decide) (by rfl)) S ?_;clear S;intro h bu S c4;simp only [LC,bJ,bZ,ae,XA,Xw,Xy,XD,seval]at S;simp only [BZ,seval];have a6:aP h 1 (.slice (some ⟨bu,0,none⟩) 1 1)=some (1,ints [(v:Int)]):=(by simp only [aP];rw [S.lds (b:=bu) (o:=0) (n:=1*1) m0 (lbt rfl)];rfl);replace S:=S.drop1;have bl: ∃h3 v',dL zM h [41,41] P (.slice (some ⟨bu,0,none⟩) 1 1)=some (h3,v')/\St (· ∈[D,u]) hC0 h3 [(Z,.row [.int .i64 x0] 1),(E,.row [ptrTo V,.pointer none,.pointer none,.pointer none] 1),(D,.row [.int .i64 A.nodes,vx,vy,va] 1),(u,.row [vB,vO,vM,.int .u8 (a:Nat),vN,q5,q6,q7] 1)] [(v',1,ints (l++[(v:Int)]))]:=by
              rcases hG with⟨rfl,rfl,rfl⟩|rfl
              . rw [iM];exact St.growB S (b:=Z) (len:=1) (m:=1) (new:=ints [(v:Int)]) (S.row m0) rfl Tryz.t41.1 Xz (by decide) Tryz.t41.2.2.2.2.2 a6 rfl (by decide) (by decide) (by rw [cL];exact lbt rfl)
              . rw [iM];exact S.grow (j:=0) (m:=1) (new:=ints [(v:Int)]) rfl Tryz.t41.1 Xz (by decide) Tryz.t41.2.2.2.2.2 a6 rfl (by decide) rfl (by rw [cL,cL];simp;omega)
             refine dV bl ?_;clear S a6 hG bl sR af;rintro h cc S;simp only [BZ,r9,w,seval];exact ih (i+1) _ _ (by omega) ⟨by omega,by omega,cc,l++[(v:Int)],_,S,.inr rfl,hl.push (by omega) (by omega) (by omega) N,by simp,by simp;omega,by simp [aG,F,ah,H,L,r7]⟩
       . have c3: ¬(i:Int)<3:=(by omega);simp only [BZ,F,r9,hM.sl.lenq,aI,hlt,c3,S.ld (b:=u) (o:=2) m3 rfl,seval];exact af _ _ _ _ (by simp [aG,F,ah]) (by simp [aG,H,ah]) (by simp [aG,L,ah]) (by simp [aG,r7,ah]) (by simp [aG,r8])
     . simp only [BZ,F,r9,hM.sl.lenq,aI,hlt,S.ld (b:=u) (o:=2) m3 rfl,seval];exact af _ _ _ _ (by simp [aG,F,ah]) (by simp [aG,H,ah]) (by simp [aG,L,ah]) (by simp [aG,r7,ah]) (by simp [aG,r8])
   clear S;intro s h' ⟨P,l,G,S,hG,hl,hl0,hl4,F,H,L,r7,r8⟩;have sR: ∀{x:Hp} {L':List (Nat×Ob)} {G':List GL},St (· ∈[D,u]) hC0 x L' G'->(Z,Ob.row [.int .i64 x0] 1)∈L'->(∀p∈G,p∈G')->aD x 1 (encI .i64) P l:=fun {x L' G'} U hL ch=>by
    rcases hG with⟨_,rfl,rfl⟩|rfl
    . exact .inr ⟨Z,0,none,1,rfl,Xp _,U.lds (b:=Z) (o:=0) (n:=1*1) hL (lbt rfl)⟩
    . exact ik.sl (xs:=l) (enc:=encI .i64) (U.gown (P,1,ints l) (ch _ m0)).1 rfl (fun _=>rfl) (by decide)
   have l1:1<=l.length:=hl0;have fR:Fl P:=(sR S m0 (fun p hp=>hp)).fl;have k7: ∀{x:Hp} {L':List (Nat×Ob)} {G':List GL} {o:Ob},St (· ∈[D,u]) hC0 x L' G'->(E,o)∈L'->E<x.n:=fun U N=>(U.own _ N).2.lt U.ok;have kb: ∀c,c∈[D,u]->c<=E:=fun c N=>(by simp only [Xv,Xm,or_false]at N;omega);simp only [BZ,L,r7,r8,seval];refine step_ret (tabOf_ok S.ok X (an S.fr) (sR S m0 (fun p hp=>hp)) (by omega)) ?_;rintro pt h ⟨g,hT⟩;replace hT:=(hT.resolve_left (fun h=>h.1 hl)).2;have kn:=k7 S m1;replace S:=S.call g;have own: ∀i,i<l.length->tv A.nodes (toR A l i)/\tv A.nodes (frR A l i):=fun i hi=>ownRows S.ok X (an S.fr) hl hi;have tY:TabY h E (a/4%2=0) pt A (some (tabL l (toR A l) (frR A l))):=⟨⟨_,kn,tabL_at hT⟩,tabL_L hl (by omega) l1 (fun i hi=>(own i hi).1) (fun i hi=>(own i hi).2),hl4,hl,fun _ i hi=>⟨pM hi,pM hi⟩⟩;have cj:=tY.fl;simp only [BZ,seval];refine aC (aE S (i:=1) rfl Tryz.t32.2.2.1 cj (Xg (lbt rfl)) ono) ?_;clear S hT;rintro h ⟨S,mo⟩;simp only [LC,ae,lay,Xc,Xb,seval]at S;replace tY:=tY.mo mo (fun b e=>Nat.le_of_eq e);have ck: ∃b,pt=ptrTo b:=(by obtain⟨⟨m,_,x⟩,_⟩:=tY;obtain⟨b,_,_,_,e,_⟩:=x.ex;exact⟨b,e⟩);obtain⟨bT,rfl⟩:=ck;by_cases h4:a/4%2=1/\0<ns.length
   . exact absurd h4.1 (by omega)
   . by_cases cl:a/4%2=1
     . omega
     . have e4:decide (a/4%2=1)=false:=decide_eq_false cl;simp only [BZ,F,a4,d4,e4,S.ld (b:=u) (o:=3) m3 rfl,seval];exact iH ⟨_,_,S.sub (List.sublist_cons_self _ _) (XL _),tY,by rw [a5];rfl,by simp [aG,F,ah,H,L,r7]⟩
 . intro a5;simp only [BZ];exact iH ⟨_,none,S,rfl,by rw [a5];rfl,by simp [aG,ah]⟩
 clear S;intro s hA ⟨pt,T,S,tY,hTs,F,H,L,r7⟩;simp only [BZ,F,a2,d2,S.ld (b:=u) (o:=3) m2 rfl,seval];refine tR (fun s h'=> ∃pc pf C,St (· ∈[D,u]) hC0 h' [(E,.row [ptrTo V,pt,pc,pf] 1),(D,.row [.int .i64 A.nodes,vx,vy,va] 1),(u,.row [vB,vO,vM,.int .u8 (a:Nat),vN,q5,q6,q7] 1)] []/\TabY h' E (a/4%2=0) pt A T/\CelY h' (a/8%2=0) pc pf A C/\C.isSome=decide (a/2%2=1)/\s 1=ptrTo u/\s 4=ptrTo D/\s 5=ptrTo V/\s 7=ptrTo E) ?_ ?_ ?_
 . intro a0;simp only [BZ];have S9:=S;replace S:=S.base;simp only [LC,keys,Xr,Xu,Xn]at S;have hq: ∀{Q:Hp},Mo (· ∈[E,D,u]) hA Q->Mo (· ∈[D,u]) hC0 Q:=fun f=>S9.fr.trans f (fun c J=>by
    rcases List.mem_cons.1 J with rfl|J
    . exact .inr n7
    . exact .inl J)
   have kb: ∀c,c∈[E,D,u]->c<=E:=fun c N=>(by simp only [Xv,Xm,or_false]at N;omega);replace S:=S.nilG (k:=1);refine bA (fun(i:Nat) s h=>i<=A.nodes/\ ∃vQ,St (· ∈[E,D,u]) hA h [(E,.row [ptrTo V,pt,.pointer none,.pointer none] 1),(D,.row [.int .i64 A.nodes,vx,vy,va] 1),(u,.row [vB,vO,vM,.int .u8 (a:Nat),vN,q5,q6,q7] 1)] [(vQ,1,ints ((Xt i).map (sJ O)))]/\s 1=ptrTo u/\s 4=ptrTo D/\s 5=ptrTo V/\s 7=ptrTo E/\s 17=vQ/\s 18=.int .i64 i) (fun i=>A.nodes-i) ?_ 0 _ _ ⟨Xk _,_,S,by simp [aG,F,ah,H,L,r7]⟩;clear S;clear F H L r7;intro i ih s h ⟨hi,vQ,S,F,H,L,r7,r17,r18⟩;have w:aq .i64 ((i:Int)+1)=((i+1:Nat):Int):=(by rw [wrap64]<;>omega);have cn:=(hO.sl.gr a3).mo (hq S.fr) (fun c J=>nb c (b5 c J));by_cases hlt:i<A.nodes
   . by_cases bm:O.length=0
     . have c0: ¬(0:Int)<(O.length:Int):=(by omega);simp only [BZ,F,H,r17,r18,aI,hlt,hO.sl.lenq,c0,S.ld (b:=D) (o:=0) m1 rfl,S.ld (b:=u) (o:=1) m2 rfl,seval];refine ac (cd (by exact Tryz.t41.1) (by exact Xz) (by decide) (by rfl)) S ?_;clear S;intro h bs S bn;simp only [LC,bJ,bZ,ae,XA,Xw,Xy,XD,seval]at S;simp only [BZ,seval];refine dV (S.grow (j:=0) (m:=1) (new:=ints [(0:Int)]) rfl Tryz.t41.1 Xz (by decide) Tryz.t41.2.2.2.2.2 (by simp only [aP];rw [S.lds (b:=bs) (o:=0) (n:=1*1) m0 (lbt rfl)];rfl) rfl (by decide) rfl (by rw [cL,cL];simp;omega)) ?_;clear S;rintro h a7 S;simp only [LC]at S;replace S:=S.drop1;rw [<-iM]at S;simp only [BZ,r18,w,seval];refine ih (i+1) _ _ (by omega) ⟨by omega,a7,?_,by simp [aG,F,ah,H,L,r7]⟩;rw [List.range_succ,List.map_append,List.map_singleton,show sJ O i=(0:Int)from by unfold sJ;rw [if_pos bm]];exact S
     . have c0:(0:Int)<(O.length:Int):=(by omega);have W:i%O.length<O.length:=Nat.mod_lt _ (by omega);have tm:(i:Int).tmod (O.length:Int)=((i%O.length:Nat):Int):=(by rw [Xs (by omega)];exact(XK _ _).symm);obtain⟨c,o,ai,ax⟩:=cn.ix (kd:=.i64) (cB _) W;have cz:(O.length:Int)≠0:=(by omega);have hx:=cO _ (Xo W);have t4:(O[i%O.length]).tmod 4=O[i%O.length]%4:=Xs hx.1;have wc:aq .i64 ((O[i%O.length]).tmod 4)=(O[i%O.length]).tmod 4:=(by rw [wrap64]<;>omega);simp only [BZ,F,H,r18,aI,hlt,hO.sl.lenq,c0,S.ld (b:=D) (o:=0) m1 rfl,S.ld (b:=u) (o:=1) m2 rfl,seval];refine ar (aA rfl) (q:=0) (ps:=[]) (by kernel_rfl) ?_;simp only [BZ,jS,cQ,jU,cls,F,r17,r18,hO.sl.lenq,pX cz,tm,ai,ax,encI,pX (n:=4) (by decide),wc,S.ld (b:=u) (o:=1) m2 rfl,seval];refine ac (cd (by exact Tryz.t41.1) (by exact Xz) (by decide) (by rfl)) S ?_;clear S;intro h bs S bn;simp only [LC,bJ,bZ,ae,XA,Xw,Xy,XD,seval]at S;simp only [BZ,seval];refine dV (S.grow (j:=0) (m:=1) (new:=ints [(O[i%O.length]).tmod 4]) rfl Tryz.t41.1 Xz (by decide) Tryz.t41.2.2.2.2.2 (by simp only [aP];rw [S.lds (b:=bs) (o:=0) (n:=1*1) m0 (lbt rfl)];rfl) rfl (by decide) rfl (by rw [cL,cL];simp;omega)) ?_;clear S;rintro h a7 S;simp only [LC]at S;replace S:=S.drop1;rw [<-iM]at S;simp only [BZ,r18,w,seval];refine ih (i+1) _ _ (by omega) ⟨by omega,a7,?_,by simp [aG,F,ah,H,L,r7]⟩;rw [List.range_succ,List.map_append,List.map_singleton,show sJ O i=(O[i%O.length]).tmod 4 from by unfold sJ;rw [if_neg bm];simp [Xd,W]];exact S
   . have cp:i=A.nodes:=(by omega);simp only [BZ,H,r7,r17,r18,aI,hlt,S.ld (b:=D) (o:=0) m1 rfl,seval];generalize hL:(Xt i).map (sJ O)=Ls at S;have lL:Ls.length=A.nodes:=(by rw [<-hL];simp [cp]);have bL:=lmax_bd (K:=((0+Ls.length:Nat):Int)) (by omega) (norm_bd [] Ls);have nl:=BV [] Ls;have ba: ¬yI (norm [] Ls):=by
      rintro(h|h|h)
      . rw [h]at nl;simp at nl;omega
      . exact h (norm_idem [] Ls)
      . omega
     have sl:aD h 1 (encI .i64) vQ Ls:=(S.gown _ m0).1.sl rfl (fun _=>rfl) (by decide);refine step_ret (D0 S.ok sl (by omega)) ?_;rintro v1 hP ⟨g1,s1,q1⟩;replace S:=S.call g1;simp only [BZ,seval];have k7:=S.key_lt (b:=E) (by simp [keys]);refine step_ret (Ek S.ok s1 (by omega) (by omega)) ?_;rintro v2 hR ⟨g2,cr⟩;obtain⟨_,ak⟩:=cr.resolve_left (fun h=>ba h.1);replace S:=S.call g2;obtain⟨cb,cs⟩: ∃b,v2=ptrTo b:=(by obtain⟨b,_,e,_⟩:=ak;exact⟨b,e⟩);subst cs;have cv:=norm_bd [] Ls;have lm:(norm [] Ls).length=A.nodes:=(by omega);have mz: ∀x∈norm [] Ls,0<=x/\x<256:=fun x hx=>(by have:=cv x hx;simp only [List.length_nil]at this;omega);generalize norm [] Ls=m at ak bL ba lm mz;have cx: ∃c:Nat->Nat,∀v,v<A.nodes->m.getD v 0=(c v:Int):=⟨fun v=>(m.getD v 0).toNat,fun v hv=>by
      have bo:v<m.length:=(by omega);have:=(mz _ (Xo bo)).1;have e:m.getD v 0=m[v]:=(by rw [Xd,Xi bo,XE]);show m.getD v 0=((m.getD v 0).toNat:Int);rw [e];omega⟩
     obtain⟨cf,bq⟩:=cx;obtain⟨Mc,bb⟩: ∃M:Nat,gY m+1=(M:Int):=⟨(gY m+1).toNat,by omega⟩;replace S:St (· ∈[E,D,u]) hA hR [(E,.row [ptrTo V,pt,.pointer none,.pointer none] 1),(D,.row [.int .i64 A.nodes,vx,vy,va] 1),(u,.row [vB,vO,vM,.int .u8 (a:Nat),vN,q5,q6,q7] 1)] []:=S.sub (List.Sublist.refl _) (XL _);have S8:=S;have kz:E<hR.n:=(S8.own _ m0).2.lt S8.ok;replace S:=S.base;simp only [LC,keys,Xr,Xu,Xn]at S;have br: ∀{Q:Hp},Mo (· ∈[E,D,u]) hR Q->Mo (· ∈[E,D,u]) hA Q:=fun f=>S8.fr.trans f (fun c J=>.inl J);have al: ∀{Q:Hp},Mo (· ∈[E,D,u]) hR Q->j8 Q _ (ptrTo cb) m:=fun f=>ak.mo f (fun c J=>by have:=kb c J;omega);simp only [BZ,seval];refine aC (aE S (i:=0) rfl Tryz.t33.2.2.1 bF (Xg (lbt rfl)) ono) ?_;clear S;rintro h ⟨S,_⟩;simp only [LC,ae,lay,Xc,Xb,seval]at S;simp only [BZ,L,r7,S.ld (b:=E) (o:=2) m0 rfl,seval];have kh:=S.fr.n;refine step_ret (ofB_ok S.ok X (an (hq (br S.fr))) ⟨al S.fr,lm,bq⟩ bb (by omega)) ?_;rintro _ h ⟨g6,fp,fb,Bt,rfl,nf,de,c5,BN,oB⟩;replace S:=S.call g6;have tz:Tz A.arcs.length ((A.arcs.length+7)/8) Bt:=fun r i h1 Q=>by
      cases hb:iD Bt ((A.arcs.length+7)/8) r i with
      |false=>rfl| true=>
        rcases(oB r i Q).1 hb with⟨_,h⟩|⟨_,h⟩
        . have:=zD h;omega
        . simp at h
     simp only [BZ,seval];refine aC (aE S (i:=0) rfl Tryz.t34.2.2.1 bF (Xg (lbt rfl)) ono) ?_;clear S;rintro h ⟨S,mo⟩;simp only [LC,ae,lay,Xc,Xb,seval]at S;have cA:iB h fp fb Mc A.arcs.length ((A.arcs.length+7)/8) Bt:=⟨mo.has (o:=.row _ 1) BN.r (fun e=>by have e:fp=E:=e;omega),mo.has (o:=.row _ 1) BN.b (fun e=>by have e:fb=E:=e;omega),BN.lt⟩;have cT:=oB;clear BN mo oB;have af: ∀{Q:Hp} {B:Nat->Nat},Mo (· ∈[E,D,u]) hR Q->iB Q fp fb Mc A.arcs.length ((A.arcs.length+7)/8) B->Tz A.arcs.length ((A.arcs.length+7)/8) B->(a/8%2=0->B=Bt)->TabY Q E (a/4%2=0) pt A T/\CelY Q (a/8%2=0) (ptrTo cb) (ptrTo fp) A (some (m,byB (Mc*((A.arcs.length+7)/8)) B)):=fun f b z hb=>⟨tY.mo (br f) kb,⟨_,fp,fb,Mc,_,_,al f,lm,rfl,bb,b,rfl,mz,ba,rfl,z⟩,_,cf,cb,fp,fb,Mc,_,rfl,rfl,⟨al f,lm,bq⟩,bb,by omega,b,fun h=>by rw [hb h];exact cT⟩;by_cases h8:a/8%2=1
     . omega
     . have e8:decide (a/8%2=1)=false:=decide_eq_false h8;obtain⟨f1,f2⟩:=af S.fr cA tz (fun _=>rfl);simp only [BZ];refine bA (fun(i:Nat) s h'=>i=0/\h'=_/\s 1=ptrTo u/\s 4=ptrTo D/\s 5=ptrTo V/\s 7=ptrTo E/\s 20=.int .i64 0) (fun _=>0) ?_ 0 _ _ ⟨rfl,rfl,by simp [aG,F,ah,H,L,r7]⟩;clear F H L r7;rintro i ih s _ ⟨rfl,rfl,F,H,L,r7,bv⟩;by_cases hlt:0<ns.length
       . have cN:(0<(ns.length:Int))=True:=eq_true (by omega);simp only [BZ,F,bv,hN.sl.lenq,cN,a8,d8,e8,S.ld (b:=u) (o:=4) m2 rfl,S.ld (b:=u) (o:=3) m2 rfl,seval];exact iH ⟨_,_,some _,S9.rebase (S8.rebase S),f1,f2,by rw [a0];rfl,by simp [aG,F,ah,H,L,r7]⟩
       . have cN:(0<(ns.length:Int))=False:=eq_false (by omega);simp only [BZ,F,bv,hN.sl.lenq,cN,S.ld (b:=u) (o:=4) m2 rfl,seval];exact iH ⟨_,_,some _,S9.rebase (S8.rebase S),f1,f2,by rw [a0];rfl,by simp [aG,F,ah,H,L,r7]⟩
 . intro a0;simp only [BZ];exact iH ⟨_,_,none,S,tY,⟨rfl,rfl⟩,by rw [a0];rfl,by simp [aG,F,ah,H,L,r7]⟩
 clear S tY F H L r7;intro s hE ⟨pc,pf,C,S,tY,cX,hCs,F,H,L,r7⟩;have hn:=an S.fr;have gZ:Gr h0 hE:=(a3.fr.trans S.fr (fun c J=>.inr (b2 c J)):Mo NoM h0 hE).gr;simp only [BZ,ab,r7,seval];refine⟨gZ,E,⟨A,T,C⟩,rfl,⟨X,_,_,_,_,_,S.row m0,hn,?_,cX⟩,hTs,hCs⟩;cases T with
 |none=>exact tY|some T=>obtain⟨⟨m,_,x⟩,y⟩:=tY;exact⟨⟨m,by omega,x⟩,y⟩
theorem St.toL{M:Nat->Prop}{L:List (Nat×Ob)}{v:Value}{vs:List Value}(S:St M h0 h L [(v,1,vs)])(a:vs≠ []): ∃b,v=.slice (some ⟨b,0,some 1⟩) vs.length vs.length/\St M h0 h ((b,.row vs 1)::L) []:=by
 obtain⟨g,k⟩:=S.gown _ (List.mem_singleton.2 rfl);rcases g with⟨_,e⟩|⟨b,n,i,j,l⟩
 . exact absurd e a
 . have m:n=vs.length:=(by rw [<-show n*1=vs.length from j,Xy]);subst m;have d:v=.slice (some ⟨b,0,some 1⟩) vs.length vs.length:=i;have f:eJ (v,1,vs)=some b:=(by rw [d];rfl);have o:=S.apart;have p:b∉L.map Prod.fst:=(by have c:=o;unfold keys at c;rw [List.nodup_append]at c;exact fun q=>c.2.2 b q b (List.mem_filterMap.2 ⟨_,List.mem_singleton.2 rfl,f⟩) rfl);refine⟨b,d,St.push (St.sub S (List.Sublist.refl _) (XL _)) (k b f) l ?_⟩;simpa [keys]using p
def pV(N:Nat)(l:Nat->Nat):List Value:=(Xt N).map fun v=>.int .i64 (l v:Nat)
theorem w7{l:Nat->Nat}(h:v<N):(pV N l)[v]? =some (.int .i64 (l v:Nat)):=jW (F:=fun v=>Value.int .i64 ((l v:Nat):Int)) h
theorem Al(N:Nat)(l:Nat->Nat):(pV N l).length=N:=by simp [pV]
theorem zJ{l:Nat->Nat}:(pV N l).set v (.int .i64 (x:Nat))=pV N (cJ l v x):=by have:=jL (N:=N) (k:=v) (F:=fun v=>Value.int .i64 ((l v:Nat):Int)) (F':=fun u=>Value.int .i64 ((cJ l v x u:Nat):Int)) (fun u _ a=>by unfold cJ;rw [if_neg a]);unfold pV;rw [<-this];simp [cJ]
def Rlx(B:List Arc)(k:Nat)(l:Nat->Nat):Prop:= ∀j,j<k->l (B.getD j default).s<FAR->l (B.getD j default).t<=l (B.getD j default).s+(B.getD j default).w
theorem rlx_all{B:List Arc}{l:Nat->Nat}(h:Rlx B B.length l): ∀a∈B,l a.s<FAR->l a.t<=l a.s+a.w:=by intro a c;obtain⟨i,b,e⟩:=List.mem_iff_getElem.1 c;have:=h i b;rwa [Xd,Xi b,XE,e]at this
theorem Ei  (ok:OZ h0)  (G:Good γ) {P Q R:Value} (V:dM h0 P Q R γ)  (hs:s<γ.nodes) (hD: ∀v,v<γ.nodes->IsD γ.arcs s v (dOf γ.arcs s v))  (Z:t<γ.nodes):
 aT zM 22 [iX γ P Q R,.int .i64 s,.int .i64 (t:Nat)] h0 (.int .i64 (dOf γ.arcs s t:Nat)):=by
 have S:=Si ok;have n1:=G.n1;have n2:=G.n2;have al:=G.many;have fx:=V.X.fl;have fy:=V.Y.fl;have fa:=V.A.fl;have hF:=c9;refine aa (n:=75) (rs:=[.tmp 6]) rfl Tryz.e22 rfl rfl rfl (lbt rfl) ?_;simp only [BZ,iX,seval];refine ac (aV (by intro x e;cases e)) S ?_;clear S;intro h E S an;simp only [ae]at S;simp only [BZ];replace S:=S.nilG (k:=1);refine bA (fun(i:Nat) d h=>i<=γ.nodes/\ ∃(vR:Value),St NoM h0 h [(E,.row [.int .i64 γ.nodes,P,Q,R] 1)] [(vR,1,List.replicate i (.int .i64 72057594037927936))]/\d 1=.int .i64 s/\d 2=.int .i64 (t:Nat)/\d 3=ptrTo E/\d 7=vR/\d 8=.int .i64 i) (fun i=>γ.nodes-i) ?_ 0 _ _ ?_
 . clear S;intro i W d h ⟨hi,vR,S,r1,p,g,r7,r8⟩;by_cases hlt:i<γ.nodes
   . have w:aq .i64 ((i:Int)+1)=((i+1:Nat):Int):=(by rw [wrap64]<;>omega);simp only [BZ,g,r7,r8,aI,hlt,S.ld (b:=E) (o:=0) m0 rfl,seval];refine ac (cd (by exact Tryz.t23.1) (by exact XO) (by decide) (by rfl)) S ?_;clear S;intro h bt S ax;simp only [LC,bJ,bZ,ae,XA,Xw,Xy,XD,seval]at S;simp only [BZ,seval];have T:aP h 1 (.slice (some ⟨bt,0,none⟩) 1 1)=some (1,[.int .i64 72057594037927936]):=(by simp only [aP];rw [S.lds (b:=bt) (o:=0) (n:=1*1) m0 (lbt rfl)];rfl);replace S:=S.drop1;refine dV (S.grow (j:=0) (m:=1) (new:=[.int .i64 72057594037927936]) rfl Tryz.t23.1 XO (by decide) Tryz.t23.2.2.2.2.2 T rfl (by decide) rfl (by simp;omega)) ?_;clear S T;rintro h ad S;simp only [LC,<-List.replicate_succ']at S;simp only [BZ,r8,w,seval];exact W (i+1) _ _ (by omega) ⟨by omega,ad,S,by simp [aG,r1,p,g,ah]⟩
   . have af:i=γ.nodes:=(by omega);subst af;have c1: ¬((s:Int)<0):=(by omega);have c2: ¬((γ.nodes:Int)<=(s:Int)):=(by omega);obtain⟨I,ev,S2⟩:=S.toL (by intro e;have:=congrArg List.length e;simp at this;omega);clear S;have S:=S2;clear S2;rw [List.length_replicate]at ev;subst ev;have e0:List.replicate γ.nodes (Value.int .i64 72057594037927936)=pV γ.nodes fun _=>FAR:=(by unfold pV;rw [List.map_const',List.length_range];rfl);rw [e0]at S;have r:ij (.int .i64 (s:Int)) γ.nodes=some s:=gL hs;simp only [BZ,r1,g,r7,r8,aI,hlt,r,S.ld (b:=E) (o:=0) m1 rfl,seval];refine aC (aE S (i:=0) rfl Tryz.t2.2.2.1 aJ (by rw [Al];omega) ono) ?_;clear S;rintro h ⟨S,_⟩;have X:((0:Int))=((0:Nat):Int):=rfl;simp only [LC]at S;rw [X,zJ]at S;simp only [BZ];have L0:Ls γ.arcs s γ.nodes (cJ (fun _=>FAR) s 0):=by
      refine⟨fun v=>?_,fun v=>?_,by simp [cJ]⟩
      . unfold cJ;split
        . omega
        . exact Xp _
      . unfold cJ;split
        . rename_i e;subst e;exact .inr .nil
        . exact .inl rfl
     refine bA (fun(a:(Nat->Nat)×Bool) d h=>Ls γ.arcs s γ.nodes a.1/\St NoM h0 h [(I,.row (pV γ.nodes a.1) 1),(E,.row [.int .i64 γ.nodes,P,Q,R] 1)] []/\(a.2=false->Rlx γ.arcs γ.arcs.length a.1)/\d 2=.int .i64 (t:Nat)/\d 3=ptrTo E/\d 7=.slice (some ⟨I,0,some 1⟩) γ.nodes γ.nodes/\d 9=.bool a.2) (fun a=>2*sumTo a.1 γ.nodes+a.2.toNat) ?_ (cJ (fun _=>FAR) s 0,true) _ _ ?_
     . clear S L0 e0 r1 p g r7 r8 hi W;rintro⟨l,U⟩ W d h ⟨F,S,hr,p,g,r7,J⟩;cases U with
       | false=>have A:ij (.int .i64 (t:Int)) γ.nodes=some t:=gL Z;have u:h.load I t 1=some [.int .i64 (l t:Nat)]:=S.ld (b:=I) (o:=t) m0 (w7 Z);have e:l t=dOf γ.arcs s t:=F.isD (rlx_all (hr rfl)) (hD t Z);rw [e]at u;simp only [BZ,ab,p,r7,J,A,u,seval];exact S.gr| true=>
         simp only [BZ,J,seval];refine bA (fun(k:Nat) d h=>k<=γ.arcs.length/\ ∃(f:Nat->Nat) (K:Bool),Ls γ.arcs s γ.nodes f/\St NoM h0 h [(I,.row (pV γ.nodes f) 1),(E,.row [.int .i64 γ.nodes,P,Q,R] 1)] []/\((K=false/\f=l/\Rlx γ.arcs k l)\/(K=true/\sumTo f γ.nodes<sumTo l γ.nodes))/\d 2=.int .i64 (t:Nat)/\d 3=ptrTo E/\d 7=.slice (some ⟨I,0,some 1⟩) γ.nodes γ.nodes/\d 9=.bool K/\d 10=.int .i64 k) (fun k=>γ.arcs.length-k) ?_ 0 _ _ ?_
         . clear S p g r7 J F;intro k L d h ⟨hk,f,K,F,S,hc,p,g,r7,J,r10⟩;have wk:aq .i64 ((k:Int)+1)=((k+1:Nat):Int):=(by rw [wrap64]<;>omega);have M:=V.A.gr S.gr;by_cases B:k<γ.arcs.length
           . obtain⟨c3,o3,x3,y3⟩:=M.ix (kd:=.i64) jj B;have am:=Xo B;obtain⟨a1,Y,a3⟩:=G.arcs _ am;have N:γ.arcs.getD k default=γ.arcs[k]:=(by simp [Xd,B]);generalize γ.arcs[k]=a at am a1 Y a3 N y3;have d1:=F.le a.s;have d2:=F.le a.t;simp only [BZ,g,r10,M.lenq,aI,B,x3,y3,S.ld (b:=E) (o:=3) m1 rfl,seval];refine ac aB S ?_;clear S;intro h c S ai;simp only [BZ,cI,seval];refine aC (S.store (i:=0) rfl ?_ ?_ rfl rfl ?_ ono) ?_
             . exact(by exact Tryz.t135.2.1)
             . exact(by intro x e;cases e)
             . exact lbt rfl
             clear S;rintro h ⟨S,mo⟩;clear mo;simp only [LC,ae,lay,Xc,Xb,seval]at S;have r:ij (.int .i64 (a.s:Int)) γ.nodes=some a.s:=gL a1;have A:ij (.int .i64 (a.t:Int)) γ.nodes=some a.t:=gL Y;have C:=S.ld (b:=I) (o:=a.s) m1 (w7 a1);have u:=S.ld (b:=I) (o:=a.t) m1 (w7 Y);have D:aq .i64 ((f a.s:Int)+(a.w:Int))=((f a.s+a.w:Nat):Int):=(by rw [wrap64]<;>omega);simp only [BZ];refine ar (aA rfl) (q:=0) (ps:=[]) (by kernel_rfl) ?_;by_cases X:f a.s<FAR
             . have H:(f a.s:Int)<72057594037927936:=(by omega);by_cases e2:f a.s+a.w<f a.t
               . have O:((f a.s+a.w:Nat):Int)<(f a.t:Int):=(by omega);simp only [BZ,cls,r7,r,A,C,u,D,H,O,S.ld (b:=c) (o:=0) m0 rfl,S.ld (b:=c) (o:=1) m0 rfl,S.ld (b:=c) (o:=2) m0 rfl,seval];refine ar (aA rfl) (q:=0) (ps:=[]) (by kernel_rfl) ?_;simp only [BZ,cls,r7,r,A,C,D,S.ld (b:=c) (o:=0) m0 rfl,S.ld (b:=c) (o:=1) m0 rfl,S.ld (b:=c) (o:=2) m0 rfl,seval];refine cP (aE S (i:=1) rfl Tryz.t2.2.2.1 aJ (by rw [Al];omega) ono) ?_;clear S C u;rintro h ⟨S,_⟩;simp only [LC,zJ]at S;simp only [BZ,r10,wk,seval];have ay:=sum_upd (l:=f) (v:=a.t) (x:=f a.s+a.w) Y;refine L (k+1) _ _ (by omega) ⟨by omega,_,true,F.step am X e2,S.drop1,.inr ⟨rfl,?_⟩,by simp [aG,p,g,ah,r7]⟩;rcases hc with⟨_,rfl,_⟩|⟨_,h⟩<;>omega
               . have O: ¬((f a.s+a.w:Nat):Int)<(f a.t:Int):=(by omega);simp only [BZ,cls,r7,r10,r,A,C,u,D,H,O,wk,S.ld (b:=c) (o:=0) m0 rfl,S.ld (b:=c) (o:=1) m0 rfl,S.ld (b:=c) (o:=2) m0 rfl,seval];refine L (k+1) _ _ (by omega) ⟨by omega,_,K,F,S.drop1,hc.imp (fun⟨x,y,z⟩=>⟨x,y,fun j hj=>?_⟩) id,by simp [aG,p,g,ah,r7,J]⟩;by_cases ej:j=k
                 . subst ej;subst y;rw [N];intro _;omega
                 . exact z j (by omega)
             . have H: ¬(f a.s:Int)<72057594037927936:=(by omega);simp only [BZ,cls,r7,r10,r,C,H,wk,S.ld (b:=c) (o:=0) m0 rfl,S.ld (b:=c) (o:=1) m0 rfl,S.ld (b:=c) (o:=2) m0 rfl,seval];refine L (k+1) _ _ (by omega) ⟨by omega,_,K,F,S.drop1,hc.imp (fun⟨x,y,z⟩=>⟨x,y,fun j hj=>?_⟩) id,by simp [aG,p,g,ah,r7,J]⟩;by_cases ej:j=k
               . subst ej;subst y;rw [N];intro h;exact absurd h X
               . exact z j (by omega)
           . simp only [BZ,p,g,r7,r10,M.lenq,aI,B,S.ld (b:=E) (o:=3) m1 rfl,seval];have ak:k=γ.arcs.length:=(by omega);subst ak;refine W (f,K) _ _ ?_ ⟨F,S,fun h=>?_,by simp [aG,p,g,ah,r7,J]⟩
             . rcases hc with⟨rfl,rfl,_⟩|⟨rfl,h⟩
               . simp
               . simp;omega
             . rcases hc with⟨_,rfl,h⟩|⟨h2,_⟩
               . exact h
               . exact absurd (h2.symm.trans h) (by decide)
         . exact⟨Xk _,l,false,F,S,.inl ⟨rfl,rfl,fun j hj=>by omega⟩,by simp [aG,p,g,ah,r7]⟩
     . exact⟨L0,S,fun h=>(by cases h),by simp [aG,p,g,ah,r7]⟩
 . exact⟨Xk _,_,S,by simp [aG,cK,dD,ah]⟩
theorem DA(b:OZ h0){k:Nat}(c:k<6):aT zM 18 [.int .i64 (k:Nat)] h0 (.tuple #[.bool (tw k),.bool (cw k)]):=by
 have S:=Si b;obtain⟨x,a⟩: ∃x:Int,(k:Int)=x:=⟨_,rfl⟩;rw [a];have:(k=0/\x=0)\/(k=1/\x=1)\/(k=2/\x=2)\/(k=3/\x=3)\/(k=4/\x=4)\/(k=5/\x=5):=by omega
 clear a c;rcases this with⟨rfl,rfl⟩|⟨rfl,rfl⟩|⟨rfl,rfl⟩|⟨rfl,rfl⟩|⟨rfl,rfl⟩|⟨rfl,rfl⟩
 all_goals
  refine aa (n:=20) (rs:=[.tmp 2,.tmp 3]) rfl Tryz.e18 rfl rfl rfl (lbt rfl) ?_;simp only [BZ,ab,seval];exact⟨rfl,S.gr⟩
theorem Dp  (C:OZ h0)  {r t u v:Value} (D:Fl r) (E:Fl t) (F:Fl u) (G:Fl v) {k s w:Int} {c d:Bool}:
 aT zM 21 [iX γ r t u,.bool c,.bool d,.agg ⟨[.int .i64 k,.int .i64 s,.int .i64 w,v]⟩] h0 (.int .i64 (gH γ.nodes c d k s w)):=by
 have S:=Si C;refine aa (n:=57) (rs:=[.tmp 8]) rfl Tryz.e21 rfl rfl rfl (lbt rfl) ?_;simp only [BZ,iX,seval];refine ac (aV (by intro x e;cases e)) S ?_;clear S;intro h m S z;simp only [ae]at S;simp only [BZ,if_false,seval];refine ac (aV (by intro x e;cases e)) S ?_;clear S;intro h a S A;simp only [ae]at S;by_cases f:k<0
 . have e:gH γ.nodes c d k s w=16:=if_pos (by omega);simp only [BZ,ab,f,S.ld (b:=a) (o:=0) m0 rfl,seval];exact⟨by rw [e],S.gr⟩
 by_cases i:6<=k
 . have e:gH γ.nodes c d k s w=16:=if_pos (by omega);simp only [BZ,ab,f,i,S.ld (b:=a) (o:=0) m0 rfl,seval];exact⟨by rw [e],S.gr⟩
 by_cases l:s<0
 . have e:gH γ.nodes c d k s w=17:=(by unfold gH;rw [if_neg (by omega),if_pos (by omega)]);simp only [BZ,ab,f,i,l,S.ld (b:=a) (o:=0) m0 rfl,S.ld (b:=a) (o:=1) m0 rfl,seval];exact⟨by rw [e],S.gr⟩
 by_cases p:(γ.nodes:Int)<=s
 . have e:gH γ.nodes c d k s w=17:=(by unfold gH;rw [if_neg (by omega),if_pos (by omega)]);simp only [BZ,ab,f,i,l,p,S.ld (b:=m) (o:=0) m1 rfl,S.ld (b:=a) (o:=0) m0 rfl,S.ld (b:=a) (o:=1) m0 rfl,seval];exact⟨by rw [e],S.gr⟩
 by_cases q:w<0
 . have e:gH γ.nodes c d k s w=18:=(by unfold gH;rw [if_neg (by omega),if_neg (by omega),if_pos (by omega)]);simp only [BZ,ab,f,i,l,p,q,S.ld (b:=m) (o:=0) m1 rfl,S.ld (b:=a) (o:=0) m0 rfl,S.ld (b:=a) (o:=1) m0 rfl,S.ld (b:=a) (o:=2) m0 rfl,seval];exact⟨by rw [e],S.gr⟩
 by_cases B:(γ.nodes:Int)<=w
 . have e:gH γ.nodes c d k s w=18:=(by unfold gH;rw [if_neg (by omega),if_neg (by omega),if_pos (by omega)]);simp only [BZ,ab,f,i,l,p,q,B,S.ld (b:=m) (o:=0) m1 rfl,S.ld (b:=a) (o:=0) m0 rfl,S.ld (b:=a) (o:=1) m0 rfl,S.ld (b:=a) (o:=2) m0 rfl,seval];exact⟨by rw [e],S.gr⟩
 obtain⟨j,rfl⟩: ∃n:Nat,k=n:=⟨k.toNat,by omega⟩;have e:gH γ.nodes c d (j:Nat) s w=if((!tw j||c)&&(!cw j||d))=true then 0 else 19:=by unfold gH;rw [if_neg (by omega),if_neg (by omega),if_neg (by omega)];rfl
 simp only [BZ,f,i,l,p,q,B,S.ld (b:=m) (o:=0) m1 rfl,S.ld (b:=a) (o:=0) m0 rfl,S.ld (b:=a) (o:=1) m0 rfl,S.ld (b:=a) (o:=2) m0 rfl,seval];refine ag (DA S.ok (show j<6 by omega)) ?_;intro h g;replace S:=S.call g;clear g;rw [e];generalize tw j=x;generalize cw j=y;cases x
 . cases y
   . simp only [BZ,ab,seval];exact⟨rfl,S.gr⟩
   . cases d
     all_goals
      simp only [BZ,ab,seval];exact⟨rfl,S.gr⟩
 . cases y
   . cases c
     all_goals
      simp only [BZ,ab,seval];exact⟨rfl,S.gr⟩
   . cases c
     . simp only [BZ,ab,seval];exact⟨rfl,S.gr⟩
     . cases d
       all_goals
        simp only [BZ,ab,seval];exact⟨rfl,S.gr⟩
theorem wD(l:OZ h0){d g:Value}(p:Fl d)(q:Fl f)(r:Fl g)(s:Fl i)(m:c≠0):aT zM 23 [pn,.agg ⟨[d,f,g,i]⟩,nX c 0 (.slice none 0 0) (.slice none 0 0)] h0 (.bool true):=by have S:=Si l;refine aa (n:=48) (rs:=[.tmp 6]) rfl Tryz.e23 rfl rfl rfl (lbt rfl) ?_;simp only [BZ,nX,seval];refine ac (aV (by intro x e;cases e)) S ?_;clear S;intro h t S j;simp only [ae]at S;simp only [BZ,if_false,seval];refine ac (aV (by intro x e;cases e)) S ?_;clear S;intro h a S k;simp only [ae]at S;simp only [BZ,ab,Xq,m,S.ld (b:=a) (o:=0) m0 rfl,S.ld (b:=a) (o:=1) m0 rfl,S.ld (b:=a) (o:=2) m0 rfl,S.ld (b:=a) (o:=3) m0 rfl,seval];exact S.gr
theorem ww(v:OZ h0)(f:Good γ){i:Nat}{y A:Value}(R:Row h0 b [ptrTo i,y,z,A] 1)(B:aQ h0 w (ptrTo i) γ){vA l:Value}{ids:List Nat}(H:Fl j)(I:Fl k)(C:s<γ.nodes)(m:aD h0 1 bO vA ids)(J:Fl l)(D:ids.length<=1000)(E:iL γ.arcs s ids t d):aT zM 23 [ptrTo b,.agg ⟨[j,.int .i64 (s:Nat),.int .i64 (t:Nat),k]⟩,nX 0 (d:Nat) vA l] h0 (.bool true):=by have S:=Si v;have K:=m.fl;have F:=R.load1 (o:=0) rfl;refine aa (n:=48) (rs:=[.tmp 6]) rfl Tryz.e23 rfl rfl rfl (lbt rfl) ?_;simp only [BZ,nX,seval];refine ac (aV (by intro x e;cases e)) S ?_;clear S;intro h c S p;simp only [ae]at S;simp only [BZ,if_false,seval];refine ac (aV (by intro x e;cases e)) S ?_;clear S;intro h a S u;simp only [ae]at S;have g:=S.gr.load F;simp only [BZ,S.ld (b:=a) (o:=0) m0 rfl,seval];refine ar (aA rfl) (q:=0) (ps:=[]) (by kernel_rfl) ?_;simp only [BZ,cls,g,S.ld (b:=c) (o:=1) m1 rfl,S.ld (b:=c) (o:=2) m1 rfl,S.ld (b:=a) (o:=0) m0 rfl,S.ld (b:=a) (o:=1) m0 rfl,S.ld (b:=a) (o:=2) m0 rfl,seval];refine cu (CB S.ok f (B.gr S.gr) C (m.gr S.gr) D E (t:=t) (.inl rfl)) ?_;rintro r L ⟨G,rfl⟩;replace S:=S.call G;simp only [BZ,cls,ab,S.ld (b:=c) (o:=1) m1 rfl,S.ld (b:=c) (o:=2) m1 rfl,S.ld (b:=a) (o:=0) m0 rfl,S.ld (b:=a) (o:=1) m0 rfl,S.ld (b:=a) (o:=2) m0 rfl,seval];exact S.gr
end Go.Ab

/- Nets, cells, flags: what the functions do (part 6). -/
import Derived.Test.YtddjlflghenhkaaGreatDoorKctE
import Derived.ChangeSlices
import Derived.ChangeArms
import Derived.ChangeSame
open Go.Ab.Tryz
open Go.Ab.Tryz renaming abEnv->zM
open Bool renaming and_true->zO
open Nat renaming lt_of_lt_of_le->Xa,zero_le->Xk,le_refl->Xl,le_trans->Xm,lt_of_succ_le->Xo,min_eq_left->XB,mul_one->XC,zero_add->XG
open List renaming take_succ_cons->Xb,drop->Xc,take->Xd,drop_zero->Xe,take_zero->Xf,all_cons->Xg,all_nil->Xh,getElem?_cons_zero->Xi,getElem?_cons_succ->Xj,map_toArray->Xn,map_cons->Xp,map_nil->Xr,getElem?_eq_getElem->Xs,length_take->Xt,getD_eq_getElem?_getD->Xu,mem_append_left->Xv,filterMap_nil->Xw,getElem?_map->Xy,range->Xz,append_nil->XA,mem_append_right->XD,length_singleton->XE,flatMap_eq_foldl->XF
open Int renaming cast_ofNat_Int->Xq,tmod_eq_emod_of_nonneg->Xx
set_option maxHeartbeats 4000000
set_option linter.defProp false
set_option linter.unusedVariables false
set_option linter.unusedSimpArgs false
namespace Go.Ab
variable{A f j p pn v vA:Value}
variable{D N b b2 b5 b6 base k m n nt o s t w:Nat}
variable{l pis:List Int}
variable{h h0:Hp}
variable{γ:Gra}
variable{g:FuncId}
variable{W:World}
variable{Q R:Nat->List Int}
variable{a c d:Int}
variable{e:TypeId}
variable{Bt cf:Nat->Nat}
variable{P:Program}
open Go.Proofs
set_option maxRecDepth 10000
section
variable{A:List Arc}{N r:Nat}{al:Nat->Bool}{pi:Nat->Int}{i:Bool}{x:Sd}
theorem SvB.nxt(h:SvB A N r al pi i x): ∀(n:Nat) {v:Nat},(x.P v).length<=n->(x.L v).isSome=true->NxtL (nxB A i x.P) v (x.P v):=by
 intro n
 induction n with
 | zero=>intro v b _;have e:=List.length_eq_zero_iff.1 (Nat.le_zero.1 b);rw [e];exact .nil (by unfold nxB;rw [e])| succ n g=>
   intro v b c;obtain⟨l,c⟩:=Option.isSome_iff_exists.1 c;rcases h.path v l c with⟨_,f,_⟩|⟨a,m,k,_,_,_,d,j,_⟩
   . rw [f];exact .nil (by unfold nxB;rw [f])
   . have e:=g (v:=fsB i (A.getD a default)) (by rw [d,List.length_cons]at b;omega) (by rw [j];rfl);rw [d];exact .cons (by unfold nxB;rw [d]) e
theorem SvB.nxtD(h:SvB A N r al pi i x){v y:Nat}(c:(x.L v).isSome=true)(b:nxB A i x.P v=some (y,w)):(x.L w).isSome=true:=by
 obtain⟨l,c⟩:=Option.isSome_iff_exists.1 c;rcases h.path v l c with⟨_,d,_⟩|⟨a,m,g,_,_,_,e,f,_⟩
 . unfold nxB at b;rw [d]at b;cases b
 . unfold nxB at b;rw [e]at b;cases b;rw [f];rfl
end
theorem bo_init{k l o:Hp}{br:Nat}{vPi:Value}{x y:Sx}{m n:List Nat}(H:OZ k)(R:Row o br (ij pn s t vPi (fun j=>if j=true then y else x) (.slice none 0 0) ⟨fun _=>iO,[],FAR,0⟩) 1)(U:br<k.n)
 (v:Mo (· =br) l o) (p:k.n<=l.n) (C: ∀q∈x.L false,Has l q.1 q.2) (I: ∀q∈y.L true,Has o q.1 q.2) (J:x.Ok iO) (K:y.Ok iO) (D:cG l m (ptrTo x.p) N (fun _=>none)) (L:cG o n (ptrTo y.p) N (fun _=>none))
 (nx: ∀c∈keys (x.L false) []++m,k.n<=c) (E: ∀c∈keys (y.L true) []++n,l.n<=c) (M:(keys (x.L false) []).Nodup) (O:(keys (y.L true) []).Nodup) (P: ∀c∈m,c∉keys (x.L false) []) (Q: ∀c∈n,c∉keys (y.L true) []):
 fm o br pn s t vPi (fun j=>if j=true then y else x) (fun j=>if j=true then n else m) (.slice none 0 0) N ⟨fun _=>iO,[],FAR,0⟩/\ ∀c∈boB br pn s t vPi (fun j=>if j=true then y else x) (fun j=>if j=true then n else m) (.slice none 0 0) ⟨fun _=>iO,[],FAR,0⟩,c=br\/k.n<=c:=by
 have r:=v.ok0;have F: ∀c∈keys (x.L false) [],c<l.n:=fun c d=>by simp only [keys,Xw,XA]at d;obtain⟨q,f,rfl⟩:=List.mem_map.1 d;exact(C q f).lt r
 have G:=D.lt r;have w: ∀c∈keys (x.L false) [],k.n<=c:=fun c d=>nx c (Xv _ d);have z: ∀c∈m,k.n<=c:=fun c d=>nx c (XD _ d);have u: ∀c∈keys (y.L true) [],l.n<=c:=fun c d=>E c (Xv _ d);have A: ∀c∈n,l.n<=c:=fun c d=>E c (XD _ d);have B:keys (boL false br pn s t vPi (fun j=>if j=true then y else x) (.slice none 0 0) ⟨fun _=>iO,[],FAR,0⟩) (boG (.slice none 0 0) ⟨fun _=>iO,[],FAR,0⟩)=br::(keys (x.L false) []++keys (y.L true) []):=by simp [keys,boL,boG,eH]
 have own: ∀q∈boL false br pn s t vPi (fun j=>if j=true then y else x) (.slice none 0 0) ⟨fun _=>iO,[],FAR,0⟩,Has o q.1 q.2:=fun q f=>by
  rcases List.mem_cons.1 f with rfl|f
  . exact R
  . rcases List.mem_append.1 f with f|f
    . have f:q∈x.L false:=f;refine v.has (C q f) fun e=>?_;have:=w q.1 (by simp only [keys,Xw,XA];exact List.mem_map.2 ⟨q,f,rfl⟩);omega
    . exact I q f
 refine⟨⟨own,.inl ⟨rfl,rfl⟩,?_,?_,?_,?_⟩,?_⟩
 . rw [B,List.nodup_cons,List.nodup_append];refine⟨fun g=>?_,M,O,fun a S b T e=>?_⟩
   . rcases List.mem_append.1 g with h|h
     . have:=w _ h;omega
     . have:=u _ h;omega
   . have:=F a S;have:=u b T;omega
 . intro i;cases i
   . exact D.mo v (fun c d e=>by have:=z c d;omega)
   . exact L
 . intro i;cases i
   . exact J
   . exact K
 . intro i c d;rw [B];cases i
   . have d:c∈m:=d;have:=G c d;have:=z c d;refine⟨fun g=>?_,fun g=>?_⟩
     . rcases List.mem_cons.1 g with h|h
       . omega
       . rcases List.mem_append.1 h with h|h
         . exact P c d h
         . have:=u c h;omega
     . have:=A c g;omega
   . have d:c∈n:=d;have:=A c d;refine⟨fun g=>?_,fun g=>?_⟩
     . rcases List.mem_cons.1 g with h|h
       . omega
       . rcases List.mem_append.1 h with h|h
         . have:=F c h;omega
         . exact Q c d h
     . have g:c∈m:=g;have:=G c g;omega
 . intro c d;unfold boB at d;rw [B]at d;rcases List.mem_append.1 d with h|h
   . rcases List.mem_cons.1 h with h|h
     . exact .inl h
     . rcases List.mem_append.1 h with h|h
       . exact .inr (w c h)
       . exact .inr (Xm p (u c h))
   . rcases List.mem_append.1 h with h|h
     . exact .inr (z c h)
     . exact .inr (Xm p (A c h))
theorem st_rg(i:OZ h){l:List Value}{vs:List Value}(R:Row h b l 1)(G:ig h (v,1,vs))(a: ∀c,av v c->c≠b):St (fun c=>c=b\/av v c) h h [(b,.row l 1)] [(v,1,vs)]:=by
 refine⟨Mo.refl i,fun p d=>?_,fun p d=>?_,?_⟩
 . rw [List.mem_singleton.1 d];exact⟨.inr (.inl rfl),R⟩
 . rw [List.mem_singleton.1 d];refine⟨G,fun c f=>.inr (.inr ?_)⟩;rcases G with⟨e,_⟩|⟨g,n,e,_⟩
   . simp only []at e;subst e;cases f
   . simp only []at e;subst e;cases f;rfl
 . rcases G with⟨e,_⟩|⟨g,n,e,_⟩
   . simp only []at e;subst e;exact(by simp:([b]:List Nat).Nodup)
   . simp only []at e;subst e;have:=a g rfl;simp [keys,eH];exact fun h=>this h.symm
theorem natC_flat(l:List Nat):(l.flatMap bO).all mO=true:=by
 induction l with
 |nil=>rfl|cons x l a=>rw [List.flatMap_cons,List.all_append,a];rfl
theorem BiI.keyB{A:List Arc}{a:Bool->Nat}{al:Nat->Bool}{pi:Nat->Int}{σ:Bi}(h:BiI A N a al pi σ)(b:N<=12)(i:Bool)(v:Nat)(k:Int)(c:(σ.sd i).K v=some k): -1000000000000000000<=k/\k<=1000000000000000000:=by
 obtain⟨_,l,d,e⟩:=(h.sv i).op v k c;obtain⟨_,f,j,_⟩:=(h.sv i).lab v l d;have m:=Nat.mul_le_mul_right cH (Xm (h.sv i).len b);have n:=jT;have o:=gX;obtain⟨p,q⟩:=f;cases i
 . have g:qB pi false v=pi v:=rfl;omega
 . have g:qB pi true v= -pi v:=rfl;omega
theorem yv  (ok:OZ h0) {B nb:Nat}  (H:Good γ) (U:aX h0 nb (ptrTo B) γ) {vPi:Value}  (sP:az h0 1 (encI .i64) vPi pis) (lP:pis.length=γ.nodes\/pis=[]/\vPi=.slice none 0 0) (hs:s<γ.nodes) (ht:t<γ.nodes) (a2:s≠t):
 Ret zM 50 [ptrTo B,.agg ⟨[.int .i64 (s:Nat),.int .i64 (t:Nat),.slice none 0 0,vPi]⟩] h0 fun r h'=>Gr h0 h'/\ ∃vA vE τ,r=.tuple #[.agg ⟨[.int .i64 (τ.dist:Nat),vA,vE]⟩,.int .i64 0]/\kL γ.arcs (fun _=>true) (fun v=>pis.getD v 0) (mX (fun v=>pis.getD v 0) s t) τ/\
  az h' 4 jz vE τ.ev/\az h' 1 bO vA (if τ.dist<FAR then pQ τ else [])/\ ∀c,av vA c\/av vE c->h0.n<=c:=by
 have S:=Si ok;have fP:=sP.fl;have V:=H.n2;have b8:=gX;have bb: ¬((s:Int)=(t:Int)):=by omega
 have hA: ∀a∈γ.arcs,a.s<γ.nodes/\a.t<γ.nodes/\a.w<=cH:=fun a ha=>H.arcs a ha;refine aa (n:=113) (rs:=[.cell 4 96,.tmp 5]) rfl Tryz.e50 rfl rfl rfl (lbt rfl) ?_;simp only [BZ,seval];refine ae (bA (by intro x e;cases e)) S ?_;clear S;intro h W S b2;simp only [ag]at S;simp only [BZ];refine ae aA S ?_;clear S;intro h Y S b5;simp only [BZ,Xe,Xb,Xf,S.lds (b:=W) (o:=0) (n:=4) m1 (lbt rfl),seval];refine am (bright_ok S.ok (U.gr S.gr) hs ht (sP.gr S.gr) lP) ?_;intro h g;replace S:=S.call g;clear g;simp only [BZ,bb,Xe,Xb,Xf,S.ld (b:=W) (o:=0) m1 rfl,S.ld (b:=W) (o:=1) m1 rfl,S.lds (b:=W) (o:=0) (n:=4) m1 (lbt rfl),seval];refine ae (bA (by intro x e;cases e)) S ?_;clear S;intro h d S bt;simp only [ag]at S;have Rq:=S.row (b:=d) m0;have R3:=S.row (b:=W) m2;have R4:=S.row (b:=Y) m1;have k3:=R3.lt S.ok;have k4:=R4.lt S.ok;have kq:=Rq.lt S.ok;have ap:=S.apart;simp only [keys,Xp,Xr,Xw,XA,List.nodup_cons,List.mem_cons,List.not_mem_nil,or_false,not_or]at ap;have a3:W≠d:=fun e=>by omega
 have bc:Y≠d:=fun e=>by omega
 have g0:=S.gr;have bd:=S.ok;have eF:((FAR:Nat):Int)=72057594037927936:=by rw [gX];rfl
 rename Hp=>hA';have E: ∀{h:Hp},Mo (· =d) hA' h->Gr h0 h:=fun f=>(g0.fr.trans f (fun i C=>.inr (by subst C;omega)):Mo NoM h0 _).gr;have a4: ∀{h:Hp} {b:Nat} {l:List Value},Mo (· =d) hA' h->Row hA' b l 1->b≠d->Row h b l 1:=fun {h b l} f r e=>f.has (b:=b) (o:=.row l 1) r e;simp only [BZ,S.ld (b:=W) (o:=0) m2 rfl,seval];have N:Ret zM 128 [ptrTo d,.int .i64 0,.int .i64 (s:Nat),.int .i64 1,.func (.func (outF false)) #[ptrTo B] #[],.func (.func (nC false)) #[] #[]] hA' _:=Ae bd (U.gr g0) Rq rfl rfl (i:=false) (v:=s) eh eh;refine step_ret N ?_;rintro r O ⟨Z,x,F1,R1,hx,xA,xH,ox,Hx,nx,dx,ax⟩;clear N;clear S;have S:=Si Z.ok;have be:Row O W _ 1:=Z.has (b:=W) (o:=.row _ 1) R3 a3;simp only [BZ,be.load1 (o:=1) rfl,seval];have N:Ret zM 128 [ptrTo d,.int .i64 1,.int .i64 (t:Nat),.int .i64 (-1),.func (.func (outF true)) #[ptrTo B] #[],.func (.func (nC true)) #[] #[]] O _:=Ae Z.ok (U.gr (E Z)) R1 rfl rfl (i:=true) (v:=t) eh eh;refine step_ret N ?_;rintro r P ⟨f2,y,F2,R2,hy,yA,yH,oy,Hy,ny,dy,ay⟩;clear N;have bf:Row P d (ij (ptrTo B) s t vPi (fun j=>if j=true then y else x) (.slice none 0 0) ⟨fun _=>iO,[],FAR,0⟩) 1:=by unfold ij;rw [eF];exact R2
 obtain⟨A0,J⟩:=bo_init bd bf kq f2 Z.n hx hy ox oy Hx Hy nx ny dx dy ax ay;have ac: ∀j:Bool,((fun j:Bool=>if j=true then y else x) j).vA=.func (.func (outF j)) #[ptrTo B] #[]/\((fun j:Bool=>if j=true then y else x) j).vH=.func (.func (nC j)) #[] #[]:=fun j=>by
  cases j
  . exact⟨xA,xH⟩
  . exact⟨yA,yH⟩
 have K:Mo (· =d) hA' P:=Z.trans f2 (fun i C=>.inl C);clear R2 bf hx hy ox oy Hx Hy nx ny dx dy ax ay xA xH yA yH Z f2 R1 be S;generalize(fun j:Bool=>if j=true then y else x)=X0 at A0 J ac;generalize(fun j:Bool=>if j=true then F2 else F1)=F0 at A0 J;have nP: ∀{h:Hp} {X:Bool->Sx} {F:Bool->List Nat} {vE:Value} {σ:Bi},(∀c∈boB d (ptrTo B) s t vPi X F vE σ,c=d\/hA'.n<=c)-> ∀c,av vPi c->c∉boB d (ptrTo B) s t vPi X F vE σ:=fun {h X F vE σ} pB c z hm=>by have O:=sP.blt ok z;have P:=g0.n;rcases pB c hm with h|h<;>omega
 have bh:=K.ok;have S:=Si bh;rename Hp=>hB;have l5:=A0.rows.1.load1 (o:=5) rfl;have bi:=(a4 K R3 a3).load1 (o:=0) rfl;simp only [BZ];refine ar (aw rfl) (q:=0) (ps:=[]) (by kernel_rfl) ?_;simp only [BZ,cls,Xq,l5,bi,seval];have N:Ret zM 133 [ptrTo d,ptrTo (X0 false).b,.int .i64 (s:Nat),.int .i64 (-1),.int .i64 0] hB _:=tT bh A0 (sP.gr (E K)) lP (nP (h:=hB) J) V (zP (A:=γ.arcs) (al:=fun _=>true) (s:=s) (t:=t)) (i:=false) (v:=s) (lab:=0) (p:=[]) hs (Xk _);refine bQ N ?_;rintro r hC ⟨f4,X1,F1,A1,e1,a0⟩;clear N;simp only [BZ,seval];have ad: ∀c∈boB d (ptrTo B) s t vPi X1 F1 (.slice none 0 0) _,c=d\/hA'.n<=c:=fun c z=>(a0 c z).elim (fun h=>J c h) (fun h=>.inr (Xm K.n h));have G:Mo (· =d) hA' hC:=K.trans f4 J;have I1:=(zP (A:=γ.arcs) (al:=fun _=>true) (pi:=fun v=>pis.getD v 0) (s:=s) (t:=t)).reach (b:=false) (v:=s) (p:=[]) (lab:=0) V hs (Xk _) (Xk _) (.inl ⟨rfl,rfl,rfl⟩);clear S;have S:=Si G.ok;have l6:=A1.rows.1.load1 (o:=6) rfl;have bk:=(a4 G R3 a3).load1 (o:=1) rfl;refine ar (aw rfl) (q:=0) (ps:=[]) (by kernel_rfl) ?_;simp only [BZ,cls,Xq,l6,bk,seval];have N:Ret zM 133 [ptrTo d,ptrTo (X1 true).b,.int .i64 (t:Nat),.int .i64 (-1),.int .i64 0] hC _:=tT G.ok A1 (sP.gr (E G)) lP (nP (h:=hC) ad) V I1 (i:=true) (v:=t) (lab:=0) (p:=[]) ht (Xk _);refine bQ N ?_;rintro r hD ⟨f5,X2,F2,A2,e2,Q⟩;clear N;simp only [BZ,seval];have eI:dp (fun v=>pis.getD v 0) true (dp (fun v=>pis.getD v 0) false ⟨fun _=>iO,[],FAR,0⟩ s 0 []) t 0 []=mX (fun v=>pis.getD v 0) s t:=rfl;rw [eI]at A2 Q;have bl: ∀c∈boB d (ptrTo B) s t vPi X2 F2 (.slice none 0 0) (mX (fun v=>pis.getD v 0) s t),c=d\/hA'.n<=c:=fun c z=>(Q c z).elim (fun h=>ad c h) (fun h=>.inr (Xm G.n h));have a5:Mo (· =d) hA' hD:=G.trans f5 ad;have I2:=initB_I (A:=γ.arcs) (al:=fun _=>true) (pi:=fun v=>pis.getD v 0) V hs ht;have bm: ∀j,(X2 j).vA=.func (.func (outF j)) #[ptrTo B] #[]/\(X2 j).vH=.func (.func (nC j)) #[] #[]:=fun j=>⟨(e2 j).2.1.trans ((e1 j).2.1.trans (ac j).1),(e2 j).2.2.trans ((e1 j).2.2.trans (ac j).2)⟩;have O2:=fun j=>initB_O (pi:=fun v=>pis.getD v 0) (s:=s) (t:=t) j;refine step_ret (CY a5.ok A2 (I2.keyB V) (I2.distLe V)) ?_;rintro r hE ⟨gE,nx⟩;simp only [BZ,seval];have A3:=A2.gr gE;have bn:Mo (· =d) hA' hE:=a5.trans (gE.fr (M:=NoM)) (fun _ h=>h.elim);refine bj (fun(σ:Bi) ρ h=> ∃X F vE,Mo (· =d) hA' h/\fm h d (ptrTo B) s t vPi X F vE γ.nodes σ/\(∀c∈boB d (ptrTo B) s t vPi X F vE σ,c=d\/hA'.n<=c)/\(∀j,(X j).vA=.func (.func (outF j)) #[ptrTo B] #[]/\(X j).vH=.func (.func (nC j)) #[] #[])/\BiI γ.arcs γ.nodes (rtB s t) (fun _=>true) (fun v=>pis.getD v 0) σ/\σ.ev.length<=200*((σ.sd false).O.length+(σ.sd true).O.length)/\
  (∀τ,kL γ.arcs (fun _=>true) (fun v=>pis.getD v 0) σ τ->kL γ.arcs (fun _=>true) (fun v=>pis.getD v 0) (mX (fun v=>pis.getD v 0) s t) τ)/\((StopB σ/\ρ 7=.pointer none)\/ ∃i,TurnB σ i/\ρ 7=ptrTo (X i).b)/\ρ 0=ptrTo B/\ρ 4=ptrTo Y/\ρ 6=ptrTo d) (fun σ=>2*γ.nodes-((σ.sd false).O.length+(σ.sd true).O.length)) ?_ (mX (fun v=>pis.getD v 0) s t) _ _ ?_
 . clear A2 A3 A1 A0 I2 I1 O2 J ad bl K G a5 bn nx e1 e2 ac bm a0 Q eI gE f4 f5 S l5 bi l6 bk;intro σ ih ρ h ⟨X,F,vE,fh,A,pB,eV,I,hev,hEnd,nx,r0,r4,r6⟩;have o1:=(I.sv false).len;have o2:=(I.sv true).len;rcases nx with⟨a2,r7⟩|⟨i,tu,r7⟩
   . have gh:=E fh;have L:=fh.ok;have S0:=A.st L false;have l7:=A.rows.1.load1 (o:=7) rfl;have l5:=A.rows.1.load1 (o:=5) rfl;have a6:=a4 fh R4 bc;have b9:=a6.lt L;have nE: ∀c,av vE c->h0.n<=c/\c≠d/\c≠Y/\c<h.n:=fun c z=>by
      have O:=pB c (Xv _ (fF (p:=(vE,4,σ.ev.flatMap jz)) m0 (mG A.ev z)));have P:c≠d:=fun e=>(S0.gblk m0 z).2 (by rw [e];exact m0);have h3:=A.ev.lt L (mG A.ev z);have:=g0.n;rcases O with h|h
      . exact absurd h P
      . exact⟨by omega,P,by omega,h3⟩
     have sE:az h 4 jz vE σ.ev:=A.ev.sl rfl uF (by decide);have fE:=sE.fl;by_cases hd:σ.dist<FAR
     . have a7:(σ.dist:Int)<72057594037927936:=(by omega);obtain⟨x,y,q1,q2,_⟩:=(I.dm.resolve_left (fun h=>by omega)) false;have q2:(σ.sd true).L σ.meet=some y:=q2;have af:=I.sv false;have ai:=I.sv true;have b6:=(af.lab _ _ q1).2.2.2.1;have b7:=(ai.lab _ _ q2).2.2.2.1;have nd:=(List.nodup_cons.1 (show(d::_).Nodup from A.nd)).1;have bu:(X true).b≠d:=fun e=>nd (by rw [<-e];simp [Sx.L]);have bv:(X true).ma≠d:=fun e=>nd (by rw [<-e];simp [Sx.L]);clear S0;simp only [BZ,Xq,r6,r7,l7,a7,l5,seval];refine step_ret (back_ok L (U.gr gh) H (A.bk false) (eV false).2 (D:=fun v=>((σ.sd false).L v).isSome=true) (fun v hv=>⟨hv,af.ids _ (Xl _) hv⟩) (fun v y w hv U=>af.nxtD hv U) (by rw [q1];rfl) (af.nxt _ (Xl _) (by rw [q1];rfl)) (by omega)) ?_;rintro v1 O ⟨g1,G1,n1⟩;have bw:Fl v1:=G1.fl;have a8: ∀c,av v1 c->c≠d:=fun c z e=>(by have:=n1 c z;have:=A.rows.1.lt L;omega);have S:=st_rg g1.ok (A.rows.1.gr g1) G1 a8;simp only [ij]at S;simp only [BZ,seval];refine aE (aF S (i:=0) rfl Tryz.t41.2.2.1 bw (Xo (lbt rfl)) ono) ?_;clear S;rintro P ⟨S,bx⟩;simp only [LC]at S;simp only [BZ,r6,S.ld (b:=d) (o:=8) m0 rfl,seval];refine step_ret (wW S.ok (S.gown _ m0).1 (by omega)) ?_;rintro r h3 ⟨f3,G3⟩;have ak:Row h3 d _ 1:=f3.has (b:=d) (o:=.row _ 1) (S.row m0) (fun z=>a8 _ z rfl);have S3:=st_rg f3.ok ak G3 a8;clear S;have S:=S3;clear S3;have fT:Mo (· =d) h h3:=((g1.fr (M:=(· =d))).trans bx (fun i C=>.inl C)).trans f3 (fun i C=>.inr (n1 i C));have bB:Mo (· =d) hA' h3:=fh.trans fT (fun i C=>.inl C);have B1:BkAt h3 d (ptrTo B) σ.meet true (X true) (σ.sd true):=⟨ak.load1 (o:=0) rfl,ak.load1 (o:=10) rfl,fT.has (b:=(X true).b) (o:=.row _ 1) (A.rows.2 true) bu,fT.has (b:=(X true).ma) (o:=.map _ _) (A.bk true).map bv,A.ok true⟩;have bE:=ak.lt f3.ok;simp only [BZ];refine ar (aw rfl) (q:=0) (ps:=[(5,12)]) (by kernel_rfl) ?_;simp only [BZ,cls,Xq,r6,S.ld (b:=d) (o:=8) m0 rfl,S.ld (b:=d) (o:=6) m0 rfl,seval];refine bQ (back_ok f3.ok (U.gr (E bB)) H B1 (eV true).2 (D:=fun v=>((σ.sd true).L v).isSome=true) (fun v hv=>⟨hv,ai.ids _ (Xl _) hv⟩) (fun v y w hv U=>ai.nxtD hv U) (by rw [q2];rfl) (ai.nxt _ (Xl _) (by rw [q2];rfl)) (by omega)) ?_;rintro v2 h4 ⟨g4,G2,ca⟩;have bo:=ah g4 bE;replace S:=S.call g4;have s2:az h4 1 bO v2 ((σ.sd true).P σ.meet):=G2.sl rfl dr (by decide);simp only [BZ,cls,seval];refine mI (S.grow (j:=0) (m:=((σ.sd true).P σ.meet).length) (new:=((σ.sd true).P σ.meet).flatMap bO) rfl Tryz.t41.1 Tryz.e3E (by decide) Tryz.t41.2.2.2.2.2 s2.src (by rw [oZ];omega) (by decide) (natC_flat _) (by rw [oZ,oZ,List.length_reverse];omega)) ?_;clear S;rintro h5 vA S;simp only [LC]at S;have bq:Fl vA:=(S.gown _ m0).1.fl;simp only [BZ,cls,seval];refine cM (aF S (i:=0) rfl Tryz.t41.2.2.1 bq (Xo (lbt rfl)) ono) ?_;clear S;rintro h6 ⟨S,cb⟩;simp only [LC]at S;simp only [BZ,r6,seval];refine⟨by simp only [aK,aO,aH,aQ,aJ,ne_eq,not_false_eq_true,aS,bz,aN,aM,bG,bS,aC,zO,r0,r4,r6,r7,an,gY,ao bo,aq bo,seval],?_⟩;have br:=S.ok;have bL:Mo (fun c=>c=d\/av v1 c) h3 h6:=S.fr;have ba:Mo (· =d) h h6:=fT.trans bL (fun i C=>C.elim .inl (fun h=>.inr (n1 i h)));have bP:Row h6 Y _ 1:=ba.has (b:=Y) (o:=.row _ 1) a6 bc;have R:=S.lds (b:=d) (o:=7) (n:=3) m0 (lbt rfl);simp only [Xc,Xd]at R;have sA:az h6 1 bO vA (pQ σ):=(S.gown _ m0).1.sl (by unfold pQ;rw [List.flatMap_append]) dr (by decide);have nA: ∀c,av vA c->h0.n<=c/\c≠Y:=fun c z=>by
        obtain⟨O,P⟩:=S.gblk m0 z;have:=gh.n;have:=fT.n;rcases O with h|h|h
        . exact⟨by omega,by omega⟩
        . exact absurd (by rw [h];exact m0) P
        . have:=n1 c h;exact⟨by omega,by omega⟩
       have bT:=sE.mo ba (fun c z e=>(nE c z).2.1 e);have g6:Gr h0 h6:=E (fh.trans ba (fun i C=>.inl C));clear S;have S:=St.init1 br (o:=.row _ 1) bP;simp only [BZ,r4,R,seval];refine aE (S.store (i:=0) rfl Tryz.t96.2.1 (by intro x e;cases e) rfl (by simp only [ag,Xg,Xh,bq.2.1,fE.2.1,zO];rfl) (lbt rfl) ono) ?_;clear S;rintro h7 ⟨S,aL⟩;simp only [LC,ag,lay,Xd,Xc,seval]at S;simp only [BZ,ab];refine(bF (by decide) (by simp only [aC,r4,an,seval];exact bD Tryz.t96.1 Tryz.t96.2.1 (S.lds (b:=Y) (o:=0) (n:=3) m0 (lbt rfl)))).2 ?_;refine(eo (by decide)).2 (cg.2 ?_);have gZ:Gr h0 h7:=(g6.fr.trans S.fr (fun i C=>.inr (by subst C;omega)):Mo NoM h0 h7).gr;exact⟨gZ,vA,vE,σ,rfl,hEnd σ (.stop a2),bT.mo aL (fun c z e=>(nE c z).2.2.1 e),by rw [if_pos hd];exact sA.mo aL (fun c z e=>(nA c z).2 e),fun c z=>z.elim (fun h=>(nA c h).1) (fun h=>(nE c h).1)⟩
     . have a7: ¬(σ.dist:Int)<72057594037927936:=(by omega);have R:=A.rows.1.load (o:=7) (n:=3) (lbt rfl);simp only [ij,Xc,Xd]at R;have g6:=gh;have fN:Fl (.slice none 0 0):=aW;have S:=St.init1 L (o:=.row _ 1) a6;simp only [BZ,r6,r7,l7,a7,seval];simp only [BZ,r4,R,seval];refine aE (S.store (i:=0) rfl Tryz.t96.2.1 (by intro x e;cases e) rfl (by simp only [ag,Xg,Xh,fN.2.1,fE.2.1,zO];rfl) (lbt rfl) ono) ?_;clear S;rintro h7 ⟨S,aL⟩;simp only [LC,ag,lay,Xd,Xc,seval]at S;simp only [BZ,ab];refine(bF (by decide) (by simp only [aC,r4,an,seval];exact bD Tryz.t96.1 Tryz.t96.2.1 (S.lds (b:=Y) (o:=0) (n:=3) m0 (lbt rfl)))).2 ?_;refine(eo (by decide)).2 (cg.2 ?_);have gZ:Gr h0 h7:=(g6.fr.trans S.fr (fun i C=>.inr (by subst C;omega)):Mo NoM h0 h7).gr;exact⟨gZ,_,vE,σ,rfl,hEnd σ (.stop a2),sE.mo aL (fun c z e=>(nE c z).2.2.1 e),by rw [if_neg hd];exact .inl ⟨rfl,rfl⟩,fun c z=>z.elim (fun h=>h.elim) (fun h=>(nE c h).1)⟩
   . obtain⟨v,k,hp⟩: ∃v k,oe (σ.sd i).K v k:=by
      obtain⟨v,k,u,l,p1,p2,_,_⟩:=tu;cases i
      . exact⟨v,k,p1⟩
      . exact⟨u,l,p2⟩
     have gh:=E fh;have bX: ∀c∈boB d (ptrTo B) s t vPi X F vE σ,h0.n<=c:=fun c z=>(pB c z).elim (fun e=>by omega) (fun e=>Xm g0.n e);simp only [BZ,r6,r7,seval];refine step_ret (bstep_ok gh H U A bX sP lP I (by omega) hp (eV i).1 (eV i).2) ?_;rintro r O ⟨Z,X',F',bY,A',e',a1⟩;obtain⟨I',ke⟩:=stepB_I V hA I hp.1;have b0:(kE γ.arcs (fun _=>true) (fun v=>pis.getD v 0) i v (cS σ i v)).ev.length<=σ.ev.length+200:=(by have O:=xw (A:=γ.arcs) (al:=fun _=>true) (pi:=fun v=>pis.getD v 0) (b:=i) (v:=v) (outs γ.arcs (fsB i) γ.arcs.length v) (σ:=cS σ i v);have P:(cS σ i v).ev.length=σ.ev.length+1:=(by simp [cS]);have h3:=kK γ.arcs (fsB i) γ.arcs.length v;have:=H.many;unfold kE;omega);have eO:((kE γ.arcs (fun _=>true) (fun v=>pis.getD v 0) i v (cS σ i v)).sd false).O.length+((kE γ.arcs (fun _=>true) (fun v=>pis.getD v 0) i v (cS σ i v)).sd true).O.length=(σ.sd false).O.length+(σ.sd true).O.length+1:=by
      have k1:=ke.O;have k2:=ke.ot;rw [clo_b]at k1;rw [clo_n]at k2;cases i
      . rw [k1,show((kE γ.arcs (fun _=>true) (fun v=>pis.getD v 0) false v (cS σ false v)).sd true)=σ.sd true from k2];simp only [List.length_append,XE];omega
      . rw [k1,show((kE γ.arcs (fun _=>true) (fun v=>pis.getD v 0) true v (cS σ true v)).sd false)=σ.sd false from k2];simp only [List.length_append,XE];omega
     have T: ∀τ,kL γ.arcs (fun _=>true) (fun v=>pis.getD v 0) (kE γ.arcs (fun _=>true) (fun v=>pis.getD v 0) i v (cS σ i v)) τ->kL γ.arcs (fun _=>true) (fun v=>pis.getD v 0) (mX (fun v=>pis.getD v 0) s t) τ:=fun τ h=>hEnd τ (.step tu hp h);generalize kE γ.arcs (fun _=>true) (fun v=>pis.getD v 0) i v (cS σ i v)=τ at A' a1 I' b0 eO T;have p1:=(I'.sv false).len;have p2:=(I'.sv true).len;have bs:Mo (· =d) hA' O:=fh.trans Z pB;simp only [BZ,r6,seval];refine step_ret (CY bs.ok A' (I'.keyB V) (I'.distLe V)) ?_;rintro r P ⟨g2,b1⟩;simp only [BZ,seval];refine ih τ _ _ (by omega) ⟨X',F',bY,bs.trans (g2.fr (M:=NoM)) (fun _ h=>h.elim),A'.gr g2,fun c z=>(a1 c z).elim (pB c) (fun h=>.inr (Xm fh.n h)),fun j=>⟨(e' j).2.1.trans (eV j).1,(e' j).2.2.trans (eV j).2⟩,I',by omega,T,?_,by simp [aD,r0,an,r4,r6]⟩;rcases b1 with⟨a,rfl⟩|⟨j,a,rfl⟩
     . exact .inl ⟨a,by simp [aD]⟩
     . exact .inr ⟨j,a,by simp [aD,an]⟩
 . refine⟨X2,F2,_,bn,A3,bl,bm,I2,by rw [initB_ev];exact Xk _,fun τ h=>h,?_,by simp [aD,c8,an]⟩;rcases nx with⟨a,rfl⟩|⟨j,a,rfl⟩
   . exact .inl ⟨a,by simp [aD]⟩
   . exact .inr ⟨j,a,by simp [aD,an]⟩
def v9(a b:Int):Int:=if wy a<72057594037927936 then(if wy b<72057594037927936 then wy a-wy b else 72057594037927936)else 72057594037927936
theorem AS(Y:OZ h0){post:Array Value}{D W:Nat->Prop}{xs:List Int}(Z:ww zM g post.toList h0 D W (xs.map fun(x:Int)=>[.int .i64 x]))(I: ∀b,W b->b<h0.n)(hn:xs.length<100000):
 Ret zM 213 [.slice none 0 0,.func (.func g) #[] post] h0 fun r h'=>Mo W h0 h'/\ig h' (r,1,ints xs)/\ ∀c,av r c->h0.n<=c:=by
 have S:=Si Y;refine aa (n:=13) (rs:=[.tmp 4]) rfl Tryz.e213 rfl rfl rfl (lbt rfl) ?_;simp only [BZ,seval];refine ae (bN (by exact aW)) S ?_;clear S;intro h l S t;simp only [BZ,if_false,seval];replace S:=S.nilG (k:=1);have J:=S.gr;replace S:=S.monoM (M:=W);have C:=S.fr;refine iD S (g:=g) (a:=#[]) (b:=post) (by simp [bG,aD,cK,dw]) rfl rfl ?_;intro E u s p ac ad K;obtain⟨X,N,p⟩: ∃X:gu,X=_/\St W h0 E [(s,.loop X),(u,.dfr),(l,.row [.slice none 0 0] 1)] [(.slice none 0 0,1,[])]:=⟨_,rfl,p⟩;have O: ∀c,h0.n<=c-> ¬W c:=fun c h G=>by have:=I c G;omega
 have hJ:Yld zM s (fun k h' F=> ∃(e:Value),St W h0 h' [(s,.loop X),(u,.dfr),(l,.row [e] 1)] [(e,1,ints (xs.take k))]/\k<=xs.length/\(∀c∈F,h0.n<=c)/\F=keys [(s,.loop X),(u,.dfr),(l,.row [e] 1)] [(e,1,ints (xs.take k))]) (fun _ _=>False) (xs.map fun(x:Int)=>[.int .i64 x]):=by
  refine⟨?_,?_,fun _ _ h=>h.elim,?_⟩
  . rintro i h F ⟨e,S,_,_,rfl⟩;exact⟨S.ok,fun b f=>S.key_lt f⟩
  . rintro i h F h' ⟨e,S,a,b,rfl⟩ B;exact⟨e,S.call B,a,b,rfl⟩
  . rintro i x hR F v ⟨e,S,a,b,rfl⟩;have w:i<xs.length:=(by have:=(List.getElem?_eq_some_iff.1 v).1;simpa using this);rw [Xy,Xs w]at v;cases v;have tk:ints (xs.take (i+1))=ints (xs.take i)++[.int .i64 xs[i]]:=(by rw [List.take_add_one,Xs w];exact iH _ _);have tl:(xs.take i).length<=i:=(by rw [Xt];omega);subst N;refine iB (S.get m0) (by rw [Tryz.e213];rfl) rfl ?_;have P:=S;replace S:=S.base;simp only [BZ,seval];refine ib S (i:=0) rfl rfl rfl rfl rfl ?_;clear S;intro h S;simp only [LC]at S;simp only [BZ,S.ld (b:=l) (o:=0) m2 rfl,seval];refine ae (ce (by exact Tryz.t23.1) (by exact Tryz.e2E) (by decide) (by rfl)) S ?_;clear S;intro h Q S R;simp only [LC,bJ,cq,ag,Nat.zero_mul,XG,XC,Nat.one_mul,seval]at S;simp only [BZ,seval];have z:aR h 1 (.slice (some ⟨Q,0,none⟩) 1 1)=some (1,[.int .i64 xs[i]]):=(by simp only [aR];rw [S.lds (b:=Q) (o:=0) (n:=1*1) m0 (lbt rfl)];rfl);replace S:=S.drop1;refine dQ (S.grow (j:=0) (m:=1) (new:=[.int .i64 xs[i]]) rfl Tryz.t23.1 Tryz.e2E (by decide) Tryz.t23.2.2.2.2.2 z rfl (by decide) rfl (by rw [cD];simp;omega)) ?_;clear S z;rintro h A S;simp only [LC]at S;have fv:Fl A:=(S.gown _ m0).1.fl;simp only [BZ,seval];refine aE (aF S (i:=2) rfl Tryz.t23.2.2.1 fv (Xo (lbt rfl)) ono) ?_;clear S;rintro h ⟨S,_⟩;simp only [LC]at S;simp only [BZ];refine d6 S (i:=0) rfl ?_;clear S;intro h S;simp only [LC]at S;rw [<-tk]at S;have H:=P.rebase S;refine .inl ⟨rfl,_,⟨A,H,by omega,fun c d=>?_,rfl⟩,S.fr,fun c d=>(S.key_own d).symm⟩;rcases S.key_own d with U|U
    . have:=P.fr.n;omega
    . exact b c U
 have q: ∀c∈keys [(s,Ob.loop X),(u,.dfr),(l,.row [.slice none 0 0] 1)] [(.slice none 0 0,1,[])],h0.n<=c:=fun c d=>by have n2:=t;have:=C.n;simp [keys,eH]at d;omega
 refine cR (Z s _ _ (fun _ _ h=>h) hJ ?_ E _ ?_ ?_ (fun c d=>O c (q c d)) ⟨_,p,Xk _,q,rfl⟩) fun o rc h' y=>jt y ?_
 . rintro i h F h' ⟨e,S,a,b,rfl⟩ B;exact⟨e,S.step B (fun c d=>.inl d) (fun c d G=>O c (b c d) G),a,b,rfl⟩
 . have B:Mo W h0 E:=p.fr;exact⟨p.ok,p.fr.n,fun b f _=>(J.trans K).get b f,fun b f h=>by have:=q b f;omega,fun b f=>p.key_lt f⟩
 . exact fun b f=>(J.trans K).get b (I b f)
 . rintro F ⟨e,T,a,b,rfl⟩;rw [List.length_map,List.take_length]at T b;subst N;refine⟨_,T.get m0,Nat.zero_ne_one,?_⟩;replace T:=T.dead;have S:=T;show Run _ _ _ _ _ _ _ _;simp only [BZ,S.ld (b:=l) (o:=0) m1 rfl,seval];refine dz (ir [u] _ (L:=[(l,_)]) T.base fun h3 V=>⟨rfl,_,rfl,?_⟩);refine⟨(T.fr.trans V.fr (fun c d=>(T.key_own d).symm):Mo W h0 h3),(V.gown _ m0).1,fun x v=>?_⟩;refine b x ?_;have:eH (e,1,ints xs)=some x:=mG (T.gown _ m0).1 v;exact fF m0 this
theorem De(a:OZ h0){post:Array Value}{D W:Nat->Prop}{xs:List Int}(d:ww zM g post.toList h0 D W (xs.map fun(x:Int)=>[.int .i64 x]))(e: ∀b,W b->b<h0.n)(i:xs.length<100000):
 Ret zM 138 [.func (.func g) #[] post] h0 fun r h'=>Mo W h0 h'/\ig h' (r,1,ints xs)/\ ∀c,av r c->h0.n<=c:=by
 have S:=Si a;refine aa (n:=5) (rs:=[.tmp 2]) rfl Tryz.e138 rfl rfl rfl (lbt rfl) ?_;simp only [BZ,seval];refine step_ret (AS S.ok d e i) ?_;rintro r h ⟨f,q⟩;simp only [BZ,ab,seval];exact⟨f,q⟩
theorem Dt(c:OZ h0){v t:Int}:aT zM 140 [.int .i64 v,.int .i64 t] h0 (.int .i64 (v9 v t)):=by
 have S:=Si c;have d:=tS v;have e:=tS t;have w:au .i64 (wy v-wy t)=wy v-wy t:=by rw [wrap64]<;>omega
 refine aa (n:=18) (rs:=[.tmp 4]) rfl Tryz.e140 rfl rfl rfl (lbt rfl) ?_;simp only [BZ,seval];refine am (ow S.ok) ?_;intro h g;replace S:=S.call g;clear g;unfold v9;by_cases a:wy v<72057594037927936
 . simp only [BZ,a,seval];refine am (ow S.ok) ?_;intro h g;replace S:=S.call g;clear g;by_cases b:wy t<72057594037927936
   . simp only [BZ,b,seval];refine am (nw S.ok) ?_;intro h g;replace S:=S.call g;clear g;simp only [BZ,seval];refine am (nw S.ok) ?_;intro h g;replace S:=S.call g;clear g;simp only [BZ,ab,w,seval];exact S.gr
   . simp only [BZ,ab,b,seval];exact S.gr
 . simp only [BZ,ab,a,seval];exact S.gr
theorem twin1_ok{hq:Hp}(a:OZ hq)(t:TabAt hq m p N l R Q)(x: ∀i,i<l.length->(R i).length=N)(y: ∀i,i<l.length->(Q i).length=N)(z:l.length<1000){d:List Int}(j:az hq 1 (encI .i64) A d)(e:d.length<1000){s w:Int}{b4:Nat}(J:hq.load b4 0 1=some [p])(K:hq.load b5 0 1=some [A])(L:hq.load b6 0 1=some [.int .i64 s])(M:hq.load o 0 1=some [.int .i64 w]):
 TellF zM hq 139 [ptrTo b4,ptrTo b5,ptrTo o,ptrTo b6] N (fun v=>v9 (iF N l.length R Q v w d) (iF N l.length R Q s v d)):=by
 intro h f k v W;have X:Fl p:=by obtain⟨b,_,_,_,rfl,_⟩:=t.ex;exact bH
 have Y:=j.fl;have S:=Si f;have r:=k.load a J;have u:=k.load a K;have B:=k.load a L;have C:=k.load a M;have O:=bC f r;have P:=bC f u;have T:=bC f B;have U:=bC f C;refine aa (n:=18) (rs:=[.tmp 6]) rfl Tryz.e139 rfl rfl rfl (lbt rfl) ?_;simp only [BZ];refine ar (aw rfl) (q:=0) (ps:=[(4,7),(4,6),(4,5)]) (by kernel_rfl) ?_;simp only [BZ,cls,r,u,C,seval];refine bg (xS S.ok (t.keep a k) x y z (j.keep a k) e) ?_;intro Z c;have e4:=ah c O;have e5:=ah c P;have D:=ah c T;have E:=ah c U;replace S:=S.call c;have n1:=c.n;simp only [BZ,cls,c.load r,c.load u,c.load B,seval];refine bg (xS S.ok ((t.keep a k).gr c) x y z ((j.keep a k).gr c) e) ?_;intro h2 g;have F:=ah g (show b4<_ by omega);have G:=ah g (show b5<_ by omega);have H:=ah g (show b6<_ by omega);have I:=ah g (show o<_ by omega);replace S:=S.call g;simp only [BZ,cls,seval];refine bg (Dt S.ok) ?_;intro h3 V;replace S:=S.call V;simp only [BZ,cls,ab,seval];refine⟨by simp only [aK,aO,aH,aQ,aJ,ne_eq,not_false_eq_true,aS,bz,aN,aM,bG,bS,aC,zO,an,cK,dw,ao e4,aq e4,ao e5,aq e5,ao D,aq D,ao E,aq E,ao F,aq F,ao G,aq G,ao H,aq H,ao I,aq I,seval],?_⟩;exact S.gr
theorem bTwin_ok(J:OZ h0)(t:TabAt h0 m p N l R Q)(K: ∀i,i<l.length->(R i).length=N)(L: ∀i,i<l.length->(Q i).length=N)(M:l.length<1000)(O:N<=1000){a:List Int}(B:az h0 1 (encI .i64) A a)(q:a.length<1000)(hs:s<N)(hw:w<N):
 Ret zM 51 [p,A,.int .i64 (s:Nat),.int .i64 (w:Nat)] h0 fun r h'=>Gr h0 h'/\az h' 1 (encI .i64) r ((Xz N).map fun(v:Nat)=>v9 (iF N l.length R Q v w a) (iF N l.length R Q s v a))/\ ∀c,av r c->h0.n<=c:=by
 have P:Fl p:=by obtain⟨b,_,_,_,rfl,_⟩:=t.ex;exact bH
 have fa:=B.fl;have S:=Si J;have T:0<=(w:Int)/\(w:Int)<(N:Int):=by omega
 have U:0<=(s:Int)/\(s:Int)<(N:Int):=by omega
 have V:decide (0<=(w:Int)/\(w:Int)<(N:Int))=true:=decide_eq_true T;have W:decide (0<=(s:Int)/\(s:Int)<(N:Int))=true:=decide_eq_true U;refine aa (n:=23) (rs:=[.tmp 8]) rfl Tryz.e51 rfl rfl rfl (lbt rfl) ?_;simp only [BZ,seval];refine ae (bN (by assumption)) S ?_;clear S;intro h X S C;simp only [BZ,if_false,seval];refine ae (bN (by assumption)) S ?_;clear S;intro h Y S D;simp only [BZ,if_false,seval];refine ae (bN (by exact aU)) S ?_;clear S;intro h Z S E;simp only [BZ,if_false,seval];refine ae (bN (by exact aU)) S ?_;clear S;intro h b7 S F;have d:=S.gr;have k:=S.ld (b:=X) (o:=0) m3 rfl;have l5:=S.ld (b:=Y) (o:=0) m2 rfl;have H:=S.ld (b:=Z) (o:=0) m1 rfl;have I:=S.ld (b:=b7) (o:=0) m0 rfl;have e:=S.ok;clear S;rename Hp=>hq;have S:=Si e;have tf:=twin1_ok e (t.gr d) K L M (B.gr d) q k l5 H I;simp only [BZ,k,H,seval];refine am (iI S.ok (t.gr d)) ?_;intro h g;replace S:=S.call g;clear g;simp only [BZ,W,S.old k (fun h=>h),S.old I (fun h=>h),seval];refine am (iI S.ok ((t.gr d).gr S.gr)) ?_;intro h g;replace S:=S.call g;clear g;simp only [BZ,V,S.old k (fun h=>h),seval];refine step_ret (BI S.ok P eh) ?_;rintro r h ⟨g,u,y,rfl,n1,n2,y1,y2⟩;replace S:=S.call g;clear g;have z:=Bo e S.ok S.gr.keep S.fr.n (t.gr d) O tf y1 y2;have kn:=S.fr.n;have kG:=d.n;rename Hp=>hE;simp only [BZ,seval];generalize j:((Xz N).map fun(v:Nat)=>v9 (iF N l.length R Q v w a) (iF N l.length R Q s v a))=xs;have ac:xs.length=N:=by rw [<-j];simp
 replace z:nG zM 203 [] [ptrTo u,ptrTo y] hE (fun c=>c=u\/c=y\/c<hq.n) (xs.map fun x=>[.int .i64 x]):=by rw [<-j,List.map_map];exact z
 refine step_ret (De S.ok (post:=#[ptrTo u,ptrTo y]) (iter_w z) (fun _ h=>h.elim) (by omega)) ?_;rintro r h2 ⟨f,G,nr⟩;have g2:=f.gr;simp only [BZ,ab,seval];exact⟨d.trans (S.gr.trans g2),G.sl rfl (fun _=>rfl) (by decide),fun c hc=>by have:=nr c hc;omega⟩
theorem pA(a:OZ h0):Ret zM 52 [.bool true,.int .i64 c] h0 fun _ h'=>Gr h0 h':=by have S:=Si a;refine aa (n:=9) (rs:=[]) rfl Tryz.e52 rfl rfl rfl (lbt rfl) ?_;simp only [BZ,seval];exact S.gr
def trouV(c:Int):Value:=.iface 104 (.agg ⟨[.int .i64 c]⟩)
theorem need_no(a:OZ h0):eJ zM 52 [.bool false,.int .i64 c] none h0 fun o b h'=>o=.pan (trouV c)/\Gr h0 h':=by have S:=Si a;refine enter (n:=9) (rs:=[]) rfl Tryz.e52 rfl rfl rfl (lbt rfl) ?_;simp only [BZ,seval];exact fj (cu ⟨rfl,S.gr⟩)
section
variable{h0:Hp}{bp nb s w:Nat}{γ:Gra}
theorem AG(b:OZ h0)(c:aX h0 nb (ptrTo bp) γ){a:Nat}(l:h0.load a 0 1=some [ptrTo bp]){v:Nat}(d:v<γ.nodes):aT zM 122 [.int .i64 (v:Nat),ptrTo a] h0 (.bool true):=by
 have S:=Si b;have e:(0:Int)<=(v:Int):=by omega
 refine aa (n:=12) (rs:=[.tmp 3]) rfl Tryz.e122 rfl rfl rfl (lbt rfl) ?_;simp only [BZ,l,e,seval];refine am (bM S.ok (c.gr S.gr)) ?_;intro h g;replace S:=S.call g;clear g;simp only [BZ,ab,aG,d,seval];exact S.gr
theorem asked2_ok(b:OZ h0){a:Nat}(l:h0.load a 0 1=some [ptrTo bp]):Ret zM 123 [ptrTo a] h0 fun _ h'=>Gr h0 h':=by have S:=Si b;refine aa (n:=4) (rs:=[]) rfl Tryz.e123 rfl rfl rfl (lbt rfl) ?_;simp only [BZ,l,seval];refine step_ret (pA S.ok) ?_;intro r h g;replace S:=S.call g;clear g;simp only [BZ];exact S.gr
theorem asked3_ok(b:OZ h0)(c:aX h0 nb (ptrTo bp) γ){a:Nat}(d:h0.load a 0 1=some [ptrTo bp])(e:h0.load b6 0 1=some [.func (.func 122) #[] #[ptrTo a]])(f:h0.load b5 1 1=some [.int .i64 (s:Nat)])(i:s<γ.nodes):Ret zM 124 [ptrTo b6,ptrTo b5] h0 fun _ h'=>Gr h0 h':=by have S:=Si b;refine aa (n:=7) (rs:=[]) rfl Tryz.e124 rfl rfl rfl (lbt rfl) ?_;simp only [BZ,e,f,seval];refine am (AG S.ok c d i) ?_;intro h g;replace S:=S.call g;clear g;simp only [BZ,seval];refine step_ret (pA S.ok) ?_;intro r h g;replace S:=S.call g;clear g;simp only [BZ];exact S.gr
theorem asked4_ok(b:OZ h0)(c:aX h0 nb (ptrTo bp) γ){a:Nat}(d:h0.load a 0 1=some [ptrTo bp])(e:h0.load b6 0 1=some [.func (.func 122) #[] #[ptrTo a]])(f:h0.load b5 2 1=some [.int .i64 (w:Nat)])(i:w<γ.nodes):Ret zM 125 [ptrTo b6,ptrTo b5] h0 fun _ h'=>Gr h0 h':=by have S:=Si b;refine aa (n:=7) (rs:=[]) rfl Tryz.e125 rfl rfl rfl (lbt rfl) ?_;simp only [BZ,e,f,seval];refine am (AG S.ok c d i) ?_;intro h g;replace S:=S.call g;clear g;simp only [BZ,seval];refine step_ret (pA S.ok) ?_;intro r h g;replace S:=S.call g;clear g;simp only [BZ];exact S.gr
theorem asked5_ok(f:OZ h0)(c:aX h0 nb (ptrTo bp) γ){g:Value}(t:TabAt h0 m g γ.nodes l R Q)(E:l.length<=16)(y:1<=l.length){e b4:Nat}(j:h0.load e 0 1=some [ptrTo bp])(h:h0.load b4 0 1=some [g]):Ret zM 126 [ptrTo b4,ptrTo e] h0 fun _ h'=>Gr h0 h':=by
 have S:=Si f;have F:Fl g:=by obtain⟨b,_,_,_,rfl,_⟩:=t.ex;exact bH
 have z:=bC f j;have A:=bC f h;have B:(0:Int)<(l.length:Int):=by omega
 refine aa (n:=14) (rs:=[]) rfl Tryz.e126 rfl rfl rfl (lbt rfl) ?_;simp only [BZ];refine EG (by kernel_rfl) (n:=11) (by kernel_rfl) (aw rfl) (q:=0) (ps:=[(6,7)]) (by kernel_rfl) ?_;simp only [List.length_cons,List.length_nil,XG,Xb,Xf,List.drop_succ_cons,Xe,seval];simp only [BZ,cls,h,seval];refine bQ (jG S.ok (t.gr S.gr) (by omega)) ?_;rintro r y ⟨a,C,_⟩;replace S:=S.call a;have k:=ah a A;have o:=ah a z;simp only [BZ,cls,C.lenq,B,a.load h,seval];refine bg (lI S.ok (t.gr S.gr)) ?_;intro G d;have H:=a.n;have I:=d.n;have p:=ah d (show b4<_ by omega);have u:=ah d (show e<_ by omega);replace S:=S.call d;simp only [BZ,cls,d.load (a.load j),seval];refine bg (bM S.ok (c.gr S.gr)) ?_;intro J i;have v:=ah i (show b4<_ by omega);have x:=ah i (show e<_ by omega);replace S:=S.call i;simp only [BZ,cls,seval];refine⟨by simp only [aK,aO,aH,aQ,aJ,ne_eq,not_false_eq_true,aS,bz,aN,aM,bG,bS,aC,zO,an,c8,ao o,aq o,ao k,aq k,ao u,aq u,ao p,aq p,ao x,aq x,ao v,aq v,seval],?_⟩
 try simp only [BZ,RetQ,jy,cU,ju,cls,touch,iq,ag,ab,n_new,decide_eq_true_eq,Bool.not_eq_true',decide_eq_false_iff_not,List.length_set,Bool.false_and,Bool.true_and,Int.ofNat_eq_natCast,Xq,Bool.true_eq_false,Bool.false_eq_true,Option.map_some,Option.map_none,an,seval]
 refine step_ret (pA S.ok) ?_;intro r K D;replace S:=S.call D;simp only [BZ];exact S.gr
theorem build_ask{a b c d:FuncId}{e f g h:Array Value}:lj zM 204 [(0,.func (.func a) #[] e),(1,.func (.func b) #[] f),(2,.func (.func c) #[] g),(3,.func (.func d) #[] h)]=some (.agg ⟨[.func (.func a) #[] e,.func (.func b) #[] f,.func (.func c) #[] g,.func (.func d) #[] h]⟩):=by unfold lj;rw [Tryz.t204.2.2.2.1,Tryz.t204.1];simp only [Tryz.t1.2.1];rfl
theorem rW{a b c d:FuncId}{e f g h:Array Value}:jC zM 204 (.agg ⟨[.func (.func a) #[] e,.func (.func b) #[] f,.func (.func c) #[] g,.func (.func d) #[] h]⟩) (.int .i64 0)=some (.func (.func a) #[] e)/\
 jC zM 204 (.agg ⟨[.func (.func a) #[] e,.func (.func b) #[] f,.func (.func c) #[] g,.func (.func d) #[] h]⟩) (.int .i64 1)=some (.func (.func b) #[] f)/\
 jC zM 204 (.agg ⟨[.func (.func a) #[] e,.func (.func b) #[] f,.func (.func c) #[] g,.func (.func d) #[] h]⟩) (.int .i64 2)=some (.func (.func c) #[] g)/\
 jC zM 204 (.agg ⟨[.func (.func a) #[] e,.func (.func b) #[] f,.func (.func c) #[] g,.func (.func d) #[] h]⟩) (.int .i64 3)=some (.func (.func d) #[] h):=by
 unfold jC;rw [Tryz.t204.1];simp only [Tryz.t1.2.1];refine⟨?_,?_,?_,?_⟩<;>rfl
theorem asked_ok(C:OZ h0)(c:aX h0 nb (ptrTo bp) γ){q u:Value}(t:TabAt h0 m q γ.nodes l R Q)(D:l.length<=16)(E:1<=l.length)(P:Fl u)(F:s<γ.nodes)(G:w<γ.nodes):
 Ret zM 48 [ptrTo bp,q,.agg ⟨[u,.int .i64 (s:Nat),.int .i64 (w:Nat),.int .i64 a]⟩] h0 fun _ h'=>Gr h0 h':=by
 have T:Fl q:=by obtain⟨b,_,_,_,rfl,_⟩:=t.ex;exact bH
 have S:=Si C;refine aa (n:=21) (rs:=[]) rfl Tryz.e48 rfl rfl rfl (lbt rfl) ?_;simp only [BZ,seval];refine ae (bN (by exact bH)) S ?_;clear S;intro h H S v;simp only [BZ,if_false,seval];refine ae (bN (by assumption)) S ?_;clear S;intro h I S y;simp only [BZ,if_false,seval];refine ae (bA (by intro x e;cases e)) S ?_;clear S;intro h z S A;simp only [ag]at S;simp only [BZ,seval];refine ae aA S ?_;clear S;intro h J S B;simp only [BZ,seval];refine aE (aF S (i:=0) rfl ?_ ?_ ?_ ono) ?_
 . exact(by simp only [FA0])
 . exact(by exact eh)
 . exact Xo (lbt rfl)
 clear S;rintro h ⟨S,K⟩;clear K;simp only [LC,ag,lay,Xd,Xc,seval]at S;have j:=S.ld (b:=H) (o:=0) m3 rfl;have p:=S.ld (b:=I) (o:=0) m2 rfl;have d:=S.ld (b:=z) (o:=1) m1 rfl;have f:=S.ld (b:=z) (o:=2) m1 rfl;have k:=S.ld (b:=J) (o:=0) m0 rfl;have L:au .i64 1=1:=rfl;have M:au .i64 2=2:=rfl;have N:au .i64 3=3:=rfl;have O:au .i64 4=4:=rfl;simp only [BZ,build_ask,seval];rw [cF];simp only [BZ,rW,seval];refine step_ret (asked2_ok S.ok j) ?_;intro r h g;replace S:=S.call g;replace j:=g.load j;replace p:=g.load p;replace d:=g.load d;replace f:=g.load f;replace k:=g.load k;clear g;simp only [BZ,L,seval];rw [cF];simp only [BZ,rW,seval];refine step_ret (asked3_ok S.ok (c.gr S.gr) j k d F) ?_;intro r h g;replace S:=S.call g;replace j:=g.load j;replace p:=g.load p;replace d:=g.load d;replace f:=g.load f;replace k:=g.load k;clear g;simp only [BZ,M,seval];rw [cF];simp only [BZ,rW,seval];refine step_ret (asked4_ok S.ok (c.gr S.gr) j k f G) ?_;intro r h g;replace S:=S.call g;replace j:=g.load j;replace p:=g.load p;replace d:=g.load d;replace f:=g.load f;replace k:=g.load k;clear g;simp only [BZ,N,seval];rw [cF];simp only [BZ,rW,seval];refine step_ret (asked5_ok S.ok (c.gr S.gr) (t.gr S.gr) D E j p) ?_;intro r h g;replace S:=S.call g;clear g;simp only [BZ,O,seval];rw [cF];simp only [BZ,seval];exact S.gr
theorem Co(a:OZ h0):eJ zM 47 [ptrTo b] none h0 fun o c h'=>(∃v,o=.ret v)/\c=none/\Gr h0 h':=by have S:=Si a;refine enter (n:=18) (rs:=[]) rfl Tryz.e47 rfl rfl rfl (lbt rfl) ?_;simp only [BZ,seval];exact cE (cu ⟨rfl,_,rfl,⟨_,rfl⟩,rfl,S.gr⟩)
theorem trun1_yes(k:OZ h0){a:List Value}(R:Row h0 b a 1)(d:a.length=4):eJ zM 47 [ptrTo b] (some (trouV c,false)) h0 fun o l h'=>(∃v,o=.ret v)/\l=some (trouV c,true)/\Mo (· =b) h0 h'/\Row h' b [.int .i64 c,.int .i64 0,.slice none 0 0,.slice none 0 0] 1:=by
 have S:=St.init1 k (o:=.row a 1) R;refine enter (n:=18) (rs:=[]) rfl Tryz.e47 rfl rfl rfl (lbt rfl) ?_;simp only [BZ,trouV,seval];refine ae aA S ?_;clear S;intro h m S f;simp only [BZ,seval];refine aE (S.store (i:=0) rfl ?_ ?_ rfl rfl ?_ ono) ?_
 . exact(by exact Tryz.t104.2.1)
 . exact(by intro x e;cases e)
 . exact lbt rfl
 clear S;rintro h ⟨S,g⟩;clear g;simp only [LC,ag,lay,Xd,Xc,seval]at S;simp only [BZ,S.ld (b:=m) (o:=0) m0 rfl,seval];refine aE (S.store (i:=1) rfl Tryz.t43.2.1 (by intro x e;cases e) rfl rfl (by rw [d];exact Xl _) ono) ?_;clear S;rintro q ⟨S,g⟩;simp only [LC]at S;have j:=S.row (b:=b) m1;have p:lay a 0 (ag (.agg ⟨[.int .i64 c,.int .i64 0,.slice none 0 0,.slice none 0 0]⟩))=[.int .i64 c,.int .i64 0,.slice none 0 0,.slice none 0 0]:=by
  match a,d with
  | [_,_,_,_],_=>rfl
 rw [p]at j;simp only [BZ];exact cE (cu ⟨rfl,_,rfl,⟨_,rfl⟩,rfl,S.fr,j⟩)
theorem got_ok(f:OZ h0){vE:Value}(j:Fl vA)(k:Fl vE):Ret zM 49 [.agg ⟨[.int .i64 d,vA,vE]⟩,.int .i64 0] h0 fun r h'=>Gr h0 h'/\r=.agg ⟨[.int .i64 d,vA,vE]⟩:=by have S:=Si f;refine aa (n:=10) (rs:=[.cell 4 96]) rfl Tryz.e49 rfl rfl rfl (lbt rfl) ?_;simp only [BZ,seval];refine ae (bA (by intro x e;cases e)) S ?_;clear S;intro h l S a;simp only [ag]at S;simp only [BZ];refine ae aA S ?_;clear S;intro h m S c;simp only [BZ,seval];refine step_ret (pA S.ok) ?_;intro r h g;replace S:=S.call g;clear g;simp only [BZ,Xe,Xb,Xf,S.lds (b:=l) (o:=0) (n:=3) m1 (lbt rfl),seval];refine aE (S.store (i:=0) rfl Tryz.t96.2.1 (by intro x e;cases e) rfl (by simp only [ag,Xg,Xh,j.2.1,k.2.1,zO];rfl) (lbt rfl) ono) ?_;clear S;rintro p ⟨S,q⟩;simp only [LC,ag,lay,Xd,Xc,seval]at S;simp only [BZ,ab];refine(bF (by decide) (by simp only [aC,an,seval];exact bD Tryz.t96.1 Tryz.t96.2.1 (S.lds (b:=m) (o:=0) (n:=3) m0 (lbt rfl)))).2 (cg.2 ?_);exact⟨S.gr,rfl⟩
end
def twL(N:Nat)(l:List Int)(R Q:Nat->List Int)(a:List Int)(s w:Nat):List Int:=(Xz N).map fun(v:Nat)=>v9 (iF N l.length R Q v w a) (iF N l.length R Q s v a)
def natI(l:List Nat):List Int:=l.map fun(x:Nat)=>(x:Int)
theorem y8(ok:OZ h0){bp nb:Nat}(F:Good γ)(hn:aX h0 nb (ptrTo bp) γ){V q0:Value}(t:TabAt h0 m V γ.nodes l R Q)(lR: ∀i,i<l.length->(R i).length=γ.nodes)(lQ: ∀i,i<l.length->(Q i).length=γ.nodes)(hl:l.length<=16)(h1:1<=l.length)(fq:Fl q0)(W:s<γ.nodes)(X:w<γ.nodes):
 Ret zM 13 [ptrTo bp,V,.agg ⟨[q0,.int .i64 (s:Nat),.int .i64 (w:Nat),.int .i64 a]⟩] h0 fun r h'=>Gr h0 h'/\ ∃c d vA E vE,r=.tuple #[mH c d vA E,vE]/\(∀x,(av vA x\/av E x\/av vE x)->h0.n<=x)/\
  ((s =w/\c=0/\d=0/\vA=.slice none 0 0/\E=.slice none 0 0/\vE=.slice none 0 0)\/
   (s ≠w/\ ∃τ,kL γ.arcs (fun _=>true) (fun v=>(twL γ.nodes l R Q (natI (gK γ.nodes l.length R Q s w a)) s w).getD v 0) (mX (fun v=>(twL γ.nodes l R Q (natI (gK γ.nodes l.length R Q s w a)) s w).getD v 0) s w) τ/\
     az h' 4 jz vE τ.ev/\
     ((FAR<=τ.dist/\c=20/\d=0/\vA=.slice none 0 0/\E=.slice none 0 0)\/
      (τ.dist<FAR/\c=0/\d=(τ.dist:Nat)/\az h' 1 bO vA (pQ τ)/\az h' 1 bO E (gK γ.nodes l.length R Q s w a))))):=by
 have S:=Si ok;have ft:Fl V:=by obtain⟨b,_,_,_,rfl,_⟩:=t.ex;exact bH
 have ax:=gX;refine aa (n:=59) (rs:=[.cell 6 43,.tmp 7]) rfl Tryz.e13 rfl rfl rfl (lbt rfl) ?_;simp only [BZ,seval];refine ae (bA (by intro x e;cases e)) S ?_;clear S;intro h p S ak;simp only [ag]at S;simp only [BZ];refine ae aA S ?_;clear S;intro h u S G;simp only [BZ,Xe,Xb,Xf,S.lds (b:=p) (o:=0) (n:=4) m1 (lbt rfl),seval];refine step_ret (asked_ok S.ok (hn.gr S.gr) (t.gr S.gr) hl h1 fq W X) ?_;intro r h g;replace S:=S.call g;clear g;by_cases y:s=w
 . subst y;simp only [BZ,Xe,Xb,Xf,S.ld (b:=p) (o:=1) m1 rfl,S.ld (b:=p) (o:=2) m1 rfl,S.lds (b:=u) (o:=0) (n:=4) m0 (lbt rfl),seval];refine aE (S.store (i:=0) rfl Tryz.t43.2.1 (by intro x e;cases e) rfl rfl (lbt rfl) ono) ?_;clear S;rintro Y ⟨S,Z⟩;simp only [LC,ag,lay,Xd,Xc,seval]at S;simp only [BZ];refine dz (un_fn (cR (Co S.ok) fun o rc h' ⟨a,b,g⟩=>⟨a,b,cu ⟨rfl,?_⟩⟩));replace S:=S.call g;refine(bF (by decide) (by simp only [aC,an,seval];exact bD Tryz.t43.1 Tryz.t43.2.1 (S.lds (b:=u) (o:=0) (n:=4) m0 (lbt rfl)))).2 ?_;refine(eo (by decide)).2 (cg.2 ?_);exact⟨S.gr,_,_,_,_,_,rfl,fun x H=>(by rcases H with h|h|h<;>exact h.elim),.inl ⟨rfl,rfl,rfl,rfl,rfl⟩⟩
 . have ac: ¬((s:Int)=(w:Int)):=(by omega);simp only [BZ,ac,S.ld (b:=p) (o:=1) m1 rfl,S.ld (b:=p) (o:=2) m1 rfl,S.ld (b:=p) (o:=3) m1 rfl,seval];have k6:=(S.row (b:=u) m0).lt S.ok;refine step_ret (tD S.ok (t.gr S.gr) lR lQ hl) ?_;rintro E h ⟨g,N,nB⟩;replace S:=S.call g;clear g;have la:(gK γ.nodes l.length R Q s w a).length<=16:=(by unfold gK;rw [Xt];omega);have R5:=S.row (b:=p) m1;have R6:=S.row (b:=u) m0;have S0:=S;have gV:=S.gr;have kV:=gV.n;have z:=S.ok;have ad:=R5.load1 (o:=1) rfl;have af:=R5.load1 (o:=2) rfl;have p5:=R5.lt z;have f1:=F.n2;simp only [BZ,seval];clear S;have S:=Si z;rename Hp=>hV;refine ar (gG (ord:=[17,0,1,2,3,4,5,6,7,8,9,10,11,12,13,14,15,16,18]) rfl rfl (by simp only [dE,kJ,dR,Xi,Xj,Xn,Xp,Xr,cond_true,cond_false,seval];exact rfl)) (q:=1) (ps:=[(0,17),(0,14),(5,12),(3,12),(0,12)]) (by kernel_rfl) ?_;simp only [BZ,cls,seval];refine cL aA S ?_;clear S;intro h B S al I;have p9:=S.fr.n;have O:=S.gr;have J:=S.row (b:=B) m0;have q9:=J.lt S.ok;simp only [BZ,cls,O.load ad,O.load af,seval];refine bQ (bTwin_ok S.ok ((t.gr gV).gr O) lR lQ (by omega) (by omega) (yh (N.gr O)) (by rw [List.length_map];omega) W X) ?_;rintro vP h ⟨g,sP,nP⟩;have e1:leaves _ _ p=true:=ah g (Xa p5 p9);have e2:leaves _ _ B=true:=ah g q9;have kq:=g.n;replace S:=S.call g;clear g;simp only [BZ,cls,sP.fl,seval];refine bQ (yv S.ok F ((hn.gr gV).gr S.gr) sP (by simp) W X y) ?_;rintro r h ⟨g,xA,xE,τ,rfl,he,P,T,j⟩;have e3:leaves _ _ p=true:=ah g (Xa p5 (Xm p9 kq));have e4:leaves _ _ B=true:=ah g (Xa q9 kq);have kr:=g.n;have U:Fl xA:=T.fl;have y2:Fl xE:=P.fl;replace S:=S.call g;simp only [BZ,cls,seval];refine bQ (got_ok S.ok U y2) ?_;rintro r h ⟨g,rfl⟩;have e5:leaves _ _ p=true:=ah g (by omega);have e6:leaves _ _ B=true:=ah g (by omega);have P:=P.gr g;have T:=T.gr g;replace S:=S.call g;simp only [BZ,cls,seval];refine cM (S.store (i:=0) rfl Tryz.t96.2.1 (by intro x e;cases e) rfl (by simp only [ag,Xg,Xh,U.2.1,y2.2.1,zO];rfl) (lbt rfl) ono) ?_;have ay:=S.ok;have K: ∀c,av xA c\/av xE c->c≠B:=fun c k e=>(by have:=j c k;omega);clear S;rintro Y ⟨S,Z⟩;simp only [LC,ag,lay,Xd,Xc,seval]at S;simp only [BZ,seval];refine⟨by simp only [aK,aO,aH,aQ,aJ,ne_eq,not_false_eq_true,aS,bz,aN,aM,bG,bS,aC,zO,an,gY,aq e1,ao e1,aq e2,ao e2,aq e3,ao e3,aq e4,ao e4,aq e5,ao e5,aq e6,ao e6,<-I,seval],?_⟩;have J:=S.row (b:=B) m0;have j0:=J.load1 (o:=0) rfl;have j1:=J.load1 (o:=1) rfl;have j2:=J.load1 (o:=2) rfl;have n9:u≠B:=fun e=>(by have:=(S0.row (b:=u) m0).lt z;omega);have L:az Y 1 bO xA _:=T.mo Z (fun c k e=>K c (.inl k) e);have M:az Y 4 jz xE τ.ev:=P.mo Z (fun c k e=>K c (.inr k) e);have ai:=N.gr S.gr;have k5:=(S0.row (b:=u) m0).lt z;have S1:=S0.call S.gr;clear S;have S:=S1;clear S1;simp only [BZ,j0,j2,seval];by_cases hd:τ.dist<FAR
   . have C:(τ.dist:Int)<72057594037927936:=(by omega);simp only [decide_true,C];refine step_ret (pA S.ok) ?_;intro r h4 A;replace S:=S.call A;simp only [BZ,U,N.fl,A.load j0,A.load j1,seval];refine aE (S.store (i:=0) rfl Tryz.t43.2.1 (by intro x e;cases e) rfl (by simp only [ag,Xg,Xh,U.2.1,N.fl.2.1,zO];rfl) (lbt rfl) ono) ?_;clear S;rintro h5 ⟨S,D⟩;simp only [LC,ag,lay,Xd,Xc,seval]at S;simp only [BZ,seval];refine dz (un_fn (cR (Co S.ok) fun o rc h' ⟨a,b,g⟩=>⟨a,b,cu ⟨rfl,?_⟩⟩));replace S:=S.call g;refine(bF (by decide) (by simp only [aC,an,seval];exact bD Tryz.t43.1 Tryz.t43.2.1 (S.lds (b:=u) (o:=0) (n:=4) m0 (lbt rfl)))).2 ?_;refine(eo (by decide)).2 (cg.2 ?_);rw [if_pos hd]at L;have zE:=((M.gr A).mo D (fun c k e=>by have:=j c (.inr k);omega)).gr g;have zA:=((L.gr A).mo D (fun c k e=>by have:=j c (.inl k);omega)).gr g;have zB:=((ai.gr A).mo D (fun c k e=>by have:=nB c k;omega)).gr g;exact⟨S.gr,_,_,_,_,_,rfl,fun x H=>(by rcases H with h|h|h;(have:=j x (.inl h);omega);(have:=nB x h;omega);(have:=j x (.inr h);omega)),.inr ⟨y,τ,he,zE,.inr ⟨hd,rfl,rfl,zA,zB⟩⟩⟩
   . have C: ¬(τ.dist:Int)<72057594037927936:=(by omega);simp only [decide_false,C];refine jo (need_no S.ok) ?_;rintro x rc h4 ⟨rfl,A⟩;replace S:=S.call A;simp only [BZ];refine fj (oh (cR (trun1_yes S.ok (S.row (b:=u) m0) rfl) fun o rc h' ⟨a,e,f,R⟩=>⟨a,_,_,e,cu ?_⟩));have gz:Gr h0 h':=(S.fr.trans f (fun i hi=>.inr (by subst hi;exact G)):Mo NoM h0 h').gr;simp only [if_true];refine(bF (by decide) (by simp only [aC,an,seval];exact bD Tryz.t43.1 Tryz.t43.2.1 (R.load (o:=0) (n:=4) (lbt rfl)))).2 ?_;refine(eo (by decide)).2 (cg.2 ?_);have zE:=(M.gr A).mo f (fun c k e=>by have:=j c (.inr k);omega);exact⟨gz,_,_,_,_,_,rfl,fun x H=>(by rcases H with h|h|h;exact h.elim;exact h.elim;(have:=j x (.inr h);omega)),.inr ⟨y,τ,he,zE,.inl ⟨by omega,rfl,rfl,rfl,rfl⟩⟩⟩
structure Pm(P:Hp->Int->Int->Value->Value->Value->Prop):Prop where
 fl: ∀{h:Hp} {c d:Int} {vA vB vE:Value},P h c d vA vB vE->Fl vA/\Fl vB/\Fl vE
 mo: ∀{M:Nat->Prop} {h h':Hp} {c d:Int} {vA vB vE:Value},P h c d vA vB vE->Mo M h h'->(∀x,(av vA x\/av vB x\/av vE x)-> ¬M x)->P h' c d vA vB vE
def ng(P:Hp->Int->Int->Value->Value->Value->Prop)(h0:Hp)(r:Value)(h':Hp):Prop:=Gr h0 h'/\ ∃c d a b e,r=.tuple #[mH c d a b,e]/\(∀x,(av a x\/av b x\/av e x)->h0.n<=x)/\P h' c d a b e
section
variable{P:Hp->Int->Int->Value->Value->Value->Prop}
def FndR(P:Hp->Int->Int->Value->Value->Value->Prop)(h0:Hp)(r:Value)(h':Hp):Prop:=Gr h0 h'/\ ∃(D:Nat) (b a:Value),r=.tuple #[.agg ⟨[.int .i64 (D:Nat),b,a]⟩,.int .i64 0]/\Fl b/\Fl a/\(∀x,(av b x\/av a x)->h0.n<=x)/\(D<FAR->P h' 0 (D:Nat) b (.slice none 0 0) a)/\(FAR<=D->P h' 20 0 (.slice none 0 0) (.slice none 0 0) a)
theorem u9(r:Pm P)(K:OZ h0){A:Nat}{L M N B C:Value}(R:Row h0 b [pn,L,M,N] 1)(Z:Fl pn)(O:h0.load A 0 1=some [.func (.func g) #[] #[]])(f0:Fl B)(f3:Fl C){s w:Int}
 (Q: ∀h,Gr h0 h->Ret zM g [pn,.agg ⟨[.int .i64 s,.int .i64 w,.slice none 0 0,.slice none 0 0]⟩] h (FndR P h)):
 Ret zM 218 [ptrTo b,.agg ⟨[B,.int .i64 s,.int .i64 w,C]⟩,ptrTo A] h0 (ng P h0):=by
 have S:=Si K;have T:=R.load1 (o:=0) rfl;refine aa (n:=36) (rs:=[.cell 5 43,.tmp 6]) rfl Tryz.e218 rfl rfl rfl (lbt rfl) ?_;simp only [BZ,seval];refine ae (bA (by intro x e;cases e)) S ?_;clear S;intro h u S E;simp only [ag]at S;simp only [BZ];refine ae aA S ?_;clear S;intro h l S F;simp only [BZ];refine ar (gG (ord:=[14,0,1,2,3,4,5,6,7,8,9,10,11,12,13,15,16]) rfl rfl (by simp only [dE,kJ,dR,Xi,Xj,Xn,Xp,Xr,cond_true,cond_false,seval];exact rfl)) (q:=1) (ps:=[(0,11)]) (by kernel_rfl) ?_;simp only [BZ,cls,seval];refine cL aA S ?_;clear S;intro h a S G p;simp only [BZ,cls,S.gr.load O,S.gr.load T,S.ld (b:=u) (o:=1) m2 rfl,S.ld (b:=u) (o:=2) m2 rfl,seval];refine bQ (Q _ S.gr) ?_;have kS:=S.fr.n;have t: ∀c∈[a,l,u],c<_:=fun c U=>S.key_lt (by simpa [keys]using U);rintro _ h ⟨g,D,vA,vE,rfl,v,V,f,H,I⟩;have J:=ah g (S.key_lt (b:=a) (by simp [keys]));replace S:=S.call g;simp only [BZ,cls,seval];refine cM (S.store (i:=0) rfl Tryz.t96.2.1 (by intro x e;cases e) rfl (by simp only [ag,Xg,Xh,v.2.1,V.2.1,zO];rfl) (lbt rfl) ono) ?_;clear S;rintro h ⟨S,m⟩;simp only [LC,ag,lay,Xd,Xc,seval]at S;have W:=fun y=>r.mo (H y) m (fun x d e=>by
  have e:x=a:=e;have:=t a m0;rcases d with h|h|h
  . have:=f x (.inl h);omega
  . exact h
  . have:=f x (.inr h);omega)
 have X:=fun y=>r.mo (I y) m (fun x d e=>by
  have e:x=a:=e;have:=t a m0;rcases d with h|h|h
  . exact h
  . exact h
  . have:=f x (.inr h);omega)
 clear H I m;simp only [BZ,cls,seval];refine⟨by simp only [aK,aO,aH,aQ,aJ,ne_eq,not_false_eq_true,aS,bz,aN,aM,bG,bS,aC,zO,an,c8,<-p,ao J,aq J,seval],?_⟩;have k:=S.ne01 (i:=0) (j:=1) rfl rfl (by decide);by_cases Y:D<FAR
 . have z: ¬(72057594037927936:Int)<=(D:Int):=(by have:=gX;omega);simp only [BZ,z,S.ld (b:=a) (o:=0) m0 rfl,seval];refine ar (aw rfl) (q:=0) (ps:=[(6,7)]) (by kernel_rfl) ?_;simp only [BZ,cls,v,S.ld (b:=a) (o:=0) m0 rfl,S.ld (b:=a) (o:=1) m0 rfl,S.ld (b:=a) (o:=2) m0 rfl,seval];refine cM (S.store (i:=1) rfl Tryz.t43.2.1 (by intro x e;cases e) rfl (by simp only [ag,Xg,Xh,v.2.1,zO];rfl) (lbt rfl) ono) ?_;clear S;rintro h ⟨S,m⟩;simp only [LC,ag,lay,Xd,Xc,seval]at S;simp only [BZ,cls,ab,seval];refine⟨by simp only [aK,aO,aH,aQ,aJ,ne_eq,not_false_eq_true,aS,bz,aN,aM,bG,bS,aC,zO,an,gY,dh k,dh k.symm,seval],?_⟩;refine(bF (by decide) (by simp only [aC,an,seval];exact bD Tryz.t43.1 Tryz.t43.2.1 (S.lds (b:=l) (o:=0) (n:=4) m1 (lbt rfl)))).2 ?_;refine(eo (by decide)).2 (cg.2 ?_);exact⟨S.gr,_,_,_,_,_,rfl,fun x d=>by
    rcases d with h|h|h
    . have:=f x (.inl h);omega
    . exact h.elim
    . have:=f x (.inr h);omega,r.mo (W Y) m (fun x d e=>by
    have e:x=l:=e;have:=t l m1;rcases d with h|h|h
    . have:=f x (.inl h);omega
    . exact h
    . have:=f x (.inr h);omega)⟩
 . have z:(72057594037927936:Int)<=(D:Int):=(by have:=gX;omega);simp only [BZ,z,S.ld (b:=a) (o:=0) m0 rfl,seval];refine ar (aw rfl) (q:=0) (ps:=[(2,3)]) (by kernel_rfl) ?_;simp only [BZ,cls,S.ld (b:=a) (o:=0) m0 rfl,S.ld (b:=a) (o:=1) m0 rfl,S.ld (b:=a) (o:=2) m0 rfl,seval];refine cM (S.store (i:=1) rfl Tryz.t43.2.1 (by intro x e;cases e) rfl rfl (lbt rfl) ono) ?_;clear S;rintro h ⟨S,m⟩;simp only [LC,ag,lay,Xd,Xc,seval]at S;simp only [BZ,cls,ab,seval];refine⟨by simp only [aK,aO,aH,aQ,aJ,ne_eq,not_false_eq_true,aS,bz,aN,aM,bG,bS,aC,zO,an,gY,dh k,dh k.symm,seval],?_⟩;refine(bF (by decide) (by simp only [aC,an,seval];exact bD Tryz.t43.1 Tryz.t43.2.1 (S.lds (b:=l) (o:=0) (n:=4) m1 (lbt rfl)))).2 ?_;refine(eo (by decide)).2 (cg.2 ?_);exact⟨S.gr,_,_,_,_,_,rfl,fun x d=>by
    rcases d with h|h|h
    . exact h.elim
    . exact h.elim
    . have:=f x (.inr h);omega,r.mo (X (by omega)) m (fun x d e=>by
    have e:x=l:=e;have:=t l m1;rcases d with h|h|h
    . exact h
    . exact h
    . have:=f x (.inr h);omega)⟩
theorem EL(u:Pm P)(B:OZ h0){a w k l:Value}(R:Row h0 b [pn,a,v,w] 1)(J:Fl pn)(ft:Fl a)(K:Fl v)(L:Fl w)(M:Fl f)(N:Fl j)(O:Fl k)(Q:Fl l)
 (C: ∀h,Gr h0 h->Ret zM 11 [pn,a,.agg ⟨[f,j,k,l]⟩] h (ng P h)):
 Ret zM 151 [ptrTo b,.agg ⟨[f,j,k,l]⟩] h0 (ng P h0):=by
 have S:=Si B;have D:=R.load1 (o:=0) rfl;have m:=R.load1 (o:=1) rfl;have p:=R.load1 (o:=2) rfl;have r:=R.load1 (o:=3) rfl;refine aa (n:=18) (rs:=[.cell 4 43,.tmp 5]) rfl Tryz.e151 rfl rfl rfl (lbt rfl) ?_;simp only [BZ,seval];refine ae (bA (by intro x e;cases e)) S ?_;clear S;intro h E S y;simp only [ag]at S;simp only [BZ];refine ae aA S ?_;clear S;intro h s S z;simp only [BZ];refine ar (aw rfl) (q:=0) (ps:=[]) (by kernel_rfl) ?_;simp only [BZ,cls,S.gr.load D,S.gr.load m,S.gr.load p,S.gr.load r,Xe,Xb,Xf,S.lds (b:=E) (o:=0) (n:=4) m1 (lbt rfl),seval];have F:=S.fr.n;have T:=S.key_lt (b:=s) (by simp [keys]);refine bQ (C _ S.gr) ?_;rintro _ h ⟨g,c,d,U,V,W,rfl,A,o⟩;obtain⟨G,H,X⟩:=u.fl o;replace S:=S.call g;simp only [BZ,cls,mH,seval];refine cM (S.store (i:=0) rfl Tryz.t43.2.1 (by intro x e;cases e) rfl (by simp only [ag,Xg,Xh,G.2.1,H.2.1,zO];rfl) (lbt rfl) ono) ?_;clear S;rintro h ⟨S,I⟩;simp only [LC,ag,lay,Xd,Xc,seval]at S;simp only [BZ,cls,ab,seval];refine(bF (by decide) (by simp only [aC,an,seval];exact bD Tryz.t43.1 Tryz.t43.2.1 (S.lds (b:=s) (o:=0) (n:=4) m0 (lbt rfl)))).2 ?_;refine(eo (by decide)).2 (cg.2 ?_);exact⟨S.gr,_,_,_,_,_,rfl,fun x t=>Xm F (A x t),u.mo o I (fun x t e=>by
  have e:x=s:=e;have:=A x t;omega)⟩
theorem C5(u:Pm P)(B:OZ h0){a w k l:Value}(R:Row h0 b [pn,a,v,w] 1)(J:Fl pn)(ft:Fl a)(K:Fl v)(L:Fl w)(M:Fl f)(N:Fl j)(O:Fl k)(Q:Fl l)
 (C: ∀h,Gr h0 h->Ret zM 13 [pn,a,.agg ⟨[f,j,k,l]⟩] h (ng P h)):
 Ret zM 152 [ptrTo b,.agg ⟨[f,j,k,l]⟩] h0 (ng P h0):=by
 have S:=Si B;have D:=R.load1 (o:=0) rfl;have m:=R.load1 (o:=1) rfl;have p:=R.load1 (o:=2) rfl;have r:=R.load1 (o:=3) rfl;refine aa (n:=18) (rs:=[.cell 4 43,.tmp 5]) rfl Tryz.e152 rfl rfl rfl (lbt rfl) ?_;simp only [BZ,seval];refine ae (bA (by intro x e;cases e)) S ?_;clear S;intro h E S y;simp only [ag]at S;simp only [BZ];refine ae aA S ?_;clear S;intro h s S z;simp only [BZ];refine ar (aw rfl) (q:=0) (ps:=[]) (by kernel_rfl) ?_;simp only [BZ,cls,S.gr.load D,S.gr.load m,S.gr.load p,S.gr.load r,Xe,Xb,Xf,S.lds (b:=E) (o:=0) (n:=4) m1 (lbt rfl),seval];have F:=S.fr.n;have T:=S.key_lt (b:=s) (by simp [keys]);refine bQ (C _ S.gr) ?_;rintro _ h ⟨g,c,d,U,V,W,rfl,A,o⟩;obtain⟨G,H,X⟩:=u.fl o;replace S:=S.call g;simp only [BZ,cls,mH,seval];refine cM (S.store (i:=0) rfl Tryz.t43.2.1 (by intro x e;cases e) rfl (by simp only [ag,Xg,Xh,G.2.1,H.2.1,zO];rfl) (lbt rfl) ono) ?_;clear S;rintro h ⟨S,I⟩;simp only [LC,ag,lay,Xd,Xc,seval]at S;simp only [BZ,cls,ab,seval];refine(bF (by decide) (by simp only [aC,an,seval];exact bD Tryz.t43.1 Tryz.t43.2.1 (S.lds (b:=s) (o:=0) (n:=4) m0 (lbt rfl)))).2 ?_;refine(eo (by decide)).2 (cg.2 ?_);exact⟨S.gr,_,_,_,_,_,rfl,fun x t=>Xm F (A x t),u.mo o I (fun x t e=>by
  have e:x=s:=e;have:=A x t;omega)⟩
theorem wY(w:Pm P)(B:OZ h0){a k l m:Value}(R:Row h0 b [pn,a,f,j] 1)(L:Fl pn)(ft:Fl a)(C:Fl f)(D:Fl j)(M:Fl k)(N:Fl l)(O:Fl m)(Q:Fl p)
 (E: ∀h,Gr h0 h->Ret zM 14 [pn,a,.agg ⟨[f,j]⟩,.agg ⟨[k,l,m,p]⟩] h (ng P h)):
 Ret zM 149 [ptrTo b,.agg ⟨[k,l,m,p]⟩] h0 (ng P h0):=by
 have S:=Si B;have F:=R.load1 (o:=0) rfl;have r:=R.load1 (o:=1) rfl;have s:=R.load1 (o:=2) rfl;have t:=R.load1 (o:=3) rfl;refine aa (n:=27) (rs:=[.cell 4 43,.tmp 5]) rfl Tryz.e149 rfl rfl rfl (lbt rfl) ?_;simp only [BZ,seval];refine ae (bA (by intro x e;cases e)) S ?_;clear S;intro h G S y;simp only [ag]at S;simp only [BZ];refine ae aA S ?_;clear S;intro h u S z;simp only [BZ];refine ar (aw rfl) (q:=0) (ps:=[]) (by kernel_rfl) ?_;simp only [BZ,cls,C,D,S.gr.load F,S.gr.load r,S.gr.load s,S.gr.load t,Xe,Xb,Xf,S.lds (b:=G) (o:=0) (n:=4) m1 (lbt rfl),seval];have H:=S.fr.n;have T:=S.key_lt (b:=u) (by simp [keys]);refine bQ (E _ S.gr) ?_;rintro _ h ⟨g,c,d,U,V,W,rfl,A,o⟩;obtain⟨I,J,X⟩:=w.fl o;replace S:=S.call g;simp only [BZ,cls,mH,seval];refine cM (S.store (i:=0) rfl Tryz.t43.2.1 (by intro x e;cases e) rfl (by simp only [ag,Xg,Xh,I.2.1,J.2.1,zO];rfl) (lbt rfl) ono) ?_;clear S;rintro h ⟨S,K⟩;simp only [LC,ag,lay,Xd,Xc,seval]at S;simp only [BZ,cls,ab,seval];refine(bF (by decide) (by simp only [aC,an,seval];exact bD Tryz.t43.1 Tryz.t43.2.1 (S.lds (b:=u) (o:=0) (n:=4) m0 (lbt rfl)))).2 ?_;refine(eo (by decide)).2 (cg.2 ?_);exact⟨S.gr,_,_,_,_,_,rfl,fun x v=>Xm H (A x v),w.mo o K (fun x v e=>by
  have e:x=u:=e;have:=A x v;omega)⟩
def trouA(c:Int):Value:=.iface 122 (.agg ⟨[.int .i64 c]⟩)
theorem rh(a:OZ h0):eJ zM 60 [.bool false,.int .i64 c] none h0 fun o b h'=>o=.pan (trouA c)/\Gr h0 h':=by have S:=Si a;refine enter (n:=9) (rs:=[]) rfl Tryz.e60 rfl rfl rfl (lbt rfl) ?_;simp only [BZ,seval];exact fj (cu ⟨rfl,S.gr⟩)
end
theorem DR{b1:Nat}(a:k<6):jC zM 127 (.agg ⟨dJ b1 b2 0++(dJ b1 b2 1++(dJ b1 b2 2++(dJ b1 b2 3++(dJ b1 b2 4++dJ b1 b2 5))))⟩) (.int .i64 (k:Nat))=some (.agg ⟨dJ b1 b2 k⟩):=by have:=ways_at (b1:=b1) (b2:=b2) a;have b:(dJ b1 b2 0++(dJ b1 b2 1++(dJ b1 b2 2++(dJ b1 b2 3++(dJ b1 b2 4++dJ b1 b2 5))))).length=18:=rfl;generalize dJ b1 b2 0++(dJ b1 b2 1++(dJ b1 b2 2++(dJ b1 b2 3++(dJ b1 b2 4++dJ b1 b2 5))))=L at this b;unfold jC;simp only [Tryz.t127.1,ia a,Tryz.t126.2.1];unfold partOf;simp only [Tryz.t126.1,Tryz.t126.2.1,this,b];rw [Nat.ble_eq_true_of_le (by omega),cond_true]
theorem ask1_ok(a:OZ h0):eJ zM 58 [ptrTo b2,ptrTo b] none h0 fun o c h'=>(∃v,o=.ret v)/\c=none/\Gr h0 h':=by have S:=Si a;refine enter (n:=19) (rs:=[]) rfl Tryz.e58 rfl rfl rfl (lbt rfl) ?_;simp only [BZ,seval];exact cE (cu ⟨rfl,_,rfl,⟨_,rfl⟩,rfl,S.gr⟩)
theorem Im32.at{h:Hp}{b:Nat}{I:Img}{g i:Prop}(j:Im32 h b I g i):ImAt h b I:=by
 obtain⟨d,n,o,p,q,k,R,l,a,c⟩:=j;refine⟨_,_,_,_,R,⟨k,l⟩,d.b,?_,?_⟩
 . cases e:I.T with
   |none=>rw [e]at a;exact a|some T=>rw [e]at a;obtain⟨⟨m,_,x⟩,y,_⟩:=a;exact⟨⟨m,x⟩,y⟩
 . cases f:I.C with
   |none=>rw [f]at c;exact c|some C=>obtain⟨m,F⟩:=C;rw [f]at c;exact c.1
theorem Im32.gr{h h':Hp}{b:Nat}{I:Img}{f i:Prop}(k:Im32 h b I f i)(g:Gr h h'):Im32 h' b I f i:=by
 obtain⟨c,l,n,o,p,q,R,r,s,a⟩:=k;refine⟨c,l,n,o,p,q,R.gr g,r.gr g,s.mo (M:=NoM) g.fr (fun _ h=>h.elim),?_⟩;cases j:I.C with
 |none=>rw [j]at a;exact a| some C=>
   obtain⟨m,F⟩:=C;rw [j]at a;obtain⟨x,t,u,v,w,y,z,A,B,D,d,e,E,G,H⟩:=a;exact⟨x.gr g,t,u,v,w,y,z,A,B,D,d.gr g,e,E,G.gr g,H⟩
theorem qW(j:OZ h0){c:Nat}{xs ys:List Value}(k:Has h0 b (.row xs 1))(l:Has h0 c (.row ys 1))(f:xs.length=4)(m:ys.length=1)(a:b≠c){e:Int}:eJ zM 58 [ptrTo b,ptrTo c] (some (trouA e,false)) h0 fun o p h'=>(∃v,o=.ret v)/\p=some (trouA e,true)/\Mo (fun x=>x=b\/x=c) h0 h'/\Row h' b [.int .i64 e,.int .i64 0,.slice none 0 0,.slice none 0 0] 1/\Row h' c [.slice none 0 0] 1:=by
 have S:St (fun x=>x=b\/x=c) h0 h0 [(b,.row xs 1),(c,.row ys 1)] []:=((St.init j).push (.inr (.inr rfl)) l (by simp [keys])).push (.inr (.inl rfl)) k (by simp [keys,a]);obtain⟨y,rfl⟩: ∃y,ys=[y]:=List.length_eq_one_iff.1 m;refine enter (n:=19) (rs:=[]) rfl Tryz.e58 rfl rfl rfl (lbt rfl) ?_;simp only [BZ,trouA,seval];refine ae aA S ?_;clear S;intro h q S g;simp only [BZ,seval];refine aE (S.store (i:=0) rfl ?_ ?_ rfl rfl ?_ ono) ?_
 . exact(by exact Tryz.t122.2.1)
 . exact(by intro x e;cases e)
 . exact lbt rfl
 clear S;rintro h ⟨S,d⟩;clear d;simp only [LC,ag,lay,Xd,Xc,seval]at S;simp only [BZ,S.ld (b:=q) (o:=0) m0 rfl,seval];refine aE (S.store (i:=1) rfl Tryz.t43.2.1 (by intro x e;cases e) rfl rfl (by rw [f];exact Xl _) ono) ?_;clear S;rintro r ⟨S,d⟩;simp only [LC]at S;have s:lay xs 0 (ag (.agg ⟨[.int .i64 e,.int .i64 0,.slice none 0 0,.slice none 0 0]⟩))=[.int .i64 e,.int .i64 0,.slice none 0 0,.slice none 0 0]:=by
  match xs,f with
  | [_,_,_,_],_=>rfl
 rw [s]at S;simp only [BZ,if_false,seval];refine aE (aF S (i:=2) rfl Tryz.t44.2.2.1 aW (Xo (lbt rfl)) ono) ?_;clear S;rintro r ⟨S,d⟩;simp only [LC]at S;simp only [BZ];exact cE (cu ⟨rfl,_,rfl,⟨_,rfl⟩,rfl,S.fr,S.row m1,S.row m2⟩)
theorem uL(d:OZ h0){a f:Nat}{i k:Value}(R:Row h0 b [ptrTo a,i,j,k] 1)(l:h0.load b2 0 1=some [ptrTo b])(m:aX h0 f (ptrTo a) γ){s:Int}:aT zM 59 [.int .i64 s,ptrTo b2] h0 (.bool (decide (0<=s/\s<γ.nodes))):=by
 have S:=Si d;have p:=R.load1 (o:=0) rfl;by_cases c:(0:Int)<=s
 . have e:decide (0<=s/\s<(γ.nodes:Int))=decide (s<(γ.nodes:Int)):=decide_eq_decide.2 (by omega);rw [e];refine aa (n:=15) (rs:=[.tmp 3]) rfl Tryz.e59 rfl rfl rfl (lbt rfl) ?_;simp only [BZ,l,p,c,seval];refine am (bM S.ok (m.gr S.gr)) ?_;intro h g;replace S:=S.call g;clear g;simp only [BZ,ab,seval];exact S.gr
 . have e:decide (0<=s/\s<(γ.nodes:Int))=false:=decide_eq_false (by omega);rw [e];refine aa (n:=15) (rs:=[.tmp 3]) rfl Tryz.e59 rfl rfl rfl (lbt rfl) ?_;simp only [BZ,ab,c,seval];exact S.gr
def PtrB(p:Value)(t:Bool):Prop:=(t=true/\ ∃x,p=ptrTo x)\/(t=false/\p=.pointer none)
theorem hasB_ok(p:OZ h0){g i q:Value}{x y j k:Bool}(R:Row h0 b [pn,g,i,q] 1)(r:PtrB g j)(l:PtrB i k)(v:Fl f):aT zM 62 [.agg ⟨wayV x y f⟩,ptrTo b] h0 (.bool ((!x||j)&&(!y||k))):=by
 have S:=Si p;have s:=R.load1 (o:=1) rfl;have t:=R.load1 (o:=2) rfl;refine aa (n:=27) (rs:=[.tmp 4]) rfl Tryz.e62 rfl rfl rfl (lbt rfl) ?_;simp only [BZ,wayV,seval];refine ae (bA (by intro x e;cases e)) S ?_;clear S;intro h d S m;simp only [ag]at S;have a:=S.gr.load s;have c:=S.gr.load t;rcases r with⟨rfl,w,rfl⟩|⟨rfl,rfl⟩
 . rcases l with⟨rfl,u,rfl⟩|⟨rfl,rfl⟩
   . cases x
     all_goals cases y
     all_goals
      simp only [BZ,ab,a,c,S.ld (b:=d) (o:=0) m0 rfl,S.ld (b:=d) (o:=1) m0 rfl,seval];exact⟨rfl,S.gr⟩
   . cases x
     all_goals cases y
     all_goals
      simp only [BZ,ab,a,c,S.ld (b:=d) (o:=0) m0 rfl,S.ld (b:=d) (o:=1) m0 rfl,seval];exact⟨rfl,S.gr⟩
 . rcases l with⟨rfl,u,rfl⟩|⟨rfl,rfl⟩
   . cases x
     all_goals cases y
     all_goals
      simp only [BZ,ab,a,c,S.ld (b:=d) (o:=0) m0 rfl,S.ld (b:=d) (o:=1) m0 rfl,seval];exact⟨rfl,S.gr⟩
   . cases x
     all_goals cases y
     all_goals
      simp only [BZ,ab,a,c,S.ld (b:=d) (o:=0) m0 rfl,S.ld (b:=d) (o:=1) m0 rfl,seval];exact⟨rfl,S.gr⟩
def kT(N:Nat)(a b:Bool)(k s w:Int):Int:=
 if¬(0<=k/\k<6)then 16 else if¬(0<=s/\s<N)then 17 else if¬(0<=w/\w<N)then 18 else if((!tw k.toNat||a)&&(!cw k.toNat||b))=true then 0 else 19
theorem askAny_ok{P:Hp->Int->Int->Value->Value->Value->Prop}(pm:Pm P)(ok:OZ h0){I:Img}{oT oF:Prop}(im:Im32 h0 b I oT oF){k s w:Int}
 (Q: ∀(l v z:Nat),k=l->s=v->w=z->l<6->v<I.g.nodes->z<I.g.nodes->(tw l=true->I.T.isSome=true)->(cw l=true->I.C.isSome=true)->v≠z-> ∀h b1 b2,Gr h0 h->h.load b1 0 1=some [.func (.func 45) #[] #[]]->h.load b2 0 1=some [.func (.func 50) #[] #[]]-> ∃g x c,fw b1 b2 l=.func (.func g) x c/\Ret zM g (x.toList++[ptrTo b,.agg ⟨[.int .i64 k,.int .i64 s,.int .i64 w,.int .i64 a]⟩]++c.toList) h (ng P h)):
 Ret zM 15 [ptrTo b,.agg ⟨[.int .i64 k,.int .i64 s,.int .i64 w,.int .i64 a]⟩] h0 fun r h'=>Gr h0 h'/\ ∃c d vA U vE,r=.tuple #[mH c d vA U,vE]/\Fl vA/\Fl U/\Fl vE/\
  (((kT I.g.nodes I.T.isSome I.C.isSome k s w≠0\/s=w)/\c=kT I.g.nodes I.T.isSome I.C.isSome k s w/\d=0/\vA=.slice none 0 0/\U=.slice none 0 0/\vE=.slice none 0 0)\/
   (kT I.g.nodes I.T.isSome I.C.isSome k s w=0/\s≠w/\P h' c d vA U vE)):=by
 have S:=Si ok;have ac:=im;obtain⟨ad,bp,pt,pc,pf,nb,R,hn,tY,cY⟩:=ac;have n1:=ad.n1;have af:PtrB pt I.T.isSome:=by
  cases eT:I.T with
  |none=>rw [eT]at tY;exact .inr ⟨rfl,tY⟩|some T=>rw [eT]at tY;obtain⟨⟨_,_,x⟩,_⟩:=tY;obtain⟨y,_,_,_,e,_⟩:=x.ex;exact .inl ⟨rfl,y,e⟩
 have ai:PtrB pc I.C.isSome:=by
  cases eC:I.C with
  |none=>rw [eC]at cY;exact .inr ⟨rfl,cY.1⟩|some C=>rw [eC]at cY;obtain⟨_,_,_,y,_,_,_,_,e,_⟩:=cY;exact .inl ⟨rfl,y,e⟩
 generalize I.T.isSome=A at*
 generalize I.C.isSome=B at*
 refine aa (n:=53) (rs:=[.cell 4 43,.cell 5 44]) rfl Tryz.e15 rfl rfl rfl (lbt rfl) ?_;simp only [BZ,seval];refine ae (bA (by intro x e;cases e)) S ?_;clear S;intro h b2 S aL;simp only [ag]at S;simp only [BZ,if_false,seval];refine ae (bA (by intro x e;cases e)) S ?_;clear S;intro h u S a0;simp only [ag]at S;simp only [BZ];refine ae aA S ?_;clear S;intro h N S m;simp only [BZ];refine ae aA S ?_;clear S;intro h b5 S p;simp only [BZ,S.ld (b:=b2) (o:=0) m3 rfl,seval];refine am (Bh S.ok (im.at.gr S.gr)) ?_;intro h g;replace S:=S.call g;clear g;simp only [BZ,seval];refine am (q8 S.ok) ?_;intro h g;replace S:=S.call g;clear g;by_cases c0:(0:Int)<=k;rotate_left
 . have t:kT I.g.nodes A B k s w=16:=if_pos (by omega);simp only [BZ,c0,S.ld (b:=u) (o:=0) m2 rfl,seval];refine jo (rh S.ok) ?_;rintro _ D h4 ⟨rfl,E⟩;replace S:=S.call E;simp only [BZ];refine fj (oh (cR (qW S.ok (S.own _ m1).2 (S.own _ m0).2 rfl rfl (S.ne01 (i:=1) (j:=0) rfl rfl (by decide))) fun o D h' ⟨a,e,f,F,G⟩=>⟨a,_,_,e,cu ?_⟩));have H:Gr h0 h':=(S.fr.trans f (fun i J=>.inr (by rcases J with rfl|rfl;exact m;exact p)):Mo NoM h0 h').gr;simp only [if_true];refine(bF (by decide) (by simp only [aC,an,seval];exact bD Tryz.t43.1 Tryz.t43.2.1 (F.load (o:=0) (n:=4) (lbt rfl)))).2 ?_;refine(bF (by decide) (by simp only [aC,an,seval];exact my Tryz.t44.2.1 (G.load1 (o:=0) rfl))).2 ?_;exact cg.2 ⟨H,_,_,_,_,_,rfl,aW,aW,aW,.inl ⟨.inl (by rw [t];decide),by rw [t],rfl,rfl,rfl,rfl⟩⟩
 by_cases c6:k<6;rotate_left
 . have t:kT I.g.nodes A B k s w=16:=if_pos (by omega);simp only [BZ,c0,c6,S.ld (b:=u) (o:=0) m2 rfl,seval];refine jo (rh S.ok) ?_;rintro _ D h4 ⟨rfl,E⟩;replace S:=S.call E;simp only [BZ];refine fj (oh (cR (qW S.ok (S.own _ m1).2 (S.own _ m0).2 rfl rfl (S.ne01 (i:=1) (j:=0) rfl rfl (by decide))) fun o D h' ⟨a,e,f,F,G⟩=>⟨a,_,_,e,cu ?_⟩));have H:Gr h0 h':=(S.fr.trans f (fun i J=>.inr (by rcases J with rfl|rfl;exact m;exact p)):Mo NoM h0 h').gr;simp only [if_true];refine(bF (by decide) (by simp only [aC,an,seval];exact bD Tryz.t43.1 Tryz.t43.2.1 (F.load (o:=0) (n:=4) (lbt rfl)))).2 ?_;refine(bF (by decide) (by simp only [aC,an,seval];exact my Tryz.t44.2.1 (G.load1 (o:=0) rfl))).2 ?_;exact cg.2 ⟨H,_,_,_,_,_,rfl,aW,aW,aW,.inl ⟨.inl (by rw [t];decide),by rw [t],rfl,rfl,rfl,rfl⟩⟩
 simp only [BZ,c0,c6,S.ld (b:=u) (o:=0) m2 rfl,seval];refine am (q8 S.ok) ?_;intro h g;replace S:=S.call g;clear g;simp only [BZ,S.ld (b:=u) (o:=1) m2 rfl,seval];refine am (uL S.ok (R.gr S.gr) (S.ld m3 rfl) (hn.gr S.gr) (s:=s)) ?_;intro h g;replace S:=S.call g;clear g;by_cases hs:0<=s/\s<(I.g.nodes:Int);rotate_left
 . have t:kT I.g.nodes A B k s w=17:=(by unfold kT;rw [if_neg (by omega),if_pos hs]);have d1:=decide_eq_false hs;simp only [BZ,d1,seval];refine jo (rh S.ok) ?_;rintro _ D h4 ⟨rfl,E⟩;replace S:=S.call E;simp only [BZ];refine fj (oh (cR (qW S.ok (S.own _ m1).2 (S.own _ m0).2 rfl rfl (S.ne01 (i:=1) (j:=0) rfl rfl (by decide))) fun o D h' ⟨a,e,f,F,G⟩=>⟨a,_,_,e,cu ?_⟩));have H:Gr h0 h':=(S.fr.trans f (fun i J=>.inr (by rcases J with rfl|rfl;exact m;exact p)):Mo NoM h0 h').gr;simp only [if_true];refine(bF (by decide) (by simp only [aC,an,seval];exact bD Tryz.t43.1 Tryz.t43.2.1 (F.load (o:=0) (n:=4) (lbt rfl)))).2 ?_;refine(bF (by decide) (by simp only [aC,an,seval];exact my Tryz.t44.2.1 (G.load1 (o:=0) rfl))).2 ?_;exact cg.2 ⟨H,_,_,_,_,_,rfl,aW,aW,aW,.inl ⟨.inl (by rw [t];decide),by rw [t],rfl,rfl,rfl,rfl⟩⟩
 have d1:=decide_eq_true hs;simp only [BZ,d1,seval];refine am (q8 S.ok) ?_;intro h g;replace S:=S.call g;clear g;simp only [BZ,S.ld (b:=u) (o:=2) m2 rfl,seval];refine am (uL S.ok (R.gr S.gr) (S.ld m3 rfl) (hn.gr S.gr) (s:=w)) ?_;intro h g;replace S:=S.call g;clear g;by_cases hw:0<=w/\w<(I.g.nodes:Int);rotate_left
 . have t:kT I.g.nodes A B k s w=18:=(by unfold kT;rw [if_neg (by omega),if_neg (by omega),if_pos hw]);have d2:=decide_eq_false hw;simp only [BZ,d2,seval];refine jo (rh S.ok) ?_;rintro _ D h4 ⟨rfl,E⟩;replace S:=S.call E;simp only [BZ];refine fj (oh (cR (qW S.ok (S.own _ m1).2 (S.own _ m0).2 rfl rfl (S.ne01 (i:=1) (j:=0) rfl rfl (by decide))) fun o D h' ⟨a,e,f,F,G⟩=>⟨a,_,_,e,cu ?_⟩));have H:Gr h0 h':=(S.fr.trans f (fun i J=>.inr (by rcases J with rfl|rfl;exact m;exact p)):Mo NoM h0 h').gr;simp only [if_true];refine(bF (by decide) (by simp only [aC,an,seval];exact bD Tryz.t43.1 Tryz.t43.2.1 (F.load (o:=0) (n:=4) (lbt rfl)))).2 ?_;refine(bF (by decide) (by simp only [aC,an,seval];exact my Tryz.t44.2.1 (G.load1 (o:=0) rfl))).2 ?_;exact cg.2 ⟨H,_,_,_,_,_,rfl,aW,aW,aW,.inl ⟨.inl (by rw [t];decide),by rw [t],rfl,rfl,rfl,rfl⟩⟩
 have d2:=decide_eq_true hw;simp only [BZ,d2,seval];refine am (q8 S.ok) ?_;intro h g;replace S:=S.call g;clear g;obtain⟨l,rfl⟩: ∃n:Nat,k=n:=⟨k.toNat,by omega⟩;obtain⟨v,rfl⟩: ∃n:Nat,s=n:=⟨s.toNat,by omega⟩;obtain⟨z,rfl⟩: ∃n:Nat,w=n:=⟨w.toNat,by omega⟩;have V:l<6:=by omega
 have eA:kT I.g.nodes A B (l:Nat) (v:Nat) (z:Nat)=if((!tw l||A)&&(!cw l||B))=true then 0 else 19:=by unfold kT;rw [if_neg (by omega),if_neg (by omega),if_neg (by omega)];rfl
 simp only [BZ];refine ar (gG (ord:=[4,0,1,2,3,5]) rfl rfl (by simp only [dE,kJ,dR,Xi,Xj,Xn,Xp,Xr,cond_true,cond_false,seval];exact rfl)) (q:=1) (ps:=[(1,3),(0,1)]) (by kernel_rfl) ?_;simp only [BZ,cls,seval];refine cL aA S ?_;clear S;intro h O S a1 W;simp only [BZ,cls,seval];have k3:=S.key_lt (b:=u) (by simp [keys]);refine bQ (all_ok S.ok) ?_;have k7:=S.key_lt (b:=O) (by simp [keys]);rintro _ h ⟨g,X,Y,rfl,L,M,z1,z2⟩;have v3:=ah g k3;have v7:=ah g k7;replace S:=S.call g;simp only [BZ,cls,DR V,S.ld (b:=u) (o:=0) m3 rfl,seval];refine cM (S.store (i:=0) rfl Tryz.t126.2.1 (by intro x e;cases e) rfl (by simp only [ag,dJ,wayV,Xg,Xh,fw_fl.2.1,zO];rfl) (lbt rfl) ono) ?_;have ak:=bC S.ok L;have al:=bC S.ok M;clear S;rintro h ⟨S,K⟩;simp only [dJ,wayV]at S;simp only [LC,ag,lay,Xd,Xc,seval]at S;replace L:h.load X 0 1=some [.func (.func 45) #[] #[]]:=by have:=K.get X ak (fun e=>by have e:X=O:=e;omega);rw [<-L];simp only [Hp.load,this]
 replace M:h.load Y 0 1=some [.func (.func 50) #[] #[]]:=by have:=K.get Y al (fun e=>by have e:Y=O:=e;omega);rw [<-M];simp only [Hp.load,this]
 clear K;simp only [BZ,seval];refine⟨by simp only [aK,aO,aH,aQ,aJ,ne_eq,not_false_eq_true,aS,bz,aN,aM,bG,bS,aC,zO,an,c8,<-W,aq v3,ao v3,aq v7,ao v7,seval],?_⟩;simp only [BZ,Xe,Xb,Xf,S.lds (b:=O) (o:=0) (n:=3) m0 (lbt rfl),S.ld (b:=b2) (o:=0) m4 rfl,seval];have hH:=hasB_ok (f:=fw X Y l) (x:=tw l) (y:=cw l) S.ok (R.gr S.gr) af ai fw_fl;unfold wayV at hH;refine am hH ?_;intro h g;replace L:=g.load L;replace M:=g.load M;replace S:=S.call g;clear g hH;by_cases hB:((!tw l||A)&&(!cw l||B))=true;rotate_left
 . have t:kT I.g.nodes A B (l:Nat) (v:Nat) (z:Nat)=19:=(by rw [eA,if_neg hB]);rw [eq_false_of_ne_true hB];simp only [BZ,seval];refine jo (rh S.ok) ?_;rintro _ D h4 ⟨rfl,E⟩;replace S:=S.call E;simp only [BZ];refine fj (oh (cR (qW S.ok (S.own _ m2).2 (S.own _ m1).2 rfl rfl (S.ne01 (i:=2) (j:=1) rfl rfl (by decide))) fun o D h' ⟨a,e,f,F,G⟩=>⟨a,_,_,e,cu ?_⟩));have H:Gr h0 h':=(S.fr.trans f (fun i J=>.inr (by rcases J with rfl|rfl;exact m;exact p)):Mo NoM h0 h').gr;simp only [if_true];refine(bF (by decide) (by simp only [aC,an,seval];exact bD Tryz.t43.1 Tryz.t43.2.1 (F.load (o:=0) (n:=4) (lbt rfl)))).2 ?_;refine(bF (by decide) (by simp only [aC,an,seval];exact my Tryz.t44.2.1 (G.load1 (o:=0) rfl))).2 ?_;exact cg.2 ⟨H,_,_,_,_,_,rfl,aW,aW,aW,.inl ⟨.inl (by rw [t];decide),by rw [t],rfl,rfl,rfl,rfl⟩⟩
 rw [if_pos hB]at eA;rw [hB];simp only [BZ,seval];refine am (q8 S.ok) ?_;intro h g;replace L:=g.load L;replace M:=g.load M;replace S:=S.call g;clear g;by_cases Z:v=z
 . have c1:((v:Int)=(z:Int))=True:=eq_true (by omega);subst Z;simp only [BZ,Xe,Xb,Xf,S.ld (b:=u) (o:=1) m3 rfl,S.ld (b:=u) (o:=2) m3 rfl,S.lds (b:=N) (o:=0) (n:=4) m2 (lbt rfl),seval];refine aE (S.store (i:=2) rfl Tryz.t43.2.1 (by intro x e;cases e) rfl rfl (lbt rfl) ono) ?_;clear S;rintro h ⟨S,K⟩;simp only [LC,ag,lay,Xd,Xc,seval]at S;simp only [BZ,seval];refine aE (aF S (i:=1) rfl Tryz.t44.2.2.1 aW (Xo (lbt rfl)) ono) ?_;clear S;rintro h ⟨S,K⟩;simp only [LC,ag,lay,Xd,Xc,seval]at S;simp only [BZ];refine dz (un_fn (cR (ask1_ok S.ok) fun _ _ h' ⟨a,e,g⟩=>⟨a,e,cu ⟨rfl,?_⟩⟩));replace S:=S.call g;refine(bF (by decide) (by simp only [aC,an,seval];exact bD Tryz.t43.1 Tryz.t43.2.1 (S.lds (b:=N) (o:=0) (n:=4) m2 (lbt rfl)))).2 ?_;refine(bF (by decide) (by simp only [aC,an,seval];exact my Tryz.t44.2.1 (S.ld m1 rfl))).2 ?_;exact cg.2 ⟨S.gr,0,0,_,_,_,rfl,aW,aW,aW,.inl ⟨.inr (by trivial),eA.symm,rfl,rfl,rfl,rfl⟩⟩
 . have c1:((v:Int)=(z:Int))=False:=eq_false (by omega);simp only [BZ,c1,Xe,Xb,Xf,S.ld (b:=u) (o:=1) m3 rfl,S.ld (b:=u) (o:=2) m3 rfl,S.ld (b:=O) (o:=2) m0 rfl,S.ld (b:=b2) (o:=0) m4 rfl,S.lds (b:=u) (o:=0) (n:=4) m3 (lbt rfl),seval];have kk: ∀c∈[O,b5,N,u,b2],c<_:=fun c hc=>S.key_lt (by simpa [keys]using hc);obtain⟨ax,ay⟩:(tw l=true->A=true)/\(cw l=true->B=true):=(by revert hB;cases tw l<;>cases cw l<;>cases A<;>cases B<;>simp);obtain⟨g,x,c,ef,hr⟩:=Q l v z rfl rfl rfl V (by omega) (by omega) ax ay Z _ X Y S.gr L M;simp only [BZ,ef];refine step_ret hr ?_;rintro _ h ⟨g,c,d,vA,U,vE,rfl,nV,o⟩;obtain⟨fA,fB,fE⟩:=pm.fl o;replace S:=S.call g;simp only [BZ,mH,seval];refine aE (S.store (i:=2) rfl Tryz.t43.2.1 (by intro x e;cases e) rfl (by simp only [ag,Xg,Xh,fA.2.1,fB.2.1,zO];rfl) (lbt rfl) ono) ?_;clear S;rintro h ⟨S,K⟩;simp only [LC,ag,lay,Xd,Xc,seval]at S;replace o:=pm.mo o K (fun x hx e=>by have e:x=N:=e;have:=nV x hx;have:=kk N m2;omega);simp only [BZ,seval];refine aE (aF S (i:=1) rfl Tryz.t44.2.2.1 fE (Xo (lbt rfl)) ono) ?_;clear S;rintro h ⟨S,K⟩;simp only [LC,ag,lay,Xd,Xc,seval]at S;replace o:=pm.mo o K (fun x hx e=>by have e:x=b5:=e;have:=nV x hx;have:=kk b5 m1;omega);simp only [BZ];refine dz (un_fn (cR (ask1_ok S.ok) fun _ _ h' ⟨a,e,g⟩=>⟨a,e,cu ⟨rfl,?_⟩⟩));replace S:=S.call g;refine(bF (by decide) (by simp only [aC,an,seval];exact bD Tryz.t43.1 Tryz.t43.2.1 (S.lds (b:=N) (o:=0) (n:=4) m2 (lbt rfl)))).2 ?_;refine(bF (by decide) (by simp only [aC,an,seval];exact my Tryz.t44.2.1 (S.ld m1 rfl))).2 ?_;exact cg.2 ⟨S.gr,_,_,_,_,_,rfl,fA,fB,fE,.inr ⟨eA,by omega,pm.mo o g.fr (fun _ _ h=>h)⟩⟩
def nH(h:Hp)(D:Nat)(b a:List Nat)(c d:Int)(vA e:Value):Prop:=
 (FAR<=D/\c=20/\d=0/\vA=.slice none 0 0/\e=.slice none 0 0)\/(D<FAR/\c=0/\d=(D:Nat)/\az h 1 bO vA b/\az h 1 bO e a)
theorem nH.fl{h:Hp}{D:Nat}{b a:List Nat}{c d:Int}{vA e:Value}(t:nH h D b a c d vA e):Fl vA/\Fl e:=by
 rcases t with⟨_,_,_,rfl,rfl⟩|⟨_,_,_,x,y⟩
 . exact⟨aW,aW⟩
 . exact⟨x.fl,y.fl⟩
theorem nH.mo{M:Nat->Prop}{h h':Hp}{D:Nat}{f e:List Nat}{c d:Int}{vA i:Value}(t:nH h D f e c d vA i)(g:Mo M h h')(j: ∀x,(av vA x\/av i x)-> ¬M x):nH h' D f e c d vA i:=
 t.imp (fun h=>h) fun⟨a,b,c,x,y⟩=>⟨a,b,c,x.mo g fun z h=>j z (.inl h),y.mo g fun z h=>j z (.inr h)⟩
def AnsS(γ:Gra)(als:List Bool)(pis:List Int)(a:List Nat)(s w:Nat)(h:Hp)(c d:Int)(vA e vE:Value):Prop:=
 ∃b,Ends γ.arcs (alF als) (piF pis) w (lW (piF pis) s) b/\az h 4 iU vE b.ev/\nH h b.dist b.arcs a c d vA e
def AnsD(γ:Gra)(pis:List Int)(a:List Nat)(s w:Nat)(h:Hp)(c d:Int)(vA e vE:Value):Prop:=
 ∃b,kL γ.arcs (fun _=>true) (fun v=>pis.getD v 0) (mX (fun v=>pis.getD v 0) s w) b/\az h 4 jz vE b.ev/\nH h b.dist (pQ b) a c d vA e
theorem ansS_pm{als:List Bool}{a:List Nat}:Pm (AnsS γ als pis a s w):=
 ⟨fun⟨_,_,e,t⟩=>⟨t.fl.1,t.fl.2,e.fl⟩,fun⟨c,x,e,t⟩ g b=>⟨c,x,e.mo g (fun z h=>b z (.inr (.inr h))),t.mo g fun z h=>b z (h.elim .inl fun h=>.inr (.inl h))⟩⟩
theorem ansD_pm{a:List Nat}:Pm (AnsD γ pis a s w):=
 ⟨fun⟨_,_,e,t⟩=>⟨t.fl.1,t.fl.2,e.fl⟩,fun⟨c,x,e,t⟩ g b=>⟨c,x,e.mo g (fun z h=>b z (.inr (.inr h))),t.mo g fun z h=>b z (h.elim .inl fun h=>.inr (.inl h))⟩⟩
def bestP(γ:Gra)(l:List Int)(R Q:Nat->List Int)(s w:Nat)(a:Int):List Int:=(Xz γ.nodes).map fun(v:Nat)=>iF γ.nodes l.length R Q v w ((gK γ.nodes l.length R Q s w a).map fun(x:Nat)=>(x:Int))
def onL(γ:Gra)(Bt:Nat->Nat)(r:Nat):List Bool:=(Xz γ.arcs.length).map (gQ Bt ((γ.arcs.length+7)/8) r)
def mZ(γ:Gra)(l:List Int)(R Q:Nat->List Int)(cf Bt:Nat->Nat)(k:Nat)(s w:Nat)(a:Int):Hp->Int->Int->Value->Value->Value->Prop:=
 match k with
 |0=>AnsS γ [] [] [] s w|1=>AnsD γ [] [] s w|2=>AnsS γ [] (bestP γ l R Q s w a) (gK γ.nodes l.length R Q s w a) s w|3=>AnsD γ (twL γ.nodes l R Q (natI (gK γ.nodes l.length R Q s w a)) s w) (gK γ.nodes l.length R Q s w a) s w|4=>AnsS γ (onL γ Bt (cf w)) [] [] s w|_=>AnsS γ (onL γ Bt (cf w)) (bestP γ l R Q s w a) (gK γ.nodes l.length R Q s w a) s w
theorem mR:Pm (mZ γ l R Q cf Bt k s w a):=by
 unfold mZ
 split<;>first|exact ansS_pm|exact ansD_pm
structure ImP(h:Hp)(b:Nat)(γ:Gra)(tb cb:Bool)(l:List Int)(R Q:Nat->List Int)(cf Bt:Nat->Nat)(Mc:Nat):Prop where
 good:Good γ
 ex: ∃bp nb pt pc pf,Row h b [ptrTo bp,pt,pc,pf] 1/\aX h nb (ptrTo bp) γ/\(tb=true-> ∃bt nt,pt=ptrTo bt/\TabAt h nt pt γ.nodes l R Q)/\(tb=false->pt=.pointer none)/\
  (cb=true-> ∃mb ck fp fb m,pc=ptrTo ck/\pf=ptrTo fp/\gJ h mb pc γ.nodes m cf/\gP m+1=((Mc:Nat):Int)/\fG h fp fb Mc γ.arcs.length ((γ.arcs.length+7)/8) Bt)/\(cb=false->pc=.pointer none/\pf=.pointer none)
 tab:tb=true->1<=l.length/\iT γ.nodes l/\(∀i,i<l.length->(R i).length=γ.nodes)/\ ∀i,i<l.length->(Q i).length=γ.nodes
 no:tb=false->l=[]
 l4:l.length<=4
 cel:Mc<=100
theorem ImP.gr{h h':Hp}{b:Nat}{γ:Gra}{d f:Bool}{l:List Int}{R Q:Nat->List Int}{cf Bt:Nat->Nat}{i:Nat}(j:ImP h b γ d f l R Q cf Bt i)(g:Gr h h'):ImP h' b γ d f l R Q cf Bt i:=by
 obtain⟨a,⟨k,n,o,p,q,r,s,t1,t2,u,v⟩,x⟩:=j;refine⟨a,⟨k,n,o,p,q,r.gr g,s.gr g,fun e=>?_,t2,fun e=>?_,v⟩, ‹_›, ‹_›, ‹_›, ‹_›⟩
 . obtain⟨w,y,e,t⟩:=t1 e;exact⟨w,y,e,t.gr g⟩
 . obtain⟨z,A,B,C,m,D,E,c,e3,F⟩:=u e;exact⟨z,A,B,C,m,D,E,c.gr g,e3,F.gr g⟩
theorem Aj{T:List (List Int)}(a:T.length=n)(h: ∀r∈T,r.length=N/\ ∀x∈r,0<=x/\x<=72057594037927936): ∀i,i<n->(kQ T i).length=N:=by
 intro i b;have e:kQ T i=T[i]'(by omega):=by unfold kQ;rw [Xu,Xs (by omega),Option.getD_some]
 rw [e];exact(h _ (List.getElem_mem _)).1
theorem Im32.opened{I:Img}{g t:Prop}(K:Im32 h b I g t): ∃l R Q cf Bt a,ImP h b I.g I.T.isSome I.C.isSome l R Q cf Bt a/\(g->R=toR I.g l/\Q=frR I.g l)/\(t->I.C.isSome=true->OkB I.g cf ((I.g.arcs.length+7)/8) a 0 Bt):=by
 obtain⟨u,L,j,k,v,M,R,N,n,p⟩:=K;obtain⟨l,d,f,t1,t2,t3,t4,t5,t6⟩: ∃l d f,(I.T.isSome=true-> ∃q r,j=ptrTo q/\TabAt h r j I.g.nodes l d f)/\(I.T.isSome=false->j=.pointer none)/\(I.T.isSome=true->1<=l.length/\iT I.g.nodes l/\(∀i,i<l.length->(d i).length=I.g.nodes)/\ ∀i,i<l.length->(f i).length=I.g.nodes)/\(I.T.isSome=false->l=[])/\l.length<=4/\(g->d=toR I.g l/\f=frR I.g l):=by
  cases E:I.T with
  | none=>
    rw [E]at n;exact⟨[],toR I.g [],frR I.g [],fun e=>(by cases e),fun _=>n,fun e=>(by cases e),fun _=>rfl,Xk _,fun _=>⟨rfl,rfl⟩⟩
  | some T=>
    rw [E]at n;obtain⟨⟨r,_,w⟩,c,G,H,own⟩:=n;obtain⟨q,_,_,_,e,_⟩:=id w.ex;by_cases o:g
    . have own:=own o;exact⟨T.l,toR I.g T.l,frR I.g T.l,fun _=>⟨q,r,e,w.congr (fun i x=>(own i x).1) (fun i x=>(own i x).2)⟩,fun e=>(by cases e),fun _=>⟨c.l1,H,fun i _=>toR_len,fun i _=>frR_len⟩,fun e=>(by cases e),G,fun _=>⟨rfl,rfl⟩⟩
    . exact⟨T.l,kQ T.to,kQ T.fr,fun _=>⟨q,r,e,w⟩,fun e=>(by cases e),fun _=>⟨c.l1,H,Aj c.to c.rTo,Aj c.fr c.rFr⟩,fun e=>(by cases e),G,fun h=>absurd h o⟩
 obtain⟨cf,Bt,a,O,P,S,U⟩: ∃cf Bt a,(I.C.isSome=true-> ∃y z s A m,k=ptrTo z/\v=ptrTo s/\gJ h y k I.g.nodes m cf/\gP m+1=((a:Nat):Int)/\fG h s A a I.g.arcs.length ((I.g.arcs.length+7)/8) Bt)/\(I.C.isSome=false->k=.pointer none/\v=.pointer none)/\a<=100/\(t->I.C.isSome=true->OkB I.g cf ((I.g.arcs.length+7)/8) a 0 Bt):=by
  cases J:I.C with
  | none=>
    rw [J]at p;exact⟨fun _=>0,fun _=>0,0,fun e=>(by cases e),fun _=>p,Xk _,fun _ e=>(by cases e)⟩
  | some C=>
    rw [J]at p;obtain⟨m',F⟩:=C;obtain⟨_,y,cf,z,s,A,a,Bt,V,W,B,D,X,Y,Z⟩:=p;exact⟨cf,Bt,a,fun _=>⟨y,z,s,A,_,V,W,B,D,Y⟩,fun e=>(by cases e),X,fun o _=>Z o⟩
 exact⟨l,d,f,cf,Bt,a,⟨u,⟨L,M,j,k,v,R,N,t1,t2,O,P⟩,t3,t4,t5,S⟩,t6,U⟩
theorem Ca{d c:Nat}{m:List Int}(a:gJ h0 d p N m cf)(f:gP m+1=((c:Nat):Int)): ∀v,v<N->cf v<c:=fun v g=>by
 have h:=a.len;have i:=a.val v g;have b:v<m.length:=by omega
 have e:m.getD v 0=m[v]:=by rw [Xu,Xs b,Option.getD_some]
 have:=lmax_ge (List.getElem_mem b);omega
section
variable{h0:Hp}{b b1 b2:Nat}{γ:Gra}{tb cb:Bool}{l:List Int}{R Q:Nat->List Int}{cf Bt:Nat->Nat}{Mc:Nat}
theorem altK_ok{j:Nat}{k m:Value}(o:OZ h0)(e:Good γ)(p:aX h0 n (ptrTo j) γ)(T:TabAt h0 nt k γ.nodes l R Q)(q: ∀i,i<l.length->(R i).length=γ.nodes)(u: ∀i,i<l.length->(Q i).length=γ.nodes)(M:1<=l.length)(N:l.length<=4)(v:Fl m)(O:s<γ.nodes)(P:w<γ.nodes)(x:s≠w):
 Ret zM 11 [ptrTo j,k,.agg ⟨[m,.int .i64 (s:Nat),.int .i64 (w:Nat),.int .i64 a]⟩] h0 (ng (mZ γ l R Q cf Bt 2 s w a) h0):=by
 have y:jQ γ.nodes γ.nodes l.length (s:Int) (w:Int)=0:=by unfold jQ;rw [if_neg (by omega),if_neg (by omega),if_pos ⟨by omega,rfl⟩]
 refine(yG (f:=s) (t:=w) (a:=a) o e p (.inl ⟨_,T,q,u⟩) (by omega) v).mono ?_;rintro r S ⟨g,c,d,z,A,B,rfl,C,⟨h,_⟩|⟨_,D,E,F,G,U,V,H,I,_,J,K,L⟩⟩
 . rw [y]at h;rcases h with h|h
   . exact absurd rfl h
   . omega
 . obtain rfl:E=s:=(by omega);obtain rfl:F=w:=(by omega);exact⟨g,c,d,z,A,B,rfl,C,G,J,K,L⟩
theorem twinK_ok{m n:Value}(p:OZ h0)(f:Good γ)(q:aX h0 o (ptrTo k) γ)(T:TabAt h0 nt m γ.nodes l R Q)(t: ∀i,i<l.length->(R i).length=γ.nodes)(u: ∀i,i<l.length->(Q i).length=γ.nodes)(v:1<=l.length)(H:l.length<=4)(x:Fl n)(y:s<γ.nodes)(z:w<γ.nodes)(h:s≠w):
 Ret zM 13 [ptrTo k,m,.agg ⟨[n,.int .i64 (s:Nat),.int .i64 (w:Nat),.int .i64 a]⟩] h0 (ng (mZ γ l R Q cf Bt 3 s w a) h0):=by
 refine(y8 p f q T t u (by omega) v x y z (a:=a)).mono ?_;rintro r I ⟨g,c,d,A,B,C,rfl,D,j⟩;rcases j with⟨e,_⟩|⟨_,E,F,G,j⟩
 . exact absurd e h
 . exact⟨g,c,d,A,B,C,rfl,D,E,F,G,j⟩
theorem xG{v L q:Nat}{x:Value}(M:OZ h0)(j:Good γ)(y:aX h0 L (ptrTo v) γ)(T:TabQ h0 x q l R Q)(Y:l.length<=4){z A O:Nat}{m:List Int}(e:gJ h0 N (ptrTo z) γ.nodes m cf)(n:gP m+1=((Mc:Nat):Int))(P:Mc<=100)(B:fG h0 A O Mc γ.arcs.length ((γ.arcs.length+7)/8) Bt)
  (C:k=4\/k=5) (S:k=5->q=γ.nodes/\1<=l.length)   (Z:s<γ.nodes) (hw:w<γ.nodes) (U:s≠w):
 Ret zM 14 [ptrTo v,x,.agg ⟨[ptrTo z,ptrTo A]⟩,.agg ⟨[.int .i64 (k:Nat),.int .i64 (s:Nat),.int .i64 (w:Nat),.int .i64 a]⟩] h0 (ng (mZ γ l R Q cf Bt k s w a) h0):=by
 have o:((k:Nat):Int)=4\/((k:Nat):Int)=5:=by omega
 refine(yC (f:=s) (t:=w) (a:=a) (way:=(k:Nat)) M j y T (by omega) bH bH (yI j y e n B) (fun _=>⟨e,rfl,B,P,rfl,Ca e n⟩)).mono ?_;rintro r h' ⟨g,c,d,D,E,F,rfl,G,i⟩;have p:jw true (k:Nat) l.length q γ.nodes=true:=by
  unfold jw;rcases C with rfl|rfl
  . rfl
  . obtain⟨u,H⟩:=S rfl;simp [u];omega
 have u:decide (((k:Nat):Int)=4\/((k:Nat):Int)=5)=true:=decide_eq_true o;have H:decide (0<=(s:Int)/\(s:Int)<(γ.nodes:Int))=true:=decide_eq_true (by omega);have e3:decide (0<=(w:Int)/\(w:Int)<(γ.nodes:Int))=true:=decide_eq_true (by omega);rw [p,u,H,e3]at i;have V:rL true true true true=0:=rfl;rw [V]at i;rcases i with⟨h,_⟩|⟨_,W,X,I,es,ew,_,_,_,J,K,i⟩
 . rcases h with h|h
   . exact absurd rfl h
   . omega
 . obtain rfl:W=s:=(by omega);obtain rfl:X=w:=(by omega);rcases C with rfl|rfl
   . exact⟨g,c,d,D,E,F,rfl,G,I,J,K,i⟩
   . exact⟨g,c,d,D,E,F,rfl,G,I,J,K,i⟩
theorem wayK_ok(f:ImP h0 b γ tb cb l R Q cf Bt Mc)(M:k<6)(q:s<γ.nodes)(t:w<γ.nodes)(B:tw k=true->tb=true)(V:cw k=true->cb=true)(i:s≠w)(u:OZ h0)(y1:h0.load b1 0 1=some [.func (.func 45) #[] #[]])(y2:h0.load b2 0 1=some [.func (.func 50) #[] #[]]):
 ∃g x c,fw b1 b2 k=.func (.func g) x c/\Ret zM g (x.toList++[ptrTo b,.agg ⟨[.int .i64 (k:Nat),.int .i64 (s:Nat),.int .i64 (w:Nat),.int .i64 a]⟩]++c.toList) h0 (ng (mZ γ l R Q cf Bt k s w a) h0):=by
 have j:=f.good;obtain⟨bp,nb,W,X,Y,y,z,t1,t2,Z,c2⟩:=f.ex;have H:Fl W:=by
  cases tb with
  |true=>obtain⟨_,_,rfl,_⟩:=t1 rfl;exact bH
  |false=>rw [t2 rfl];exact bH
 have N:Fl X/\Fl Y:=by
  cases cb with
  |true=>obtain⟨_,_,_,_,_,rfl,rfl,_⟩:=Z rfl;exact⟨bH,bH⟩
  |false=>rw [(c2 rfl).1,(c2 rfl).2];exact⟨bH,bH⟩
 obtain⟨I,J⟩:=N;have n: ∀{k:Nat},k=4\/k=5->(k=5->tb=true)->cb=true-> ∀h,Gr h0 h->Ret zM 14 [ptrTo bp,W,.agg ⟨[X,Y]⟩,.agg ⟨[.int .i64 (k:Nat),.int .i64 (s:Nat),.int .i64 (w:Nat),.int .i64 a]⟩] h (ng (mZ γ l R Q cf Bt k s w a) h):=by
  intro k M h5 O h g;obtain⟨mb,ck,fp,fb,m,rfl,rfl,C,D,bm⟩:=Z O;cases d:tb with
  | true=>
    obtain⟨_,_,E,F⟩:=f.tab d;obtain⟨bt,nt,rfl,T⟩:=t1 d;exact xG g.ok j (z.gr g) (.inl ⟨_,T.gr g,E,F⟩) f.l4 (C.gr g) D f.cel (bm.gr g) M (fun _=>⟨rfl,(f.tab d).1⟩) q t i
  | false=>
    exact xG g.ok j (z.gr g) (.inr ⟨t2 d,rfl,f.no d⟩) f.l4 (C.gr g) D f.cel (bm.gr g) M (fun e=>by rw [h5 e]at d;cases d) q t i
 have:k=0\/k=1\/k=2\/k=3\/k=4\/k=5:=by omega
 rcases this with rfl|rfl|rfl|rfl|rfl|rfl
 . refine⟨_,_,_,rfl,u9 mR u y bH y1 aU aU fun h g=>?_⟩;refine(tR g.ok j (z.gr g) q t (vAl:=.slice none 0 0) (vPi:=.slice none 0 0) (als:=[]) (pis:=[]) (.inl ⟨rfl,rfl⟩) (.inl rfl) (.inl ⟨rfl,rfl⟩) (.inl rfl)).mono ?_;rintro r P ⟨g,v,G,rfl,⟨K,L,rfl,gA,gE,n1,n2⟩,o⟩;have A:az P 1 bO K G.arcs:=gA.sl rfl (fun _=>rfl) (by decide);have p:az P 4 iU L G.ev:=gE.sl rfl rx (by decide);rcases o with⟨e,_⟩|⟨_,o⟩
   . exact absurd e i
   exact⟨g,G.dist,K,L,rfl,A.fl,p.fl,fun x h=>h.elim (fun h=>(n1 x h).1) (n2 x),fun e=>⟨G,o,p,.inr ⟨e,rfl,rfl,A,.inl ⟨rfl,rfl⟩⟩⟩,fun e=>⟨G,o,p,.inl ⟨e,rfl,rfl,rfl,rfl⟩⟩⟩
 . refine⟨_,_,_,rfl,u9 mR u y bH y2 aU aU fun h g=>?_⟩;refine(yv g.ok j (z.gr g) (vPi:=.slice none 0 0) (pis:=[]) (.inl ⟨rfl,rfl⟩) (.inr ⟨rfl,rfl⟩) q t i).mono ?_;rintro r P ⟨g,K,L,S,rfl,o,p,A,nV⟩;refine⟨g,S.dist,K,L,rfl,A.fl,p.fl,nV,fun e=>⟨S,o,p,.inr ⟨e,rfl,rfl,?_,.inl ⟨rfl,rfl⟩⟩⟩,fun e=>⟨S,o,p,.inl ⟨e,rfl,rfl,rfl,rfl⟩⟩⟩;rw [if_pos e]at A;exact A
 . obtain⟨U,_,E,F⟩:=f.tab (B rfl);obtain⟨bt,nt,rfl,T⟩:=t1 (B rfl);exact⟨_,_,_,rfl,EL mR u y bH H I J aU aU aU aU fun h g=>altK_ok g.ok j (z.gr g) (T.gr g) E F U f.l4 aU q t i⟩
 . obtain⟨U,_,E,F⟩:=f.tab (B rfl);obtain⟨bt,nt,rfl,T⟩:=t1 (B rfl);exact⟨_,_,_,rfl,C5 mR u y bH H I J aU aU aU aU fun h g=>twinK_ok g.ok j (z.gr g) (T.gr g) E F U f.l4 aU q t i⟩
 . exact⟨_,_,_,rfl,wY mR u y bH H I J aU aU aU aU fun h g=>n (.inl rfl) (fun e=>by cases e) (V rfl) h g⟩
 . exact⟨_,_,_,rfl,wY mR u y bH H I J aU aU aU aU fun h g=>n (.inr rfl) (fun _=>B rfl) (V rfl) h g⟩
theorem zG(f:OZ h0){I:Img}{i j:Prop}(m:Im32 h0 b I i j)(n:ImP h0 b I.g I.T.isSome I.C.isSome l R Q cf Bt Mc){k s w:Int}:
 Ret zM 15 [ptrTo b,.agg ⟨[.int .i64 k,.int .i64 s,.int .i64 w,.int .i64 a]⟩] h0 fun r h'=>Gr h0 h'/\ ∃c d vA e vE,r=.tuple #[mH c d vA e,vE]/\Fl vA/\Fl e/\Fl vE/\
  (((kT I.g.nodes I.T.isSome I.C.isSome k s w≠0\/s=w)/\c=kT I.g.nodes I.T.isSome I.C.isSome k s w/\d=0/\vA=.slice none 0 0/\e=.slice none 0 0/\vE=.slice none 0 0)\/
   (kT I.g.nodes I.T.isSome I.C.isSome k s w=0/\s≠w/\mZ I.g l R Q cf Bt k.toNat s.toNat w.toNat a h' c d vA e vE)):=
 askAny_ok mR f m fun B C D o p e3 q t u v x y h b1 b2 g z A=>by subst o p e3;exact wayK_ok (n.gr g) q t u v x y g.ok z A
end
def keyE(e:Ev2):Value:=.agg ⟨[.int .i64 (e.kind:Nat),.int .i64 (jJ e.side:Nat),.int .i64 (e.id:Nat)]⟩
def sameK(a b:Ev2):Prop:=a.kind=b.kind/\a.side=b.side/\a.id=b.id
instance (a b:Ev2):Decidable (sameK a b):=by unfold sameK;infer_instance
theorem twin_any(b:Good γ)(d:s<γ.nodes)(e:w<γ.nodes){pi:Nat->Int}{τ:Bi}(f:kL γ.arcs (fun _=>true) pi (mX pi s w) τ)(g:τ.dist<FAR):rJ γ.arcs s (pQ τ) w τ.dist/\(pQ τ).length<=1000:=by have c:=b.n2;have h: ∀a∈γ.arcs,a.s<γ.nodes/\a.t<γ.nodes/\a.w<=cH:=b.arcs;obtain⟨i,j⟩:=D5 (ends_I c h f (initB_I c d e)) g;exact⟨i,by omega⟩
theorem kL.uniq{A:List Arc}{al:Nat->Bool}{pi:Nat->Int}{σ τ o:Bi}(h:kL A al pi σ τ)(g:kL A al pi σ o):τ=o:=by
 have p: ∀{σ:Bi} {i:Bool},StopB σ->TurnB σ i->False:=fun {σ} {i} a ⟨v,k,u,l,b,c,B,_⟩=>by
  rcases a with⟨j,q⟩|⟨r,s,t,w,e,f,C⟩
  . cases j
    . have:=b.1;rw [q]at this;cases this
    . have:=c.1;rw [q]at this;cases this
  . obtain⟨_,rfl⟩:=b.uniq e;obtain⟨_,rfl⟩:=c.uniq f;omega
 induction h with
 | stop a=>
   cases g with
   |stop _=>rfl|step d _ _=>exact(p a d).elim
 | step d x _ y=>
   cases g with
   |stop a=>exact(p a d).elim| step m n z=>
     obtain⟨v,k,u,l,b,c,_,rfl⟩:=d;obtain⟨r,s,t,w,e,f,_,rfl⟩:=m;obtain⟨_,rfl⟩:=b.uniq e;obtain⟨_,rfl⟩:=c.uniq f;obtain⟨rfl,_⟩:=x.uniq n;exact y z
theorem actL_len{s w:Int}:(gK N n R Q s w a).length<=n:=by unfold gK;rw [Xt];omega
section
variable{γ:Gra}{l:List Int}{R Q:Nat->List Int}{cf Bt:Nat->Nat}{k s w:Nat}{a c d:Int}{h:Hp}{vA vB vE:Value}
def SameX(h:Hp)(c d:Int)(vA vB:Value)(h':Hp)(c' i:Int)(f g:Value):Prop:=c=c'/\d=i/\ ∃e b:List Nat,az h 1 bO vA e/\az h' 1 bO f e/\az h 1 bO vB b/\az h' 1 bO g b/\e.length<=1000/\b.length<=1000
theorem nH.same{e b:List Nat}{h':Hp}{c' j:Int}{g:Value}(o:nH h D e b c d vA vB)(o':nH h' D e b c' j f g)(m:D<FAR->e.length<=1000)(n:b.length<=1000):SameX h c d vA vB h' c' j f g:=by
 have i: ∀{h:Hp},az h 1 bO (.slice none 0 0) []:=.inl ⟨rfl,rfl⟩;rcases o with⟨x,rfl,rfl,rfl,rfl⟩|⟨x,rfl,rfl,p,q⟩
 . rcases o' with⟨_,rfl,rfl,rfl,rfl⟩|⟨y,_⟩
   . exact⟨rfl,rfl,[],[],i,i,i,i,Xk _,Xk _⟩
   . omega
 . rcases o' with⟨y,_⟩|⟨y,rfl,rfl,r,t⟩
   . omega
   . exact⟨rfl,rfl,e,b,p,r,q,t,m x,n⟩
theorem AnsS.same{als:List Bool}{pis:List Int}{b:List Nat}(g:Good γ)(r:s<γ.nodes)(i:s≠w)(t:b.length<=1000){h':Hp}{c' p:Int}{e f j:Value}(o:AnsS γ als pis b s w h c d vA vB vE)(o':AnsS γ als pis b s w h' c' p e f j):SameX h c d vA vB h' c' p e f:=by obtain⟨x,q,_,u⟩:=o;obtain⟨v,m,_,n⟩:=o';obtain rfl:=q.uniq m;exact u.same n (fun _=>by have:=(found_len g r (.inr ⟨i,q⟩)).1;omega) t
theorem AnsD.same{pis:List Int}{b:List Nat}(g:Good γ)(q:s<γ.nodes)(r:w<γ.nodes)(t:b.length<=1000){h':Hp}{c' n:Int}{e f i:Value}(o:AnsD γ pis b s w h c d vA vB vE)(o':AnsD γ pis b s w h' c' n e f i):SameX h c d vA vB h' c' n e f:=by obtain⟨y,p,_,u⟩:=o;obtain⟨v,j,_,m⟩:=o';obtain rfl:=p.uniq j;exact u.same m (fun x=>(twin_any g q r p x).2) t
theorem mZ.same(b:Good γ)(i:s<γ.nodes)(m:w<γ.nodes)(e:s≠w)(p:l.length<=16){h':Hp}{c' n:Int}{f g j:Value}(o:mZ γ l R Q cf Bt k s w a h c d vA vB vE)(o':mZ γ l R Q cf Bt k s w a h' c' n f g j):SameX h c d vA vB h' c' n f g:=by
 have z:([]:List Nat).length<=1000:=Xk _;have y:(gK γ.nodes l.length R Q s w a).length<=1000:=Xm actL_len (by omega);revert o o';unfold mZ
 split<;>intro o o'<;>first|exact AnsS.same b i e z o o'|exact AnsS.same b i e y o o'|exact AnsD.same b i m z o o'|exact AnsD.same b i m y o o'
end
theorem EF(a:OZ h0):aT zM 7 [] h0 (.bool true):=ret_orc rfl ⟨rfl,Gr.refl a⟩
theorem SlW.grN{h':Hp}{kd:IntKind}(s:SlW h kd v l)(g:Gr h h'):SlW h' kd v l:=s.imp (fun h=>h) (fun⟨b,o,c,e,a,d⟩=>⟨b,o,c,e,a,g.load d⟩)
theorem mK(u:OZ h0){k l m:Value}{f:Nat}{way:Int}(hf:f<=255)(C:t<=255)(D:1<=N)(v:N<=1000)(E:Fl j)(F:Fl k)(G:Fl l)(e3:Fl m)(e4:Fl p):aT zM 12 [.agg ⟨[j,k,l,m,p,.int .u8 (f:Nat),.int .u8 (t:Nat),.int .i8 a]⟩,.int .i64 (N:Nat),.int .i64 way] h0 (.agg ⟨[.int .i64 way,.int .i64 ((f%N:Nat):Int),.int .i64 ((t%N:Nat):Int),.int .i64 (au .i64 a)]⟩):=by
 have S:=Si u;have w:au .i64 (f:Int)=(f:Int):=by rw [wrap64]<;>omega
 have y:au .i64 (t:Int)=(t:Int):=by rw [wrap64]<;>omega
 have z:(N:Int)≠0:=by omega
 have c:(f:Int).tmod (N:Int)=((f%N:Nat):Int):=by rw [Xx (by omega)];exact(Int.natCast_emod _ _).symm
 have d:(t:Int).tmod (N:Int)=((t%N:Nat):Int):=by rw [Xx (by omega)];exact(Int.natCast_emod _ _).symm
 refine aa (n:=22) (rs:=[.cell 6 48]) rfl Tryz.e12 rfl rfl rfl (lbt rfl) ?_;simp only [BZ,seval];refine ae (bA (by intro x e;cases e)) S ?_;clear S;intro h g S r;simp only [ag]at S;simp only [BZ];refine ae aA S ?_;clear S;intro h A S s;simp only [BZ];refine ar (aw rfl) (q:=0) (ps:=[]) (by kernel_rfl) ?_;simp only [BZ,jy,cU,ju,cls,w,y,jO z,c,d,S.ld (b:=g) (o:=5) m1 rfl,S.ld (b:=g) (o:=6) m1 rfl,S.ld (b:=g) (o:=7) m1 rfl,seval];refine cM (S.store (i:=0) rfl ?_ ?_ rfl rfl ?_ ono) ?_
 . exact(by exact Tryz.t7.2.1)
 . exact(by intro x e;cases e)
 . exact lbt rfl
 clear S;rintro h ⟨S,B⟩;clear B;simp only [LC,ag,lay,Xd,Xc,seval]at S;simp only [BZ,ab,seval];refine(bF (by decide) (by simp only [aC,an,seval];exact bD Tryz.t48.1 Tryz.t48.2.1 (S.lds (b:=A) (o:=0) (n:=4) m0 (lbt rfl)))).2 ?_;exact cg.2 ⟨rfl,S.gr⟩
theorem Ax(k:OZ h0){u:Value}{l:List Nat}(e:az h0 1 bO u l)(j:az h0 1 bO v l)(s:l.length<=1000):aT zM 16 [u,v] h0 (.bool true):=by
 have S:=Si k;have t:=e.fl;have x:=j.fl;refine aa (n:=26) (rs:=[.tmp 4]) rfl Tryz.e16 rfl rfl rfl (lbt rfl) ?_;simp only [BZ,e.lenq,j.lenq,seval];refine bj (fun(i:Nat) g h=>i<=l.length/\Gr h0 h/\g 0=u/\g 1=v/\g 5=.int .i64 i) (fun i=>l.length-i) ?_ 0 _ _ ?_
 . clear S;intro i m g h ⟨hi,S,r0,r1,r5⟩;by_cases hlt:i<l.length
   . obtain⟨c,o,f,b⟩:=(e.gr S).ix (kd:=.i64) dr hlt;obtain⟨p,r,d,a⟩:=(j.gr S).ix (kd:=.i64) dr hlt;replace b:h.load c o 1=some [.int .i64 (l[i]:Nat)]:=b;replace a:h.load p r 1=some [.int .i64 (l[i]:Nat)]:=a;have w:au .i64 ((i:Int)+1)=((i+1:Nat):Int):=(by rw [wrap64]<;>omega);simp only [BZ,r0,r5,e.lenq,aG,hlt,seval];refine ar (aw rfl) (q:=0) (ps:=[]) (by kernel_rfl) ?_;simp only [BZ,cls,r0,r1,r5,f,b,d,a,w,seval];exact m (i+1) _ _ (by omega) ⟨by omega,S,by simp [aD,r0,r1]⟩
   . simp only [BZ,ab,r0,r5,e.lenq,aG,hlt,seval];exact S
 . exact⟨Xk _,Gr.refl k,by simp [aD,cK,dw]⟩
def pC(γ:Gra)(l:List Int)(R Q:Nat->List Int)(cf Bt:Nat->Nat)(k s w:Nat)(a:Int)(h:Hp)(c d:Int)(vA b vE:Value):Prop:=
 (s=w/\c=0/\d=0/\vA=.slice none 0 0/\b=.slice none 0 0/\vE=.slice none 0 0)\/(s≠w/\mZ γ l R Q cf Bt k s w a h c d vA b vE)
theorem dB:Pm (pC γ l R Q cf Bt k s w a):=
 ⟨fun o=>by
  rcases o with⟨_,_,_,rfl,rfl,rfl⟩|⟨_,o⟩
  . exact⟨aW,aW,aW⟩
  . exact mR.fl o,fun o g b=>o.imp id fun⟨x,o⟩=>⟨x,mR.mo o g b⟩⟩
theorem pC.same{γ:Gra}{l:List Int}{R Q:Nat->List Int}{cf Bt:Nat->Nat}{k s w:Nat}{a c d c' n:Int}{h h':Hp}{vA p vE b f i:Value}(j:Good γ)(q:s<γ.nodes)(r:w<γ.nodes)(t:l.length<=16)(o:pC γ l R Q cf Bt k s w a h c d vA p vE)(o':pC γ l R Q cf Bt k s w a h' c' n b f i):SameX h c d vA p h' c' n b f:=by
 have g: ∀{h:Hp},az h 1 bO (.slice none 0 0) []:=.inl ⟨rfl,rfl⟩;rcases o with⟨e,rfl,rfl,rfl,rfl,rfl⟩|⟨e,o⟩
 . rcases o' with⟨_,rfl,rfl,rfl,rfl,rfl⟩|⟨m,_⟩
   . exact⟨rfl,rfl,[],[],g,g,g,g,Xk _,Xk _⟩
   . exact absurd e m
 . rcases o' with⟨m,_⟩|⟨_,o'⟩
   . exact absurd m e
   . exact mZ.same j q r e t o o'
theorem ansK_low{l':List Int}{R' Q':Nat->List Int}{cf' Bt':Nat->Nat}(b:k<2):mZ γ l R Q cf Bt k s w a=mZ γ l' R' Q' cf' Bt' k s w a:=by rcases(by omega:k=0\/k=1)with rfl|rfl<;>rfl
theorem nH.acts0{a:List Nat}{b:Value}(t:nH h D a [] c d vA b):az h 1 bO b []:=by
 rcases t with⟨_,_,_,_,rfl⟩|⟨_,_,_,_,y⟩
 . exact .inl ⟨rfl,rfl⟩
 . exact y
theorem pC.acts{b vE:Value}(e:k<2)(o:pC γ l R Q cf Bt k s w a h c d vA b vE):az h 1 bO b []:=by
 rcases o with⟨_,_,_,_,rfl,_⟩|⟨_,o⟩
 . exact .inl ⟨rfl,rfl⟩
 . rcases(by omega:k=0\/k=1)with rfl|rfl
   . obtain⟨_,_,_,t⟩:=o;exact t.acts0
   . obtain⟨_,_,_,t⟩:=o;exact t.acts0
section
variable{h0:Hp}{γ:Gra}{l:List Int}{R Q:Nat->List Int}{cf Bt:Nat->Nat}{Mc:Nat}
theorem altP_ok{C:Nat}{n:Value}(q:OZ h0)(h:Good γ)(u:aX h0 C (ptrTo m) γ)(T:TabAt h0 nt n γ.nodes l R Q)(v: ∀i,i<l.length->(R i).length=γ.nodes)(x: ∀i,i<l.length->(Q i).length=γ.nodes)(D:1<=l.length)(E:l.length<=4)(y:Fl p)(F:s<γ.nodes)(G:w<γ.nodes):
 Ret zM 11 [ptrTo m,n,.agg ⟨[p,.int .i64 (s:Nat),.int .i64 (w:Nat),.int .i64 a]⟩] h0 (ng (pC γ l R Q cf Bt 2 s w a) h0):=by
 by_cases b:s=w
 . subst b;have H:jQ γ.nodes γ.nodes l.length (s:Int) (s:Int)=0:=(by unfold jQ;rw [if_neg (by omega),if_neg (by omega),if_pos ⟨by omega,rfl⟩]);refine(yG (f:=s) (t:=s) (a:=a) q h u (.inl ⟨_,T,v,x⟩) (by omega) y).mono ?_;rintro r I ⟨g,c,d,z,A,B,rfl,j,⟨_,e,rfl,rfl,rfl,rfl⟩|⟨_,k,_⟩⟩
   . exact⟨g,_,_,_,_,_,rfl,j,.inl ⟨rfl,e.trans H,rfl,rfl,rfl,rfl⟩⟩
   . exact absurd rfl k
 . refine(altK_ok (cf:=cf) (Bt:=Bt) q h u T v x D E y F G b).mono ?_;rintro r I ⟨g,c,d,z,A,B,rfl,j,o⟩;exact⟨g,c,d,z,A,B,rfl,j,.inr ⟨b,o⟩⟩
theorem twinP_ok{j:Nat}{k m:Value}(p:OZ h0)(b:Good γ)(q:aX h0 o (ptrTo j) γ)(T:TabAt h0 nt k γ.nodes l R Q)(t: ∀i,i<l.length->(R i).length=γ.nodes)(u: ∀i,i<l.length->(Q i).length=γ.nodes)(v:1<=l.length)(G:l.length<=4)(x:Fl m)(y:s<γ.nodes)(z:w<γ.nodes):
 Ret zM 13 [ptrTo j,k,.agg ⟨[m,.int .i64 (s:Nat),.int .i64 (w:Nat),.int .i64 a]⟩] h0 (ng (pC γ l R Q cf Bt 3 s w a) h0):=by
 refine(y8 p b q T t u (by omega) v x y z (a:=a)).mono ?_;rintro r H ⟨g,c,d,A,B,C,rfl,n,f⟩;rcases f with⟨e,rfl,rfl,rfl,rfl,rfl⟩|⟨h,D,E,F,f⟩
 . exact⟨g,_,_,_,_,_,rfl,n,.inl ⟨e,rfl,rfl,rfl,rfl,rfl⟩⟩
 . exact⟨g,c,d,A,B,C,rfl,n,.inr ⟨h,D,E,F,f⟩⟩
theorem B9{z L p:Nat}(B:OZ h0)(e:Good γ)(q:aX h0 L (ptrTo z) γ)(T:TabQ h0 A p l R Q)(M:l.length<=4){C O:Nat}{m:List Int}(b:gJ h0 N (ptrTo C) γ.nodes m cf)(h:gP m+1=((Mc:Nat):Int))(E:Mc<=100)(u:fG h0 D O Mc γ.arcs.length ((γ.arcs.length+7)/8) Bt)
  (F:k=4\/k=5) (G:k=5->p=γ.nodes/\1<=l.length)   (P:s<γ.nodes) (S:w<γ.nodes):
 Ret zM 14 [ptrTo z,A,.agg ⟨[ptrTo C,ptrTo D]⟩,.agg ⟨[.int .i64 (k:Nat),.int .i64 (s:Nat),.int .i64 (w:Nat),.int .i64 a]⟩] h0 (ng (pC γ l R Q cf Bt k s w a) h0):=by
 by_cases i:s=w
 . subst i;have j:((k:Nat):Int)=4\/((k:Nat):Int)=5:=(by omega);refine(yC (f:=s) (t:=s) (a:=a) (way:=(k:Nat)) B e q T (by omega) bH bH (yI e q b h u) (fun _=>⟨b,rfl,u,E,rfl,Ca b h⟩)).mono ?_;rintro r U ⟨g,c,d,H,I,J,rfl,v,x⟩;have n:jw true (k:Nat) l.length p γ.nodes=true:=by
    unfold jw;rcases F with rfl|rfl
    . rfl
    . obtain⟨y,K⟩:=G rfl;simp [y];omega
   have y:decide (((k:Nat):Int)=4\/((k:Nat):Int)=5)=true:=decide_eq_true j;have K:decide (0<=(s:Int)/\(s:Int)<(γ.nodes:Int))=true:=decide_eq_true (by omega);rw [n,y,K]at x;have V:rL true true true true=0:=rfl;rw [V]at x;rcases x with⟨_,rfl,rfl,rfl,rfl,rfl⟩|⟨_,X,Y,Z,es,ew,W,_⟩
   . exact⟨g,_,_,_,_,_,rfl,v,.inl ⟨rfl,rfl,rfl,rfl,rfl,rfl⟩⟩
   . omega
 . refine(xG B e q T M b h E u F G P S i).mono ?_;rintro r U ⟨g,c,d,H,I,J,rfl,v,o⟩;exact⟨g,c,d,H,I,J,rfl,v,.inr ⟨i,o⟩⟩
end
theorem hasP(x:Nat)(a:x<=255):(x|||3)<=255/\(x|||3)%2=1/\(x|||3)/2%2=1:=by
 have: ∀x:Fin 256,(x.1|||3)<=255/\(x.1|||3)%2=1/\(x.1|||3)/2%2=1:=by decide
 exact this ⟨x,by omega⟩
theorem wF(ok:OZ h0){vB vO vM vN:Value}{V f:Nat}{B O ms ns:List Int}(hB:SlW h0 .u8 vB B)(hO:SlW h0 .u8 vO O)(cO: ∀x∈O,0<=x/\x<=255)(hM:SlW h0 .u8 vM ms)(bL: ∀x∈ms,0<=x/\x<=255)(hN:SlW h0 .i64 vN ns)(cN: ∀x∈ns,-9223372036854775808<=x/\x<=9223372036854775807)(hh:V<=255)(hf:f<=255)(ht:t<=255):
 aT zM 3 [.agg ⟨[vB,vO,vM,.int .u8 (V:Nat),vN,.int .u8 (f:Nat),.int .u8 (t:Nat),.int .i8 a]⟩] h0 (.bool true):=by
 have S:=Si ok;have fB:=hB.sl.fl;have fO:=hO.sl.fl;have fM:=hM.sl.fl;have fN:=hN.sl.fl;have c0:=gX;obtain⟨o1,W,o3⟩:=hasP V hh;have or: ∀(t:TypeId) (p q:Operand),bZ zM .or t p q (.int .u8 (V:Nat)) (.int .u8 3)=some (.int .u8 ((V|||3:Nat):Int)):=fun t p q=>b_orN (E:=zM) (t:=t) (p:=p) (q:=q) (k:=.u8) (x:=V) (y:=3) rfl (by simp only [pw];omega) (by decide);refine aa (n:=209) (rs:=[.tmp 2]) rfl Tryz.e3 rfl rfl rfl (lbt rfl) ?_;simp only [BZ,seval];refine ae (bA (by intro x e;cases e)) S ?_;clear S;intro h b1 S cs;simp only [ag]at S;simp only [BZ];refine am (EF S.ok) ?_;intro h g;replace S:=S.call g;clear g;simp only [BZ,or,S.ld (b:=b1) (o:=3) m0 rfl,seval];refine aE (aF S (i:=0) rfl Tryz.t5.2.2.1 aU (Xo (lbt rfl)) ono) ?_;clear S or;rintro h ⟨S,_⟩;simp only [LC,ag,lay,Xd,Xc,seval]at S;generalize V|||3=cv at*
 simp only [BZ,Xe,Xb,Xf,S.lds (b:=b1) (o:=0) (n:=8) m0 (lbt rfl),seval];refine step_ret (made32_ok S.ok (hB.grN S.gr) (hO.grN S.gr) cO (hM.grN S.gr) bL (hN.grN S.gr) cN o1) ?_;rintro _ hm ⟨g,b,I,rfl,im,tI,cI⟩;replace S:=S.call g;rw [decide_eq_true W]at tI;rw [decide_eq_true o3]at cI;obtain⟨l,R,Q,cf,Bt,Mc,ip,_,_⟩:=im.opened;have A:=ip.good;obtain⟨bp,nb,pt,pc,pf,R1,hn,t1,t2,c1,c2⟩:=id ip.ex;obtain⟨bt,nt,rfl,hT⟩:=t1 tI;obtain⟨mb,ck,fp,fb,m,rfl,rfl,ax,bf,bm⟩:=c1 cI;obtain⟨l1,hl,lR,lQ⟩:=ip.tab tI;have l4:=ip.l4;have ai:=ip.cel;have n1:=A.n1;have n2:=A.n2;have l0:=R1.load1 (o:=0) rfl;have g0:=S.gr;have R0:=S.row (b:=b1) m0;have bP:=S.ok;clear S t1 t2 c1 c2;have S:=Si bP;simp only [BZ,seval];refine am (Bh S.ok (im.at.gr S.gr)) ?_;intro h g;replace S:=S.call g;clear g;simp only [BZ,S.gr.load l0,seval];refine am (bM S.ok (hn.gr S.gr)) ?_;intro h g;replace S:=S.call g;clear g;simp only [BZ,seval];have gr:=S.gr;have bT:=S.ok;clear S;rename Hp=>hr;replace im:=im.gr gr;replace ip:=ip.gr gr;replace R1:=R1.gr gr;replace R0:=R0.gr gr;replace hn:=hn.gr gr;replace hT:=hT.gr gr;replace ax:=ax.gr gr;replace bm:=bm.gr gr;replace g0:=g0.trans gr;clear gr l0;have hs:f%I.g.nodes<I.g.nodes:=Nat.mod_lt _ (by omega);have hw:t%I.g.nodes<I.g.nodes:=Nat.mod_lt _ (by omega);have C:=R0.load (o:=0) (n:=8) (Xl 8);simp only [Xe,Xb,Xf]at C;have ad:=R1.load1 (o:=0) rfl;have ay:=R1.load1 (o:=1) rfl;have bX:=R1.load1 (o:=2) rfl;have bY:=R1.load1 (o:=3) rfl;have S:=Si bT;refine ar (gG (ord:=[9,0,1,2,3,4,5,6,7,8,10]) rfl rfl (by simp only [dE,kJ,dR,Xi,Xj,Xn,Xp,Xr,cond_true,cond_false,seval];exact rfl)) (q:=1) (ps:=[]) (by kernel_rfl) ?_;simp only [BZ,cls,seval];refine cL aA S ?_;clear S;intro h b5 S cx cz;simp only [BZ,cls,S.gr.load bX,S.gr.load bY,seval];refine cM (S.store (i:=0) rfl ?_ ?_ rfl rfl ?_ ono) ?_
 . exact(by exact Tryz.t13.2.1)
 . exact(by intro x e;cases e)
 . exact lbt rfl
 clear S;rintro h ⟨S,X⟩;clear X;simp only [LC,ag,lay,Xd,Xc,seval]at S;simp only [BZ,seval];have U:=S.row (b:=b5) m0;have j:=S.gr;have v:=S.ok;clear S;rename Hp=>hk;obtain⟨a',ea⟩: ∃x,au .i64 a=x:=⟨_,rfl⟩;obtain⟨s,es⟩: ∃x,f%I.g.nodes=x:=⟨_,rfl⟩;obtain⟨w,ew⟩: ∃x,t%I.g.nodes=x:=⟨_,rfl⟩;rw [es]at hs;rw [ew]at hw;have S:=Si v;have r:=U.load (o:=0) (n:=2) (Xl 2);simp only [Xe,Xb,Xf]at r;refine ar (gG (ord:=[15,0,1,2,3,4,5,6,7,8,9,10,11,12,13,14,16,17]) rfl rfl (by simp only [dE,kJ,dR,Xi,Xj,Xn,Xp,Xr,cond_true,cond_false,seval];exact rfl)) (q:=1) (ps:=[(0,12),(8,11),(4,11),(0,11)]) (by kernel_rfl) ?_;simp only [BZ,cls,seval];refine cL aA S ?_;clear S;intro h b6 S cA bh;have kS:=S.fr.n;have D:=(R1.gr (j.trans S.gr)).lt S.ok;have F:=(R0.gr (j.trans S.gr)).lt S.ok;have Y:=(U.gr S.gr).lt S.ok;have G:=S.key_lt (b:=b6) (by simp [keys]);simp only [BZ,cls,(j.trans S.gr).load ad,(j.trans S.gr).load ay,(j.trans S.gr).load C,S.gr.load r,seval];refine bg (mK S.ok hf ht n1 (by omega) fB fO fM aU fN) ?_;rw [ea,es,ew];intro h' g;have H:=ah g D;have J:=ah g F;have Z:=ah g Y;have K:=ah g G;have u:=g.n;replace S:=S.call g;simp only [BZ,cls,seval];refine bQ (altP_ok (cf:=cf) (Bt:=Bt) S.ok A (hn.gr (j.trans S.gr)) (hT.gr (j.trans S.gr)) lR lQ l1 l4 aU hs hw) ?_;rintro _ h ⟨g,c2,d2,A2,B2,E2,rfl,nV,W⟩;have L:=ah g (Xa D u);have M:=ah g (Xa F u);have u5:=ah g (Xa Y u);have N:=ah g (Xa G u);obtain⟨bi,bk,c6⟩:=dB.fl W;replace S:=S.call g;simp only [BZ,cls,mH,seval];refine cM (S.store (i:=0) rfl Tryz.t43.2.1 (by intro x e;cases e) rfl (by simp only [ag,Xg,Xh,bi.2.1,bk.2.1,zO];rfl) (lbt rfl) ono) ?_;clear S;rintro h ⟨S,X⟩;simp only [LC,ag,lay,Xd,Xc,seval]at S;replace W:=dB.mo W X (fun x hx e=>by have e:x=b6:=e;have:=nV x hx;omega);clear X;simp only [BZ,cls,seval];refine⟨by simp only [aK,aO,aH,aQ,aJ,ne_eq,not_false_eq_true,aS,bz,aN,aM,bG,bS,aC,zO,an,c8,<-bh,aq H,ao H,aq J,ao J,aq Z,ao Z,aq K,ao K,aq L,ao L,aq M,ao M,aq u5,ao u5,aq N,ao N,seval],?_⟩;have R6:=S.row (b:=b6) m0;replace j:=j.trans S.gr;replace U:=U.gr S.gr;have v:=S.ok;clear S H J Z K L M u5 N D F Y G u kS nV r;rename Hp=>hk2;have S:=Si v;have r:=U.load (o:=0) (n:=2) (Xl 2);simp only [Xe,Xb,Xf]at r;refine ar (gG (ord:=[15,0,1,2,3,4,5,6,7,8,9,10,11,12,13,14,16,17]) rfl rfl (by simp only [dE,kJ,dR,Xi,Xj,Xn,Xp,Xr,cond_true,cond_false,seval];exact rfl)) (q:=1) (ps:=[(0,12),(8,11),(4,11),(0,11)]) (by kernel_rfl) ?_;simp only [BZ,cls,seval];refine cL aA S ?_;clear S;intro h b8 S cT bl;have kS:=S.fr.n;have D:=(R1.gr (j.trans S.gr)).lt S.ok;have F:=(R0.gr (j.trans S.gr)).lt S.ok;have Y:=(U.gr S.gr).lt S.ok;have G:=S.key_lt (b:=b8) (by simp [keys]);simp only [BZ,cls,(j.trans S.gr).load ad,(j.trans S.gr).load ay,(j.trans S.gr).load C,S.gr.load r,seval];refine bg (mK S.ok hf ht n1 (by omega) fB fO fM aU fN) ?_;rw [ea,es,ew];intro h' g;have H:=ah g D;have J:=ah g F;have Z:=ah g Y;have K:=ah g G;have u:=g.n;replace S:=S.call g;simp only [BZ,cls,seval];refine bQ (twinP_ok (cf:=cf) (Bt:=Bt) S.ok A (hn.gr (j.trans S.gr)) (hT.gr (j.trans S.gr)) lR lQ l1 l4 aU hs hw) ?_;rintro _ h ⟨g,c3,d3,A3,B3,E3,rfl,nV,o3⟩;have L:=ah g (Xa D u);have M:=ah g (Xa F u);have u5:=ah g (Xa Y u);have N:=ah g (Xa G u);obtain⟨bn,bo,c9⟩:=dB.fl o3;replace S:=S.call g;simp only [BZ,cls,mH,seval];refine cM (S.store (i:=0) rfl Tryz.t43.2.1 (by intro x e;cases e) rfl (by simp only [ag,Xg,Xh,bn.2.1,bo.2.1,zO];rfl) (lbt rfl) ono) ?_;clear S;rintro h ⟨S,X⟩;simp only [LC,ag,lay,Xd,Xc,seval]at S;replace o3:=dB.mo o3 X (fun x hx e=>by have e:x=b8:=e;have:=nV x hx;omega);clear X;simp only [BZ,cls,seval];refine⟨by simp only [aK,aO,aH,aQ,aJ,ne_eq,not_false_eq_true,aS,bz,aN,aM,bG,bS,aC,zO,an,c8,<-bl,aq H,ao H,aq J,ao J,aq Z,ao Z,aq K,ao K,aq L,ao L,aq M,ao M,aq u5,ao u5,aq N,ao N,seval],?_⟩;have R8:=S.row (b:=b8) m0;replace j:=j.trans S.gr;replace U:=U.gr S.gr;replace R6:=R6.gr S.gr;replace W:=dB.mo W S.fr (fun _ _ h=>h);have v:=S.ok;clear S H J Z K L M u5 N D F Y G u kS nV r;rename Hp=>hk3;have S:=Si v;have r:=U.load (o:=0) (n:=2) (Xl 2);simp only [Xe,Xb,Xf]at r;refine ar (gG (ord:=[16,0,1,2,3,4,5,6,7,8,9,10,11,12,13,14,15,17,18]) rfl rfl (by simp only [dE,kJ,dR,Xi,Xj,Xn,Xp,Xr,cond_true,cond_false,seval];exact rfl)) (q:=1) (ps:=[(0,13),(9,12),(8,12),(4,12),(0,12)]) (by kernel_rfl) ?_;simp only [BZ,cls,seval];refine cL aA S ?_;clear S;intro h a0 S b0 a1;have kS:=S.fr.n;have D:=(R1.gr (j.trans S.gr)).lt S.ok;have F:=(R0.gr (j.trans S.gr)).lt S.ok;have Y:=(U.gr S.gr).lt S.ok;have G:=S.key_lt (b:=a0) (by simp [keys]);simp only [BZ,cls,(j.trans S.gr).load ad,(j.trans S.gr).load ay,(j.trans S.gr).load C,S.gr.load r,seval];refine bg (mK S.ok hf ht n1 (by omega) fB fO fM aU fN) ?_;rw [ea,es,ew];intro h' g;have H:=ah g D;have J:=ah g F;have Z:=ah g Y;have K:=ah g G;have u:=g.n;replace S:=S.call g;simp only [BZ,cls,seval];refine bQ (B9 (k:=4) S.ok A (hn.gr (j.trans S.gr)) (.inl ⟨_,hT.gr (j.trans S.gr),lR,lQ⟩) l4 (ax.gr (j.trans S.gr)) bf ai (bm.gr (j.trans S.gr)) (.inl rfl) (fun e=>by cases e) hs hw) ?_;rintro _ h ⟨g,c4,d4,A4,B4,E4,rfl,nV,o4⟩;have L:=ah g (Xa D u);have M:=ah g (Xa F u);have u5:=ah g (Xa Y u);have N:=ah g (Xa G u);obtain⟨bq,br,da⟩:=dB.fl o4;replace S:=S.call g;simp only [BZ,cls,mH,seval];refine cM (S.store (i:=0) rfl Tryz.t43.2.1 (by intro x e;cases e) rfl (by simp only [ag,Xg,Xh,bq.2.1,br.2.1,zO];rfl) (lbt rfl) ono) ?_;clear S;rintro h ⟨S,X⟩;simp only [LC,ag,lay,Xd,Xc,seval]at S;replace o4:=dB.mo o4 X (fun x hx e=>by have e:x=a0:=e;have:=nV x hx;omega);clear X;simp only [BZ,cls,seval];refine⟨by simp only [aK,aO,aH,aQ,aJ,ne_eq,not_false_eq_true,aS,bz,aN,aM,bG,bS,aC,zO,an,c8,<-a1,aq H,ao H,aq J,ao J,aq Z,ao Z,aq K,ao K,aq L,ao L,aq M,ao M,aq u5,ao u5,aq N,ao N,seval],?_⟩;have a2:=S.row (b:=a0) m0;replace j:=j.trans S.gr;replace U:=U.gr S.gr;replace R6:=R6.gr S.gr;replace W:=dB.mo W S.fr (fun _ _ h=>h);replace R8:=R8.gr S.gr;replace o3:=dB.mo o3 S.fr (fun _ _ h=>h);have v:=S.ok;clear S H J Z K L M u5 N D F Y G u kS nV r;rename Hp=>hk4;have S:=Si v;have r:=U.load (o:=0) (n:=2) (Xl 2);simp only [Xe,Xb,Xf]at r;refine ar (gG (ord:=[16,0,1,2,3,4,5,6,7,8,9,10,11,12,13,14,15,17,18]) rfl rfl (by simp only [dE,kJ,dR,Xi,Xj,Xn,Xp,Xr,cond_true,cond_false,seval];exact rfl)) (q:=1) (ps:=[(0,13),(9,12),(8,12),(4,12),(0,12)]) (by kernel_rfl) ?_;simp only [BZ,cls,seval];refine cL aA S ?_;clear S;intro h a3 S b2 a4;have kS:=S.fr.n;have D:=(R1.gr (j.trans S.gr)).lt S.ok;have F:=(R0.gr (j.trans S.gr)).lt S.ok;have Y:=(U.gr S.gr).lt S.ok;have G:=S.key_lt (b:=a3) (by simp [keys]);simp only [BZ,cls,(j.trans S.gr).load ad,(j.trans S.gr).load ay,(j.trans S.gr).load C,S.gr.load r,seval];refine bg (mK S.ok hf ht n1 (by omega) fB fO fM aU fN) ?_;rw [ea,es,ew];intro h' g;have H:=ah g D;have J:=ah g F;have Z:=ah g Y;have K:=ah g G;have u:=g.n;replace S:=S.call g;simp only [BZ,cls,seval];refine bQ (B9 (k:=5) S.ok A (hn.gr (j.trans S.gr)) (.inl ⟨_,hT.gr (j.trans S.gr),lR,lQ⟩) l4 (ax.gr (j.trans S.gr)) bf ai (bm.gr (j.trans S.gr)) (.inr rfl) (fun _=>⟨rfl,l1⟩) hs hw) ?_;rintro _ h ⟨g,c5,d5,A5,B5,E5,rfl,nV,o5⟩;have L:=ah g (Xa D u);have M:=ah g (Xa F u);have u5:=ah g (Xa Y u);have N:=ah g (Xa G u);obtain⟨bs,bu,db⟩:=dB.fl o5;replace S:=S.call g;simp only [BZ,cls,mH,seval];refine cM (S.store (i:=0) rfl Tryz.t43.2.1 (by intro x e;cases e) rfl (by simp only [ag,Xg,Xh,bs.2.1,bu.2.1,zO];rfl) (lbt rfl) ono) ?_;clear S;rintro h ⟨S,X⟩;simp only [LC,ag,lay,Xd,Xc,seval]at S;replace o5:=dB.mo o5 X (fun x hx e=>by have e:x=a3:=e;have:=nV x hx;omega);clear X;simp only [BZ,cls,seval];refine⟨by simp only [aK,aO,aH,aQ,aJ,ne_eq,not_false_eq_true,aS,bz,aN,aM,bG,bS,aC,zO,an,c8,<-a4,aq H,ao H,aq J,ao J,aq Z,ao Z,aq K,ao K,aq L,ao L,aq M,ao M,aq u5,ao u5,aq N,ao N,seval],?_⟩;have b3:=S.row (b:=a3) m0;replace j:=j.trans S.gr;replace U:=U.gr S.gr;replace R6:=R6.gr S.gr;replace W:=dB.mo W S.fr (fun _ _ h=>h);replace R8:=R8.gr S.gr;replace o3:=dB.mo o3 S.fr (fun _ _ h=>h);replace a2:=a2.gr S.gr;replace o4:=dB.mo o4 S.fr (fun _ _ h=>h);have v:=S.ok;clear S H J Z K L M u5 N D F Y G u kS nV r;rename Hp=>hk5;have S:=Si v;have l6:=R6.load (o:=0) (n:=4) (Xl 4);have l8:=R8.load (o:=0) (n:=4) (Xl 4);have a5:=a2.load (o:=0) (n:=4) (Xl 4);have a6:=b3.load (o:=0) (n:=4) (Xl 4);simp only [Xe,Xb,Xf]at l6 l8 a5 a6;simp only [BZ,l6,l8,a5,a6,seval];refine ae (ce (by exact Tryz.t51.1) (by exact Tryz.e43E) (by decide) (by rfl)) S ?_;clear S;intro h bw S cW;simp only [LC,bJ,cq,ag,Nat.zero_mul,XG,XC,Nat.one_mul,seval]at S;simp only [BZ,Xq,seval];have Rw:=S.row (b:=bw) m0;replace j:=j.trans S.gr;replace W:=dB.mo W S.fr (fun _ _ h=>h);replace o3:=dB.mo o3 S.fr (fun _ _ h=>h);replace o4:=dB.mo o4 S.fr (fun _ _ h=>h);replace o5:=dB.mo o5 S.fr (fun _ _ h=>h);have v:=S.ok;clear S;rename Hp=>hW;refine rD (fun P h=>Gr hW h/\P 1=ptrTo b1/\P 3=ptrTo b/\P 4=.int .i64 (I.g.nodes:Nat)) (fun(k:Nat) P h=>k<=4/\Gr hW h/\(P 1=ptrTo b1/\P 3=ptrTo b/\P 4=.int .i64 (I.g.nodes:Nat))/\P 118=.slice (some ⟨bw,0,none⟩) 4 4/\P 119=.int .i64 4/\P 120=.int .i64 (k:Nat)) (fun k=>4-k) ?_ ?_ 0 ?_
 . intro k ih P h ⟨hk,z,⟨r1,r3,r4⟩,r118,r119,r120⟩;have wk:au .i64 ((k:Int)+1)=((k+1:Nat):Int):=(by rw [wrap64]<;>omega);have w2:au .i64 (2+(k:Int))=((2+k:Nat):Int):=(by rw [wrap64]<;>omega);by_cases hlt:k<4;rotate_left
   . have c4:((k:Int)<4)=False:=eq_false (by omega);simp only [BZ,r119,r120,c4,seval];exact dU ⟨z,by simp [aD,r1,an,r3,r4]⟩
   have c4:((k:Int)<4)=True:=eq_true (by omega);obtain⟨c',d',A',B',E',a7,ak,lk,T⟩: ∃c' d' A' B' E',Fl A'/\Fl B'/\h.load bw (k*4) 4=some [.int .i64 c',.int .i64 d',A',B']/\pC I.g l R Q cf Bt (2+k) s w a' h c' d' A' B' E':=by
    rcases(by omega:k=0\/k=1\/k=2\/k=3)with rfl|rfl|rfl|rfl
    . exact⟨_,_,_,_,_,bi,bk,(Rw.gr z).load (o:=0) (n:=4) (lbt rfl),dB.mo W z.fr (fun _ _ h=>h)⟩
    . exact⟨_,_,_,_,_,bn,bo,(Rw.gr z).load (o:=4) (n:=4) (lbt rfl),dB.mo o3 z.fr (fun _ _ h=>h)⟩
    . exact⟨_,_,_,_,_,bq,br,(Rw.gr z).load (o:=8) (n:=4) (lbt rfl),dB.mo o4 z.fr (fun _ _ h=>h)⟩
    . exact⟨_,_,_,_,_,bs,bu,(Rw.gr z).load (o:=12) (n:=4) (lbt rfl),dB.mo o5 z.fr (fun _ _ h=>h)⟩
   have S:=Si z.ok;simp only [BZ,r118,r119,r120,c4,ia hlt,lk,seval];refine ae aA S ?_;clear S;intro h b4 S b7;simp only [BZ,ia hlt,S.gr.load lk,seval];refine aE (S.store (i:=0) rfl Tryz.t43.2.1 (by intro x e;cases e) rfl (by simp only [ag,Xg,Xh,a7.2.1,ak.2.1,zO];rfl) (lbt rfl) ono) ?_;clear S;rintro h ⟨S,_⟩;simp only [LC,ag,lay,Xd,Xc,seval]at S;replace T:=dB.mo T S.fr (fun _ _ h=>h);simp only [BZ,r1,r3,r4,w2,((j.trans z).trans S.gr).load C,seval];refine am (mK S.ok hf ht n1 (by omega) fB fO fM aU fN) ?_;rw [ea,es,ew];intro h' g;replace S:=S.call g;replace T:=dB.mo T g.fr (fun _ _ h=>h);clear g;simp only [BZ,seval];have gx:=(j.trans z).trans S.gr;refine step_ret (zG S.ok (im.gr gx) (ip.gr gx)) ?_;rintro _ h ⟨g,c,d,vA,a8,vE,rfl,fA,ak,fE,oA⟩;replace S:=S.call g;replace T:=dB.mo T g.fr (fun _ _ h=>h);clear g gx;have hA:kT I.g.nodes I.T.isSome I.C.isSome ((2+k:Nat):Int) (s:Nat) (w:Nat)=0:=(by unfold kT;rw [if_neg (by omega),if_neg (by omega),if_neg (by omega),tI,cI];exact if_pos (by simp));have rs:pC I.g l R Q cf Bt (2+k) s w a' h c d vA a8 vE:=by
    rcases oA with⟨he,rfl,rfl,rfl,rfl,rfl⟩|⟨he,al,oA⟩
    . obtain rfl:s=w:=(by rcases he with h|h;exact absurd hA h;omega);exact .inl ⟨rfl,hA,rfl,rfl,rfl,rfl⟩
    . exact .inr ⟨fun e=>al (by rw [e]),oA⟩
   have sm:=rs.same A hs hw (by omega) T;clear oA rs T;have af:=S.row (b:=b4) m0;have gy:=z.trans S.gr;have ba:=S.ok;clear S;rename Hp=>hq;have S:=Si ba;simp only [BZ,mH,seval];refine ae aA S ?_;clear S;intro h b9 S ca;simp only [BZ,seval];refine aE (S.store (i:=0) rfl Tryz.t43.2.1 (by intro x e;cases e) rfl (by simp only [ag,Xg,Xh,fA.2.1,ak.2.1,zO];rfl) (lbt rfl) ono) ?_;clear S;rintro h ⟨S,_⟩;simp only [LC,ag,lay,Xd,Xc,seval]at S;obtain⟨rfl,rfl,dc,cX,s1,s2,s3,s4,li,la⟩:=sm;have aL:=S.row (b:=b9) m0;replace af:=af.gr S.gr;replace s1:=s1.gr S.gr;replace s2:=s2.gr S.gr;replace s3:=s3.gr S.gr;replace s4:=s4.gr S.gr;replace gy:=gy.trans S.gr;have bb:=S.ok;clear S;rename Hp=>hz;have S:=Si bb;have x0:=af.load1 (o:=0) rfl;have x1:=af.load1 (o:=1) rfl;have x2:=af.load1 (o:=2) rfl;have x3:=af.load1 (o:=3) rfl;have y0:=aL.load1 (o:=0) rfl;have y1:=aL.load1 (o:=1) rfl;have y2:=aL.load1 (o:=2) rfl;have y3:=aL.load1 (o:=3) rfl;simp only [BZ,x0,x1,x2,y0,y1,y2,seval];refine am (Ax S.ok s1 s2 li) ?_;intro h g;replace S:=S.call g;clear g;simp only [BZ,S.gr.load x3,S.gr.load y3,seval];refine am (Ax S.ok (s3.gr S.gr) (s4.gr S.gr) la) ?_;intro h g;replace S:=S.call g;clear g;simp only [BZ,r120,wk,seval];exact ih (k+1) _ _ (by omega) ⟨by omega,gy.trans S.gr,(by simp [aD,r1,an,r3,r4]),by simp [aD,r118,r119]⟩
 rotate_left
 . exact⟨Xk _,Gr.refl v,(by simp [aD,an]),by simp [aD]⟩
 clear W o3 o4 o5 l6 l8 a5 a6 Rw;rintro P h ⟨z,r1,r3,r4⟩;simp only [BZ];refine bj (fun(k:Nat) P h=>k<=2/\Gr hW h/\P 1=ptrTo b1/\P 3=ptrTo b/\P 4=.int .i64 (I.g.nodes:Nat)/\P 18=.int .i64 (k:Nat)) (fun k=>2-k) ?_ 0 _ _ ⟨Xk _,z,by simp [aD,r1,an,r3,r4]⟩;clear z r1 r3 r4;intro k ih P h ⟨hk,z,r1,r3,r4,r18⟩;have wk:au .i64 ((k:Int)+1)=((k+1:Nat):Int):=by rw [wrap64]<;>omega
 by_cases hlt:k<2;rotate_left
 . have c2:((k:Int)<2)=False:=eq_false (by omega);simp only [BZ,ab,r18,c2,seval];exact g0.trans (j.trans z)
 have c2:((k:Int)<2)=True:=eq_true (by omega);have hA: ∀tb cb:Bool,kT I.g.nodes tb cb (k:Nat) (s:Nat) (w:Nat)=0:=fun tb cb=>by unfold kT;rw [if_neg (by omega),if_neg (by omega),if_neg (by omega)];rcases(by omega:k=0\/k=1)with rfl|rfl<;>exact if_pos rfl
 have S:=Si z.ok;simp only [BZ,r1,r3,r4,r18,c2,(j.trans z).load C,seval];refine am (mK S.ok hf ht n1 (by omega) fB fO fM aU fN) ?_;rw [ea,es,ew];intro h' g;replace S:=S.call g;clear g;simp only [BZ,seval];have gx:=(j.trans z).trans S.gr;refine step_ret (zG S.ok (im.gr gx) (ip.gr gx)) ?_;rintro _ h ⟨g,c,d,vA,a8,vE,rfl,fA,ak,fE,oA⟩;replace S:=S.call g;clear g gx;have rs:pC I.g l R Q cf Bt k s w a' h c d vA a8 vE:=by
  rcases oA with⟨he,rfl,rfl,rfl,rfl,rfl⟩|⟨he,al,oA⟩
  . obtain rfl:s=w:=(by rcases he with h|h;exact absurd (hA _ _) h;omega);exact .inl ⟨rfl,hA _ _,rfl,rfl,rfl,rfl⟩
  . exact .inr ⟨fun e=>al (by rw [e]),oA⟩
 clear oA;simp only [BZ,mH,seval];have gy:=z.trans S.gr;have ba:=S.ok;clear S;rename Hp=>hq;have S:=Si ba;refine ae aA S ?_;clear S;intro h cc S ch;simp only [BZ,seval];refine aE (S.store (i:=0) rfl Tryz.t43.2.1 (by intro x e;cases e) rfl (by simp only [ag,Xg,Xh,fA.2.1,ak.2.1,zO];rfl) (lbt rfl) ono) ?_;clear S;rintro h ⟨S,_⟩;simp only [LC,ag,lay,Xd,Xc,seval]at S;have bc:=S.row (b:=cc) m0;replace rs:=dB.mo rs S.fr (fun _ _ h=>h);replace gy:=gy.trans S.gr;have bb:=S.ok;clear S;rename Hp=>hz;have S:=Si bb;have gz:=j.trans gy;simp only [BZ,seval];refine ar (gG (ord:=[14,0,1,2,3,4,5,6,7,8,9,10,11,12,13,15,16]) rfl rfl (by simp only [dE,kJ,dR,Xi,Xj,Xn,Xp,Xr,cond_true,cond_false,seval];exact rfl)) (q:=1089) (ps:=[(0,11),(4,10),(0,10)]) (by kernel_rfl) ?_;simp only [BZ,cls,seval];refine cL aA S ?_;clear S;intro h bd S cj be;simp only [BZ,cls,r3,(gz.trans S.gr).load ad,(gz.trans S.gr).load C,seval];refine cL (bA (by intro x e;cases e)) S ?_;clear S;intro h bx S cY bv;simp only [ag]at S;have D:=(R1.gr (gz.trans S.gr)).lt S.ok;have F:=(R0.gr (gz.trans S.gr)).lt S.ok;have G:=S.key_lt (b:=bd) (by simp [keys]);simp only [BZ,cls,r1,r4,r18,(gz.trans S.gr).load ad,(gz.trans S.gr).load C,seval];refine sK (mK (h0:={h with lo:=h.n}) S.ok hf ht n1 (by omega) fB fO fM aU fN) ?_;rw [ea,es,ew];intro h' g;have H:=ah g D;have J:=ah g F;have K:=ah g G;have u:=g.n;replace S:=S.call g;clear g;have bB:Im32 h' bx ⟨I.g,none,none⟩ True True:=⟨A,bp,.pointer none,.pointer none,.pointer none,nb,S.row (b:=bx) m0,hn.gr (gz.trans S.gr),rfl,⟨rfl,rfl⟩⟩;obtain⟨l',R',Q',cf',Bt',dd,cl,_,_⟩:=bB.opened;simp only [BZ,cls,seval];refine bQ (zG S.ok bB cl) ?_;rintro _ h ⟨g,c',d',cm,cn,cp,rfl,a7,cr,de,oA⟩;have L:=ah g (Xa D u);have M:=ah g (Xa F u);have N:=ah g (Xa G u);replace S:=S.call g;clear g;have bE:pC I.g l R Q cf Bt k s w a' h c' d' cm cn cp:=by
  rcases oA with⟨he,rfl,rfl,rfl,rfl,rfl⟩|⟨he,al,oA⟩
  . obtain rfl:s=w:=(by rcases he with h|h;exact absurd (hA _ _) h;omega);exact .inl ⟨rfl,hA _ _,rfl,rfl,rfl,rfl⟩
  . refine .inr ⟨fun e=>al (by rw [e]),?_⟩;have e:=ansK_low (γ:=I.g) (l:=l') (R:=R') (Q:=Q') (cf:=cf') (Bt:=Bt') (l':=l) (R':=R) (Q':=Q) (cf':=cf) (Bt':=Bt) (s:=s) (w:=w) (a:=a') hlt;rw [<-e];exact oA
 have sm:=rs.same A hs hw (by omega) bE;have ac:=rs.acts hlt;clear oA rs bE;simp only [BZ,cls,mH,seval];obtain⟨rfl,rfl,_⟩:=sm;refine cM (S.store (i:=1) rfl Tryz.t43.2.1 (by intro x e;cases e) rfl (by simp only [ag,Xg,Xh,a7.2.1,cr.2.1,zO];rfl) (lbt rfl) ono) ?_;clear S;rintro h ⟨S,X⟩;simp only [LC,ag,lay,Xd,Xc,seval]at S;clear X;simp only [BZ,cls,seval];refine⟨by simp only [aK,aO,aH,aQ,aJ,ne_eq,not_false_eq_true,aS,bz,aN,aM,bG,bS,aC,zO,r1,r3,r4,r18,an,c8,<-be,<-bv,Am,jv,jq,pair_x,aq H,ao H,aq J,ao J,aq K,ao K,aq L,ao L,aq M,ao M,aq N,ao N,seval],?_⟩;have x0:=(bc.gr S.gr).load1 (o:=0) rfl;have x1:=(bc.gr S.gr).load1 (o:=1) rfl;have x3:=(bc.gr S.gr).load1 (o:=3) rfl;have y0:=(S.row (b:=bd) m1).load1 (o:=0) rfl;have y1:=(S.row (b:=bd) m1).load1 (o:=1) rfl;simp only [BZ,Xq,r18,x0,x1,x3,y0,y1,ac.lenq,wk,seval];exact ih (k+1) _ _ (by omega) ⟨by omega,gy.trans S.gr,by simp [aD,r1,an,r3,r4]⟩
section
open Go.ChangeShapes Go.WideShapes Go.RowKit
theorem rowAt_le{b:TypeId->Bool}{d:Nat}{a off:Nat}(h:rowAt P b d e a off n=true):off<=a*P.cellsOf e:=by
 cases d with
 |zero=>cases h
 | succ d=>
   unfold rowAt at h;simp only []at h
   split at h
   . cases h
   . rename_i i;have c:0<P.cellsOf e:=(by omega);have f:=Nat.div_add_mod off (P.cellsOf e);simp only [Bool.or_eq_true,Bool.and_eq_true,beq_iff_eq,decide_eq_true_eq]at h;rcases h with⟨⟨g,j⟩,_⟩|⟨g,_⟩
     . have:P.cellsOf e*(off/P.cellsOf e)<=P.cellsOf e*a:=Nat.mul_le_mul_left _ (by omega);rw [Nat.mul_comm a];omega
     . have:P.cellsOf e*(off/P.cellsOf e+1)<=P.cellsOf e*a:=Nat.mul_le_mul_left _ (by omega);have hlt:=Nat.mod_lt off c;rw [Nat.mul_add,XC]at this;rw [Nat.mul_comm a];omega
theorem liesAt_le{d:Nat}: ∀{e:TypeId} {a off:Nat} {u:TypeId} {n:Nat},liesAt P d e a off u n=true->off<=a*P.cellsOf e:=by
 induction d with
 |zero=>intro e a off u n h;cases h
 | succ d b=>
   intro e a off u n h;unfold liesAt at h;rw [Bool.or_eq_true]at h;rcases h with h|h
   . exact rowAt_le h
   . split at h
     . exact b h
     . cases h
theorem has_W{r:_root_.Go.Reach}{a:Addr}(h:W.has P r base a e n):a.spot=none/\a.block<W.heap.size/\ ∃l,(hpW W).load (a.block+16) a.off 0=some l:=by
 obtain⟨_,f,i,c,b,k⟩:=h;have hle:=liesAt_le k;have d:a.off<=c:=Xm hle (Nat.div_mul_le_self _ _);unfold World.shape? at b
 split at b
 next m q s g=>
  cases b;have hlt:=(Array.getElem?_eq_some_iff.1 g).1;have p:Row (hpW W) (a.block+16) (m.toList.map (lS W.heap.size)) 0:=⟨_,_,by rw [uQ,g];rfl,Tr.sized_ofList _,fun j=>Tr.get_ofList _ j⟩;exact⟨f,hlt,_,p.load (o:=a.off) (n:=0) (by simpa using d)⟩
 . cases b
section
variable{H:Type}{enc:TypeId×Value->H}{P:Program}
theorem qQ{s:TypeId}{k:IntKind}{c:Value}{C:Nat->Bool}{D:Bool}{x:DataW H×List MemPlace}(v:P.underlying s=some (.slice e))(E:P.underlying e=some (.int k))(F:P.cellsOf e=1)
 (b:Cell.okWide P W .any base s c) (h:DataW.trod enc P W 0 C D n s [c]=some x): ∃d:List Int,SlW (hpW W) k (lS W.heap.size c) d/\(∀z∈d,(Lit.int k z).wf=true)/\d.length<=9223372036854775807:=by
 rcases Go.ChangeShapes.open_ints v E F h with⟨w,_⟩|⟨a,g,o,d,w,I,A,J,p,_,j,y⟩
 . cases w;exact⟨[],.inl ⟨rfl,rfl⟩,fun z p=>(by cases p),by simp⟩
 . cases w;unfold Cell.okWide at b;rw [v]at b;simp only [Cell.ok,v]at b;obtain⟨B,q,r⟩:=b;obtain⟨t,hlt,G⟩:=has_W r;have m:g<=d.length:=(by rw [p];split<;>omega);refine⟨d.take g,.inr ⟨a.block+16,a.off,o,?_,?_,?_⟩,fun z p=>y z (List.mem_of_mem_take p),by
    have:(o:Int)<=9223372036854775807:=q;rw [Xt];omega⟩
   . rw [Xt,XB m];simp only [lS,if_pos A,if_pos (And.intro t hlt)]
   . rw [Xt,XB m];exact A
   . rw [Xt,XB m,XC];rw [load_join (f:=fun i=>.int k (d.getD i 0)) G (fun i u=>load_W t (j i (by omega)))];congr 1;have e4: ∀l:List Int,l.flatMap (encI k)=l.map fun x=>.int k x:=fun l=>(by rw [XF,List.map_eq_flatMap,XF];rfl);rw [e4];refine List.ext_getElem? fun i=>?_;rw [Xy,Xy,List.getElem?_take];by_cases u:i<g
     . rw [if_pos u,List.getElem?_range u,Xs (show i<d.length by omega)];simp [Xu,show i<d.length by omega]
     . rw [if_neg u,List.getElem?_eq_none (by simpa using u)];rfl
theorem open_sl2{t s:TypeId}{k:IntKind}{j m:Field}{C:Nat->Bool}{D:Bool}{d:DataW H}{p:List MemPlace}(r:P.underlying t=some (.struct #[j,m]))(E:j.offset=0)(o1:m.offset=1)(F:j.type=s)(t1:m.type=s)
 (u:P.underlying s=some (.slice e)) (w:P.underlying e=some (.int k)) (x:P.cellsOf e=1) (f:P.cellsOf s=1) (o:P.cellsOf t=2) (q:P.cellTypes P.depth t=some [s,s])
 (a:Value.okWide P W .any base t v) (h:DataW.Trod enc P W 0 C D t v d p):
 ∃(c0 g:Value) (xs ys:List Int),v=.agg #[c0,g]/\SlW (hpW W) k (lS W.heap.size c0) xs/\SlW (hpW W) k (lS W.heap.size g) ys/\(∀z∈xs,(Lit.int k z).wf=true)/\ ∀z∈ys,(Lit.int k z).wf=true:=by
 unfold Value.okWide at a;rw [r]at a;obtain⟨G,rfl,c,O,i,_,b⟩:=a;rw [q]at i;cases i;rw [o]at c;obtain⟨l⟩:=G;simp only [List.size_toArray]at c;obtain⟨c0,g,rfl⟩:=len2 c;obtain⟨y,h⟩:=h;obtain⟨Q,R,n,_,_,A,B⟩:=Go.ChangeShapes.trod_struct2 r h;rw [E,F,f]at A;rw [o1,t1,f]at B;obtain⟨S,I,J⟩:=b 0 c0 rfl;obtain⟨T,i,K⟩:=b 1 g rfl;cases I;cases i;obtain⟨xs,L,M,_⟩:=qQ u w x J A;obtain⟨ys,N,wy,_⟩:=qQ u w x K B;exact⟨c0,g,xs,ys,rfl,L,N,M,wy⟩
end
end
section
open Go.ChangeShapes Go.WideShapes Go.RowKit
section
variable{H:Type}{enc:TypeId×Value->H}{P:Program}
theorem wf64{z:Int}(h:(Lit.int .i64 z).wf=true): -9223372036854775808<=z/\z<=9223372036854775807:=by unfold Lit.wf at h;simp only [Bool.and_eq_true,decide_eq_true_eq]at h;exact h
end
end
section
open Go.ChangeShapes Go.WideShapes Go.RowKit
section
variable{H:Type}{enc:TypeId×Value->H}{P:Program}
theorem len8k{j:Type}{l:List j}(h:l.length=8): ∃a b c d e f g i,l=[a,b,c,d,e,f,g,i]:=by
 match l,h with
 | [a,b,c,d,e,f,g,i],_=>exact⟨a,b,c,d,e,f,g,i,rfl⟩
theorem open_d32{t f m L e4 g o:TypeId}{C D E F G I J K:Field}{sp:Nat->Bool}{hd:Bool}{d:DataW H}{p:List MemPlace}(Z:P.underlying t=some (.struct #[C,D,E,F,G,I,J,K]))(o0:C.offset=0)(o1:D.offset=1)(o2:E.offset=2)(o3:F.offset=3)(o4:G.offset=4)(o5:I.offset=5)(o6:J.offset=6)(o7:K.offset=7)
 (t0:C.type=f) (t1:D.type=f) (t2:E.type=f) (t3:F.type=g) (t4:G.type=m) (t5:I.type=g) (t6:J.type=g) (t7:K.type=o) (h0:P.underlying f=some (.slice L)) (q:P.underlying g=some (.int .u8)) (Q:P.underlying m=some (.slice e4)) (h7:P.underlying o=some (.int .i8))
 (R:P.underlying L=some (.int .u8)) (g4:P.underlying e4=some (.int .i64)) (c0:P.cellsOf L=1) (c4:P.cellsOf e4=1) (S:P.cellsOf f=1) (T:P.cellsOf g=1) (d4:P.cellsOf m=1) (d7:P.cellsOf o=1) (U:P.cellsOf t=8) (V:P.cellTypes P.depth t=some [f,f,f,g,m,g,g,o])
 (i:Value.okWide P W .any base t v) (h:DataW.Trod enc P W 0 sp hd t v d p):
 ∃ (a b c e:Value) (x y z w:Int) (B O M N:List Int),v=.agg #[a,b,c,.int .u8 x,e,.int .u8 y,.int .u8 z,.int .i8 w]/\SlW (hpW W) .u8 (lS W.heap.size a) B/\SlW (hpW W) .u8 (lS W.heap.size b) O/\SlW (hpW W) .u8 (lS W.heap.size c) M/\SlW (hpW W) .i64 (lS W.heap.size e) N/\
   (∀z∈O,(Lit.int .u8 z).wf=true)/\(∀z∈M,(Lit.int .u8 z).wf=true)/\(∀z∈N,(Lit.int .i64 z).wf=true)/\(Lit.int .u8 x).wf=true/\(Lit.int .u8 y).wf=true/\(Lit.int .u8 z).wf=true:=by
 unfold Value.okWide at i;rw [Z]at i;obtain⟨cs,rfl,k,ts,e1,_,s⟩:=i;rw [V]at e1;cases e1;rw [U]at k;obtain⟨l⟩:=cs;simp only [List.size_toArray]at k;obtain⟨a,b,c,x,e,y,z,w,rfl⟩:=len8k k;obtain⟨ac,h⟩:=h;obtain⟨xs,n,_,_,hl,A,hf⟩:=DataW.trod_struct Z h;obtain⟨y0,y1,y2,y3,y4,y5,y6,y7,rfl⟩:=len8k (by rw [A];rfl:xs.length=8);have q0:=hf 0 C rfl;have q1:=hf 1 D rfl;have q2:=hf 2 E rfl;have q3:=hf 3 F rfl;have q4:=hf 4 G rfl;have q5:=hf 5 I rfl;have q6:=hf 6 J rfl;have q7:=hf 7 K rfl;rw [o0,t0,S]at q0;rw [o1,t1,S]at q1;rw [o2,t2,S]at q2;rw [o3,t3,T]at q3;rw [o4,t4,d4]at q4;rw [o5,t5,T]at q5;rw [o6,t6,T]at q6;rw [o7,t7,d7]at q7;have r: ∀(j:Nat) t v,[f,f,f,g,m,g,g,o][j%8]? =some t->[a,b,c,x,e,y,z,w][j]? =some v->Cell.okWide P W .any base t v:=fun j t v h1 h2=>by obtain⟨u,q,Q⟩:=s j v (by simpa using h2);obtain rfl:t=u:=Option.some.inj (h1.symm.trans q);exact Q
 obtain⟨B,hB,_,_⟩:=qQ h0 R c0 (r 0 f a rfl rfl) q0;obtain⟨O,hO,wO,_⟩:=qQ h0 R c0 (r 1 f b rfl rfl) q1;obtain⟨M,hM,wM,_⟩:=qQ h0 R c0 (r 2 f c rfl rfl) q2;obtain⟨N,hN,wN,_⟩:=qQ Q g4 c4 (r 4 m e rfl rfl) q4;obtain⟨u,e2,_,wu⟩:=DataW.trod_int q q3;obtain⟨u5,e5,_,X⟩:=DataW.trod_int q q5;obtain⟨u6,e6,_,Y⟩:=DataW.trod_int q q6;obtain⟨u7,e7,_,_⟩:=DataW.trod_int h7 q7;cases e2;cases e5;cases e6;cases e7;exact⟨a,b,c,e,u,u5,u6,u7,B,O,M,N,rfl,hB,hO,hM,hN,wO,wM,wN,wu,X,Y⟩
end
end
end Go.Ab

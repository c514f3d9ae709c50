/- Nets, cells, flags: what the functions do (part 6). -/
import Derived.Test.YtddjlflghenhkaaGreatDoorKatE
import Derived.ChangeSlices
import Derived.ChangeArms
import Derived.ChangeSame
open Go.Ab.Tryz
open Go.Ab.Tryz renaming abEnv->zM
open List renaming take_succ_cons->zO,drop_zero->Xb,take_zero->Xc,drop->Xd,take->Xe,range->Xf,all_cons->Xg,all_nil->Xh,getElem?_eq_getElem->Xn,length_take->Xo,getD_eq_getElem?_getD->Xp,getElem?_cons_zero->Xq,getElem?_cons_succ->Xr,getElem?_map->Xs,take_succ_eq_append_getElem->Xt,length_filter_le->Xu,mem_append_left->Xv,flatMap_append->Xw,filterMap_nil->Xx,length_append->Xy,map_cons->XA,length_range->XC,size_toArray->XD,length_cons->XE,map_nil->XF,map_toArray->XG,append_nil->XH,length_map->XI,take_of_length_le->XL,mem_append_right->XM,length_singleton->XN,flatMap_eq_foldl->XO
open Bool renaming and_true->Xa
open Nat renaming le_trans->Xi,lt_of_succ_le->Xk,zero_le->Xl,le_refl->Xm,lt_of_lt_of_le->Xz,min_eq_left->XJ,mul_one->XK,zero_add->XP
open Int renaming cast_ofNat_Int->Xj,tmod_eq_emod_of_nonneg->XB
set_option maxHeartbeats 4000000
set_option linter.defProp false
set_option linter.unusedVariables false
set_option linter.unusedSimpArgs false
namespace Go.Ab
variable{f j k p pn u v:Value}
variable{N b b2 b3 b5 b6 base d m n s t w:Nat}
variable{l pis:List Int}
variable{h h0:Hp}
variable{g:FuncId}
variable{W:World}
variable{Q R:Nat->List Int}
variable{a c:Int}
variable{e:TypeId}
variable{P:Program}
open Go.Proofs
set_option maxRecDepth 10000
section
variable{A:List Arc}{N r:Nat}{al:Nat->Bool}{pi:Nat->Int}{i:Bool}{x:Sd}
theorem SvB.nxt(h:SvB A N r al pi i x): ∀(n:Nat) {v:Nat},(x.P v).length<=n->(x.L v).isSome=true->NxtL (nxB A i x.P) v (x.P v):=by
 intro n
 induction n with
 | zero=>intro v b _;have e:=List.length_eq_zero_iff.1 (Nat.le_zero.1 b);rw [e];exact .nil (by unfold nxB;rw [e])| succ n g=>
   intro v b c;obtain⟨l,c⟩:=Option.isSome_iff_exists.1 c;rcases h.path v l c with⟨_,f,_⟩|⟨a,m,k,_,_,_,d,j,_⟩
   . rw [f];exact .nil (by unfold nxB;rw [f])
   . have e:=g (v:=fsB i (A.getD a default)) (by rw [d,XE]at b;omega) (by rw [j];rfl);rw [d];exact .cons (by unfold nxB;rw [d]) e
theorem SvB.nxtD(h:SvB A N r al pi i x){v y:Nat}(c:(x.L v).isSome=true)(b:nxB A i x.P v=some (y,w)):(x.L w).isSome=true:=by
 obtain⟨l,c⟩:=Option.isSome_iff_exists.1 c;rcases h.path v l c with⟨_,d,_⟩|⟨a,m,g,_,_,_,e,f,_⟩
 . unfold nxB at b;rw [d]at b;cases b
 . unfold nxB at b;rw [e]at b;cases b;rw [f];rfl
end
theorem bo_init{k l o:Hp}{br:Nat}{vPi:Value}{x y:Sx}{m n:List Nat}(H:OZ k)(R:Row o br (ib pn s t vPi (fun j=>if j=true then y else x) (.slice none 0 0) ⟨fun _=>iJ,[],FAR,0⟩) 1)(U:br<k.n)
 (v:Mo (· =br) l o) (p:k.n<=l.n) (C: ∀q∈x.L false,Has l q.1 q.2) (I: ∀q∈y.L true,Has o q.1 q.2) (J:x.Ok iJ) (K:y.Ok iJ) (D:cE l m (ptrTo x.p) N (fun _=>none)) (L:cE o n (ptrTo y.p) N (fun _=>none))
 (nx: ∀c∈keys (x.L false) []++m,k.n<=c) (E: ∀c∈keys (y.L true) []++n,l.n<=c) (M:(keys (x.L false) []).Nodup) (O:(keys (y.L true) []).Nodup) (P: ∀c∈m,c∉keys (x.L false) []) (Q: ∀c∈n,c∉keys (y.L true) []):
 fg o br pn s t vPi (fun j=>if j=true then y else x) (fun j=>if j=true then n else m) (.slice none 0 0) N ⟨fun _=>iJ,[],FAR,0⟩/\ ∀c∈boB br pn s t vPi (fun j=>if j=true then y else x) (fun j=>if j=true then n else m) (.slice none 0 0) ⟨fun _=>iJ,[],FAR,0⟩,c=br\/k.n<=c:=by
 have r:=v.ok0;have F: ∀c∈keys (x.L false) [],c<l.n:=fun c d=>by simp only [keys,Xx,XH]at d;obtain⟨q,f,rfl⟩:=List.mem_map.1 d;exact(C q f).lt r
 have G:=D.lt r;have w: ∀c∈keys (x.L false) [],k.n<=c:=fun c d=>nx c (Xv _ d);have z: ∀c∈m,k.n<=c:=fun c d=>nx c (XM _ d);have u: ∀c∈keys (y.L true) [],l.n<=c:=fun c d=>E c (Xv _ d);have A: ∀c∈n,l.n<=c:=fun c d=>E c (XM _ d);have B:keys (boL false br pn s t vPi (fun j=>if j=true then y else x) (.slice none 0 0) ⟨fun _=>iJ,[],FAR,0⟩) (boG (.slice none 0 0) ⟨fun _=>iJ,[],FAR,0⟩)=br::(keys (x.L false) []++keys (y.L true) []):=by simp [keys,boL,boG,eo]
 have own: ∀q∈boL false br pn s t vPi (fun j=>if j=true then y else x) (.slice none 0 0) ⟨fun _=>iJ,[],FAR,0⟩,Has o q.1 q.2:=fun q f=>by
  rcases List.mem_cons.1 f with rfl|f
  . exact R
  . rcases List.mem_append.1 f with f|f
    . have f:q∈x.L false:=f;refine v.has (C q f) fun e=>?_;have:=w q.1 (by simp only [keys,Xx,XH];exact List.mem_map.2 ⟨q,f,rfl⟩);omega
    . exact I q f
 refine⟨⟨own,.inl ⟨rfl,rfl⟩,?_,?_,?_,?_⟩,?_⟩
 . rw [B,List.nodup_cons,List.nodup_append];refine⟨fun g=>?_,M,O,fun a S b T e=>?_⟩
   . rcases List.mem_append.1 g with h|h
     . have:=w _ h;omega
     . have:=u _ h;omega
   . have:=F a S;have:=u b T;omega
 . intro i;cases i
   . exact D.mo v (fun c d e=>by have:=z c d;omega)
   . exact L
 . intro i;cases i
   . exact J
   . exact K
 . intro i c d;rw [B];cases i
   . have d:c∈m:=d;have:=G c d;have:=z c d;refine⟨fun g=>?_,fun g=>?_⟩
     . rcases List.mem_cons.1 g with h|h
       . omega
       . rcases List.mem_append.1 h with h|h
         . exact P c d h
         . have:=u c h;omega
     . have:=A c g;omega
   . have d:c∈n:=d;have:=A c d;refine⟨fun g=>?_,fun g=>?_⟩
     . rcases List.mem_cons.1 g with h|h
       . omega
       . rcases List.mem_append.1 h with h|h
         . have:=F c h;omega
         . exact Q c d h
     . have g:c∈m:=g;have:=G c g;omega
 . intro c d;unfold boB at d;rw [B]at d;rcases List.mem_append.1 d with h|h
   . rcases List.mem_cons.1 h with h|h
     . exact .inl h
     . rcases List.mem_append.1 h with h|h
       . exact .inr (w c h)
       . exact .inr (Xi p (u c h))
   . rcases List.mem_append.1 h with h|h
     . exact .inr (z c h)
     . exact .inr (Xi p (A c h))
theorem st_rg(i:OZ h){l:List Value}{vs:List Value}(R:Row h b l 1)(G:ia h (v,1,vs))(a: ∀c,aq v c->c≠b):St (fun c=>c=b\/aq v c) h h [(b,.row l 1)] [(v,1,vs)]:=by
 refine⟨Mo.refl i,fun p d=>?_,fun p d=>?_,?_⟩
 . rw [List.mem_singleton.1 d];exact⟨.inr (.inl rfl),R⟩
 . rw [List.mem_singleton.1 d];refine⟨G,fun c f=>.inr (.inr ?_)⟩;rcases G with⟨e,_⟩|⟨g,n,e,_⟩
   . simp only []at e;subst e;cases f
   . simp only []at e;subst e;cases f;rfl
 . rcases G with⟨e,_⟩|⟨g,n,e,_⟩
   . simp only []at e;subst e;exact(by simp:([b]:List Nat).Nodup)
   . simp only []at e;subst e;have:=a g rfl;simp [keys,eo];exact fun h=>this h.symm
theorem natC_flat(l:List Nat):(l.flatMap bK).all mM=true:=by
 induction l with
 |nil=>rfl|cons x l a=>rw [List.flatMap_cons,List.all_append,a];rfl
theorem BiI.keyB{A:List Arc}{a:Bool->Nat}{al:Nat->Bool}{pi:Nat->Int}{σ:Bi}(h:BiI A N a al pi σ)(b:N<=12)(i:Bool)(v:Nat)(k:Int)(c:(σ.sd i).K v=some k): -1000000000000000000<=k/\k<=1000000000000000000:=by
 obtain⟨_,l,d,e⟩:=(h.sv i).op v k c;obtain⟨_,f,j,_⟩:=(h.sv i).lab v l d;have m:=Nat.mul_le_mul_right cH (Xi (h.sv i).len b);have n:=jP;have o:=gQ;obtain⟨p,q⟩:=f;cases i
 . have g:qB pi false v=pi v:=rfl;omega
 . have g:qB pi true v= -pi v:=rfl;omega
theorem yt  (ok:OZ h0) {C nb:Nat} {z:Gra} (J:Good z) (V:aS h0 nb (ptrTo C) z) {vPi:Value}  (sP:az h0 1 (encI .i64) vPi pis) (lP:pis.length=z.nodes\/pis=[]/\vPi=.slice none 0 0) (hs:s<z.nodes) (ht:t<z.nodes) (a3:s≠t):
 Ret zM 50 [ptrTo C,.agg ⟨[.int .i64 (s:Nat),.int .i64 (t:Nat),.slice none 0 0,vPi]⟩] h0 fun r h'=>Gr h0 h'/\ ∃vA vE τ,r=.tuple #[.agg ⟨[.int .i64 (τ.dist:Nat),vA,vE]⟩,.int .i64 0]/\pK z.arcs (fun _=>true) (fun v=>pis.getD v 0) (mZ (fun v=>pis.getD v 0) s t) τ/\
  az h' 4 jr vE τ.ev/\az h' 1 bK vA (if τ.dist<FAR then arcsB τ else [])/\ ∀c,aq vA c\/aq vE c->h0.n<=c:=by
 have S:=Si ok;have fP:=sP.fl;have W:=J.n2;have ca:=gQ;have bc: ¬((s:Int)=(t:Int)):=by omega
 have hA: ∀a∈z.arcs,a.s<z.nodes/\a.t<z.nodes/\a.w<=cH:=fun a ha=>J.arcs a ha;refine aa (n:=113) (rs:=[.cell 4 96,.tmp 5]) rfl Tryz.e50 rfl rfl rfl (lbt rfl) ?_;simp only [BZ,seval];refine ac (aV (by intro x e;cases e)) S ?_;clear S;intro h Y S b6;simp only [ae]at S;simp only [BZ];refine ac aA S ?_;clear S;intro h Z S b7;simp only [BZ,Xb,zO,Xc,S.lds (b:=Y) (o:=0) (n:=4) m1 (lbt rfl),seval];refine ag (bright_ok S.ok (V.gr S.gr) hs ht (sP.gr S.gr) lP) ?_;intro h g;replace S:=S.call g;clear g;simp only [BZ,bc,Xb,zO,Xc,S.ld (b:=Y) (o:=0) m1 rfl,S.ld (b:=Y) (o:=1) m1 rfl,S.lds (b:=Y) (o:=0) (n:=4) m1 (lbt rfl),seval];refine ac (aV (by intro x e;cases e)) S ?_;clear S;intro h d S bu;simp only [ae]at S;have Rq:=S.row (b:=d) m0;have R3:=S.row (b:=Y) m2;have R4:=S.row (b:=Z) m1;have k3:=R3.lt S.ok;have k4:=R4.lt S.ok;have kq:=Rq.lt S.ok;have ap:=S.apart;simp only [keys,XA,XF,Xx,XH,List.nodup_cons,List.mem_cons,List.not_mem_nil,or_false,not_or]at ap;have a4:Y≠d:=fun e=>by omega
 have bd:Z≠d:=fun e=>by omega
 have g0:=S.gr;have be:=S.ok;have eF:((FAR:Nat):Int)=72057594037927936:=by rw [gQ];rfl
 rename Hp=>hA';have G: ∀{h:Hp},Mo (· =d) hA' h->Gr h0 h:=fun f=>(g0.fr.trans f (fun i E=>.inr (by subst E;omega)):Mo NoM h0 _).gr;have a5: ∀{h:Hp} {b:Nat} {l:List Value},Mo (· =d) hA' h->Row hA' b l 1->b≠d->Row h b l 1:=fun {h b l} f r e=>f.has (b:=b) (o:=.row l 1) r e;simp only [BZ,S.ld (b:=Y) (o:=0) m2 rfl,seval];have O:Ret zM 128 [ptrTo d,.int .i64 0,.int .i64 (s:Nat),.int .i64 1,.func (.func (outF false)) #[ptrTo C] #[],.func (.func (mV false)) #[] #[]] hA' _:=Ae be (V.gr g0) Rq rfl rfl (i:=false) (v:=s) dY dY;refine step_ret O ?_;rintro r P ⟨f1,x,F1,R1,hx,xA,xH,ox,Hx,nx,dx,ax⟩;clear O;clear S;have S:=Si f1.ok;have bf:Row P Y _ 1:=f1.has (b:=Y) (o:=.row _ 1) R3 a4;simp only [BZ,bf.load1 (o:=1) rfl,seval];have O:Ret zM 128 [ptrTo d,.int .i64 1,.int .i64 (t:Nat),.int .i64 (-1),.func (.func (outF true)) #[ptrTo C] #[],.func (.func (mV true)) #[] #[]] P _:=Ae f1.ok (V.gr (G f1)) R1 rfl rfl (i:=true) (v:=t) dY dY;refine step_ret O ?_;rintro r Q ⟨f2,y,F2,R2,hy,yA,yH,oy,Hy,ny,dy,ay⟩;clear O;have bh:Row Q d (ib (ptrTo C) s t vPi (fun j=>if j=true then y else x) (.slice none 0 0) ⟨fun _=>iJ,[],FAR,0⟩) 1:=by unfold ib;rw [eF];exact R2
 obtain⟨A0,K⟩:=bo_init be bh kq f2 f1.n hx hy ox oy Hx Hy nx ny dx dy ax ay;have ad: ∀j:Bool,((fun j:Bool=>if j=true then y else x) j).vA=.func (.func (outF j)) #[ptrTo C] #[]/\((fun j:Bool=>if j=true then y else x) j).vH=.func (.func (mV j)) #[] #[]:=fun j=>by
  cases j
  . exact⟨xA,xH⟩
  . exact⟨yA,yH⟩
 have L:Mo (· =d) hA' Q:=f1.trans f2 (fun i E=>.inl E);clear R2 bh hx hy ox oy Hx Hy nx ny dx dy ax ay xA xH yA yH f1 f2 R1 bf S;generalize(fun j:Bool=>if j=true then y else x)=X0 at A0 K ad;generalize(fun j:Bool=>if j=true then F2 else F1)=F0 at A0 K;have nP: ∀{h:Hp} {X:Bool->Sx} {F:Bool->List Nat} {vE:Value} {σ:Bi},(∀c∈boB d (ptrTo C) s t vPi X F vE σ,c=d\/hA'.n<=c)-> ∀c,aq vPi c->c∉boB d (ptrTo C) s t vPi X F vE σ:=fun {h X F vE σ} pB c B hm=>by have P:=sP.blt ok B;have Q:=g0.n;rcases pB c hm with h|h<;>omega
 have bi:=L.ok;have S:=Si bi;rename Hp=>hB;have l5:=A0.rows.1.load1 (o:=5) rfl;have bk:=(a5 L R3 a4).load1 (o:=0) rfl;simp only [BZ];refine ao (av rfl) (q:=0) (ps:=[]) (by kernel_rfl) ?_;simp only [BZ,cls,Xj,l5,bk,seval];have O:Ret zM 133 [ptrTo d,ptrTo (X0 false).b,.int .i64 (s:Nat),.int .i64 (-1),.int .i64 0] hB _:=tW bi A0 (sP.gr (G L)) lP (nP (h:=hB) K) W (yZ (A:=z.arcs) (al:=fun _=>true) (s:=s) (t:=t)) (i:=false) (v:=s) (lab:=0) (p:=[]) hs (Xl _);refine bU O ?_;rintro r hC ⟨f4,X1,F1,A1,e1,a1⟩;clear O;simp only [BZ,seval];have af: ∀c∈boB d (ptrTo C) s t vPi X1 F1 (.slice none 0 0) _,c=d\/hA'.n<=c:=fun c B=>(a1 c B).elim (fun h=>K c h) (fun h=>.inr (Xi L.n h));have H:Mo (· =d) hA' hC:=L.trans f4 K;have I1:=(yZ (A:=z.arcs) (al:=fun _=>true) (pi:=fun v=>pis.getD v 0) (s:=s) (t:=t)).reach (b:=false) (v:=s) (p:=[]) (lab:=0) W hs (Xl _) (Xl _) (.inl ⟨rfl,rfl,rfl⟩);clear S;have S:=Si H.ok;have l6:=A1.rows.1.load1 (o:=6) rfl;have bl:=(a5 H R3 a4).load1 (o:=1) rfl;refine ao (av rfl) (q:=0) (ps:=[]) (by kernel_rfl) ?_;simp only [BZ,cls,Xj,l6,bl,seval];have O:Ret zM 133 [ptrTo d,ptrTo (X1 true).b,.int .i64 (t:Nat),.int .i64 (-1),.int .i64 0] hC _:=tW H.ok A1 (sP.gr (G H)) lP (nP (h:=hC) af) W I1 (i:=true) (v:=t) (lab:=0) (p:=[]) ht (Xl _);refine bU O ?_;rintro r hD ⟨f5,X2,F2,A2,e2,R⟩;clear O;simp only [BZ,seval];have eI:dk (fun v=>pis.getD v 0) true (dk (fun v=>pis.getD v 0) false ⟨fun _=>iJ,[],FAR,0⟩ s 0 []) t 0 []=mZ (fun v=>pis.getD v 0) s t:=rfl;rw [eI]at A2 R;have bm: ∀c∈boB d (ptrTo C) s t vPi X2 F2 (.slice none 0 0) (mZ (fun v=>pis.getD v 0) s t),c=d\/hA'.n<=c:=fun c B=>(R c B).elim (fun h=>af c h) (fun h=>.inr (Xi H.n h));have a6:Mo (· =d) hA' hD:=H.trans f5 af;have I2:=initB_I (A:=z.arcs) (al:=fun _=>true) (pi:=fun v=>pis.getD v 0) W hs ht;have bn: ∀j,(X2 j).vA=.func (.func (outF j)) #[ptrTo C] #[]/\(X2 j).vH=.func (.func (mV j)) #[] #[]:=fun j=>⟨(e2 j).2.1.trans ((e1 j).2.1.trans (ad j).1),(e2 j).2.2.trans ((e1 j).2.2.trans (ad j).2)⟩;have O2:=fun j=>initB_O (pi:=fun v=>pis.getD v 0) (s:=s) (t:=t) j;refine step_ret (BR a6.ok A2 (I2.keyB W) (I2.distLe W)) ?_;rintro r hE ⟨gE,nx⟩;simp only [BZ,seval];have A3:=A2.gr gE;have bo:Mo (· =d) hA' hE:=a6.trans (gE.fr (M:=NoM)) (fun _ h=>h.elim);refine aW (fun(σ:Bi) ρ h=> ∃X F vE,Mo (· =d) hA' h/\fg h d (ptrTo C) s t vPi X F vE z.nodes σ/\(∀c∈boB d (ptrTo C) s t vPi X F vE σ,c=d\/hA'.n<=c)/\(∀j,(X j).vA=.func (.func (outF j)) #[ptrTo C] #[]/\(X j).vH=.func (.func (mV j)) #[] #[])/\BiI z.arcs z.nodes (rtB s t) (fun _=>true) (fun v=>pis.getD v 0) σ/\σ.ev.length<=200*((σ.sd false).O.length+(σ.sd true).O.length)/\
  (∀τ,pK z.arcs (fun _=>true) (fun v=>pis.getD v 0) σ τ->pK z.arcs (fun _=>true) (fun v=>pis.getD v 0) (mZ (fun v=>pis.getD v 0) s t) τ)/\((StopB σ/\ρ 7=.pointer none)\/ ∃i,TurnB σ i/\ρ 7=ptrTo (X i).b)/\ρ 0=ptrTo C/\ρ 4=ptrTo Z/\ρ 6=ptrTo d) (fun σ=>2*z.nodes-((σ.sd false).O.length+(σ.sd true).O.length)) ?_ (mZ (fun v=>pis.getD v 0) s t) _ _ ?_
 . clear A2 A3 A1 A0 I2 I1 O2 K af bm L H a6 bo nx e1 e2 ad bn a1 R eI gE f4 f5 S l5 bk l6 bl;intro σ ih ρ h ⟨X,F,vE,fh,A,pB,eV,I,hev,hEnd,nx,r0,r4,r6⟩;have o1:=(I.sv false).len;have o2:=(I.sv true).len;rcases nx with⟨a3,r7⟩|⟨i,tu,r7⟩
   . have gh:=G fh;have N:=fh.ok;have S0:=A.st N false;have l7:=A.rows.1.load1 (o:=7) rfl;have l5:=A.rows.1.load1 (o:=5) rfl;have a7:=a5 fh R4 bd;have cb:=a7.lt N;have nE: ∀c,aq vE c->h0.n<=c/\c≠d/\c≠Z/\c<h.n:=fun c B=>by
      have P:=pB c (Xv _ (fk (p:=(vE,4,σ.ev.flatMap jr)) m0 (mD A.ev B)));have Q:c≠d:=fun e=>(S0.gblk m0 B).2 (by rw [e];exact m0);have h3:=A.ev.lt N (mD A.ev B);have:=g0.n;rcases P with h|h
      . exact absurd h Q
      . exact⟨by omega,Q,by omega,h3⟩
     have sE:az h 4 jr vE σ.ev:=A.ev.sl rfl uj (by decide);have fE:=sE.fl;by_cases hd:σ.dist<FAR
     . have a8:(σ.dist:Int)<72057594037927936:=(by omega);obtain⟨x,y,q1,q2,_⟩:=(I.dm.resolve_left (fun h=>by omega)) false;have q2:(σ.sd true).L σ.meet=some y:=q2;have ai:=I.sv false;have ak:=I.sv true;have b8:=(ai.lab _ _ q1).2.2.2.1;have b9:=(ak.lab _ _ q2).2.2.2.1;have nd:=(List.nodup_cons.1 (show(d::_).Nodup from A.nd)).1;have bv:(X true).b≠d:=fun e=>nd (by rw [<-e];simp [Sx.L]);have bx:(X true).ma≠d:=fun e=>nd (by rw [<-e];simp [Sx.L]);clear S0;simp only [BZ,Xj,r6,r7,l7,a8,l5,seval];refine step_ret (back_ok N (V.gr gh) J (A.bk false) (eV false).2 (D:=fun v=>((σ.sd false).L v).isSome=true) (fun v hv=>⟨hv,ai.ids _ (Xm _) hv⟩) (fun v y w hv V=>ai.nxtD hv V) (by rw [q1];rfl) (ai.nxt _ (Xm _) (by rw [q1];rfl)) (by omega)) ?_;rintro v1 P ⟨g1,G1,n1⟩;have bB:Fl v1:=G1.fl;have ba: ∀c,aq v1 c->c≠d:=fun c B e=>(by have:=n1 c B;have:=A.rows.1.lt N;omega);have S:=st_rg g1.ok (A.rows.1.gr g1) G1 ba;simp only [ib]at S;simp only [BZ,seval];refine aC (aE S (i:=0) rfl Tryz.t41.2.2.1 bB (Xk (lbt rfl)) ono) ?_;clear S;rintro Q ⟨S,bE⟩;simp only [LC]at S;simp only [BZ,r6,S.ld (b:=d) (o:=8) m0 rfl,seval];refine step_ret (wP S.ok (S.gown _ m0).1 (by omega)) ?_;rintro r h3 ⟨f3,G3⟩;have aL:Row h3 d _ 1:=f3.has (b:=d) (o:=.row _ 1) (S.row m0) (fun B=>ba _ B rfl);have S3:=st_rg f3.ok aL G3 ba;clear S;have S:=S3;clear S3;have fT:Mo (· =d) h h3:=((g1.fr (M:=(· =d))).trans bE (fun i E=>.inl E)).trans f3 (fun i E=>.inr (n1 i E));have bL:Mo (· =d) hA' h3:=fh.trans fT (fun i E=>.inl E);have B1:BkAt h3 d (ptrTo C) σ.meet true (X true) (σ.sd true):=⟨aL.load1 (o:=0) rfl,aL.load1 (o:=10) rfl,fT.has (b:=(X true).b) (o:=.row _ 1) (A.rows.2 true) bv,fT.has (b:=(X true).ma) (o:=.map _ _) (A.bk true).map bx,A.ok true⟩;have bP:=aL.lt f3.ok;simp only [BZ];refine ao (av rfl) (q:=0) (ps:=[(5,12)]) (by kernel_rfl) ?_;simp only [BZ,cls,Xj,r6,S.ld (b:=d) (o:=8) m0 rfl,S.ld (b:=d) (o:=6) m0 rfl,seval];refine bU (back_ok f3.ok (V.gr (G bL)) J B1 (eV true).2 (D:=fun v=>((σ.sd true).L v).isSome=true) (fun v hv=>⟨hv,ak.ids _ (Xm _) hv⟩) (fun v y w hv V=>ak.nxtD hv V) (by rw [q2];rfl) (ak.nxt _ (Xm _) (by rw [q2];rfl)) (by omega)) ?_;rintro v2 h4 ⟨g4,G2,cc⟩;have bq:=am g4 bP;replace S:=S.call g4;have s2:az h4 1 bK v2 ((σ.sd true).P σ.meet):=G2.sl rfl dC (by decide);simp only [BZ,cls,seval];refine mj (S.grow (j:=0) (m:=((σ.sd true).P σ.meet).length) (new:=((σ.sd true).P σ.meet).flatMap bK) rfl Tryz.t41.1 Tryz.e3E (by decide) Tryz.t41.2.2.2.2.2 s2.src (by rw [nu];omega) (by decide) (natC_flat _) (by rw [nu,nu,List.length_reverse];omega)) ?_;clear S;rintro h5 vA S;simp only [LC]at S;have br:Fl vA:=(S.gown _ m0).1.fl;simp only [BZ,cls,seval];refine cM (aE S (i:=0) rfl Tryz.t41.2.2.1 br (Xk (lbt rfl)) ono) ?_;clear S;rintro h6 ⟨S,cf⟩;simp only [LC]at S;simp only [BZ,r6,seval];refine⟨by simp only [aJ,aR,aH,aT,aI,ne_eq,not_false_eq_true,aY,bC,aQ,aN,bF,bW,aD,Xa,r0,r4,r6,r7,ah,gJ,ar bq,au bq,seval],?_⟩;have bs:=S.ok;have bT:Mo (fun c=>c=d\/aq v1 c) h3 h6:=S.fr;have bb:Mo (· =d) h h6:=fT.trans bT (fun i E=>E.elim .inl (fun h=>.inr (n1 i h)));have bX:Row h6 Z _ 1:=bb.has (b:=Z) (o:=.row _ 1) a7 bd;have T:=S.lds (b:=d) (o:=7) (n:=3) m0 (lbt rfl);simp only [Xd,Xe]at T;have sA:az h6 1 bK vA (arcsB σ):=(S.gown _ m0).1.sl (by unfold arcsB;rw [Xw]) dC (by decide);have nA: ∀c,aq vA c->h0.n<=c/\c≠Z:=fun c B=>by
        obtain⟨P,Q⟩:=S.gblk m0 B;have:=gh.n;have:=fT.n;rcases P with h|h|h
        . exact⟨by omega,by omega⟩
        . exact absurd (by rw [h];exact m0) Q
        . have:=n1 c h;exact⟨by omega,by omega⟩
       have bY:=sE.mo bb (fun c B e=>(nE c B).2.1 e);have g6:Gr h0 h6:=G (fh.trans bb (fun i E=>.inl E));clear S;have S:=St.init1 bs (o:=.row _ 1) bX;simp only [BZ,r4,T,seval];refine aC (S.store (i:=0) rfl Tryz.t96.2.1 (by intro x e;cases e) rfl (by simp only [ae,Xg,Xh,br.2.1,fE.2.1,Xa];rfl) (lbt rfl) ono) ?_;clear S;rintro h7 ⟨S,a0⟩;simp only [LC,ae,lay,Xe,Xd,seval]at S;simp only [BZ,ab];refine(bw (by decide) (by simp only [aD,r4,ah,seval];exact bj Tryz.t96.1 Tryz.t96.2.1 (S.lds (b:=Z) (o:=0) (n:=3) m0 (lbt rfl)))).2 ?_;refine(dX (by decide)).2 (bS.2 ?_);have gZ:Gr h0 h7:=(g6.fr.trans S.fr (fun i E=>.inr (by subst E;omega)):Mo NoM h0 h7).gr;exact⟨gZ,vA,vE,σ,rfl,hEnd σ (.stop a3),bY.mo a0 (fun c B e=>(nE c B).2.2.1 e),by rw [if_pos hd];exact sA.mo a0 (fun c B e=>(nA c B).2 e),fun c B=>B.elim (fun h=>(nA c h).1) (fun h=>(nE c h).1)⟩
     . have a8: ¬(σ.dist:Int)<72057594037927936:=(by omega);have T:=A.rows.1.load (o:=7) (n:=3) (lbt rfl);simp only [ib,Xd,Xe]at T;have g6:=gh;have fN:Fl (.slice none 0 0):=aU;have S:=St.init1 N (o:=.row _ 1) a7;simp only [BZ,r6,r7,l7,a8,seval];simp only [BZ,r4,T,seval];refine aC (S.store (i:=0) rfl Tryz.t96.2.1 (by intro x e;cases e) rfl (by simp only [ae,Xg,Xh,fN.2.1,fE.2.1,Xa];rfl) (lbt rfl) ono) ?_;clear S;rintro h7 ⟨S,a0⟩;simp only [LC,ae,lay,Xe,Xd,seval]at S;simp only [BZ,ab];refine(bw (by decide) (by simp only [aD,r4,ah,seval];exact bj Tryz.t96.1 Tryz.t96.2.1 (S.lds (b:=Z) (o:=0) (n:=3) m0 (lbt rfl)))).2 ?_;refine(dX (by decide)).2 (bS.2 ?_);have gZ:Gr h0 h7:=(g6.fr.trans S.fr (fun i E=>.inr (by subst E;omega)):Mo NoM h0 h7).gr;exact⟨gZ,_,vE,σ,rfl,hEnd σ (.stop a3),sE.mo a0 (fun c B e=>(nE c B).2.2.1 e),by rw [if_neg hd];exact .inl ⟨rfl,rfl⟩,fun c B=>B.elim (fun h=>h.elim) (fun h=>(nE c h).1)⟩
   . obtain⟨v,k,hp⟩: ∃v k,nj (σ.sd i).K v k:=by
      obtain⟨v,k,u,l,p1,p2,_,_⟩:=tu;cases i
      . exact⟨v,k,p1⟩
      . exact⟨u,l,p2⟩
     have gh:=G fh;have b0: ∀c∈boB d (ptrTo C) s t vPi X F vE σ,h0.n<=c:=fun c B=>(pB c B).elim (fun e=>by omega) (fun e=>Xi g0.n e);simp only [BZ,r6,r7,seval];refine step_ret (bstep_ok gh J V A b0 sP lP I (by omega) hp (eV i).1 (eV i).2) ?_;rintro r P ⟨f1,X',F',b1,A',e',a2⟩;obtain⟨I',ke⟩:=stepB_I W hA I hp.1;have b2:(kE z.arcs (fun _=>true) (fun v=>pis.getD v 0) i v (cL σ i v)).ev.length<=σ.ev.length+200:=(by have P:=xh (A:=z.arcs) (al:=fun _=>true) (pi:=fun v=>pis.getD v 0) (b:=i) (v:=v) (outs z.arcs (fsB i) z.arcs.length v) (σ:=cL σ i v);have Q:(cL σ i v).ev.length=σ.ev.length+1:=(by simp [cL]);have h3:=kI z.arcs (fsB i) z.arcs.length v;have:=J.many;unfold kE;omega);have eO:((kE z.arcs (fun _=>true) (fun v=>pis.getD v 0) i v (cL σ i v)).sd false).O.length+((kE z.arcs (fun _=>true) (fun v=>pis.getD v 0) i v (cL σ i v)).sd true).O.length=(σ.sd false).O.length+(σ.sd true).O.length+1:=by
      have k1:=ke.O;have k2:=ke.ot;rw [clo_b]at k1;rw [clo_n]at k2;cases i
      . rw [k1,show((kE z.arcs (fun _=>true) (fun v=>pis.getD v 0) false v (cL σ false v)).sd true)=σ.sd true from k2];simp only [Xy,XN];omega
      . rw [k1,show((kE z.arcs (fun _=>true) (fun v=>pis.getD v 0) true v (cL σ true v)).sd false)=σ.sd false from k2];simp only [Xy,XN];omega
     have U: ∀τ,pK z.arcs (fun _=>true) (fun v=>pis.getD v 0) (kE z.arcs (fun _=>true) (fun v=>pis.getD v 0) i v (cL σ i v)) τ->pK z.arcs (fun _=>true) (fun v=>pis.getD v 0) (mZ (fun v=>pis.getD v 0) s t) τ:=fun τ h=>hEnd τ (.step tu hp h);generalize kE z.arcs (fun _=>true) (fun v=>pis.getD v 0) i v (cL σ i v)=τ at A' a2 I' b2 eO U;have p1:=(I'.sv false).len;have p2:=(I'.sv true).len;have bt:Mo (· =d) hA' P:=fh.trans f1 pB;simp only [BZ,r6,seval];refine step_ret (BR bt.ok A' (I'.keyB W) (I'.distLe W)) ?_;rintro r Q ⟨g2,b5⟩;simp only [BZ,seval];refine ih τ _ _ (by omega) ⟨X',F',b1,bt.trans (g2.fr (M:=NoM)) (fun _ h=>h.elim),A'.gr g2,fun c B=>(a2 c B).elim (pB c) (fun h=>.inr (Xi fh.n h)),fun j=>⟨(e' j).2.1.trans (eV j).1,(e' j).2.2.trans (eV j).2⟩,I',by omega,U,?_,by simp [aB,r0,ah,r4,r6]⟩;rcases b5 with⟨a,rfl⟩|⟨j,a,rfl⟩
     . exact .inl ⟨a,by simp [aB]⟩
     . exact .inr ⟨j,a,by simp [aB,ah]⟩
 . refine⟨X2,F2,_,bo,A3,bm,bn,I2,by rw [initB_ev];exact Xl _,fun τ h=>h,?_,by simp [aB,dh,ah]⟩;rcases nx with⟨a,rfl⟩|⟨j,a,rfl⟩
   . exact .inl ⟨a,by simp [aB]⟩
   . exact .inr ⟨j,a,by simp [aB,ah]⟩
def vW(a b:Int):Int:=if wy a<72057594037927936 then(if wy b<72057594037927936 then wy a-wy b else 72057594037927936)else 72057594037927936
theorem AH(Y:OZ h0){post:Array Value}{D W:Nat->Prop}{xs:List Int}(Z:vb zM g post.toList h0 D W (xs.map fun(x:Int)=>[.int .i64 x]))(I: ∀b,W b->b<h0.n)(hn:xs.length<100000):
 Ret zM 213 [.slice none 0 0,.func (.func g) #[] post] h0 fun r h'=>Mo W h0 h'/\ia h' (r,1,ints xs)/\ ∀c,aq r c->h0.n<=c:=by
 have S:=Si Y;refine aa (n:=13) (rs:=[.tmp 4]) rfl Tryz.e213 rfl rfl rfl (lbt rfl) ?_;simp only [BZ,seval];refine ac (bJ (by exact aU)) S ?_;clear S;intro h l S t;simp only [BZ,if_false,seval];replace S:=S.nilG (k:=1);have J:=S.gr;replace S:=S.monoM (M:=W);have C:=S.fr;refine iz S (g:=g) (a:=#[]) (b:=post) (by simp [bF,aB,cG,dr]) rfl rfl ?_;intro E u s p ad af K;obtain⟨X,N,p⟩: ∃X:fS,X=_/\St W h0 E [(s,.loop X),(u,.dfr),(l,.row [.slice none 0 0] 1)] [(.slice none 0 0,1,[])]:=⟨_,rfl,p⟩;have O: ∀c,h0.n<=c-> ¬W c:=fun c h G=>by have:=I c G;omega
 have hJ:Yld zM s (fun k h' F=> ∃(e:Value),St W h0 h' [(s,.loop X),(u,.dfr),(l,.row [e] 1)] [(e,1,ints (xs.take k))]/\k<=xs.length/\(∀c∈F,h0.n<=c)/\F=keys [(s,.loop X),(u,.dfr),(l,.row [e] 1)] [(e,1,ints (xs.take k))]) (fun _ _=>False) (xs.map fun(x:Int)=>[.int .i64 x]):=by
  refine⟨?_,?_,fun _ _ h=>h.elim,?_⟩
  . rintro i h F ⟨e,S,_,_,rfl⟩;exact⟨S.ok,fun b f=>S.key_lt f⟩
  . rintro i h F h' ⟨e,S,a,b,rfl⟩ B;exact⟨e,S.call B,a,b,rfl⟩
  . rintro i x hR F v ⟨e,S,a,b,rfl⟩;have w:i<xs.length:=(by have:=(List.getElem?_eq_some_iff.1 v).1;simpa using this);rw [Xs,Xn w]at v;cases v;have tk:ints (xs.take (i+1))=ints (xs.take i)++[.int .i64 xs[i]]:=(by rw [List.take_add_one,Xn w];exact iE _ _);have tl:(xs.take i).length<=i:=(by rw [Xo];omega);subst N;refine iw (S.get m0) (by rw [Tryz.e213];rfl) rfl ?_;have P:=S;replace S:=S.base;simp only [BZ,seval];refine gC S (i:=0) rfl rfl rfl rfl rfl ?_;clear S;intro h S;simp only [LC]at S;simp only [BZ,S.ld (b:=l) (o:=0) m2 rfl,seval];refine ac (ce (by exact Tryz.t23.1) (by exact Tryz.e2E) (by decide) (by rfl)) S ?_;clear S;intro h Q S R;simp only [LC,bH,cg,ae,Nat.zero_mul,XP,XK,Nat.one_mul,seval]at S;simp only [BZ,seval];have z:aK h 1 (.slice (some ⟨Q,0,none⟩) 1 1)=some (1,[.int .i64 xs[i]]):=(by simp only [aK];rw [S.lds (b:=Q) (o:=0) (n:=1*1) m0 (lbt rfl)];rfl);replace S:=S.drop1;refine dE (S.grow (j:=0) (m:=1) (new:=[.int .i64 xs[i]]) rfl Tryz.t23.1 Tryz.e2E (by decide) Tryz.t23.2.2.2.2.2 z rfl (by decide) rfl (by rw [cC];simp;omega)) ?_;clear S z;rintro h A S;simp only [LC]at S;have fv:Fl A:=(S.gown _ m0).1.fl;simp only [BZ,seval];refine aC (aE S (i:=2) rfl Tryz.t23.2.2.1 fv (Xk (lbt rfl)) ono) ?_;clear S;rintro h ⟨S,_⟩;simp only [LC]at S;simp only [BZ];refine dV S (i:=0) rfl ?_;clear S;intro h S;simp only [LC]at S;rw [<-tk]at S;have H:=P.rebase S;refine .inl ⟨rfl,_,⟨A,H,by omega,fun c d=>?_,rfl⟩,S.fr,fun c d=>(S.key_own d).symm⟩;rcases S.key_own d with U|U
    . have:=P.fr.n;omega
    . exact b c U
 have q: ∀c∈keys [(s,Ob.loop X),(u,.dfr),(l,.row [.slice none 0 0] 1)] [(.slice none 0 0,1,[])],h0.n<=c:=fun c d=>by have n2:=t;have:=C.n;simp [keys,eo]at d;omega
 refine cK (Z s _ _ (fun _ _ h=>h) hJ ?_ E _ ?_ ?_ (fun c d=>O c (q c d)) ⟨_,p,Xl _,q,rfl⟩) fun o rc h' y=>jx y ?_
 . rintro i h F h' ⟨e,S,a,b,rfl⟩ B;exact⟨e,S.step B (fun c d=>.inl d) (fun c d G=>O c (b c d) G),a,b,rfl⟩
 . have B:Mo W h0 E:=p.fr;exact⟨p.ok,p.fr.n,fun b f _=>(J.trans K).get b f,fun b f h=>by have:=q b f;omega,fun b f=>p.key_lt f⟩
 . exact fun b f=>(J.trans K).get b (I b f)
 . rintro F ⟨e,T,a,b,rfl⟩;rw [XI,List.take_length]at T b;subst N;refine⟨_,T.get m0,Nat.zero_ne_one,?_⟩;replace T:=T.dead;have S:=T;show Run _ _ _ _ _ _ _ _;simp only [BZ,S.ld (b:=l) (o:=0) m1 rfl,seval];refine dq (ij [u] _ (L:=[(l,_)]) T.base fun h3 V=>⟨rfl,_,rfl,?_⟩);refine⟨(T.fr.trans V.fr (fun c d=>(T.key_own d).symm):Mo W h0 h3),(V.gown _ m0).1,fun x v=>?_⟩;refine b x ?_;have:eo (e,1,ints xs)=some x:=mD (T.gown _ m0).1 v;exact fk m0 this
theorem CU(a:OZ h0){post:Array Value}{D W:Nat->Prop}{xs:List Int}(d:vb zM g post.toList h0 D W (xs.map fun(x:Int)=>[.int .i64 x]))(e: ∀b,W b->b<h0.n)(i:xs.length<100000):
 Ret zM 138 [.func (.func g) #[] post] h0 fun r h'=>Mo W h0 h'/\ia h' (r,1,ints xs)/\ ∀c,aq r c->h0.n<=c:=by
 have S:=Si a;refine aa (n:=5) (rs:=[.tmp 2]) rfl Tryz.e138 rfl rfl rfl (lbt rfl) ?_;simp only [BZ,seval];refine step_ret (AH S.ok d e i) ?_;rintro r h ⟨f,q⟩;simp only [BZ,ab,seval];exact⟨f,q⟩
theorem Dm(c:OZ h0){v t:Int}:aO zM 140 [.int .i64 v,.int .i64 t] h0 (.int .i64 (vW v t)):=by
 have S:=Si c;have d:=s9 v;have e:=s9 t;have w:an .i64 (wy v-wy t)=wy v-wy t:=by rw [wrap64]<;>omega
 refine aa (n:=18) (rs:=[.tmp 4]) rfl Tryz.e140 rfl rfl rfl (lbt rfl) ?_;simp only [BZ,seval];refine ag (nZ S.ok) ?_;intro h g;replace S:=S.call g;clear g;unfold vW;by_cases a:wy v<72057594037927936
 . simp only [BZ,a,seval];refine ag (nZ S.ok) ?_;intro h g;replace S:=S.call g;clear g;by_cases b:wy t<72057594037927936
   . simp only [BZ,b,seval];refine ag (mW S.ok) ?_;intro h g;replace S:=S.call g;clear g;simp only [BZ,seval];refine ag (mW S.ok) ?_;intro h g;replace S:=S.call g;clear g;simp only [BZ,ab,w,seval];exact S.gr
   . simp only [BZ,ab,b,seval];exact S.gr
 . simp only [BZ,ab,a,seval];exact S.gr
theorem twin1_ok{hq:Hp}(a:OZ hq)(t:TabAt hq m p N l R Q)(x: ∀i,i<l.length->(R i).length=N)(y: ∀i,i<l.length->(Q i).length=N)(z:l.length<1000){A:Value}{d:List Int}(j:az hq 1 (encI .i64) A d)(e:d.length<1000){s w:Int}{b4 o:Nat}(J:hq.load b4 0 1=some [p])(K:hq.load b5 0 1=some [A])(L:hq.load b6 0 1=some [.int .i64 s])(M:hq.load o 0 1=some [.int .i64 w]):
 TellF zM hq 139 [ptrTo b4,ptrTo b5,ptrTo o,ptrTo b6] N (fun v=>vW (iB N l.length R Q v w d) (iB N l.length R Q s v d)):=by
 intro h f k v W;have X:Fl p:=by obtain⟨b,_,_,_,rfl,_⟩:=t.ex;exact bD
 have Y:=j.fl;have S:=Si f;have r:=k.load a J;have u:=k.load a K;have B:=k.load a L;have C:=k.load a M;have O:=bA f r;have P:=bA f u;have T:=bA f B;have U:=bA f C;refine aa (n:=18) (rs:=[.tmp 6]) rfl Tryz.e139 rfl rfl rfl (lbt rfl) ?_;simp only [BZ];refine ao (av rfl) (q:=0) (ps:=[(4,7),(4,6),(4,5)]) (by kernel_rfl) ?_;simp only [BZ,cls,r,u,C,seval];refine bz (xe S.ok (t.keep a k) x y z (j.keep a k) e) ?_;intro Z c;have e4:=am c O;have e5:=am c P;have D:=am c T;have E:=am c U;replace S:=S.call c;have n1:=c.n;simp only [BZ,cls,c.load r,c.load u,c.load B,seval];refine bz (xe S.ok ((t.keep a k).gr c) x y z ((j.keep a k).gr c) e) ?_;intro h2 g;have F:=am g (show b4<_ by omega);have G:=am g (show b5<_ by omega);have H:=am g (show b6<_ by omega);have I:=am g (show o<_ by omega);replace S:=S.call g;simp only [BZ,cls,seval];refine bz (Dm S.ok) ?_;intro h3 V;replace S:=S.call V;simp only [BZ,cls,ab,seval];refine⟨by simp only [aJ,aR,aH,aT,aI,ne_eq,not_false_eq_true,aY,bC,aQ,aN,bF,bW,aD,Xa,ah,cG,dr,ar e4,au e4,ar e5,au e5,ar D,au D,ar E,au E,ar F,au F,ar G,au G,ar H,au H,ar I,au I,seval],?_⟩;exact S.gr
theorem bTwin_ok(J:OZ h0)(t:TabAt h0 m p N l R Q)(K: ∀i,i<l.length->(R i).length=N)(L: ∀i,i<l.length->(Q i).length=N)(M:l.length<1000)(O:N<=1000){A:Value}{a:List Int}(B:az h0 1 (encI .i64) A a)(q:a.length<1000)(hs:s<N)(hw:w<N):
 Ret zM 51 [p,A,.int .i64 (s:Nat),.int .i64 (w:Nat)] h0 fun r h'=>Gr h0 h'/\az h' 1 (encI .i64) r ((Xf N).map fun(v:Nat)=>vW (iB N l.length R Q v w a) (iB N l.length R Q s v a))/\ ∀c,aq r c->h0.n<=c:=by
 have P:Fl p:=by obtain⟨b,_,_,_,rfl,_⟩:=t.ex;exact bD
 have fa:=B.fl;have S:=Si J;have T:0<=(w:Int)/\(w:Int)<(N:Int):=by omega
 have U:0<=(s:Int)/\(s:Int)<(N:Int):=by omega
 have V:decide (0<=(w:Int)/\(w:Int)<(N:Int))=true:=decide_eq_true T;have W:decide (0<=(s:Int)/\(s:Int)<(N:Int))=true:=decide_eq_true U;refine aa (n:=23) (rs:=[.tmp 8]) rfl Tryz.e51 rfl rfl rfl (lbt rfl) ?_;simp only [BZ,seval];refine ac (bJ (by assumption)) S ?_;clear S;intro h X S C;simp only [BZ,if_false,seval];refine ac (bJ (by assumption)) S ?_;clear S;intro h Y S D;simp only [BZ,if_false,seval];refine ac (bJ (by exact aZ)) S ?_;clear S;intro h Z S E;simp only [BZ,if_false,seval];refine ac (bJ (by exact aZ)) S ?_;clear S;intro h b7 S F;have d:=S.gr;have k:=S.ld (b:=X) (o:=0) m3 rfl;have l5:=S.ld (b:=Y) (o:=0) m2 rfl;have H:=S.ld (b:=Z) (o:=0) m1 rfl;have I:=S.ld (b:=b7) (o:=0) m0 rfl;have e:=S.ok;clear S;rename Hp=>hq;have S:=Si e;have tf:=twin1_ok e (t.gr d) K L M (B.gr d) q k l5 H I;simp only [BZ,k,H,seval];refine ag (iG S.ok (t.gr d)) ?_;intro h g;replace S:=S.call g;clear g;simp only [BZ,W,S.old k (fun h=>h),S.old I (fun h=>h),seval];refine ag (iG S.ok ((t.gr d).gr S.gr)) ?_;intro h g;replace S:=S.call g;clear g;simp only [BZ,V,S.old k (fun h=>h),seval];refine step_ret (Bg S.ok P dY) ?_;rintro r h ⟨g,u,y,rfl,n1,n2,y1,y2⟩;replace S:=S.call g;clear g;have z:=B9 e S.ok S.gr.keep S.fr.n (t.gr d) O tf y1 y2;have kn:=S.fr.n;have kG:=d.n;rename Hp=>hE;simp only [BZ,seval];generalize j:((Xf N).map fun(v:Nat)=>vW (iB N l.length R Q v w a) (iB N l.length R Q s v a))=xs;have ad:xs.length=N:=by rw [<-j];simp
 replace z:mJ zM 203 [] [ptrTo u,ptrTo y] hE (fun c=>c=u\/c=y\/c<hq.n) (xs.map fun x=>[.int .i64 x]):=by rw [<-j,List.map_map];exact z
 refine step_ret (CU S.ok (post:=#[ptrTo u,ptrTo y]) (iter_w z) (fun _ h=>h.elim) (by omega)) ?_;rintro r h2 ⟨f,G,nr⟩;have g2:=f.gr;simp only [BZ,ab,seval];exact⟨d.trans (S.gr.trans g2),G.sl rfl (fun _=>rfl) (by decide),fun c hc=>by have:=nr c hc;omega⟩
theorem py(a:OZ h0):Ret zM 52 [.bool true,.int .i64 c] h0 fun _ h'=>Gr h0 h':=by have S:=Si a;refine aa (n:=9) (rs:=[]) rfl Tryz.e52 rfl rfl rfl (lbt rfl) ?_;simp only [BZ,seval];exact S.gr
def trouV(c:Int):Value:=.iface 104 (.agg ⟨[.int .i64 c]⟩)
theorem need_no(a:OZ h0):ey zM 52 [.bool false,.int .i64 c] none h0 fun o rc h'=>o=.pan (trouV c)/\Gr h0 h':=by have S:=Si a;refine enter (n:=9) (rs:=[]) rfl Tryz.e52 rfl rfl rfl (lbt rfl) ?_;simp only [BZ,seval];exact eH (cd ⟨rfl,S.gr⟩)
section
variable{h0:Hp}{bp nb s w:Nat}{γ:Gra}
theorem Ac(a:OZ h0)(c:aS h0 nb (ptrTo bp) γ)(l:h0.load b3 0 1=some [ptrTo bp]){v:Nat}(b:v<γ.nodes):aO zM 122 [.int .i64 (v:Nat),ptrTo b3] h0 (.bool true):=by
 have S:=Si a;have d:(0:Int)<=(v:Int):=by omega
 refine aa (n:=12) (rs:=[.tmp 3]) rfl Tryz.e122 rfl rfl rfl (lbt rfl) ?_;simp only [BZ,l,d,seval];refine ag (bM S.ok (c.gr S.gr)) ?_;intro h g;replace S:=S.call g;clear g;simp only [BZ,ab,aF,b,seval];exact S.gr
theorem asked2_ok(a:OZ h0)(l:h0.load b3 0 1=some [ptrTo bp]):Ret zM 123 [ptrTo b3] h0 fun _ h'=>Gr h0 h':=by have S:=Si a;refine aa (n:=4) (rs:=[]) rfl Tryz.e123 rfl rfl rfl (lbt rfl) ?_;simp only [BZ,l,seval];refine step_ret (py S.ok) ?_;intro r h g;replace S:=S.call g;clear g;simp only [BZ];exact S.gr
theorem asked3_ok(a:OZ h0)(c:aS h0 nb (ptrTo bp) γ)(b:h0.load b3 0 1=some [ptrTo bp])(d:h0.load b6 0 1=some [.func (.func 122) #[] #[ptrTo b3]])(e:h0.load b5 1 1=some [.int .i64 (s:Nat)])(f:s<γ.nodes):Ret zM 124 [ptrTo b6,ptrTo b5] h0 fun _ h'=>Gr h0 h':=by have S:=Si a;refine aa (n:=7) (rs:=[]) rfl Tryz.e124 rfl rfl rfl (lbt rfl) ?_;simp only [BZ,d,e,seval];refine ag (Ac S.ok c b f) ?_;intro h g;replace S:=S.call g;clear g;simp only [BZ,seval];refine step_ret (py S.ok) ?_;intro r h g;replace S:=S.call g;clear g;simp only [BZ];exact S.gr
theorem asked4_ok(a:OZ h0)(c:aS h0 nb (ptrTo bp) γ)(b:h0.load b3 0 1=some [ptrTo bp])(d:h0.load b6 0 1=some [.func (.func 122) #[] #[ptrTo b3]])(e:h0.load b5 2 1=some [.int .i64 (w:Nat)])(f:w<γ.nodes):Ret zM 125 [ptrTo b6,ptrTo b5] h0 fun _ h'=>Gr h0 h':=by have S:=Si a;refine aa (n:=7) (rs:=[]) rfl Tryz.e125 rfl rfl rfl (lbt rfl) ?_;simp only [BZ,d,e,seval];refine ag (Ac S.ok c b f) ?_;intro h g;replace S:=S.call g;clear g;simp only [BZ,seval];refine step_ret (py S.ok) ?_;intro r h g;replace S:=S.call g;clear g;simp only [BZ];exact S.gr
theorem asked5_ok(e:OZ h0)(c:aS h0 nb (ptrTo bp) γ)(t:TabAt h0 m f γ.nodes l R Q)(D:l.length<=16)(x:1<=l.length){b4:Nat}(i:h0.load b3 0 1=some [ptrTo bp])(g:h0.load b4 0 1=some [f]):Ret zM 126 [ptrTo b4,ptrTo b3] h0 fun _ h'=>Gr h0 h':=by
 have S:=Si e;have E:Fl f:=by obtain⟨b,_,_,_,rfl,_⟩:=t.ex;exact bD
 have y:=bA e i;have z:=bA e g;have A:(0:Int)<(l.length:Int):=by omega
 refine aa (n:=14) (rs:=[]) rfl Tryz.e126 rfl rfl rfl (lbt rfl) ?_;simp only [BZ];refine DX (by kernel_rfl) (n:=11) (by kernel_rfl) (av rfl) (q:=0) (ps:=[(6,7)]) (by kernel_rfl) ?_;simp only [XE,List.length_nil,XP,zO,Xc,List.drop_succ_cons,Xb,seval];simp only [BZ,cls,g,seval];refine bU (jF S.ok (t.gr S.gr) (by omega)) ?_;rintro r x ⟨a,B,_⟩;replace S:=S.call a;have j:=am a z;have k:=am a y;simp only [BZ,cls,B.lenq,A,a.load g,seval];refine bz (lj S.ok (t.gr S.gr)) ?_;intro F d;have G:=a.n;have H:=d.n;have o:=am d (show b4<_ by omega);have p:=am d (show b3<_ by omega);replace S:=S.call d;simp only [BZ,cls,d.load (a.load i),seval];refine bz (bM S.ok (c.gr S.gr)) ?_;intro I h;have u:=am h (show b4<_ by omega);have v:=am h (show b3<_ by omega);replace S:=S.call h;simp only [BZ,cls,seval];refine⟨by simp only [aJ,aR,aH,aT,aI,ne_eq,not_false_eq_true,aY,bC,aQ,aN,bF,bW,aD,Xa,ah,dh,ar k,au k,ar j,au j,ar p,au p,ar o,au o,ar v,au v,ar u,au u,seval],?_⟩
 try simp only [BZ,RetQ,jz,cP,ju,cls,touch,ig,ae,ab,n_new,decide_eq_true_eq,Bool.not_eq_true',decide_eq_false_iff_not,List.length_set,Bool.false_and,Bool.true_and,Int.ofNat_eq_natCast,Xj,Bool.true_eq_false,Bool.false_eq_true,Option.map_some,Option.map_none,ah,seval]
 refine step_ret (py S.ok) ?_;intro r J C;replace S:=S.call C;simp only [BZ];exact S.gr
theorem build_ask{a b c d:FuncId}{a1 a2 a3 e:Array Value}:jQ zM 204 [(0,.func (.func a) #[] a1),(1,.func (.func b) #[] a2),(2,.func (.func c) #[] a3),(3,.func (.func d) #[] e)]=some (.agg ⟨[.func (.func a) #[] a1,.func (.func b) #[] a2,.func (.func c) #[] a3,.func (.func d) #[] e]⟩):=by unfold jQ;rw [Tryz.t204.2.2.2.1,Tryz.t204.1];simp only [Tryz.t1.2.1];rfl
theorem rO{a b c d:FuncId}{a1 a2 a3 e:Array Value}:iY zM 204 (.agg ⟨[.func (.func a) #[] a1,.func (.func b) #[] a2,.func (.func c) #[] a3,.func (.func d) #[] e]⟩) (.int .i64 0)=some (.func (.func a) #[] a1)/\
 iY zM 204 (.agg ⟨[.func (.func a) #[] a1,.func (.func b) #[] a2,.func (.func c) #[] a3,.func (.func d) #[] e]⟩) (.int .i64 1)=some (.func (.func b) #[] a2)/\
 iY zM 204 (.agg ⟨[.func (.func a) #[] a1,.func (.func b) #[] a2,.func (.func c) #[] a3,.func (.func d) #[] e]⟩) (.int .i64 2)=some (.func (.func c) #[] a3)/\
 iY zM 204 (.agg ⟨[.func (.func a) #[] a1,.func (.func b) #[] a2,.func (.func c) #[] a3,.func (.func d) #[] e]⟩) (.int .i64 3)=some (.func (.func d) #[] e):=by
 unfold iY;rw [Tryz.t204.1];simp only [Tryz.t1.2.1];refine⟨?_,?_,?_,?_⟩<;>rfl
theorem asked_ok(C:OZ h0)(c:aS h0 nb (ptrTo bp) γ){q:Value}(t:TabAt h0 m q γ.nodes l R Q)(D:l.length<=16)(E:1<=l.length)(P:Fl u)(F:s<γ.nodes)(G:w<γ.nodes):
 Ret zM 48 [ptrTo bp,q,.agg ⟨[u,.int .i64 (s:Nat),.int .i64 (w:Nat),.int .i64 a]⟩] h0 fun _ h'=>Gr h0 h':=by
 have T:Fl q:=by obtain⟨b,_,_,_,rfl,_⟩:=t.ex;exact bD
 have S:=Si C;refine aa (n:=21) (rs:=[]) rfl Tryz.e48 rfl rfl rfl (lbt rfl) ?_;simp only [BZ,seval];refine ac (bJ (by exact bD)) S ?_;clear S;intro h H S v;simp only [BZ,if_false,seval];refine ac (bJ (by assumption)) S ?_;clear S;intro h I S y;simp only [BZ,if_false,seval];refine ac (aV (by intro x e;cases e)) S ?_;clear S;intro h z S A;simp only [ae]at S;simp only [BZ,seval];refine ac aA S ?_;clear S;intro h J S B;simp only [BZ,seval];refine aC (aE S (i:=0) rfl ?_ ?_ ?_ ono) ?_
 . exact(by simp only [FA0])
 . exact(by exact dY)
 . exact Xk (lbt rfl)
 clear S;rintro h ⟨S,K⟩;clear K;simp only [LC,ae,lay,Xe,Xd,seval]at S;have j:=S.ld (b:=H) (o:=0) m3 rfl;have p:=S.ld (b:=I) (o:=0) m2 rfl;have d:=S.ld (b:=z) (o:=1) m1 rfl;have f:=S.ld (b:=z) (o:=2) m1 rfl;have k:=S.ld (b:=J) (o:=0) m0 rfl;have L:an .i64 1=1:=rfl;have M:an .i64 2=2:=rfl;have N:an .i64 3=3:=rfl;have O:an .i64 4=4:=rfl;simp only [BZ,build_ask,seval];rw [cD];simp only [BZ,rO,seval];refine step_ret (asked2_ok S.ok j) ?_;intro r h g;replace S:=S.call g;replace j:=g.load j;replace p:=g.load p;replace d:=g.load d;replace f:=g.load f;replace k:=g.load k;clear g;simp only [BZ,L,seval];rw [cD];simp only [BZ,rO,seval];refine step_ret (asked3_ok S.ok (c.gr S.gr) j k d F) ?_;intro r h g;replace S:=S.call g;replace j:=g.load j;replace p:=g.load p;replace d:=g.load d;replace f:=g.load f;replace k:=g.load k;clear g;simp only [BZ,M,seval];rw [cD];simp only [BZ,rO,seval];refine step_ret (asked4_ok S.ok (c.gr S.gr) j k f G) ?_;intro r h g;replace S:=S.call g;replace j:=g.load j;replace p:=g.load p;replace d:=g.load d;replace f:=g.load f;replace k:=g.load k;clear g;simp only [BZ,N,seval];rw [cD];simp only [BZ,rO,seval];refine step_ret (asked5_ok S.ok (c.gr S.gr) (t.gr S.gr) D E j p) ?_;intro r h g;replace S:=S.call g;clear g;simp only [BZ,O,seval];rw [cD];simp only [BZ,seval];exact S.gr
theorem CI(a:OZ h0):ey zM 47 [ptrTo b] none h0 fun o rc h'=>(∃v,o=.ret v)/\rc=none/\Gr h0 h':=by have S:=Si a;refine enter (n:=18) (rs:=[]) rfl Tryz.e47 rfl rfl rfl (lbt rfl) ?_;simp only [BZ,seval];exact cy (cd ⟨rfl,_,rfl,⟨_,rfl⟩,rfl,S.gr⟩)
theorem trun1_yes(k:OZ h0){a:List Value}(R:Row h0 b a 1)(d:a.length=4):ey zM 47 [ptrTo b] (some (trouV c,false)) h0 fun o rc h'=>(∃v,o=.ret v)/\rc=some (trouV c,true)/\Mo (· =b) h0 h'/\Row h' b [.int .i64 c,.int .i64 0,.slice none 0 0,.slice none 0 0] 1:=by
 have S:=St.init1 k (o:=.row a 1) R;refine enter (n:=18) (rs:=[]) rfl Tryz.e47 rfl rfl rfl (lbt rfl) ?_;simp only [BZ,trouV,seval];refine ac aA S ?_;clear S;intro h l S f;simp only [BZ,seval];refine aC (S.store (i:=0) rfl ?_ ?_ rfl rfl ?_ ono) ?_
 . exact(by exact Tryz.t104.2.1)
 . exact(by intro x e;cases e)
 . exact lbt rfl
 clear S;rintro h ⟨S,g⟩;clear g;simp only [LC,ae,lay,Xe,Xd,seval]at S;simp only [BZ,S.ld (b:=l) (o:=0) m0 rfl,seval];refine aC (S.store (i:=1) rfl Tryz.t43.2.1 (by intro x e;cases e) rfl rfl (by rw [d];exact Xm _) ono) ?_;clear S;rintro p ⟨S,g⟩;simp only [LC]at S;have j:=S.row (b:=b) m1;have m:lay a 0 (ae (.agg ⟨[.int .i64 c,.int .i64 0,.slice none 0 0,.slice none 0 0]⟩))=[.int .i64 c,.int .i64 0,.slice none 0 0,.slice none 0 0]:=by
  match a,d with
  | [_,_,_,_],_=>rfl
 rw [m]at j;simp only [BZ];exact cy (cd ⟨rfl,_,rfl,⟨_,rfl⟩,rfl,S.fr,j⟩)
theorem got_ok(f:OZ h0){d:Int}{vA vE:Value}(j:Fl vA)(k:Fl vE):Ret zM 49 [.agg ⟨[.int .i64 d,vA,vE]⟩,.int .i64 0] h0 fun r h'=>Gr h0 h'/\r=.agg ⟨[.int .i64 d,vA,vE]⟩:=by have S:=Si f;refine aa (n:=10) (rs:=[.cell 4 96]) rfl Tryz.e49 rfl rfl rfl (lbt rfl) ?_;simp only [BZ,seval];refine ac (aV (by intro x e;cases e)) S ?_;clear S;intro h l S a;simp only [ae]at S;simp only [BZ];refine ac aA S ?_;clear S;intro h m S c;simp only [BZ,seval];refine step_ret (py S.ok) ?_;intro r h g;replace S:=S.call g;clear g;simp only [BZ,Xb,zO,Xc,S.lds (b:=l) (o:=0) (n:=3) m1 (lbt rfl),seval];refine aC (S.store (i:=0) rfl Tryz.t96.2.1 (by intro x e;cases e) rfl (by simp only [ae,Xg,Xh,j.2.1,k.2.1,Xa];rfl) (lbt rfl) ono) ?_;clear S;rintro p ⟨S,q⟩;simp only [LC,ae,lay,Xe,Xd,seval]at S;simp only [BZ,ab];refine(bw (by decide) (by simp only [aD,ah,seval];exact bj Tryz.t96.1 Tryz.t96.2.1 (S.lds (b:=m) (o:=0) (n:=3) m0 (lbt rfl)))).2 (bS.2 ?_);exact⟨S.gr,rfl⟩
end
def twL(N:Nat)(l:List Int)(R Q:Nat->List Int)(a:List Int)(s w:Nat):List Int:=(Xf N).map fun(v:Nat)=>vW (iB N l.length R Q v w a) (iB N l.length R Q s v a)
def natI(l:List Nat):List Int:=l.map fun(x:Nat)=>(x:Int)
theorem Ei(ok:OZ h0){bp nb:Nat}{k:Gra}(G:Good k)(hn:aS h0 nb (ptrTo bp) k){W q0:Value}(t:TabAt h0 m W k.nodes l R Q)(lR: ∀i,i<l.length->(R i).length=k.nodes)(lQ: ∀i,i<l.length->(Q i).length=k.nodes)(hl:l.length<=16)(h1:1<=l.length)(fq:Fl q0)(X:s<k.nodes)(Y:w<k.nodes):
 Ret zM 13 [ptrTo bp,W,.agg ⟨[q0,.int .i64 (s:Nat),.int .i64 (w:Nat),.int .i64 a]⟩] h0 fun r h'=>Gr h0 h'/\ ∃c d vA F vE,r=.tuple #[ansV c d vA F,vE]/\(∀x,(aq vA x\/aq F x\/aq vE x)->h0.n<=x)/\
  ((s =w/\c=0/\d=0/\vA=.slice none 0 0/\F=.slice none 0 0/\vE=.slice none 0 0)\/
   (s ≠w/\ ∃τ,pK k.arcs (fun _=>true) (fun v=>(twL k.nodes l R Q (natI (ii k.nodes l.length R Q s w a)) s w).getD v 0) (mZ (fun v=>(twL k.nodes l R Q (natI (ii k.nodes l.length R Q s w a)) s w).getD v 0) s w) τ/\
     az h' 4 jr vE τ.ev/\
     ((FAR<=τ.dist/\c=20/\d=0/\vA=.slice none 0 0/\F=.slice none 0 0)\/
      (τ.dist<FAR/\c=0/\d=(τ.dist:Nat)/\az h' 1 bK vA (arcsB τ)/\az h' 1 bK F (ii k.nodes l.length R Q s w a))))):=by
 have S:=Si ok;have ft:Fl W:=by obtain⟨b,_,_,_,rfl,_⟩:=t.ex;exact bD
 have ay:=gQ;refine aa (n:=59) (rs:=[.cell 6 43,.tmp 7]) rfl Tryz.e13 rfl rfl rfl (lbt rfl) ?_;simp only [BZ,seval];refine ac (aV (by intro x e;cases e)) S ?_;clear S;intro h u S al;simp only [ae]at S;simp only [BZ];refine ac aA S ?_;clear S;intro h y S H;simp only [BZ,Xb,zO,Xc,S.lds (b:=u) (o:=0) (n:=4) m1 (lbt rfl),seval];refine step_ret (asked_ok S.ok (hn.gr S.gr) (t.gr S.gr) hl h1 fq X Y) ?_;intro r h g;replace S:=S.call g;clear g;by_cases z:s=w
 . subst z;simp only [BZ,Xb,zO,Xc,S.ld (b:=u) (o:=1) m1 rfl,S.ld (b:=u) (o:=2) m1 rfl,S.lds (b:=y) (o:=0) (n:=4) m0 (lbt rfl),seval];refine aC (S.store (i:=0) rfl Tryz.t43.2.1 (by intro x e;cases e) rfl rfl (lbt rfl) ono) ?_;clear S;rintro Z ⟨S,mo⟩;simp only [LC,ae,lay,Xe,Xd,seval]at S;simp only [BZ];refine dq (un_fn (cK (CI S.ok) fun o rc h' ⟨a,b,g⟩=>⟨a,b,cd ⟨rfl,?_⟩⟩));replace S:=S.call g;refine(bw (by decide) (by simp only [aD,ah,seval];exact bj Tryz.t43.1 Tryz.t43.2.1 (S.lds (b:=y) (o:=0) (n:=4) m0 (lbt rfl)))).2 ?_;refine(dX (by decide)).2 (bS.2 ?_);exact⟨S.gr,_,_,_,_,_,rfl,fun x I=>(by rcases I with h|h|h<;>exact h.elim),.inl ⟨rfl,rfl,rfl,rfl,rfl⟩⟩
 . have ad: ¬((s:Int)=(w:Int)):=(by omega);simp only [BZ,ad,S.ld (b:=u) (o:=1) m1 rfl,S.ld (b:=u) (o:=2) m1 rfl,S.ld (b:=u) (o:=3) m1 rfl,seval];have k6:=(S.row (b:=y) m0).lt S.ok;refine step_ret (tO S.ok (t.gr S.gr) lR lQ hl) ?_;rintro F h ⟨g,O,nB⟩;replace S:=S.call g;clear g;have la:(ii k.nodes l.length R Q s w a).length<=16:=(by unfold ii;rw [Xo];omega);have R5:=S.row (b:=u) m1;have R6:=S.row (b:=y) m0;have S0:=S;have gV:=S.gr;have kV:=gV.n;have A:=S.ok;have af:=R5.load1 (o:=1) rfl;have ai:=R5.load1 (o:=2) rfl;have p5:=R5.lt A;have f1:=G.n2;simp only [BZ,seval];clear S;have S:=Si A;rename Hp=>hV;refine ao (lS (ord:=[17,0,1,2,3,4,5,6,7,8,9,10,11,12,13,14,15,16,18]) rfl rfl (by simp only [eh,pE,fI,Xq,Xr,XG,XA,XF,cond_true,cond_false,seval];exact rfl)) (q:=1) (ps:=[(0,17),(0,14),(5,12),(3,12),(0,12)]) (by kernel_rfl) ?_;simp only [BZ,cls,seval];refine df aA S ?_;clear S;intro h C S ax J;have p9:=S.fr.n;have P:=S.gr;have K:=S.row (b:=C) m0;have q9:=K.lt S.ok;simp only [BZ,cls,P.load af,P.load ai,seval];refine bU (bTwin_ok S.ok ((t.gr gV).gr P) lR lQ (by omega) (by omega) (sG (O.gr P)) (by rw [XI];omega) X Y) ?_;rintro vP h ⟨g,sP,nP⟩;have e1:leaves _ _ u=true:=am g (Xz p5 p9);have e2:leaves _ _ C=true:=am g q9;have kq:=g.n;replace S:=S.call g;clear g;simp only [BZ,cls,sP.fl,seval];refine bU (yt S.ok G ((hn.gr gV).gr S.gr) sP (by simp) X Y z) ?_;rintro r h ⟨g,xA,xE,τ,rfl,he,T,U,j⟩;have e3:leaves _ _ u=true:=am g (Xz p5 (Xi p9 kq));have e4:leaves _ _ C=true:=am g (Xz q9 kq);have kr:=g.n;have V:Fl xA:=U.fl;have y2:Fl xE:=T.fl;replace S:=S.call g;simp only [BZ,cls,seval];refine bU (got_ok S.ok V y2) ?_;rintro r h ⟨g,rfl⟩;have e5:leaves _ _ u=true:=am g (by omega);have e6:leaves _ _ C=true:=am g (by omega);have T:=T.gr g;have U:=U.gr g;replace S:=S.call g;simp only [BZ,cls,seval];refine cM (S.store (i:=0) rfl Tryz.t96.2.1 (by intro x e;cases e) rfl (by simp only [ae,Xg,Xh,V.2.1,y2.2.1,Xa];rfl) (lbt rfl) ono) ?_;have aL:=S.ok;have L: ∀c,aq xA c\/aq xE c->c≠C:=fun c p e=>(by have:=j c p;omega);clear S;rintro Z ⟨S,mo⟩;simp only [LC,ae,lay,Xe,Xd,seval]at S;simp only [BZ,seval];refine⟨by simp only [aJ,aR,aH,aT,aI,ne_eq,not_false_eq_true,aY,bC,aQ,aN,bF,bW,aD,Xa,ah,gJ,au e1,ar e1,au e2,ar e2,au e3,ar e3,au e4,ar e4,au e5,ar e5,au e6,ar e6,<-J,seval],?_⟩;have K:=S.row (b:=C) m0;have j0:=K.load1 (o:=0) rfl;have j1:=K.load1 (o:=1) rfl;have j2:=K.load1 (o:=2) rfl;have n9:y≠C:=fun e=>(by have:=(S0.row (b:=y) m0).lt A;omega);have M:az Z 1 bK xA _:=U.mo mo (fun c p e=>L c (.inl p) e);have N:az Z 4 jr xE τ.ev:=T.mo mo (fun c p e=>L c (.inr p) e);have ak:=O.gr S.gr;have k5:=(S0.row (b:=y) m0).lt A;have S1:=S0.call S.gr;clear S;have S:=S1;clear S1;simp only [BZ,j0,j2,seval];by_cases hd:τ.dist<FAR
   . have D:(τ.dist:Int)<72057594037927936:=(by omega);simp only [decide_true,D];refine step_ret (py S.ok) ?_;intro r h4 B;replace S:=S.call B;simp only [BZ,V,O.fl,B.load j0,B.load j1,seval];refine aC (S.store (i:=0) rfl Tryz.t43.2.1 (by intro x e;cases e) rfl (by simp only [ae,Xg,Xh,V.2.1,O.fl.2.1,Xa];rfl) (lbt rfl) ono) ?_;clear S;rintro h5 ⟨S,E⟩;simp only [LC,ae,lay,Xe,Xd,seval]at S;simp only [BZ,seval];refine dq (un_fn (cK (CI S.ok) fun o rc h' ⟨a,b,g⟩=>⟨a,b,cd ⟨rfl,?_⟩⟩));replace S:=S.call g;refine(bw (by decide) (by simp only [aD,ah,seval];exact bj Tryz.t43.1 Tryz.t43.2.1 (S.lds (b:=y) (o:=0) (n:=4) m0 (lbt rfl)))).2 ?_;refine(dX (by decide)).2 (bS.2 ?_);rw [if_pos hd]at M;have zE:=((N.gr B).mo E (fun c p e=>by have:=j c (.inr p);omega)).gr g;have zA:=((M.gr B).mo E (fun c p e=>by have:=j c (.inl p);omega)).gr g;have zB:=((ak.gr B).mo E (fun c p e=>by have:=nB c p;omega)).gr g;exact⟨S.gr,_,_,_,_,_,rfl,fun x I=>(by rcases I with h|h|h;(have:=j x (.inl h);omega);(have:=nB x h;omega);(have:=j x (.inr h);omega)),.inr ⟨z,τ,he,zE,.inr ⟨hd,rfl,rfl,zA,zB⟩⟩⟩
   . have D: ¬(τ.dist:Int)<72057594037927936:=(by omega);simp only [decide_false,D];refine jo (need_no S.ok) ?_;rintro x rc h4 ⟨rfl,B⟩;replace S:=S.call B;simp only [BZ];refine eH (nY (cK (trun1_yes S.ok (S.row (b:=y) m0) rfl) fun o rc h' ⟨a,e,f,R⟩=>⟨a,_,_,e,cd ?_⟩));have gz:Gr h0 h':=(S.fr.trans f (fun i hi=>.inr (by subst hi;exact H)):Mo NoM h0 h').gr;simp only [if_true];refine(bw (by decide) (by simp only [aD,ah,seval];exact bj Tryz.t43.1 Tryz.t43.2.1 (R.load (o:=0) (n:=4) (lbt rfl)))).2 ?_;refine(dX (by decide)).2 (bS.2 ?_);have zE:=(N.gr B).mo f (fun c p e=>by have:=j c (.inr p);omega);exact⟨gz,_,_,_,_,_,rfl,fun x I=>(by rcases I with h|h|h;exact h.elim;exact h.elim;(have:=j x (.inr h);omega)),.inr ⟨z,τ,he,zE,.inl ⟨by omega,rfl,rfl,rfl,rfl⟩⟩⟩
structure Pm(P:Hp->Int->Int->Value->Value->Value->Prop):Prop where
 fl: ∀{h:Hp} {c d:Int} {vA vB vE:Value},P h c d vA vB vE->Fl vA/\Fl vB/\Fl vE
 mo: ∀{M:Nat->Prop} {h h':Hp} {c d:Int} {vA vB vE:Value},P h c d vA vB vE->Mo M h h'->(∀x,(aq vA x\/aq vB x\/aq vE x)-> ¬M x)->P h' c d vA vB vE
def pz(P:Hp->Int->Int->Value->Value->Value->Prop)(h0:Hp)(r:Value)(h':Hp):Prop:=Gr h0 h'/\ ∃c d a b e,r=.tuple #[ansV c d a b,e]/\(∀x,(aq a x\/aq b x\/aq e x)->h0.n<=x)/\P h' c d a b e
section
variable{P:Hp->Int->Int->Value->Value->Value->Prop}
def FndR(P:Hp->Int->Int->Value->Value->Value->Prop)(h0:Hp)(r:Value)(h':Hp):Prop:=Gr h0 h'/\ ∃(D:Nat) (b a:Value),r=.tuple #[.agg ⟨[.int .i64 (D:Nat),b,a]⟩,.int .i64 0]/\Fl b/\Fl a/\(∀x,(aq b x\/aq a x)->h0.n<=x)/\(D<FAR->P h' 0 (D:Nat) b (.slice none 0 0) a)/\(FAR<=D->P h' 20 0 (.slice none 0 0) (.slice none 0 0) a)
theorem uR(r:Pm P)(K:OZ h0){A:Nat}{L M N B C:Value}(R:Row h0 b [pn,L,M,N] 1)(Z:Fl pn)(O:h0.load A 0 1=some [.func (.func g) #[] #[]])(f0:Fl B)(f3:Fl C){s w:Int}
 (Q: ∀h,Gr h0 h->Ret zM g [pn,.agg ⟨[.int .i64 s,.int .i64 w,.slice none 0 0,.slice none 0 0]⟩] h (FndR P h)):
 Ret zM 218 [ptrTo b,.agg ⟨[B,.int .i64 s,.int .i64 w,C]⟩,ptrTo A] h0 (pz P h0):=by
 have S:=Si K;have T:=R.load1 (o:=0) rfl;refine aa (n:=36) (rs:=[.cell 5 43,.tmp 6]) rfl Tryz.e218 rfl rfl rfl (lbt rfl) ?_;simp only [BZ,seval];refine ac (aV (by intro x e;cases e)) S ?_;clear S;intro h u S E;simp only [ae]at S;simp only [BZ];refine ac aA S ?_;clear S;intro h l S F;simp only [BZ];refine ao (lS (ord:=[14,0,1,2,3,4,5,6,7,8,9,10,11,12,13,15,16]) rfl rfl (by simp only [eh,pE,fI,Xq,Xr,XG,XA,XF,cond_true,cond_false,seval];exact rfl)) (q:=1) (ps:=[(0,11)]) (by kernel_rfl) ?_;simp only [BZ,cls,seval];refine df aA S ?_;clear S;intro h a S G p;simp only [BZ,cls,S.gr.load O,S.gr.load T,S.ld (b:=u) (o:=1) m2 rfl,S.ld (b:=u) (o:=2) m2 rfl,seval];refine bU (Q _ S.gr) ?_;have kS:=S.fr.n;have t: ∀c∈[a,l,u],c<_:=fun c U=>S.key_lt (by simpa [keys]using U);rintro _ h ⟨g,D,vA,vE,rfl,v,V,f,H,I⟩;have J:=am g (S.key_lt (b:=a) (by simp [keys]));replace S:=S.call g;simp only [BZ,cls,seval];refine cM (S.store (i:=0) rfl Tryz.t96.2.1 (by intro x e;cases e) rfl (by simp only [ae,Xg,Xh,v.2.1,V.2.1,Xa];rfl) (lbt rfl) ono) ?_;clear S;rintro h ⟨S,m⟩;simp only [LC,ae,lay,Xe,Xd,seval]at S;have W:=fun y=>r.mo (H y) m (fun x d e=>by
  have e:x=a:=e;have:=t a m0;rcases d with h|h|h
  . have:=f x (.inl h);omega
  . exact h
  . have:=f x (.inr h);omega)
 have X:=fun y=>r.mo (I y) m (fun x d e=>by
  have e:x=a:=e;have:=t a m0;rcases d with h|h|h
  . exact h
  . exact h
  . have:=f x (.inr h);omega)
 clear H I m;simp only [BZ,cls,seval];refine⟨by simp only [aJ,aR,aH,aT,aI,ne_eq,not_false_eq_true,aY,bC,aQ,aN,bF,bW,aD,Xa,ah,dh,<-p,ar J,au J,seval],?_⟩;have k:=S.ne01 (i:=0) (j:=1) rfl rfl (by decide);by_cases Y:D<FAR
 . have z: ¬(72057594037927936:Int)<=(D:Int):=(by have:=gQ;omega);simp only [BZ,z,S.ld (b:=a) (o:=0) m0 rfl,seval];refine ao (av rfl) (q:=0) (ps:=[(6,7)]) (by kernel_rfl) ?_;simp only [BZ,cls,v,S.ld (b:=a) (o:=0) m0 rfl,S.ld (b:=a) (o:=1) m0 rfl,S.ld (b:=a) (o:=2) m0 rfl,seval];refine cM (S.store (i:=1) rfl Tryz.t43.2.1 (by intro x e;cases e) rfl (by simp only [ae,Xg,Xh,v.2.1,Xa];rfl) (lbt rfl) ono) ?_;clear S;rintro h ⟨S,m⟩;simp only [LC,ae,lay,Xe,Xd,seval]at S;simp only [BZ,cls,ab,seval];refine⟨by simp only [aJ,aR,aH,aT,aI,ne_eq,not_false_eq_true,aY,bC,aQ,aN,bF,bW,aD,Xa,ah,gJ,c8 k,c8 k.symm,seval],?_⟩;refine(bw (by decide) (by simp only [aD,ah,seval];exact bj Tryz.t43.1 Tryz.t43.2.1 (S.lds (b:=l) (o:=0) (n:=4) m1 (lbt rfl)))).2 ?_;refine(dX (by decide)).2 (bS.2 ?_);exact⟨S.gr,_,_,_,_,_,rfl,fun x d=>by
    rcases d with h|h|h
    . have:=f x (.inl h);omega
    . exact h.elim
    . have:=f x (.inr h);omega,r.mo (W Y) m (fun x d e=>by
    have e:x=l:=e;have:=t l m1;rcases d with h|h|h
    . have:=f x (.inl h);omega
    . exact h
    . have:=f x (.inr h);omega)⟩
 . have z:(72057594037927936:Int)<=(D:Int):=(by have:=gQ;omega);simp only [BZ,z,S.ld (b:=a) (o:=0) m0 rfl,seval];refine ao (av rfl) (q:=0) (ps:=[(2,3)]) (by kernel_rfl) ?_;simp only [BZ,cls,S.ld (b:=a) (o:=0) m0 rfl,S.ld (b:=a) (o:=1) m0 rfl,S.ld (b:=a) (o:=2) m0 rfl,seval];refine cM (S.store (i:=1) rfl Tryz.t43.2.1 (by intro x e;cases e) rfl rfl (lbt rfl) ono) ?_;clear S;rintro h ⟨S,m⟩;simp only [LC,ae,lay,Xe,Xd,seval]at S;simp only [BZ,cls,ab,seval];refine⟨by simp only [aJ,aR,aH,aT,aI,ne_eq,not_false_eq_true,aY,bC,aQ,aN,bF,bW,aD,Xa,ah,gJ,c8 k,c8 k.symm,seval],?_⟩;refine(bw (by decide) (by simp only [aD,ah,seval];exact bj Tryz.t43.1 Tryz.t43.2.1 (S.lds (b:=l) (o:=0) (n:=4) m1 (lbt rfl)))).2 ?_;refine(dX (by decide)).2 (bS.2 ?_);exact⟨S.gr,_,_,_,_,_,rfl,fun x d=>by
    rcases d with h|h|h
    . exact h.elim
    . exact h.elim
    . have:=f x (.inr h);omega,r.mo (X (by omega)) m (fun x d e=>by
    have e:x=l:=e;have:=t l m1;rcases d with h|h|h
    . exact h
    . exact h
    . have:=f x (.inr h);omega)⟩
theorem Em(u:Pm P)(B:OZ h0){a w l:Value}(R:Row h0 b [pn,a,v,w] 1)(J:Fl pn)(ft:Fl a)(K:Fl v)(L:Fl w)(M:Fl f)(N:Fl j)(O:Fl k)(Q:Fl l)
 (C: ∀h,Gr h0 h->Ret zM 11 [pn,a,.agg ⟨[f,j,k,l]⟩] h (pz P h)):
 Ret zM 151 [ptrTo b,.agg ⟨[f,j,k,l]⟩] h0 (pz P h0):=by
 have S:=Si B;have D:=R.load1 (o:=0) rfl;have m:=R.load1 (o:=1) rfl;have p:=R.load1 (o:=2) rfl;have r:=R.load1 (o:=3) rfl;refine aa (n:=18) (rs:=[.cell 4 43,.tmp 5]) rfl Tryz.e151 rfl rfl rfl (lbt rfl) ?_;simp only [BZ,seval];refine ac (aV (by intro x e;cases e)) S ?_;clear S;intro h E S y;simp only [ae]at S;simp only [BZ];refine ac aA S ?_;clear S;intro h s S z;simp only [BZ];refine ao (av rfl) (q:=0) (ps:=[]) (by kernel_rfl) ?_;simp only [BZ,cls,S.gr.load D,S.gr.load m,S.gr.load p,S.gr.load r,Xb,zO,Xc,S.lds (b:=E) (o:=0) (n:=4) m1 (lbt rfl),seval];have F:=S.fr.n;have T:=S.key_lt (b:=s) (by simp [keys]);refine bU (C _ S.gr) ?_;rintro _ h ⟨g,c,d,U,V,W,rfl,A,o⟩;obtain⟨G,H,X⟩:=u.fl o;replace S:=S.call g;simp only [BZ,cls,ansV,seval];refine cM (S.store (i:=0) rfl Tryz.t43.2.1 (by intro x e;cases e) rfl (by simp only [ae,Xg,Xh,G.2.1,H.2.1,Xa];rfl) (lbt rfl) ono) ?_;clear S;rintro h ⟨S,I⟩;simp only [LC,ae,lay,Xe,Xd,seval]at S;simp only [BZ,cls,ab,seval];refine(bw (by decide) (by simp only [aD,ah,seval];exact bj Tryz.t43.1 Tryz.t43.2.1 (S.lds (b:=s) (o:=0) (n:=4) m0 (lbt rfl)))).2 ?_;refine(dX (by decide)).2 (bS.2 ?_);exact⟨S.gr,_,_,_,_,_,rfl,fun x t=>Xi F (A x t),u.mo o I (fun x t e=>by
  have e:x=s:=e;have:=A x t;omega)⟩
theorem C6(u:Pm P)(B:OZ h0){a w l:Value}(R:Row h0 b [pn,a,v,w] 1)(J:Fl pn)(ft:Fl a)(K:Fl v)(L:Fl w)(M:Fl f)(N:Fl j)(O:Fl k)(Q:Fl l)
 (C: ∀h,Gr h0 h->Ret zM 13 [pn,a,.agg ⟨[f,j,k,l]⟩] h (pz P h)):
 Ret zM 152 [ptrTo b,.agg ⟨[f,j,k,l]⟩] h0 (pz P h0):=by
 have S:=Si B;have D:=R.load1 (o:=0) rfl;have m:=R.load1 (o:=1) rfl;have p:=R.load1 (o:=2) rfl;have r:=R.load1 (o:=3) rfl;refine aa (n:=18) (rs:=[.cell 4 43,.tmp 5]) rfl Tryz.e152 rfl rfl rfl (lbt rfl) ?_;simp only [BZ,seval];refine ac (aV (by intro x e;cases e)) S ?_;clear S;intro h E S y;simp only [ae]at S;simp only [BZ];refine ac aA S ?_;clear S;intro h s S z;simp only [BZ];refine ao (av rfl) (q:=0) (ps:=[]) (by kernel_rfl) ?_;simp only [BZ,cls,S.gr.load D,S.gr.load m,S.gr.load p,S.gr.load r,Xb,zO,Xc,S.lds (b:=E) (o:=0) (n:=4) m1 (lbt rfl),seval];have F:=S.fr.n;have T:=S.key_lt (b:=s) (by simp [keys]);refine bU (C _ S.gr) ?_;rintro _ h ⟨g,c,d,U,V,W,rfl,A,o⟩;obtain⟨G,H,X⟩:=u.fl o;replace S:=S.call g;simp only [BZ,cls,ansV,seval];refine cM (S.store (i:=0) rfl Tryz.t43.2.1 (by intro x e;cases e) rfl (by simp only [ae,Xg,Xh,G.2.1,H.2.1,Xa];rfl) (lbt rfl) ono) ?_;clear S;rintro h ⟨S,I⟩;simp only [LC,ae,lay,Xe,Xd,seval]at S;simp only [BZ,cls,ab,seval];refine(bw (by decide) (by simp only [aD,ah,seval];exact bj Tryz.t43.1 Tryz.t43.2.1 (S.lds (b:=s) (o:=0) (n:=4) m0 (lbt rfl)))).2 ?_;refine(dX (by decide)).2 (bS.2 ?_);exact⟨S.gr,_,_,_,_,_,rfl,fun x t=>Xi F (A x t),u.mo o I (fun x t e=>by
  have e:x=s:=e;have:=A x t;omega)⟩
theorem wJ(w:Pm P)(B:OZ h0){a l m:Value}(R:Row h0 b [pn,a,f,j] 1)(L:Fl pn)(ft:Fl a)(C:Fl f)(D:Fl j)(M:Fl k)(N:Fl l)(O:Fl m)(Q:Fl p)
 (E: ∀h,Gr h0 h->Ret zM 14 [pn,a,.agg ⟨[f,j]⟩,.agg ⟨[k,l,m,p]⟩] h (pz P h)):
 Ret zM 149 [ptrTo b,.agg ⟨[k,l,m,p]⟩] h0 (pz P h0):=by
 have S:=Si B;have F:=R.load1 (o:=0) rfl;have r:=R.load1 (o:=1) rfl;have s:=R.load1 (o:=2) rfl;have t:=R.load1 (o:=3) rfl;refine aa (n:=27) (rs:=[.cell 4 43,.tmp 5]) rfl Tryz.e149 rfl rfl rfl (lbt rfl) ?_;simp only [BZ,seval];refine ac (aV (by intro x e;cases e)) S ?_;clear S;intro h G S y;simp only [ae]at S;simp only [BZ];refine ac aA S ?_;clear S;intro h u S z;simp only [BZ];refine ao (av rfl) (q:=0) (ps:=[]) (by kernel_rfl) ?_;simp only [BZ,cls,C,D,S.gr.load F,S.gr.load r,S.gr.load s,S.gr.load t,Xb,zO,Xc,S.lds (b:=G) (o:=0) (n:=4) m1 (lbt rfl),seval];have H:=S.fr.n;have T:=S.key_lt (b:=u) (by simp [keys]);refine bU (E _ S.gr) ?_;rintro _ h ⟨g,c,d,U,V,W,rfl,A,o⟩;obtain⟨I,J,X⟩:=w.fl o;replace S:=S.call g;simp only [BZ,cls,ansV,seval];refine cM (S.store (i:=0) rfl Tryz.t43.2.1 (by intro x e;cases e) rfl (by simp only [ae,Xg,Xh,I.2.1,J.2.1,Xa];rfl) (lbt rfl) ono) ?_;clear S;rintro h ⟨S,K⟩;simp only [LC,ae,lay,Xe,Xd,seval]at S;simp only [BZ,cls,ab,seval];refine(bw (by decide) (by simp only [aD,ah,seval];exact bj Tryz.t43.1 Tryz.t43.2.1 (S.lds (b:=u) (o:=0) (n:=4) m0 (lbt rfl)))).2 ?_;refine(dX (by decide)).2 (bS.2 ?_);exact⟨S.gr,_,_,_,_,_,rfl,fun x v=>Xi H (A x v),w.mo o K (fun x v e=>by
  have e:x=u:=e;have:=A x v;omega)⟩
def trouA(c:Int):Value:=.iface 122 (.agg ⟨[.int .i64 c]⟩)
theorem qY(a:OZ h0):ey zM 60 [.bool false,.int .i64 c] none h0 fun o rc h'=>o=.pan (trouA c)/\Gr h0 h':=by have S:=Si a;refine enter (n:=9) (rs:=[]) rfl Tryz.e60 rfl rfl rfl (lbt rfl) ?_;simp only [BZ,seval];exact eH (cd ⟨rfl,S.gr⟩)
end
theorem ym{b1 k:Nat}(a:k<6):iY zM 127 (.agg ⟨cU b1 b2 0++(cU b1 b2 1++(cU b1 b2 2++(cU b1 b2 3++(cU b1 b2 4++cU b1 b2 5))))⟩) (.int .i64 (k:Nat))=some (.agg ⟨cU b1 b2 k⟩):=by have:=ways_at (b1:=b1) (b2:=b2) a;have b:(cU b1 b2 0++(cU b1 b2 1++(cU b1 b2 2++(cU b1 b2 3++(cU b1 b2 4++cU b1 b2 5))))).length=18:=rfl;generalize cU b1 b2 0++(cU b1 b2 1++(cU b1 b2 2++(cU b1 b2 3++(cU b1 b2 4++cU b1 b2 5))))=L at this b;unfold iY;simp only [Tryz.t127.1,iD a,Tryz.t126.2.1];unfold partOf;simp only [Tryz.t126.1,Tryz.t126.2.1,this,b];rw [Nat.ble_eq_true_of_le (by omega),cond_true]
theorem ask1_ok(a:OZ h0):ey zM 58 [ptrTo b2,ptrTo b3] none h0 fun o rc h'=>(∃v,o=.ret v)/\rc=none/\Gr h0 h':=by have S:=Si a;refine enter (n:=19) (rs:=[]) rfl Tryz.e58 rfl rfl rfl (lbt rfl) ?_;simp only [BZ,seval];exact cy (cd ⟨rfl,_,rfl,⟨_,rfl⟩,rfl,S.gr⟩)
theorem mR.at{h:Hp}{b:Nat}{I:Img}{g i:Prop}(j:mR h b I g i):ImAt h b I:=by
 obtain⟨d,n,o,p,q,k,R,l,a,c⟩:=j;refine⟨_,_,_,_,R,⟨k,l⟩,d.b,?_,?_⟩
 . cases e:I.T with
   |none=>rw [e]at a;exact a|some T=>rw [e]at a;obtain⟨⟨m,_,x⟩,y,_⟩:=a;exact⟨⟨m,x⟩,y⟩
 . cases f:I.C with
   |none=>rw [f]at c;exact c|some C=>obtain⟨m,F⟩:=C;rw [f]at c;exact c.1
theorem mR.gr{h h':Hp}{b:Nat}{I:Img}{f i:Prop}(k:mR h b I f i)(g:Gr h h'):mR h' b I f i:=by
 obtain⟨c,l,n,o,p,q,R,r,s,a⟩:=k;refine⟨c,l,n,o,p,q,R.gr g,r.gr g,s.mo (M:=NoM) g.fr (fun _ h=>h.elim),?_⟩;cases j:I.C with
 |none=>rw [j]at a;exact a| some C=>
   obtain⟨m,F⟩:=C;rw [j]at a;obtain⟨x,t,u,v,w,y,z,A,B,D,d,e,E,G,H⟩:=a;exact⟨x.gr g,t,u,v,w,y,z,A,B,D,d.gr g,e,E,G.gr g,H⟩
theorem ry(j:OZ h0){c:Nat}{xs ys:List Value}(k:Has h0 b (.row xs 1))(l:Has h0 c (.row ys 1))(f:xs.length=4)(m:ys.length=1)(a:b≠c){e:Int}:ey zM 58 [ptrTo b,ptrTo c] (some (trouA e,false)) h0 fun o rc h'=>(∃v,o=.ret v)/\rc=some (trouA e,true)/\Mo (fun x=>x=b\/x=c) h0 h'/\Row h' b [.int .i64 e,.int .i64 0,.slice none 0 0,.slice none 0 0] 1/\Row h' c [.slice none 0 0] 1:=by
 have S:St (fun x=>x=b\/x=c) h0 h0 [(b,.row xs 1),(c,.row ys 1)] []:=((St.init j).push (.inr (.inr rfl)) l (by simp [keys])).push (.inr (.inl rfl)) k (by simp [keys,a]);obtain⟨y,rfl⟩: ∃y,ys=[y]:=List.length_eq_one_iff.1 m;refine enter (n:=19) (rs:=[]) rfl Tryz.e58 rfl rfl rfl (lbt rfl) ?_;simp only [BZ,trouA,seval];refine ac aA S ?_;clear S;intro h p S g;simp only [BZ,seval];refine aC (S.store (i:=0) rfl ?_ ?_ rfl rfl ?_ ono) ?_
 . exact(by exact Tryz.t122.2.1)
 . exact(by intro x e;cases e)
 . exact lbt rfl
 clear S;rintro h ⟨S,d⟩;clear d;simp only [LC,ae,lay,Xe,Xd,seval]at S;simp only [BZ,S.ld (b:=p) (o:=0) m0 rfl,seval];refine aC (S.store (i:=1) rfl Tryz.t43.2.1 (by intro x e;cases e) rfl rfl (by rw [f];exact Xm _) ono) ?_;clear S;rintro q ⟨S,d⟩;simp only [LC]at S;have r:lay xs 0 (ae (.agg ⟨[.int .i64 e,.int .i64 0,.slice none 0 0,.slice none 0 0]⟩))=[.int .i64 e,.int .i64 0,.slice none 0 0,.slice none 0 0]:=by
  match xs,f with
  | [_,_,_,_],_=>rfl
 rw [r]at S;simp only [BZ,if_false,seval];refine aC (aE S (i:=2) rfl Tryz.t44.2.2.1 aU (Xk (lbt rfl)) ono) ?_;clear S;rintro q ⟨S,d⟩;simp only [LC]at S;simp only [BZ];exact cy (cd ⟨rfl,_,rfl,⟨_,rfl⟩,rfl,S.fr,S.row m1,S.row m2⟩)
theorem uy(f:OZ h0){c i:Nat}{l:Value}{a:Gra}(R:Row h0 b [ptrTo c,j,k,l] 1)(m:h0.load b2 0 1=some [ptrTo b])(p:aS h0 i (ptrTo c) a){s:Int}:aO zM 59 [.int .i64 s,ptrTo b2] h0 (.bool (decide (0<=s/\s<a.nodes))):=by
 have S:=Si f;have q:=R.load1 (o:=0) rfl;by_cases d:(0:Int)<=s
 . have e:decide (0<=s/\s<(a.nodes:Int))=decide (s<(a.nodes:Int)):=decide_eq_decide.2 (by omega);rw [e];refine aa (n:=15) (rs:=[.tmp 3]) rfl Tryz.e59 rfl rfl rfl (lbt rfl) ?_;simp only [BZ,m,q,d,seval];refine ag (bM S.ok (p.gr S.gr)) ?_;intro h g;replace S:=S.call g;clear g;simp only [BZ,ab,seval];exact S.gr
 . have e:decide (0<=s/\s<(a.nodes:Int))=false:=decide_eq_false (by omega);rw [e];refine aa (n:=15) (rs:=[.tmp 3]) rfl Tryz.e59 rfl rfl rfl (lbt rfl) ?_;simp only [BZ,ab,d,seval];exact S.gr
def PtrB(p:Value)(t:Bool):Prop:=(t=true/\ ∃x,p=ptrTo x)\/(t=false/\p=.pointer none)
theorem hasB_ok(p:OZ h0){g i q:Value}{x y j k:Bool}(R:Row h0 b [pn,g,i,q] 1)(r:PtrB g j)(l:PtrB i k)(v:Fl f):aO zM 62 [.agg ⟨wayV x y f⟩,ptrTo b] h0 (.bool ((!x||j)&&(!y||k))):=by
 have S:=Si p;have s:=R.load1 (o:=1) rfl;have t:=R.load1 (o:=2) rfl;refine aa (n:=27) (rs:=[.tmp 4]) rfl Tryz.e62 rfl rfl rfl (lbt rfl) ?_;simp only [BZ,wayV,seval];refine ac (aV (by intro x e;cases e)) S ?_;clear S;intro h d S m;simp only [ae]at S;have a:=S.gr.load s;have c:=S.gr.load t;rcases r with⟨rfl,w,rfl⟩|⟨rfl,rfl⟩
 . rcases l with⟨rfl,u,rfl⟩|⟨rfl,rfl⟩
   . cases x
     all_goals cases y
     all_goals
      simp only [BZ,ab,a,c,S.ld (b:=d) (o:=0) m0 rfl,S.ld (b:=d) (o:=1) m0 rfl,seval];exact⟨rfl,S.gr⟩
   . cases x
     all_goals cases y
     all_goals
      simp only [BZ,ab,a,c,S.ld (b:=d) (o:=0) m0 rfl,S.ld (b:=d) (o:=1) m0 rfl,seval];exact⟨rfl,S.gr⟩
 . rcases l with⟨rfl,u,rfl⟩|⟨rfl,rfl⟩
   . cases x
     all_goals cases y
     all_goals
      simp only [BZ,ab,a,c,S.ld (b:=d) (o:=0) m0 rfl,S.ld (b:=d) (o:=1) m0 rfl,seval];exact⟨rfl,S.gr⟩
   . cases x
     all_goals cases y
     all_goals
      simp only [BZ,ab,a,c,S.ld (b:=d) (o:=0) m0 rfl,S.ld (b:=d) (o:=1) m0 rfl,seval];exact⟨rfl,S.gr⟩
def gD(N:Nat)(a b:Bool)(k s w:Int):Int:=
 if¬(0<=k/\k<6)then 16 else if¬(0<=s/\s<N)then 17 else if¬(0<=w/\w<N)then 18 else if((!tw k.toNat||a)&&(!cw k.toNat||b))=true then 0 else 19
theorem askAny_ok{P:Hp->Int->Int->Value->Value->Value->Prop}(pm:Pm P)(ok:OZ h0){I:Img}{oT oF:Prop}(im:mR h0 b I oT oF){k s w:Int}
 (Q: ∀(l v z:Nat),k=l->s=v->w=z->l<6->v<I.g.nodes->z<I.g.nodes->(tw l=true->I.T.isSome=true)->(cw l=true->I.C.isSome=true)->v≠z-> ∀h b1 b2,Gr h0 h->h.load b1 0 1=some [.func (.func 45) #[] #[]]->h.load b2 0 1=some [.func (.func 50) #[] #[]]-> ∃g x c,fw b1 b2 l=.func (.func g) x c/\Ret zM g (x.toList++[ptrTo b,.agg ⟨[.int .i64 k,.int .i64 s,.int .i64 w,.int .i64 a]⟩]++c.toList) h (pz P h)):
 Ret zM 15 [ptrTo b,.agg ⟨[.int .i64 k,.int .i64 s,.int .i64 w,.int .i64 a]⟩] h0 fun r h'=>Gr h0 h'/\ ∃c d vA U vE,r=.tuple #[ansV c d vA U,vE]/\Fl vA/\Fl U/\Fl vE/\
  (((gD I.g.nodes I.T.isSome I.C.isSome k s w≠0\/s=w)/\c=gD I.g.nodes I.T.isSome I.C.isSome k s w/\d=0/\vA=.slice none 0 0/\U=.slice none 0 0/\vE=.slice none 0 0)\/
   (gD I.g.nodes I.T.isSome I.C.isSome k s w=0/\s≠w/\P h' c d vA U vE)):=by
 have S:=Si ok;have ad:=im;obtain⟨af,bp,pt,pc,pf,nb,R,hn,tY,cY⟩:=ad;have n1:=af.n1;have ai:PtrB pt I.T.isSome:=by
  cases eT:I.T with
  |none=>rw [eT]at tY;exact .inr ⟨rfl,tY⟩|some T=>rw [eT]at tY;obtain⟨⟨_,_,x⟩,_⟩:=tY;obtain⟨y,_,_,_,e,_⟩:=x.ex;exact .inl ⟨rfl,y,e⟩
 have ak:PtrB pc I.C.isSome:=by
  cases eC:I.C with
  |none=>rw [eC]at cY;exact .inr ⟨rfl,cY.1⟩|some C=>rw [eC]at cY;obtain⟨_,_,_,y,_,_,_,_,e,_⟩:=cY;exact .inl ⟨rfl,y,e⟩
 generalize I.T.isSome=A at*
 generalize I.C.isSome=B at*
 refine aa (n:=53) (rs:=[.cell 4 43,.cell 5 44]) rfl Tryz.e15 rfl rfl rfl (lbt rfl) ?_;simp only [BZ,seval];refine ac (aV (by intro x e;cases e)) S ?_;clear S;intro h b2 S a0;simp only [ae]at S;simp only [BZ,if_false,seval];refine ac (aV (by intro x e;cases e)) S ?_;clear S;intro h u S a1;simp only [ae]at S;simp only [BZ];refine ac aA S ?_;clear S;intro h N S m;simp only [BZ];refine ac aA S ?_;clear S;intro h b5 S p;simp only [BZ,S.ld (b:=b2) (o:=0) m3 rfl,seval];refine ag (CG S.ok (im.at.gr S.gr)) ?_;intro h g;replace S:=S.call g;clear g;simp only [BZ,seval];refine ag (rC S.ok) ?_;intro h g;replace S:=S.call g;clear g;by_cases c0:(0:Int)<=k;rotate_left
 . have t:gD I.g.nodes A B k s w=16:=if_pos (by omega);simp only [BZ,c0,S.ld (b:=u) (o:=0) m2 rfl,seval];refine jo (qY S.ok) ?_;rintro _ D h4 ⟨rfl,E⟩;replace S:=S.call E;simp only [BZ];refine eH (nY (cK (ry S.ok (S.own _ m1).2 (S.own _ m0).2 rfl rfl (S.ne01 (i:=1) (j:=0) rfl rfl (by decide))) fun o D h' ⟨a,e,f,F,G⟩=>⟨a,_,_,e,cd ?_⟩));have H:Gr h0 h':=(S.fr.trans f (fun i J=>.inr (by rcases J with rfl|rfl;exact m;exact p)):Mo NoM h0 h').gr;simp only [if_true];refine(bw (by decide) (by simp only [aD,ah,seval];exact bj Tryz.t43.1 Tryz.t43.2.1 (F.load (o:=0) (n:=4) (lbt rfl)))).2 ?_;refine(bw (by decide) (by simp only [aD,ah,seval];exact mw Tryz.t44.2.1 (G.load1 (o:=0) rfl))).2 ?_;exact bS.2 ⟨H,_,_,_,_,_,rfl,aU,aU,aU,.inl ⟨.inl (by rw [t];decide),by rw [t],rfl,rfl,rfl,rfl⟩⟩
 by_cases c6:k<6;rotate_left
 . have t:gD I.g.nodes A B k s w=16:=if_pos (by omega);simp only [BZ,c0,c6,S.ld (b:=u) (o:=0) m2 rfl,seval];refine jo (qY S.ok) ?_;rintro _ D h4 ⟨rfl,E⟩;replace S:=S.call E;simp only [BZ];refine eH (nY (cK (ry S.ok (S.own _ m1).2 (S.own _ m0).2 rfl rfl (S.ne01 (i:=1) (j:=0) rfl rfl (by decide))) fun o D h' ⟨a,e,f,F,G⟩=>⟨a,_,_,e,cd ?_⟩));have H:Gr h0 h':=(S.fr.trans f (fun i J=>.inr (by rcases J with rfl|rfl;exact m;exact p)):Mo NoM h0 h').gr;simp only [if_true];refine(bw (by decide) (by simp only [aD,ah,seval];exact bj Tryz.t43.1 Tryz.t43.2.1 (F.load (o:=0) (n:=4) (lbt rfl)))).2 ?_;refine(bw (by decide) (by simp only [aD,ah,seval];exact mw Tryz.t44.2.1 (G.load1 (o:=0) rfl))).2 ?_;exact bS.2 ⟨H,_,_,_,_,_,rfl,aU,aU,aU,.inl ⟨.inl (by rw [t];decide),by rw [t],rfl,rfl,rfl,rfl⟩⟩
 simp only [BZ,c0,c6,S.ld (b:=u) (o:=0) m2 rfl,seval];refine ag (rC S.ok) ?_;intro h g;replace S:=S.call g;clear g;simp only [BZ,S.ld (b:=u) (o:=1) m2 rfl,seval];refine ag (uy S.ok (R.gr S.gr) (S.ld m3 rfl) (hn.gr S.gr) (s:=s)) ?_;intro h g;replace S:=S.call g;clear g;by_cases hs:0<=s/\s<(I.g.nodes:Int);rotate_left
 . have t:gD I.g.nodes A B k s w=17:=(by unfold gD;rw [if_neg (by omega),if_pos hs]);have d1:=decide_eq_false hs;simp only [BZ,d1,seval];refine jo (qY S.ok) ?_;rintro _ D h4 ⟨rfl,E⟩;replace S:=S.call E;simp only [BZ];refine eH (nY (cK (ry S.ok (S.own _ m1).2 (S.own _ m0).2 rfl rfl (S.ne01 (i:=1) (j:=0) rfl rfl (by decide))) fun o D h' ⟨a,e,f,F,G⟩=>⟨a,_,_,e,cd ?_⟩));have H:Gr h0 h':=(S.fr.trans f (fun i J=>.inr (by rcases J with rfl|rfl;exact m;exact p)):Mo NoM h0 h').gr;simp only [if_true];refine(bw (by decide) (by simp only [aD,ah,seval];exact bj Tryz.t43.1 Tryz.t43.2.1 (F.load (o:=0) (n:=4) (lbt rfl)))).2 ?_;refine(bw (by decide) (by simp only [aD,ah,seval];exact mw Tryz.t44.2.1 (G.load1 (o:=0) rfl))).2 ?_;exact bS.2 ⟨H,_,_,_,_,_,rfl,aU,aU,aU,.inl ⟨.inl (by rw [t];decide),by rw [t],rfl,rfl,rfl,rfl⟩⟩
 have d1:=decide_eq_true hs;simp only [BZ,d1,seval];refine ag (rC S.ok) ?_;intro h g;replace S:=S.call g;clear g;simp only [BZ,S.ld (b:=u) (o:=2) m2 rfl,seval];refine ag (uy S.ok (R.gr S.gr) (S.ld m3 rfl) (hn.gr S.gr) (s:=w)) ?_;intro h g;replace S:=S.call g;clear g;by_cases hw:0<=w/\w<(I.g.nodes:Int);rotate_left
 . have t:gD I.g.nodes A B k s w=18:=(by unfold gD;rw [if_neg (by omega),if_neg (by omega),if_pos hw]);have d2:=decide_eq_false hw;simp only [BZ,d2,seval];refine jo (qY S.ok) ?_;rintro _ D h4 ⟨rfl,E⟩;replace S:=S.call E;simp only [BZ];refine eH (nY (cK (ry S.ok (S.own _ m1).2 (S.own _ m0).2 rfl rfl (S.ne01 (i:=1) (j:=0) rfl rfl (by decide))) fun o D h' ⟨a,e,f,F,G⟩=>⟨a,_,_,e,cd ?_⟩));have H:Gr h0 h':=(S.fr.trans f (fun i J=>.inr (by rcases J with rfl|rfl;exact m;exact p)):Mo NoM h0 h').gr;simp only [if_true];refine(bw (by decide) (by simp only [aD,ah,seval];exact bj Tryz.t43.1 Tryz.t43.2.1 (F.load (o:=0) (n:=4) (lbt rfl)))).2 ?_;refine(bw (by decide) (by simp only [aD,ah,seval];exact mw Tryz.t44.2.1 (G.load1 (o:=0) rfl))).2 ?_;exact bS.2 ⟨H,_,_,_,_,_,rfl,aU,aU,aU,.inl ⟨.inl (by rw [t];decide),by rw [t],rfl,rfl,rfl,rfl⟩⟩
 have d2:=decide_eq_true hw;simp only [BZ,d2,seval];refine ag (rC S.ok) ?_;intro h g;replace S:=S.call g;clear g;obtain⟨l,rfl⟩: ∃n:Nat,k=n:=⟨k.toNat,by omega⟩;obtain⟨v,rfl⟩: ∃n:Nat,s=n:=⟨s.toNat,by omega⟩;obtain⟨z,rfl⟩: ∃n:Nat,w=n:=⟨w.toNat,by omega⟩;have V:l<6:=by omega
 have eA:gD I.g.nodes A B (l:Nat) (v:Nat) (z:Nat)=if((!tw l||A)&&(!cw l||B))=true then 0 else 19:=by unfold gD;rw [if_neg (by omega),if_neg (by omega),if_neg (by omega)];rfl
 simp only [BZ];refine ao (lS (ord:=[4,0,1,2,3,5]) rfl rfl (by simp only [eh,pE,fI,Xq,Xr,XG,XA,XF,cond_true,cond_false,seval];exact rfl)) (q:=1) (ps:=[(1,3),(0,1)]) (by kernel_rfl) ?_;simp only [BZ,cls,seval];refine df aA S ?_;clear S;intro h O S a2 W;simp only [BZ,cls,seval];have k3:=S.key_lt (b:=u) (by simp [keys]);refine bU (all_ok S.ok) ?_;have k7:=S.key_lt (b:=O) (by simp [keys]);rintro _ h ⟨g,X,Y,rfl,L,M,z1,z2⟩;have v3:=am g k3;have v7:=am g k7;replace S:=S.call g;simp only [BZ,cls,ym V,S.ld (b:=u) (o:=0) m3 rfl,seval];refine cM (S.store (i:=0) rfl Tryz.t126.2.1 (by intro x e;cases e) rfl (by simp only [ae,cU,wayV,Xg,Xh,fw_fl.2.1,Xa];rfl) (lbt rfl) ono) ?_;have al:=bA S.ok L;have ax:=bA S.ok M;clear S;rintro h ⟨S,K⟩;simp only [cU,wayV]at S;simp only [LC,ae,lay,Xe,Xd,seval]at S;replace L:h.load X 0 1=some [.func (.func 45) #[] #[]]:=by have:=K.get X al (fun e=>by have e:X=O:=e;omega);rw [<-L];simp only [Hp.load,this]
 replace M:h.load Y 0 1=some [.func (.func 50) #[] #[]]:=by have:=K.get Y ax (fun e=>by have e:Y=O:=e;omega);rw [<-M];simp only [Hp.load,this]
 clear K;simp only [BZ,seval];refine⟨by simp only [aJ,aR,aH,aT,aI,ne_eq,not_false_eq_true,aY,bC,aQ,aN,bF,bW,aD,Xa,ah,dh,<-W,au v3,ar v3,au v7,ar v7,seval],?_⟩;simp only [BZ,Xb,zO,Xc,S.lds (b:=O) (o:=0) (n:=3) m0 (lbt rfl),S.ld (b:=b2) (o:=0) m4 rfl,seval];have hH:=hasB_ok (f:=fw X Y l) (x:=tw l) (y:=cw l) S.ok (R.gr S.gr) ai ak fw_fl;unfold wayV at hH;refine ag hH ?_;intro h g;replace L:=g.load L;replace M:=g.load M;replace S:=S.call g;clear g hH;by_cases hB:((!tw l||A)&&(!cw l||B))=true;rotate_left
 . have t:gD I.g.nodes A B (l:Nat) (v:Nat) (z:Nat)=19:=(by rw [eA,if_neg hB]);rw [eq_false_of_ne_true hB];simp only [BZ,seval];refine jo (qY S.ok) ?_;rintro _ D h4 ⟨rfl,E⟩;replace S:=S.call E;simp only [BZ];refine eH (nY (cK (ry S.ok (S.own _ m2).2 (S.own _ m1).2 rfl rfl (S.ne01 (i:=2) (j:=1) rfl rfl (by decide))) fun o D h' ⟨a,e,f,F,G⟩=>⟨a,_,_,e,cd ?_⟩));have H:Gr h0 h':=(S.fr.trans f (fun i J=>.inr (by rcases J with rfl|rfl;exact m;exact p)):Mo NoM h0 h').gr;simp only [if_true];refine(bw (by decide) (by simp only [aD,ah,seval];exact bj Tryz.t43.1 Tryz.t43.2.1 (F.load (o:=0) (n:=4) (lbt rfl)))).2 ?_;refine(bw (by decide) (by simp only [aD,ah,seval];exact mw Tryz.t44.2.1 (G.load1 (o:=0) rfl))).2 ?_;exact bS.2 ⟨H,_,_,_,_,_,rfl,aU,aU,aU,.inl ⟨.inl (by rw [t];decide),by rw [t],rfl,rfl,rfl,rfl⟩⟩
 rw [if_pos hB]at eA;rw [hB];simp only [BZ,seval];refine ag (rC S.ok) ?_;intro h g;replace L:=g.load L;replace M:=g.load M;replace S:=S.call g;clear g;by_cases Z:v=z
 . have c1:((v:Int)=(z:Int))=True:=eq_true (by omega);subst Z;simp only [BZ,Xb,zO,Xc,S.ld (b:=u) (o:=1) m3 rfl,S.ld (b:=u) (o:=2) m3 rfl,S.lds (b:=N) (o:=0) (n:=4) m2 (lbt rfl),seval];refine aC (S.store (i:=2) rfl Tryz.t43.2.1 (by intro x e;cases e) rfl rfl (lbt rfl) ono) ?_;clear S;rintro h ⟨S,K⟩;simp only [LC,ae,lay,Xe,Xd,seval]at S;simp only [BZ,seval];refine aC (aE S (i:=1) rfl Tryz.t44.2.2.1 aU (Xk (lbt rfl)) ono) ?_;clear S;rintro h ⟨S,K⟩;simp only [LC,ae,lay,Xe,Xd,seval]at S;simp only [BZ];refine dq (un_fn (cK (ask1_ok S.ok) fun _ _ h' ⟨a,e,g⟩=>⟨a,e,cd ⟨rfl,?_⟩⟩));replace S:=S.call g;refine(bw (by decide) (by simp only [aD,ah,seval];exact bj Tryz.t43.1 Tryz.t43.2.1 (S.lds (b:=N) (o:=0) (n:=4) m2 (lbt rfl)))).2 ?_;refine(bw (by decide) (by simp only [aD,ah,seval];exact mw Tryz.t44.2.1 (S.ld m1 rfl))).2 ?_;exact bS.2 ⟨S.gr,0,0,_,_,_,rfl,aU,aU,aU,.inl ⟨.inr (by trivial),eA.symm,rfl,rfl,rfl,rfl⟩⟩
 . have c1:((v:Int)=(z:Int))=False:=eq_false (by omega);simp only [BZ,c1,Xb,zO,Xc,S.ld (b:=u) (o:=1) m3 rfl,S.ld (b:=u) (o:=2) m3 rfl,S.ld (b:=O) (o:=2) m0 rfl,S.ld (b:=b2) (o:=0) m4 rfl,S.lds (b:=u) (o:=0) (n:=4) m3 (lbt rfl),seval];have kk: ∀c∈[O,b5,N,u,b2],c<_:=fun c hc=>S.key_lt (by simpa [keys]using hc);obtain⟨ay,aL⟩:(tw l=true->A=true)/\(cw l=true->B=true):=(by revert hB;cases tw l<;>cases cw l<;>cases A<;>cases B<;>simp);obtain⟨g,x,c,ef,hr⟩:=Q l v z rfl rfl rfl V (by omega) (by omega) ay aL Z _ X Y S.gr L M;simp only [BZ,ef];refine step_ret hr ?_;rintro _ h ⟨g,c,d,vA,U,vE,rfl,nV,o⟩;obtain⟨fA,fB,fE⟩:=pm.fl o;replace S:=S.call g;simp only [BZ,ansV,seval];refine aC (S.store (i:=2) rfl Tryz.t43.2.1 (by intro x e;cases e) rfl (by simp only [ae,Xg,Xh,fA.2.1,fB.2.1,Xa];rfl) (lbt rfl) ono) ?_;clear S;rintro h ⟨S,K⟩;simp only [LC,ae,lay,Xe,Xd,seval]at S;replace o:=pm.mo o K (fun x hx e=>by have e:x=N:=e;have:=nV x hx;have:=kk N m2;omega);simp only [BZ,seval];refine aC (aE S (i:=1) rfl Tryz.t44.2.2.1 fE (Xk (lbt rfl)) ono) ?_;clear S;rintro h ⟨S,K⟩;simp only [LC,ae,lay,Xe,Xd,seval]at S;replace o:=pm.mo o K (fun x hx e=>by have e:x=b5:=e;have:=nV x hx;have:=kk b5 m1;omega);simp only [BZ];refine dq (un_fn (cK (ask1_ok S.ok) fun _ _ h' ⟨a,e,g⟩=>⟨a,e,cd ⟨rfl,?_⟩⟩));replace S:=S.call g;refine(bw (by decide) (by simp only [aD,ah,seval];exact bj Tryz.t43.1 Tryz.t43.2.1 (S.lds (b:=N) (o:=0) (n:=4) m2 (lbt rfl)))).2 ?_;refine(bw (by decide) (by simp only [aD,ah,seval];exact mw Tryz.t44.2.1 (S.ld m1 rfl))).2 ?_;exact bS.2 ⟨S.gr,_,_,_,_,_,rfl,fA,fB,fE,.inr ⟨eA,by omega,pm.mo o g.fr (fun _ _ h=>h)⟩⟩
def qC(h:Hp)(D:Nat)(b a:List Nat)(c d:Int)(vA e:Value):Prop:=
 (FAR<=D/\c=20/\d=0/\vA=.slice none 0 0/\e=.slice none 0 0)\/(D<FAR/\c=0/\d=(D:Nat)/\az h 1 bK vA b/\az h 1 bK e a)
theorem qC.fl{h:Hp}{D:Nat}{b a:List Nat}{c d:Int}{vA e:Value}(t:qC h D b a c d vA e):Fl vA/\Fl e:=by
 rcases t with⟨_,_,_,rfl,rfl⟩|⟨_,_,_,x,y⟩
 . exact⟨aU,aU⟩
 . exact⟨x.fl,y.fl⟩
theorem qC.mo{M:Nat->Prop}{h h':Hp}{D:Nat}{f e:List Nat}{c d:Int}{vA i:Value}(t:qC h D f e c d vA i)(g:Mo M h h')(j: ∀x,(aq vA x\/aq i x)-> ¬M x):qC h' D f e c d vA i:=
 t.imp (fun h=>h) fun⟨a,b,c,x,y⟩=>⟨a,b,c,x.mo g fun z h=>j z (.inl h),y.mo g fun z h=>j z (.inr h)⟩
def AnsS(e:Gra)(als:List Bool)(pis:List Int)(a:List Nat)(s w:Nat)(h:Hp)(c d:Int)(vA f vE:Value):Prop:=
 ∃b,Ends e.arcs (alF als) (piF pis) w (oL (piF pis) s) b/\az h 4 iQ vE b.ev/\qC h b.dist b.arcs a c d vA f
def AnsD(e:Gra)(pis:List Int)(a:List Nat)(s w:Nat)(h:Hp)(c d:Int)(vA f vE:Value):Prop:=
 ∃b,pK e.arcs (fun _=>true) (fun v=>pis.getD v 0) (mZ (fun v=>pis.getD v 0) s w) b/\az h 4 jr vE b.ev/\qC h b.dist (arcsB b) a c d vA f
theorem ansS_pm{c:Gra}{als:List Bool}{a:List Nat}:Pm (AnsS c als pis a s w):=
 ⟨fun⟨_,_,e,t⟩=>⟨t.fl.1,t.fl.2,e.fl⟩,fun⟨d,x,e,t⟩ g b=>⟨d,x,e.mo g (fun z h=>b z (.inr (.inr h))),t.mo g fun z h=>b z (h.elim .inl fun h=>.inr (.inl h))⟩⟩
theorem ansD_pm{c:Gra}{a:List Nat}:Pm (AnsD c pis a s w):=
 ⟨fun⟨_,_,e,t⟩=>⟨t.fl.1,t.fl.2,e.fl⟩,fun⟨d,x,e,t⟩ g b=>⟨d,x,e.mo g (fun z h=>b z (.inr (.inr h))),t.mo g fun z h=>b z (h.elim .inl fun h=>.inr (.inl h))⟩⟩
def bestP(b:Gra)(l:List Int)(R Q:Nat->List Int)(s w:Nat)(a:Int):List Int:=(Xf b.nodes).map fun(v:Nat)=>iB b.nodes l.length R Q v w ((ii b.nodes l.length R Q s w a).map fun(x:Nat)=>(x:Int))
def onL(a:Gra)(b:Nat->Nat)(r:Nat):List Bool:=(Xf a.arcs.length).map (gu b ((a.arcs.length+7)/8) r)
def AnsK(b:Gra)(l:List Int)(R Q:Nat->List Int)(c d:Nat->Nat)(k:Nat)(s w:Nat)(a:Int):Hp->Int->Int->Value->Value->Value->Prop:=
 match k with
 |0=>AnsS b [] [] [] s w|1=>AnsD b [] [] s w|2=>AnsS b [] (bestP b l R Q s w a) (ii b.nodes l.length R Q s w a) s w|3=>AnsD b (twL b.nodes l R Q (natI (ii b.nodes l.length R Q s w a)) s w) (ii b.nodes l.length R Q s w a) s w|4=>AnsS b (onL b d (c w)) [] [] s w|_=>AnsS b (onL b d (c w)) (bestP b l R Q s w a) (ii b.nodes l.length R Q s w a) s w
theorem oY{b:Gra}{c d:Nat->Nat}{k:Nat}:Pm (AnsK b l R Q c d k s w a):=by
 unfold AnsK
 split<;>first|exact ansS_pm|exact ansD_pm
structure ImP(h:Hp)(b:Nat)(γ:Gra)(tb cb:Bool)(l:List Int)(R Q:Nat->List Int)(cf Bt:Nat->Nat)(Mc:Nat):Prop where
 good:Good γ
 ex: ∃bp nb pt pc pf,Row h b [ptrTo bp,pt,pc,pf] 1/\aS h nb (ptrTo bp) γ/\(tb=true-> ∃bt nt,pt=ptrTo bt/\TabAt h nt pt γ.nodes l R Q)/\(tb=false->pt=.pointer none)/\
  (cb=true-> ∃mb ck fp fb m,pc=ptrTo ck/\pf=ptrTo fp/\gG h mb pc γ.nodes m cf/\gP m+1=((Mc:Nat):Int)/\eu h fp fb Mc γ.arcs.length ((γ.arcs.length+7)/8) Bt)/\(cb=false->pc=.pointer none/\pf=.pointer none)
 tab:tb=true->1<=l.length/\iS γ.nodes l/\(∀i,i<l.length->(R i).length=γ.nodes)/\ ∀i,i<l.length->(Q i).length=γ.nodes
 no:tb=false->l=[]
 l4:l.length<=4
 cel:Mc<=100
theorem ImP.gr{h h':Hp}{b:Nat}{d:Gra}{f i:Bool}{l:List Int}{R Q:Nat->List Int}{j k:Nat->Nat}{n:Nat}(o:ImP h b d f i l R Q j k n)(g:Gr h h'):ImP h' b d f i l R Q j k n:=by
 obtain⟨a,⟨p,q,r,s,u,v,w,t1,t2,y,z⟩,x⟩:=o;refine⟨a,⟨p,q,r,s,u,v.gr g,w.gr g,fun e=>?_,t2,fun e=>?_,z⟩, ‹_›, ‹_›, ‹_›, ‹_›⟩
 . obtain⟨A,B,e,t⟩:=t1 e;exact⟨A,B,e,t.gr g⟩
 . obtain⟨C,D,E,F,m,G,H,c,I,J⟩:=y e;exact⟨C,D,E,F,m,G,H,c.gr g,I,J.gr g⟩
theorem Ao{T:List (List Int)}(a:T.length=n)(h: ∀r∈T,r.length=N/\ ∀x∈r,0<=x/\x<=72057594037927936): ∀i,i<n->(kT T i).length=N:=by
 intro i b;have e:kT T i=T[i]'(by omega):=by unfold kT;rw [Xp,Xn (by omega),Option.getD_some]
 rw [e];exact(h _ (List.getElem_mem _)).1
theorem mR.opened{I:Img}{k v:Prop}(M:mR h b I k v): ∃l R Q c d a,ImP h b I.g I.T.isSome I.C.isSome l R Q c d a/\(k->R=toR I.g l/\Q=frR I.g l)/\(v->I.C.isSome=true->OkB I.g c ((I.g.arcs.length+7)/8) a 0 d):=by
 obtain⟨w,N,n,p,x,O,R,P,q,r⟩:=M;obtain⟨l,g,j,t1,t2,t3,t4,t5,t6⟩: ∃l g j,(I.T.isSome=true-> ∃s t,n=ptrTo s/\TabAt h t n I.g.nodes l g j)/\(I.T.isSome=false->n=.pointer none)/\(I.T.isSome=true->1<=l.length/\iS I.g.nodes l/\(∀i,i<l.length->(g i).length=I.g.nodes)/\ ∀i,i<l.length->(j i).length=I.g.nodes)/\(I.T.isSome=false->l=[])/\l.length<=4/\(k->g=toR I.g l/\j=frR I.g l):=by
  cases H:I.T with
  | none=>
    rw [H]at q;exact⟨[],toR I.g [],frR I.g [],fun e=>(by cases e),fun _=>q,fun e=>(by cases e),fun _=>rfl,Xl _,fun _=>⟨rfl,rfl⟩⟩
  | some T=>
    rw [H]at q;obtain⟨⟨t,_,y⟩,f,J,K,own⟩:=q;obtain⟨s,_,_,_,e,_⟩:=id y.ex;by_cases o:k
    . have own:=own o;exact⟨T.l,toR I.g T.l,frR I.g T.l,fun _=>⟨s,t,e,y.congr (fun i z=>(own i z).1) (fun i z=>(own i z).2)⟩,fun e=>(by cases e),fun _=>⟨f.l1,K,fun i _=>toR_len,fun i _=>frR_len⟩,fun e=>(by cases e),J,fun _=>⟨rfl,rfl⟩⟩
    . exact⟨T.l,kT T.to,kT T.fr,fun _=>⟨s,t,e,y⟩,fun e=>(by cases e),fun _=>⟨f.l1,K,Ao f.to f.rTo,Ao f.fr f.rFr⟩,fun e=>(by cases e),J,fun h=>absurd h o⟩
 obtain⟨c,d,a,S,U,V,W⟩: ∃c d a,(I.C.isSome=true-> ∃A B u D m,p=ptrTo B/\x=ptrTo u/\gG h A p I.g.nodes m c/\gP m+1=((a:Nat):Int)/\eu h u D a I.g.arcs.length ((I.g.arcs.length+7)/8) d)/\(I.C.isSome=false->p=.pointer none/\x=.pointer none)/\a<=100/\(v->I.C.isSome=true->OkB I.g c ((I.g.arcs.length+7)/8) a 0 d):=by
  cases L:I.C with
  | none=>
    rw [L]at r;exact⟨fun _=>0,fun _=>0,0,fun e=>(by cases e),fun _=>r,Xl _,fun _ e=>(by cases e)⟩
  | some C=>
    rw [L]at r;obtain⟨m',F⟩:=C;obtain⟨_,A,c,B,u,D,a,d,X,Y,E,G,Z,bm,oB⟩:=r;exact⟨c,d,a,fun _=>⟨A,B,u,D,_,X,Y,E,G,bm⟩,fun e=>(by cases e),Z,fun o _=>oB o⟩
 exact⟨l,g,j,c,d,a,⟨w,⟨N,O,n,p,x,R,P,t1,t2,S,U⟩,t3,t4,t5,V⟩,t6,W⟩
theorem mcell_lt{f c:Nat}{m:List Int}{d:Nat->Nat}(a:gG h0 f p N m d)(g:gP m+1=((c:Nat):Int)): ∀v,v<N->d v<c:=fun v h=>by
 have i:=a.len;have j:=a.val v h;have b:v<m.length:=by omega
 have e:m.getD v 0=m[v]:=by rw [Xp,Xn b,Option.getD_some]
 have:=lmax_ge (List.getElem_mem b);omega
section
variable{h0:Hp}{b b1 b2:Nat}{γ:Gra}{tb cb:Bool}{l:List Int}{R Q:Nat->List Int}{cf Bt:Nat->Nat}{Mc:Nat}
theorem altK_ok{j nt:Nat}{m:Value}(o:OZ h0)(e:Good γ)(p:aS h0 n (ptrTo j) γ)(T:TabAt h0 nt k γ.nodes l R Q)(q: ∀i,i<l.length->(R i).length=γ.nodes)(u: ∀i,i<l.length->(Q i).length=γ.nodes)(M:1<=l.length)(N:l.length<=4)(v:Fl m)(O:s<γ.nodes)(P:w<γ.nodes)(x:s≠w):
 Ret zM 11 [ptrTo j,k,.agg ⟨[m,.int .i64 (s:Nat),.int .i64 (w:Nat),.int .i64 a]⟩] h0 (pz (AnsK γ l R Q cf Bt 2 s w a) h0):=by
 have y:lW γ.nodes γ.nodes l.length (s:Int) (w:Int)=0:=by unfold lW;rw [if_neg (by omega),if_neg (by omega),if_pos ⟨by omega,rfl⟩]
 refine(Dr (f:=s) (t:=w) (a:=a) o e p (.inl ⟨_,T,q,u⟩) (by omega) v).mono ?_;rintro r S ⟨g,c,d,z,A,B,rfl,C,⟨h,_⟩|⟨_,D,E,F,G,U,V,H,I,_,J,K,L⟩⟩
 . rw [y]at h;rcases h with h|h
   . exact absurd rfl h
   . omega
 . obtain rfl:E=s:=(by omega);obtain rfl:F=w:=(by omega);exact⟨g,c,d,z,A,B,rfl,C,G,J,K,L⟩
theorem twinK_ok{k o nt:Nat}{m n:Value}(p:OZ h0)(f:Good γ)(q:aS h0 o (ptrTo k) γ)(T:TabAt h0 nt m γ.nodes l R Q)(t: ∀i,i<l.length->(R i).length=γ.nodes)(u: ∀i,i<l.length->(Q i).length=γ.nodes)(v:1<=l.length)(H:l.length<=4)(x:Fl n)(y:s<γ.nodes)(z:w<γ.nodes)(h:s≠w):
 Ret zM 13 [ptrTo k,m,.agg ⟨[n,.int .i64 (s:Nat),.int .i64 (w:Nat),.int .i64 a]⟩] h0 (pz (AnsK γ l R Q cf Bt 3 s w a) h0):=by
 refine(Ei p f q T t u (by omega) v x y z (a:=a)).mono ?_;rintro r I ⟨g,c,d,A,B,C,rfl,D,j⟩;rcases j with⟨e,_⟩|⟨_,E,F,G,j⟩
 . exact absurd e h
 . exact⟨g,c,d,A,B,C,rfl,D,E,F,G,j⟩
theorem Co{v L q:Nat}{x:Value}(M:OZ h0)(j:Good γ)(y:aS h0 L (ptrTo v) γ)(T:TabQ h0 x q l R Q)(Z:l.length<=4){z A O:Nat}{m:List Int}(e:gG h0 N (ptrTo z) γ.nodes m cf)(n:gP m+1=((Mc:Nat):Int))(P:Mc<=100)(B:eu h0 A O Mc γ.arcs.length ((γ.arcs.length+7)/8) Bt)
 {k:Nat} (C:k=4\/k=5) (S:k=5->q=γ.nodes/\1<=l.length)   (hs:s<γ.nodes) (hw:w<γ.nodes) (U:s≠w):
 Ret zM 14 [ptrTo v,x,.agg ⟨[ptrTo z,ptrTo A]⟩,.agg ⟨[.int .i64 (k:Nat),.int .i64 (s:Nat),.int .i64 (w:Nat),.int .i64 a]⟩] h0 (pz (AnsK γ l R Q cf Bt k s w a) h0):=by
 have o:((k:Nat):Int)=4\/((k:Nat):Int)=5:=by omega
 refine(DC (f:=s) (t:=w) (a:=a) (way:=(k:Nat)) M j y T (by omega) bD bD (Eb j y e n B) (fun _=>⟨e,rfl,B,P,rfl,mcell_lt e n⟩)).mono ?_;rintro r h' ⟨g,c,d,D,E,F,rfl,G,i⟩;have p:kC true (k:Nat) l.length q γ.nodes=true:=by
  unfold kC;rcases C with rfl|rfl
  . rfl
  . obtain⟨u,H⟩:=S rfl;simp [u];omega
 have u:decide (((k:Nat):Int)=4\/((k:Nat):Int)=5)=true:=decide_eq_true o;have H:decide (0<=(s:Int)/\(s:Int)<(γ.nodes:Int))=true:=decide_eq_true (by omega);have V:decide (0<=(w:Int)/\(w:Int)<(γ.nodes:Int))=true:=decide_eq_true (by omega);rw [p,u,H,V]at i;have W:tQ true true true true=0:=rfl;rw [W]at i;rcases i with⟨h,_⟩|⟨_,X,Y,I,es,ew,_,_,_,J,K,i⟩
 . rcases h with h|h
   . exact absurd rfl h
   . omega
 . obtain rfl:X=s:=(by omega);obtain rfl:Y=w:=(by omega);rcases C with rfl|rfl
   . exact⟨g,c,d,D,E,F,rfl,G,I,J,K,i⟩
   . exact⟨g,c,d,D,E,F,rfl,G,I,J,K,i⟩
theorem wayK_ok(f:ImP h0 b γ tb cb l R Q cf Bt Mc){k:Nat}(M:k<6)(q:s<γ.nodes)(t:w<γ.nodes)(B:tw k=true->tb=true)(V:cw k=true->cb=true)(i:s≠w)(u:OZ h0)(y1:h0.load b1 0 1=some [.func (.func 45) #[] #[]])(y2:h0.load b2 0 1=some [.func (.func 50) #[] #[]]):
 ∃g x c,fw b1 b2 k=.func (.func g) x c/\Ret zM g (x.toList++[ptrTo b,.agg ⟨[.int .i64 (k:Nat),.int .i64 (s:Nat),.int .i64 (w:Nat),.int .i64 a]⟩]++c.toList) h0 (pz (AnsK γ l R Q cf Bt k s w a) h0):=by
 have j:=f.good;obtain⟨bp,nb,W,X,Y,y,z,t1,t2,Z,c2⟩:=f.ex;have H:Fl W:=by
  cases tb with
  |true=>obtain⟨_,_,rfl,_⟩:=t1 rfl;exact bD
  |false=>rw [t2 rfl];exact bD
 have N:Fl X/\Fl Y:=by
  cases cb with
  |true=>obtain⟨_,_,_,_,_,rfl,rfl,_⟩:=Z rfl;exact⟨bD,bD⟩
  |false=>rw [(c2 rfl).1,(c2 rfl).2];exact⟨bD,bD⟩
 obtain⟨I,J⟩:=N;have n: ∀{k:Nat},k=4\/k=5->(k=5->tb=true)->cb=true-> ∀h,Gr h0 h->Ret zM 14 [ptrTo bp,W,.agg ⟨[X,Y]⟩,.agg ⟨[.int .i64 (k:Nat),.int .i64 (s:Nat),.int .i64 (w:Nat),.int .i64 a]⟩] h (pz (AnsK γ l R Q cf Bt k s w a) h):=by
  intro k M h5 O h g;obtain⟨mb,ck,fp,fb,m,rfl,rfl,C,D,bm⟩:=Z O;cases d:tb with
  | true=>
    obtain⟨_,_,E,F⟩:=f.tab d;obtain⟨bt,nt,rfl,T⟩:=t1 d;exact Co g.ok j (z.gr g) (.inl ⟨_,T.gr g,E,F⟩) f.l4 (C.gr g) D f.cel (bm.gr g) M (fun _=>⟨rfl,(f.tab d).1⟩) q t i
  | false=>
    exact Co g.ok j (z.gr g) (.inr ⟨t2 d,rfl,f.no d⟩) f.l4 (C.gr g) D f.cel (bm.gr g) M (fun e=>by rw [h5 e]at d;cases d) q t i
 have:k=0\/k=1\/k=2\/k=3\/k=4\/k=5:=by omega
 rcases this with rfl|rfl|rfl|rfl|rfl|rfl
 . refine⟨_,_,_,rfl,uR oY u y bD y1 aZ aZ fun h g=>?_⟩;refine(tR g.ok j (z.gr g) q t (vAl:=.slice none 0 0) (vPi:=.slice none 0 0) (als:=[]) (pis:=[]) (.inl ⟨rfl,rfl⟩) (.inl rfl) (.inl ⟨rfl,rfl⟩) (.inl rfl)).mono ?_;rintro r P ⟨g,v,G,rfl,⟨K,L,rfl,gA,gE,n1,n2⟩,o⟩;have A:az P 1 bK K G.arcs:=gA.sl rfl (fun _=>rfl) (by decide);have p:az P 4 iQ L G.ev:=gE.sl rfl qS (by decide);rcases o with⟨e,_⟩|⟨_,o⟩
   . exact absurd e i
   exact⟨g,G.dist,K,L,rfl,A.fl,p.fl,fun x h=>h.elim (fun h=>(n1 x h).1) (n2 x),fun e=>⟨G,o,p,.inr ⟨e,rfl,rfl,A,.inl ⟨rfl,rfl⟩⟩⟩,fun e=>⟨G,o,p,.inl ⟨e,rfl,rfl,rfl,rfl⟩⟩⟩
 . refine⟨_,_,_,rfl,uR oY u y bD y2 aZ aZ fun h g=>?_⟩;refine(yt g.ok j (z.gr g) (vPi:=.slice none 0 0) (pis:=[]) (.inl ⟨rfl,rfl⟩) (.inr ⟨rfl,rfl⟩) q t i).mono ?_;rintro r P ⟨g,K,L,S,rfl,o,p,A,nV⟩;refine⟨g,S.dist,K,L,rfl,A.fl,p.fl,nV,fun e=>⟨S,o,p,.inr ⟨e,rfl,rfl,?_,.inl ⟨rfl,rfl⟩⟩⟩,fun e=>⟨S,o,p,.inl ⟨e,rfl,rfl,rfl,rfl⟩⟩⟩;rw [if_pos e]at A;exact A
 . obtain⟨U,_,E,F⟩:=f.tab (B rfl);obtain⟨bt,nt,rfl,T⟩:=t1 (B rfl);exact⟨_,_,_,rfl,Em oY u y bD H I J aZ aZ aZ aZ fun h g=>altK_ok g.ok j (z.gr g) (T.gr g) E F U f.l4 aZ q t i⟩
 . obtain⟨U,_,E,F⟩:=f.tab (B rfl);obtain⟨bt,nt,rfl,T⟩:=t1 (B rfl);exact⟨_,_,_,rfl,C6 oY u y bD H I J aZ aZ aZ aZ fun h g=>twinK_ok g.ok j (z.gr g) (T.gr g) E F U f.l4 aZ q t i⟩
 . exact⟨_,_,_,rfl,wJ oY u y bD H I J aZ aZ aZ aZ fun h g=>n (.inl rfl) (fun e=>by cases e) (V rfl) h g⟩
 . exact⟨_,_,_,rfl,wJ oY u y bD H I J aZ aZ aZ aZ fun h g=>n (.inr rfl) (fun _=>B rfl) (V rfl) h g⟩
theorem askK_ok(f:OZ h0){I:Img}{i j:Prop}(m:mR h0 b I i j)(n:ImP h0 b I.g I.T.isSome I.C.isSome l R Q cf Bt Mc){k s w:Int}:
 Ret zM 15 [ptrTo b,.agg ⟨[.int .i64 k,.int .i64 s,.int .i64 w,.int .i64 a]⟩] h0 fun r h'=>Gr h0 h'/\ ∃c d vA e vE,r=.tuple #[ansV c d vA e,vE]/\Fl vA/\Fl e/\Fl vE/\
  (((gD I.g.nodes I.T.isSome I.C.isSome k s w≠0\/s=w)/\c=gD I.g.nodes I.T.isSome I.C.isSome k s w/\d=0/\vA=.slice none 0 0/\e=.slice none 0 0/\vE=.slice none 0 0)\/
   (gD I.g.nodes I.T.isSome I.C.isSome k s w=0/\s≠w/\AnsK I.g l R Q cf Bt k.toNat s.toNat w.toNat a h' c d vA e vE)):=
 askAny_ok oY f m fun C D E o p q t u v x y z h b1 b2 g A B=>by subst o p q;exact wayK_ok (n.gr g) t u v x y z g.ok A B
end
def keyE(e:Ev2):Value:=.agg ⟨[.int .i64 (e.kind:Nat),.int .i64 (jG e.side:Nat),.int .i64 (e.id:Nat)]⟩
def sameK(a b:Ev2):Prop:=a.kind=b.kind/\a.side=b.side/\a.id=b.id
instance (a b:Ev2):Decidable (sameK a b):=by unfold sameK;infer_instance
section
variable{γ:Gra}{l:List Int}{R Q:Nat->List Int}{cf Bt:Nat->Nat}{k s w:Nat}{a c d:Int}{h:Hp}{vA vB vE:Value}
theorem qC.code{D:Nat}{e b:List Nat}(o:qC h D e b c d vA vB):(c=20/\d=0/\vA=.slice none 0 0/\vB=.slice none 0 0)\/c=0:=o.imp (fun x=>x.2) fun x=>x.2.1
theorem AnsK.code{s w:Nat}(o:AnsK γ l R Q cf Bt k s w a h c d vA vB vE):(c=20/\d=0/\vA=.slice none 0 0/\vB=.slice none 0 0)\/c=0:=by
 unfold AnsK at o
 split at o<;>(obtain⟨_,_,_,t⟩:=o;exact t.code)
end
theorem xO(b:OZ h0){k:Nat}(c:k<6):aO zM 18 [.int .i64 (k:Nat)] h0 (.tuple #[.bool (tw k),.bool (cw k)]):=by
 have S:=Si b;obtain⟨x,a⟩: ∃x:Int,(k:Int)=x:=⟨_,rfl⟩;rw [a];have:(k=0/\x=0)\/(k=1/\x=1)\/(k=2/\x=2)\/(k=3/\x=3)\/(k=4/\x=4)\/(k=5/\x=5):=by omega
 clear a c;rcases this with⟨rfl,rfl⟩|⟨rfl,rfl⟩|⟨rfl,rfl⟩|⟨rfl,rfl⟩|⟨rfl,rfl⟩|⟨rfl,rfl⟩
 all_goals
  refine aa (n:=20) (rs:=[.tmp 2,.tmp 3]) rfl Tryz.e18 rfl rfl rfl (lbt rfl) ?_;simp only [BZ,ab,seval];exact⟨rfl,S.gr⟩
theorem CN  (D:OZ h0) {f:Gra} {t z:Value} (E:Fl t) (F:Fl u) (G:Fl v) (H:Fl z) {k s w:Int} {c d:Bool}:
 aO zM 21 [jh f t u v,.bool c,.bool d,.agg ⟨[.int .i64 k,.int .i64 s,.int .i64 w,z]⟩] h0 (.int .i64 (gD f.nodes c d k s w)):=by
 have S:=Si D;refine aa (n:=57) (rs:=[.tmp 8]) rfl Tryz.e21 rfl rfl rfl (lbt rfl) ?_;simp only [BZ,jh,seval];refine ac (aV (by intro x e;cases e)) S ?_;clear S;intro h p S A;simp only [ae]at S;simp only [BZ,if_false,seval];refine ac (aV (by intro x e;cases e)) S ?_;clear S;intro h a S B;simp only [ae]at S;by_cases i:k<0
 . have e:gD f.nodes c d k s w=16:=if_pos (by omega);simp only [BZ,ab,i,S.ld (b:=a) (o:=0) m0 rfl,seval];exact⟨by rw [e],S.gr⟩
 by_cases j:6<=k
 . have e:gD f.nodes c d k s w=16:=if_pos (by omega);simp only [BZ,ab,i,j,S.ld (b:=a) (o:=0) m0 rfl,seval];exact⟨by rw [e],S.gr⟩
 by_cases m:s<0
 . have e:gD f.nodes c d k s w=17:=(by unfold gD;rw [if_neg (by omega),if_pos (by omega)]);simp only [BZ,ab,i,j,m,S.ld (b:=a) (o:=0) m0 rfl,S.ld (b:=a) (o:=1) m0 rfl,seval];exact⟨by rw [e],S.gr⟩
 by_cases q:(f.nodes:Int)<=s
 . have e:gD f.nodes c d k s w=17:=(by unfold gD;rw [if_neg (by omega),if_pos (by omega)]);simp only [BZ,ab,i,j,m,q,S.ld (b:=p) (o:=0) m1 rfl,S.ld (b:=a) (o:=0) m0 rfl,S.ld (b:=a) (o:=1) m0 rfl,seval];exact⟨by rw [e],S.gr⟩
 by_cases r:w<0
 . have e:gD f.nodes c d k s w=18:=(by unfold gD;rw [if_neg (by omega),if_neg (by omega),if_pos (by omega)]);simp only [BZ,ab,i,j,m,q,r,S.ld (b:=p) (o:=0) m1 rfl,S.ld (b:=a) (o:=0) m0 rfl,S.ld (b:=a) (o:=1) m0 rfl,S.ld (b:=a) (o:=2) m0 rfl,seval];exact⟨by rw [e],S.gr⟩
 by_cases C:(f.nodes:Int)<=w
 . have e:gD f.nodes c d k s w=18:=(by unfold gD;rw [if_neg (by omega),if_neg (by omega),if_pos (by omega)]);simp only [BZ,ab,i,j,m,q,r,C,S.ld (b:=p) (o:=0) m1 rfl,S.ld (b:=a) (o:=0) m0 rfl,S.ld (b:=a) (o:=1) m0 rfl,S.ld (b:=a) (o:=2) m0 rfl,seval];exact⟨by rw [e],S.gr⟩
 obtain⟨l,rfl⟩: ∃n:Nat,k=n:=⟨k.toNat,by omega⟩;have e:gD f.nodes c d (l:Nat) s w=if((!tw l||c)&&(!cw l||d))=true then 0 else 19:=by unfold gD;rw [if_neg (by omega),if_neg (by omega),if_neg (by omega)];rfl
 simp only [BZ,i,j,m,q,r,C,S.ld (b:=p) (o:=0) m1 rfl,S.ld (b:=a) (o:=0) m0 rfl,S.ld (b:=a) (o:=1) m0 rfl,S.ld (b:=a) (o:=2) m0 rfl,seval];refine ag (xO S.ok (show l<6 by omega)) ?_;intro h g;replace S:=S.call g;clear g;rw [e];generalize tw l=x;generalize cw l=y;cases x
 . cases y
   . simp only [BZ,ab,seval];exact⟨rfl,S.gr⟩
   . cases d
     all_goals
      simp only [BZ,ab,seval];exact⟨rfl,S.gr⟩
 . cases y
   . cases c
     all_goals
      simp only [BZ,ab,seval];exact⟨rfl,S.gr⟩
   . cases c
     . simp only [BZ,ab,seval];exact⟨rfl,S.gr⟩
     . cases d
       all_goals
        simp only [BZ,ab,seval];exact⟨rfl,S.gr⟩
theorem Dw(a:OZ h0):aO zM 7 [] h0 (.bool true):=ret_orc rfl ⟨rfl,Gr.refl a⟩
theorem SlW.grN{h':Hp}{kd:IntKind}(s:SlW h kd v l)(g:Gr h h'):SlW h' kd v l:=s.imp (fun h=>h) (fun⟨b,o,c,e,a,d⟩=>⟨b,o,c,e,a,g.load d⟩)
theorem queryI_ok(u:OZ h0){l m:Value}{f:Nat}{way:Int}(hf:f<=255)(C:t<=255)(D:1<=N)(v:N<=1000)(E:Fl j)(F:Fl k)(G:Fl l)(H:Fl m)(e4:Fl p):aO zM 12 [.agg ⟨[j,k,l,m,p,.int .u8 (f:Nat),.int .u8 (t:Nat),.int .i8 a]⟩,.int .i64 (N:Nat),.int .i64 way] h0 (.agg ⟨[.int .i64 way,.int .i64 ((f%N:Nat):Int),.int .i64 ((t%N:Nat):Int),.int .i64 (an .i64 a)]⟩):=by
 have S:=Si u;have w:an .i64 (f:Int)=(f:Int):=by rw [wrap64]<;>omega
 have y:an .i64 (t:Int)=(t:Int):=by rw [wrap64]<;>omega
 have z:(N:Int)≠0:=by omega
 have c:(f:Int).tmod (N:Int)=((f%N:Nat):Int):=by rw [XB (by omega)];exact(Int.natCast_emod _ _).symm
 have d:(t:Int).tmod (N:Int)=((t%N:Nat):Int):=by rw [XB (by omega)];exact(Int.natCast_emod _ _).symm
 refine aa (n:=22) (rs:=[.cell 6 48]) rfl Tryz.e12 rfl rfl rfl (lbt rfl) ?_;simp only [BZ,seval];refine ac (aV (by intro x e;cases e)) S ?_;clear S;intro h g S r;simp only [ae]at S;simp only [BZ];refine ac aA S ?_;clear S;intro h A S s;simp only [BZ];refine ao (av rfl) (q:=0) (ps:=[]) (by kernel_rfl) ?_;simp only [BZ,jz,cP,ju,cls,w,y,jL z,c,d,S.ld (b:=g) (o:=5) m1 rfl,S.ld (b:=g) (o:=6) m1 rfl,S.ld (b:=g) (o:=7) m1 rfl,seval];refine cM (S.store (i:=0) rfl ?_ ?_ rfl rfl ?_ ono) ?_
 . exact(by exact Tryz.t7.2.1)
 . exact(by intro x e;cases e)
 . exact lbt rfl
 clear S;rintro h ⟨S,B⟩;clear B;simp only [LC,ae,lay,Xe,Xd,seval]at S;simp only [BZ,ab,seval];refine(bw (by decide) (by simp only [aD,ah,seval];exact bj Tryz.t48.1 Tryz.t48.2.1 (S.lds (b:=A) (o:=0) (n:=4) m0 (lbt rfl)))).2 ?_;exact bS.2 ⟨rfl,S.gr⟩
def iH(a b:Bool)(k:Nat):Bool:=(!tw k||a)&&(!cw k||b)
theorem eu.keep{h':Hp}{e a c:Nat}{B:Nat->Nat}(f:OZ h)(m:eu h d e a b c B)(g:eZ h h'):eu h' d e a b c B:=⟨g.row f m.r,g.row f m.b,m.lt⟩
theorem mR.keep{h h':Hp}{b:Nat}{I:Img}{t u:Prop}(d:OZ h)(y:mR h b I t u)(g:eZ h h'):mR h' b I t u:=by
 obtain⟨l,z,A,D,E,G,R,H,i,j⟩:=y;refine⟨l,z,A,D,E,G,g.row d R,H.keep d g,?_,?_⟩
 . cases w:I.T with
   |none=>rw [w]at i;exact i| some T=>
     rw [w]at i;obtain⟨⟨m,a,b⟩,c⟩:=i;exact⟨⟨m,a,b.keep d g⟩,c⟩
 . cases x:I.C with
   |none=>rw [x]at j;exact j| some C=>
     obtain⟨m,F⟩:=C;rw [x]at j;obtain⟨⟨k,n,o,e,f,B,⟨J,v,K,r,s,L,M⟩,N,O,P,Q,S⟩,U,V,W,X,Y,Z,Bt,e1,e2,p,q,hM,bm,oB⟩:=j;exact⟨⟨k,n,o,e,f,B,⟨J,v,K,g.row d r,s.keep d g,L,M⟩,N,O,P,Q.keep d g,S⟩,U,V,W,X,Y,Z,Bt,e1,e2,p.keep d g,q,hM,bm.keep d g,oB⟩
theorem D5 {hq:Hp} (p:OZ h0) (m:Gr hq h0) {b1:Nat} {I:Img} {P Q:Prop} (U:mR hq b I P Q) (V:h0.load b1 0 1=some [ptrTo b]):
 mJ zM 156 [] [ptrTo b1] h0 (fun c=>c=b1\/c<hq.n) (((Xf 6).filter (iH I.T.isSome I.C.isSome)).map fun(v:Nat)=>[.int .i64 (v:Nat)]):=by
 intro lb J Z hz Y h F s d;have D: ∀{h:Hp} {F:List Nat},ItS h0 (fun c=>c=b1\/c<hq.n) h F->mR h b I P Q:=fun s=>U.keep m.ok0 (s.keep m.keep m.n (fun c E=>.inr E));have toR: ∀{h:Hp} {F:List Nat},ItS h0 (fun c=>c=b1\/c<hq.n) h F-> ∀{l},Row hq b l 1->Row h b l 1:=fun s _ r=>(s.keep m.keep m.n (fun c E=>.inr E)).row m.ok0 r;have G:=U;obtain⟨af,bp,pt,pc,pf,nb,R,hn,u,z⟩:=G;have H:PtrB pt I.T.isSome:=by
  cases W:I.T with
  |none=>rw [W]at u;exact .inr ⟨rfl,u⟩|some T=>rw [W]at u;obtain⟨⟨_,_,x⟩,_⟩:=u;obtain⟨y,_,_,_,e,_⟩:=x.ex;exact .inl ⟨rfl,y,e⟩
 have K:PtrB pc I.C.isSome:=by
  cases X:I.C with
  |none=>rw [X]at z;exact .inr ⟨rfl,z.1⟩|some C=>rw [X]at z;obtain⟨_,_,_,y,_,_,_,_,e,_⟩:=z;exact .inl ⟨rfl,y,e⟩
 have A:=s.load p V (.inl rfl);refine enter (n:=23) (rs:=[]) rfl Tryz.e156 rfl rfl rfl (lbt rfl) ?_;simp only [BZ,A,seval];refine ag (CG s.ok (D s).at) ?_;intro h2 g;simp only [BZ,seval];refine step_ret (all_ok g.ok) ?_;rintro _ q ⟨L,j,k,rfl,y1,y2,z1,z2⟩;replace s:=(s.gr g).gr L;replace d:=Y.gr _ _ _ _ (Y.gr _ _ _ _ d g) L;clear g L A y1 y2 z1 z2;simp only [BZ];refine aW (fun(i:Nat) t h=>i<=6/\ ∃F,ItS h0 (fun c=>c=b1\/c<hq.n) h F/\J ((Xf i).filter (iH I.T.isSome I.C.isSome)).length h F/\t 0=.func (.yield lb) #[] #[]/\t 1=ptrTo b1/\t 8=.agg ⟨cU j k 0++(cU j k 1++(cU j k 2++(cU j k 3++(cU j k 4++cU j k 5))))⟩/\t 9=.int .i64 i) (fun i=>6-i) ?_ 0 _ _ ?_
 . clear s d F h h2 q;intro i ih t h ⟨hi,F,s,d,r0,r1,r8,r9⟩;have w:an .i64 ((i:Int)+1)=((i+1:Nat):Int):=(by rw [wrap64]<;>omega);by_cases hlt:i<6
   . have M:((i:Int)<6)=True:=eq_true (by omega);have S:=Si s.ok;simp only [BZ,r8,r9,M,ym hlt,seval];refine ac aA S ?_;clear S;intro h b4 S ad;simp only [BZ,seval];refine aC (S.store (i:=0) rfl Tryz.t126.2.1 (by intro x e;cases e) rfl (by simp only [ae,cU,wayV,Xg,Xh,fw_fl.2.1,Xa];rfl) (lbt rfl) ono) ?_;clear S;rintro h ⟨S,mo⟩;simp only [cU,wayV]at S;simp only [LC,ae,lay,Xe,Xd,seval]at S;clear mo;have l4:=(S.row (b:=b4) m0).load (o:=0) (n:=3) (Xm 3);simp only [Xb,zO,Xc]at l4;have gS:=S.gr;replace s:=s.gr gS;replace d:=Y.gr _ _ _ _ d gS;have A:=s.load p V (.inl rfl);simp only [BZ,r1,l4,A,seval];have hH:=hasB_ok (f:=fw j k i) (x:=tw i) (y:=cw i) s.ok (toR s R) H K fw_fl;unfold wayV at hH;refine ag hH ?_;intro h2 g;replace d:=Y.gr _ _ _ _ d g;replace s:=s.gr g;obtain⟨hb,B⟩: ∃x,iH I.T.isSome I.C.isSome i=x:=⟨_,rfl⟩;have N:((!tw i||I.T.isSome)&&(!cw i||I.C.isSome))=hb:=B;rw [N];cases hb with
     | true=>
       have hx:(((Xf 6).filter (iH I.T.isSome I.C.isSome)).map fun(v:Nat)=>[Value.int .i64 (v:Nat)])[((Xf i).filter (iH I.T.isSome I.C.isSome)).length]? =some [.int .i64 (i:Nat)]:=(by rw [Xs,sU B _ hlt];rfl);have O:((Xf (i+1)).filter (iH I.T.isSome I.C.isSome)).length=((Xf i).filter (iH I.T.isSome I.C.isSome)).length+1:=(by rw [jc,if_pos B];simp);simp only [BZ,r0,seval];refine dg Y s d (i:=((Xf i).filter (iH I.T.isSome I.C.isSome)).length) hx ?_ ?_ ?_
       . intro q F3 a s3 _ _;simp only [BZ,r9,w,seval];exact ih (i+1) _ _ (by omega) ⟨by omega,F3,s3,by rw [O];exact a,by simp [aB,r0,r1,ah,r8]⟩
       . intro q a _;simp only [BZ,seval];exact ie rfl ⟨rfl,.inr (.inl ⟨_,rfl,a⟩)⟩
       . intro v q a;exact absurd a (hz v q)
     | false=>have O:(Xf (i+1)).filter (iH I.T.isSome I.C.isSome)=(Xf i).filter (iH I.T.isSome I.C.isSome):=(by rw [jc,if_neg (by rw [B];decide)];simp);simp only [BZ,r9,w,seval];exact ih (i+1) _ _ (by omega) ⟨by omega,F,s,by rw [O];exact d,by simp [aB,r0,r1,ah,r8]⟩
   . have M:((i:Int)<6)=False:=eq_false (by omega);simp only [BZ,r9,M,seval];have:i=6:=(by omega);subst this;exact cy (cd ⟨rfl,_,rfl,rfl,.inl ⟨_,F,rfl,by simpa using d⟩⟩)
 . exact⟨Xl _,F,s,d,by simp [aB,dh,ah]⟩
theorem ways_ok(d:OZ h0){I:Img}{i j:Prop}(k:mR h0 b I i j):
 Ret zM 20 [ptrTo b] h0 fun r h'=>Gr h0 h'/\az h' 1 bK r ((Xf 6).filter (iH I.T.isSome I.C.isSome))/\ ∀c,aq r c->h0.n<=c:=by
 have l:Ret zM 65 [ptrTo b] h0 fun r h'=>Gr h0 h'/\ ∃a,r=.func (.func 156) #[] #[ptrTo a]/\h'.load a 0 1=some [ptrTo b]:=by have S:=Si d;refine aa (n:=4) (rs:=[.tmp 2]) rfl Tryz.e65 rfl rfl rfl (lbt rfl) ?_;simp only [BZ,seval];refine ac (bJ (by exact bD)) S ?_;clear S;intro h a S e;simp only [BZ,ab,seval];exact⟨S.gr,a,rfl,S.ld m0 rfl⟩
 have S:=Si d;refine aa (n:=6) (rs:=[.tmp 2]) rfl Tryz.e20 rfl rfl rfl (lbt rfl) ?_;simp only [BZ,seval];refine step_ret l ?_;rintro _ h ⟨g,a,rfl,m⟩;simp only [BZ,seval];have o:((Xf 6).filter (iH I.T.isSome I.C.isSome)).length<100000:=Nat.lt_of_le_of_lt (Xu _ _) (by rw [XC];omega);refine step_ret (sb g.ok (iter_w (D5 g.ok g k m)) (fun _ h=>h.elim) o) ?_;rintro v p ⟨f,G,q⟩;have s:az p 1 bK v ((Xf 6).filter (iH I.T.isSome I.C.isSome)):=G.sl rfl (fun _=>rfl) (by decide);simp only [BZ,ab,seval];exact⟨g.trans f.gr,s,fun c t=>Xi g.n (q c t)⟩
theorem Dv  (s:OZ h0)  {m:List Int} (g:az h0 1 (encI .i64) u l) (r:az h0 1 (encI .i64) v m) (A:l.length<1000000):aO zM 19 [u,v] h0 (.bool (decide (l=m))):=by
 have S:=Si s;by_cases a:l.length=m.length
 . have hle:((l.length:Int)=(m.length:Int)):=(by omega);refine aa (n:=26) (rs:=[.tmp 4]) rfl Tryz.e19 rfl rfl rfl (lbt rfl) ?_;simp only [BZ,g.lenq,r.lenq,hle,seval];refine aW (fun(i:Nat) k h=>i<=l.length/\l.take i=m.take i/\Gr h0 h/\k 0=u/\k 1=v/\k 5=.int .i64 i) (fun i=>l.length-i) ?_ 0 _ _ ?_
   . clear S;intro i t k h ⟨hi,ht,S,r0,r1,r5⟩;by_cases hlt:i<l.length
     . obtain⟨c,o,d,j⟩:=(g.gr S).ix (kd:=.i64) (bO .i64) hlt;obtain⟨B,C,b,e⟩:=(r.gr S).ix (kd:=.i64) (bO .i64) (a▸hlt);have w:an .i64 ((i:Int)+1)=((i+1:Nat):Int):=(by rw [wrap64]<;>omega);by_cases p:l[i]=m[i]
       . simp only [BZ,r0,r5,g.lenq,aF,hlt,seval];refine ao (av rfl) (q:=0) (ps:=[]) (by kernel_rfl) ?_;simp only [BZ,cls,r0,r1,r5,d,j,b,e,encI,p,w,seval];refine t (i+1) _ _ (by omega) ⟨by omega,?_,S,by simp [aB,r0,r1]⟩;rw [Xt hlt,Xt (a▸hlt),ht,p]
       . have f:l≠m:=(by rintro rfl;exact p rfl);simp only [BZ,r0,r5,g.lenq,aF,hlt,seval];refine ao (av rfl) (q:=0) (ps:=[]) (by kernel_rfl) ?_;simp only [BZ,cls,ab,r0,r1,r5,d,j,b,e,encI,p,f,seval];exact S
     . have x:l=m:=(by have y:l.take i=l:=XL (by omega);have z:m.take i=m:=XL (by omega);rw [y,z]at ht;exact ht);subst x;simp only [BZ,ab,r0,r5,g.lenq,aF,hlt,seval];exact S
   . exact⟨Xl _,rfl,Gr.refl s,by simp [aB,cG,dr]⟩
 . have f:l≠m:=(by rintro rfl;exact a rfl);have hle: ¬((l.length:Int)=(m.length:Int)):=(by omega);refine aa (n:=26) (rs:=[.tmp 4]) rfl Tryz.e19 rfl rfl rfl (lbt rfl) ?_;simp only [BZ,ab,g.lenq,r.lenq,hle,f,seval];exact S.gr
theorem threeR_at{a0 a1 a2 a3 b0 b1 b2 b3 c0 c1 c2 c3:Value}{i:Nat}(a:i<3):iY zM 63 (.agg ⟨[a0,a1,a2,a3,b0,b1,b2,b3,c0,c1,c2,c3]⟩) (.int .i64 (i:Nat))=some (.agg ⟨if i=0 then [a0,a1,a2,a3]else if i=1 then [b0,b1,b2,b3]else [c0,c1,c2,c3]⟩):=by rcases(by omega:i=0\/i=1\/i=2)with rfl|rfl|rfl<;>rfl
theorem threeR_of{a0 a1 a2 a3 b0 b1 b2 b3 c0 c1 c2 c3:Value}:jQ zM 63 [(0,.agg ⟨[a0,a1,a2,a3]⟩),(1,.agg ⟨[b0,b1,b2,b3]⟩),(2,.agg ⟨[c0,c1,c2,c3]⟩)]=some (.agg ⟨[a0,a1,a2,a3,b0,b1,b2,b3,c0,c1,c2,c3]⟩):=rfl
theorem uk(ok:OZ h0){vB vO vM vN:Value}{af f:Nat}{E q1 q2 q3:Int}{B O ms ns:List Int}(hB:SlW h0 .u8 vB B)(hO:SlW h0 .u8 vO O)(cO: ∀x∈O,0<=x/\x<=255)(hM:SlW h0 .u8 vM ms)(bn: ∀x∈ms,0<=x/\x<=255)(hN:SlW h0 .i64 vN ns)(cN: ∀x∈ns,-9223372036854775808<=x/\x<=9223372036854775807)(hh:af<=255)(hf:f<=255)(ht:t<=255):
 aO zM 4 [.agg ⟨[vB,vO,vM,.int .u8 (af:Nat),vN,.int .u8 (f:Nat),.int .u8 (t:Nat),.int .i8 a]⟩,.agg ⟨[.int .i64 E,.int .i64 q1,.int .i64 q2,.int .i64 q3]⟩] h0 (.bool true):=by
 have S:=Si ok;have fB:=hB.sl.fl;have fO:=hO.sl.fl;have fM:=hM.sl.fl;have fN:=hN.sl.fl;have ca:=gQ;refine aa (n:=188) (rs:=[.tmp 4]) rfl Tryz.e4 rfl rfl rfl (lbt rfl) ?_;simp only [BZ,seval];refine ac (aV (by intro x e;cases e)) S ?_;clear S;intro h b2 S b5;simp only [ae]at S;simp only [BZ,if_false,seval];refine ac (aV (by intro x e;cases e)) S ?_;clear S;intro h b3 S b7;simp only [ae]at S;simp only [BZ,Xb,zO,Xc,S.lds (b:=b2) (o:=0) (n:=8) m1 (lbt rfl),seval];refine step_ret (made32_ok S.ok (hB.grN S.gr) (hO.grN S.gr) cO (hM.grN S.gr) bn (hN.grN S.gr) cN hh) ?_;rintro _ hm ⟨g,b,I,rfl,im,_,_⟩;replace S:=S.call g;obtain⟨l,R,Q,cf,Bt,Mc,ip,_,_⟩:=im.opened;have T:=ip.good;obtain⟨bp,nb,pt,pc,pf,R1,hn,t1,t2,c1,c2⟩:=id ip.ex;have n1:=T.n1;have n2:=T.n2;have ai:PtrB pt I.T.isSome:=by
  cases e:I.T.isSome with
  |true=>obtain⟨bt,_,e,_⟩:=t1 e;exact .inl ⟨rfl,bt,e⟩
  |false=>exact .inr ⟨rfl,t2 e⟩
 have ak:PtrB pc I.C.isSome:=by
  cases e:I.C.isSome with
  |true=>obtain⟨_,ck,_,_,_,e,_⟩:=c1 e;exact .inl ⟨rfl,ck,e⟩
  |false=>exact .inr ⟨rfl,(c2 e).1⟩
 have nT: ∀(x y:Operand),bV zM .neq 32 x y pt (.pointer none)=some (.bool I.T.isSome):=fun x y=>by rcases ai with⟨e,x,rfl⟩|⟨e,rfl⟩<;>rw [e]<;>rfl
 have nC: ∀(x y:Operand),bV zM .neq 33 x y pc (.pointer none)=some (.bool I.C.isSome):=fun x y=>by rcases ak with⟨e,x,rfl⟩|⟨e,rfl⟩<;>rw [e]<;>rfl
 have ft:Fl pt:=by rcases ai with⟨_,x,rfl⟩|⟨_,rfl⟩<;>exact bD
 have fc:Fl pc:=by rcases ak with⟨_,x,rfl⟩|⟨_,rfl⟩<;>exact bD
 have g0:=S.gr;have R0:=S.row (b:=b2) m1;have R3:=S.row (b:=b3) m0;have bo:=S.ok;have l0:=R1.load1 (o:=0) rfl;clear S;have S:=Si bo;simp only [BZ,l0,seval];refine step_ret (netRaw_ok S.ok T.b (hn.gr S.gr)) ?_;rintro _ h ⟨g,vx,vy,va,rfl,ga,_⟩;have al:=g.ok;clear S;have S:=Si al;have fx:=ga.X.fl;have fy:=ga.Y.fl;have fa:=ga.A.fl;simp only [BZ,jh];refine ac aA S ?_;clear S;intro h b6 S b8;simp only [BZ,seval];refine aC (S.store (i:=0) rfl Tryz.t57.2.1 (by intro x e;cases e) rfl (by simp only [ae,Xg,Xh,fx.2.1,fy.2.1,fa.2.1,Xa];rfl) (lbt rfl) ono) ?_;clear S;rintro h ⟨S,_⟩;simp only [LC,ae,lay,Xe,Xd,seval]at S;have R6:=S.row (b:=b6) m0;have bq:=S.ok;have M:=g.trans S.gr;clear S g al;rename Hp=>hr;replace im:=im.gr M;replace ip:=ip.gr M;replace R1:=R1.gr M;replace R0:=R0.gr M;replace R3:=R3.gr M;replace hn:=hn.gr M;replace g0:=g0.trans M;have hs:f%I.g.nodes<I.g.nodes:=Nat.mod_lt _ (by omega);have hw:t%I.g.nodes<I.g.nodes:=Nat.mod_lt _ (by omega);have ax:=R0.load (o:=0) (n:=8) (Xm 8);have br:=R6.load1 (o:=0) rfl;have ay:=R6.load (o:=0) (n:=4) (Xm 4);have bs:=R3.load1 (o:=0) rfl;have aL:=R3.load (o:=0) (n:=4) (Xm 4);have a4:=R1.load1 (o:=1) rfl;have a5:=R1.load1 (o:=2) rfl;simp only [Xb,zO,Xc]at ax ay aL;clear M l0;have S:=Si bq;replace S:=S.nilG (k:=1);simp only [BZ];refine rx (fun p h=> ∃D:Value,St NoM hr h [] [(D,1,((Xf 6).filter (iH I.T.isSome I.C.isSome)).flatMap bK)]/\p 2=ptrTo b2/\p 3=ptrTo b3/\p 5=ptrTo b/\p 6=ptrTo b6/\p 7=D) (fun(k:Nat) p h=>k<=6/\ ∃D:Value,St NoM hr h [] [(D,1,((Xf k).filter (iH I.T.isSome I.C.isSome)).flatMap bK)]/\p 2=ptrTo b2/\p 3=ptrTo b3/\p 5=ptrTo b/\p 6=ptrTo b6/\p 7=D/\p 8=.int .i64 (k:Nat)) (fun k=>6-k) ?_ ?_ 0 ?_
 . clear S;intro k N p h ⟨hk,D,S,G,F,r,z,r7,r8⟩;have wk:an .i64 ((k:Int)+1)=((k+1:Nat):Int):=(by rw [wrap64]<;>omega);by_cases hlt:k<6;rotate_left
   . have c6:((k:Int)<6)=False:=eq_false (by omega);obtain rfl:k=6:=(by omega);simp only [BZ,Xj,r8,seval];exact dH ⟨D,S,by simp [aB,G,ah,F,r,z,r7]⟩
   have c6:((k:Int)<6)=True:=eq_true (by omega);have mx:=S.gr.load a4;have my:=S.gr.load a5;generalize a6:Code.region 10 _ _=cc;simp only [BZ,r8,c6,seval];refine ag (xO S.ok hlt) ?_;intro h' g;replace S:=S.call g;replace mx:=g.load mx;replace my:=g.load my;simp only [BZ,seval];subst a6;refine xm (n:=188) (d:=[]) (rc:=none) (J:=fun u bu=>bu=h'/\u 2=ptrTo b2/\u 3=ptrTo b3/\u 5=ptrTo b/\u 6=ptrTo b6/\u 7=D/\u 8=.int .i64 (k:Nat)/\u 55=.bool (iH I.T.isSome I.C.isSome k)) ?_ ?_
   . unfold iH;clear N S g;generalize tw k=x;generalize cw k=y;generalize I.T.isSome=tb at*
     generalize I.C.isSome=cb at*
     cases x
     all_goals cases y
     all_goals cases tb
     all_goals cases cb
     all_goals
      simp only [BZ,r,mx,my,nT,nC,seval];exact dH ⟨rfl,by simp [aB,G,ah,F,r,z,r7,r8]⟩
   clear G F r z r7 r8;rintro u _ ⟨rfl,G,F,r,z,r7,r8,H⟩;by_cases hb:iH I.T.isSome I.C.isSome k=true
   . rw [hb]at H;simp only [BZ,r7,r8,H,seval];refine ac (ce (by exact Tryz.t41.1) (by exact Tryz.e3E) (by decide) (by rfl)) S ?_;clear S;intro h bt S b9;simp only [LC,bH,cg,ae,Nat.zero_mul,XP,XK,Nat.one_mul,seval]at S;simp only [BZ,seval];have a7:aK h 1 (.slice (some ⟨bt,0,none⟩) 1 1)=some (1,[.int .i64 (k:Nat)]):=(by simp only [aK];rw [S.lds (b:=bt) (o:=0) (n:=1*1) m0 (lbt rfl)];rfl);replace S:=S.drop1;have lf:(((Xf k).filter (iH I.T.isSome I.C.isSome)).flatMap bK).length<=k:=(by rw [nu];exact Xi (Xu _ _) (by rw [XC];exact Xm _));refine dE (S.grow (j:=0) (m:=1) (new:=[.int .i64 (k:Nat)]) rfl Tryz.t41.1 Tryz.e3E (by decide) Tryz.t41.2.2.2.2.2 a7 rfl (by decide) rfl (by simp only [Xy,XE,List.length_nil];omega)) ?_;clear S a7;rintro h bv S;have ek:((Xf (k+1)).filter (iH I.T.isSome I.C.isSome)).flatMap bK=((Xf k).filter (iH I.T.isSome I.C.isSome)).flatMap bK++[.int .i64 (k:Nat)]:=(by rw [List.range_succ,List.filter_append,Xw];simp [List.filter,hb,bK]);simp only [LC]at S;rw [<-ek]at S;simp only [BZ,r8,wk,seval];exact N (k+1) _ _ (by omega) ⟨by omega,bv,S,by simp [aB,G,ah,F,r,z]⟩
   . rw [eq_false_of_ne_true hb]at H;have ek:((Xf (k+1)).filter (iH I.T.isSome I.C.isSome)).flatMap bK=((Xf k).filter (iH I.T.isSome I.C.isSome)).flatMap bK:=(by rw [List.range_succ,List.filter_append,Xw];simp [List.filter,eq_false_of_ne_true hb]);rw [<-ek]at S;simp only [BZ,r8,H,wk,seval];exact N (k+1) _ _ (by omega) ⟨by omega,D,S,by simp [aB,G,ah,F,r,z,r7]⟩
 rotate_left
 . exact⟨Xl _,_,S,by simp [aB,ah]⟩
 clear S;rintro p h ⟨D,S,G,F,r,z,r7⟩;have sl:az h 1 bK D ((Xf 6).filter (iH I.T.isSome I.C.isSome)):=(S.gown _ m0).1.sl rfl (fun _=>rfl) (by decide);have C:=S.gr;have U:=S.ok;clear S;have S:=Si U;rename Hp=>hL;have a8:(((Xf 6).filter (iH I.T.isSome I.C.isSome)).map fun(x:Nat)=>(x:Int)).length<1000000:=by rw [XI];exact Nat.lt_of_le_of_lt (Xu _ _) (by rw [XC];omega)
 simp only [BZ,r,seval];refine step_ret (ways_ok S.ok (im.gr C)) ?_;rintro v h ⟨g,s2,_⟩;replace S:=S.call g;simp only [BZ,r7,seval];have hI:=Dv S.ok (sG s2) (sG (sl.gr g)) a8;rw [decide_eq_true rfl]at hI;refine ag hI ?_;intro h' g';replace S:=S.call g';clear hI s2 g g';replace C:=C.trans S.gr;have U:=S.ok;clear S;have S:=Si U;rename Hp=>hM;simp only [BZ,G,F,z,C.load ax,C.load br,C.load bs,seval];refine ag (queryI_ok S.ok hf ht n1 (by omega) fB fO fM aZ fN) ?_;intro h' g;replace S:=S.call g;clear g;simp only [BZ];refine ac aA S ?_;clear S;intro h ba S bx;simp only [BZ,seval];refine aC (S.store (i:=0) rfl ?_ ?_ rfl rfl ?_ ono) ?_
 . exact(by exact Tryz.t7.2.1)
 . exact(by intro x e;cases e)
 . exact lbt rfl
 clear S;rintro h ⟨S,mo⟩;clear mo;simp only [LC,ae,lay,Xe,Xd,seval]at S;generalize an .i64 a=a' at S;generalize f%I.g.nodes=s at*
 generalize t%I.g.nodes=w at*
 simp only [BZ,Xb,zO,Xc,S.lds (b:=ba) (o:=0) (n:=4) m0 (lbt rfl),seval];refine ac aA S ?_;clear S;intro h bb S bB;simp only [BZ,seval];refine aC (S.store (i:=0) rfl ?_ ?_ rfl rfl ?_ ono) ?_
 . exact(by exact Tryz.t7.2.1)
 . exact(by intro x e;cases e)
 . exact lbt rfl
 clear S;rintro h ⟨S,mo⟩;clear mo;simp only [LC,ae,lay,Xe,Xd,seval]at S;simp only [BZ,S.ld (b:=bb) (o:=1) m0 rfl,seval];refine aC (aE S (i:=0) rfl Tryz.t3.2.2.1 aZ (Xk (lbt rfl)) ono) ?_;clear S;rintro h ⟨S,_⟩;simp only [LC]at S;simp only [BZ,F,Xb,zO,Xc,threeR_of,S.gr.load (C.load aL),S.lds (b:=ba) (o:=0) (n:=4) m1 (lbt rfl),S.lds (b:=bb) (o:=0) (n:=4) m0 (lbt rfl),seval];replace C:=C.trans S.gr;have bE:=S.ok;clear S;rename Hp=>hP;refine aW (fun(i:Nat) p h=>i<=3/\Gr hP h/\p 5=ptrTo b/\p 6=ptrTo b6/\p 78=.agg ⟨[.int .i64 E,.int .i64 q1,.int .i64 q2,.int .i64 q3,.int .i64 E,.int .i64 (s:Nat),.int .i64 (w:Nat),.int .i64 a',.int .i64 E,.int .i64 (s:Nat),.int .i64 (s:Nat),.int .i64 a']⟩/\p 79=.int .i64 i) (fun i=>3-i) ?_ 0 _ _ ⟨Xl _,Gr.refl bE,by simp [aB,r,ah,z]⟩;clear G F r z r7;intro i N p h ⟨hi,gi,r,z,r78,r79⟩;have wi:an .i64 ((i:Int)+1)=((i+1:Nat):Int):=by rw [wrap64]<;>omega
 by_cases hlt:i<3;rotate_left
 . have c3:((i:Int)<3)=False:=eq_false (by omega);simp only [BZ,r79,c3,seval];refine ag (Dw gi.ok) ?_;intro h g;simp only [BZ,ab,seval];exact g0.trans (C.trans (gi.trans g))
 have c3:((i:Int)<3)=True:=eq_true (by omega);have bc:=threeR_at (a0:=.int .i64 E) (a1:=.int .i64 q1) (a2:=.int .i64 q2) (a3:=.int .i64 q3) (b0:=.int .i64 E) (b1:=.int .i64 (s:Nat)) (b2:=.int .i64 (w:Nat)) (b3:=.int .i64 a') (c0:=.int .i64 E) (c1:=.int .i64 (s:Nat)) (c2:=.int .i64 (s:Nat)) (c3:=.int .i64 a') hlt;obtain⟨k1,s1,w1,x1,eL⟩: ∃k1 s1 w1 x1:Int,(if i=0 then [Value.int .i64 E,.int .i64 q1,.int .i64 q2,.int .i64 q3]else if i=1 then [.int .i64 E,.int .i64 (s:Nat),.int .i64 (w:Nat),.int .i64 a']else [.int .i64 E,.int .i64 (s:Nat),.int .i64 (s:Nat),.int .i64 a'])=[.int .i64 k1,.int .i64 s1,.int .i64 w1,.int .i64 x1]:=by
  split
  . exact⟨_,_,_,_,rfl⟩
  split
  . exact⟨_,_,_,_,rfl⟩
  . exact⟨_,_,_,_,rfl⟩
 rw [eL]at bc;have S:=Si gi.ok;simp only [BZ,r78,r79,c3,bc,seval];refine ac aA S ?_;clear S;intro h bd S bL;simp only [BZ,seval];refine aC (S.store (i:=0) rfl ?_ ?_ rfl rfl ?_ ono) ?_
 . exact(by exact Tryz.t7.2.1)
 . exact(by intro x e;cases e)
 . exact lbt rfl
 clear S;rintro h ⟨S,mo⟩;clear mo;simp only [LC,ae,lay,Xe,Xd,seval]at S;simp only [BZ,r,Xb,zO,Xc,S.lds (b:=bd) (o:=0) (n:=4) m0 (lbt rfl),seval];have gx:=C.trans (gi.trans S.gr);refine step_ret (askK_ok S.ok (im.gr gx) (ip.gr gx)) ?_;rintro _ h ⟨g,c,d,vA,ch,vE,rfl,fA,bP,fE,oA⟩;replace S:=S.call g;clear g;simp only [BZ,ansV,seval];have A:=S.row (b:=bd) m0;have V:=C.trans (gi.trans S.gr);have gz:=gi.trans S.gr;have bT:=S.ok;clear S gx;rename Hp=>hq;have S:=Si bT;refine ac aA S ?_;clear S;intro h bX S bY;simp only [BZ,seval];refine aC (S.store (i:=0) rfl Tryz.t43.2.1 (by intro x e;cases e) rfl (by simp only [ae,Xg,Xh,fA.2.1,bP.2.1,Xa];rfl) (lbt rfl) ono) ?_;clear S;rintro h ⟨S,_⟩;simp only [LC,ae,lay,Xe,Xd,seval]at S;have K:=S.row (b:=bX) m0;replace A:=A.gr S.gr;replace V:=V.trans S.gr;replace gz:=gz.trans S.gr;have L:=S.ok;have gw:=S.gr;clear S;rename Hp=>hz;have S:=Si L;have P:=A.load (o:=0) (n:=4) (Xm 4);simp only [Xb,zO,Xc]at P;have be:=A.load1 (o:=1) rfl;have bf:=A.load1 (o:=2) rfl;have bh:=K.load1 (o:=0) rfl;have bi:=K.load1 (o:=1) rfl;have bk:=K.load1 (o:=2) rfl;have bl:=K.load1 (o:=3) rfl;have z6:=(R6.gr V).lt L;have z1:=(R1.gr V).lt L;have cj:=A.lt L;simp only [BZ,seval];refine ao (av rfl) (q:=0) (ps:=[]) (by kernel_rfl) ?_;simp only [BZ,cls,r,z,V.load ay,V.load a4,V.load a5,P,nT,nC,seval];refine bz (CN S.ok fx fy fa aZ) ?_;intro h g;replace S:=S.call g;clear g;have n0:=S.gr.load bh;have W:=S.gr.load bi;have X:=S.gr.load bk;have Y:=S.gr.load bl;have Z:=S.gr.load be;have ad:=S.gr.load bf;rcases oA with⟨he,rfl,rfl,rfl,rfl,rfl⟩|⟨he,bm,oA⟩
 . by_cases e0:gD I.g.nodes I.T.isSome I.C.isSome k1 s1 w1=0
   . obtain rfl:s1=w1:=(by rcases he with h|h;exact absurd e0 h;exact h);rw [e0]at n0;simp only [BZ,cls,Xj,r79,e0,n0,W,X,Y,Z,ad,wi,seval];exact N (i+1) _ _ (by omega) ⟨by omega,gz.trans S.gr,by simp [aB,r,ah,z,r78]⟩
   . simp only [BZ,cls,Xj,r79,e0,n0,W,X,Y,wi,seval];exact N (i+1) _ _ (by omega) ⟨by omega,gz.trans S.gr,by simp [aB,r,ah,z,r78]⟩
 . have b4:=oA.code;rcases b4 with⟨rfl,rfl,rfl,rfl⟩|rfl
   . simp only [BZ,cls,Xj,r79,he,(by decide: ¬(20:Int)=0),n0,W,X,Y,Z,ad,wi,bm,seval];exact N (i+1) _ _ (by omega) ⟨by omega,gz.trans S.gr,by simp [aB,r,ah,z,r78]⟩
   . simp only [BZ,cls,r79,he,n0,Z,ad,wi,bm,seval];exact N (i+1) _ _ (by omega) ⟨by omega,gz.trans S.gr,by simp [aB,r,ah,z,r78]⟩
section
open Go.ChangeShapes Go.WideShapes Go.RowKit
theorem rowAt_le{b:TypeId->Bool}{a off:Nat}(h:rowAt P b d e a off n=true):off<=a*P.cellsOf e:=by
 cases d with
 |zero=>cases h
 | succ d=>
   unfold rowAt at h;simp only []at h
   split at h
   . cases h
   . rename_i i;have c:0<P.cellsOf e:=(by omega);have f:=Nat.div_add_mod off (P.cellsOf e);simp only [Bool.or_eq_true,Bool.and_eq_true,beq_iff_eq,decide_eq_true_eq]at h;rcases h with⟨⟨g,j⟩,_⟩|⟨g,_⟩
     . have:P.cellsOf e*(off/P.cellsOf e)<=P.cellsOf e*a:=Nat.mul_le_mul_left _ (by omega);rw [Nat.mul_comm a];omega
     . have:P.cellsOf e*(off/P.cellsOf e+1)<=P.cellsOf e*a:=Nat.mul_le_mul_left _ (by omega);have hlt:=Nat.mod_lt off c;rw [Nat.mul_add,XK]at this;rw [Nat.mul_comm a];omega
theorem liesAt_le: ∀{e:TypeId} {a off:Nat} {u:TypeId} {n:Nat},liesAt P d e a off u n=true->off<=a*P.cellsOf e:=by
 induction d with
 |zero=>intro e a off u n h;cases h
 | succ d b=>
   intro e a off u n h;unfold liesAt at h;rw [Bool.or_eq_true]at h;rcases h with h|h
   . exact rowAt_le h
   . split at h
     . exact b h
     . cases h
theorem has_W{r:_root_.Go.Reach}{a:Addr}(h:W.has P r base a e n):a.spot=none/\a.block<W.heap.size/\ ∃l,(hpW W).load (a.block+16) a.off 0=some l:=by
 obtain⟨_,f,i,c,b,k⟩:=h;have hle:=liesAt_le k;have d:a.off<=c:=Xi hle (Nat.div_mul_le_self _ _);unfold World.shape? at b
 split at b
 next m q s g=>
  cases b;have hlt:=(Array.getElem?_eq_some_iff.1 g).1;have p:Row (hpW W) (a.block+16) (m.toList.map (lK W.heap.size)) 0:=⟨_,_,by rw [us,g];rfl,Tr.sized_ofList _,fun j=>Tr.get_ofList _ j⟩;exact⟨f,hlt,_,p.load (o:=a.off) (n:=0) (by simpa using d)⟩
 . cases b
section
variable{H:Type}{enc:TypeId×Value->H}{P:Program}
theorem qQ{s:TypeId}{k:IntKind}{c:Value}{C:Nat->Bool}{D:Bool}{x:DataW H×List MemPlace}(v:P.underlying s=some (.slice e))(E:P.underlying e=some (.int k))(F:P.cellsOf e=1)
 (b:Cell.okWide P W .any base s c) (h:DataW.trod enc P W 0 C D n s [c]=some x): ∃d:List Int,SlW (hpW W) k (lK W.heap.size c) d/\(∀z∈d,(Lit.int k z).wf=true)/\d.length<=9223372036854775807:=by
 rcases Go.ChangeShapes.open_ints v E F h with⟨w,_⟩|⟨a,g,o,d,w,I,A,J,p,_,j,y⟩
 . cases w;exact⟨[],.inl ⟨rfl,rfl⟩,fun z p=>(by cases p),by simp⟩
 . cases w;unfold Cell.okWide at b;rw [v]at b;simp only [Cell.ok,v]at b;obtain⟨B,q,r⟩:=b;obtain⟨t,hlt,G⟩:=has_W r;have m:g<=d.length:=(by rw [p];split<;>omega);refine⟨d.take g,.inr ⟨a.block+16,a.off,o,?_,?_,?_⟩,fun z p=>y z (List.mem_of_mem_take p),by
    have:(o:Int)<=9223372036854775807:=q;rw [Xo];omega⟩
   . rw [Xo,XJ m];simp only [lK,if_pos A,if_pos (And.intro t hlt)]
   . rw [Xo,XJ m];exact A
   . rw [Xo,XJ m,XK];rw [load_join (f:=fun i=>.int k (d.getD i 0)) G (fun i u=>load_W t (j i (by omega)))];congr 1;have e4: ∀l:List Int,l.flatMap (encI k)=l.map fun x=>.int k x:=fun l=>(by rw [XO,List.map_eq_flatMap,XO];rfl);rw [e4];refine List.ext_getElem? fun i=>?_;rw [Xs,Xs,List.getElem?_take];by_cases u:i<g
     . rw [if_pos u,List.getElem?_range u,Xn (show i<d.length by omega)];simp [Xp,show i<d.length by omega]
     . rw [if_neg u,List.getElem?_eq_none (by simpa using u)];rfl
theorem open_sl2{t s:TypeId}{k:IntKind}{i j:Field}{B:Nat->Bool}{C:Bool}{d:DataW H}{p:List MemPlace}(q:P.underlying t=some (.struct #[i,j]))(D:i.offset=0)(o1:j.offset=1)(E:i.type=s)(t1:j.type=s)
 (r:P.underlying s=some (.slice e)) (u:P.underlying e=some (.int k)) (w:P.cellsOf e=1) (f:P.cellsOf s=1) (m:P.cellsOf t=2) (o:P.cellTypes P.depth t=some [s,s])
 (a:Value.okWide P W .any base t v) (h:DataW.Trod enc P W 0 B C t v d p):
 ∃(c0 c1:Value) (xs ys:List Int),v=.agg #[c0,c1]/\SlW (hpW W) k (lK W.heap.size c0) xs/\SlW (hpW W) k (lK W.heap.size c1) ys/\(∀z∈xs,(Lit.int k z).wf=true)/\ ∀z∈ys,(Lit.int k z).wf=true:=by
 unfold Value.okWide at a;rw [q]at a;obtain⟨F,rfl,c,N,g,_,b⟩:=a;rw [o]at g;cases g;rw [m]at c;obtain⟨l⟩:=F;simp only [XD]at c;obtain⟨c0,c1,rfl⟩:=len2 c;obtain⟨x,h⟩:=h;obtain⟨O,Q,n,_,_,y,A⟩:=Go.ChangeShapes.trod_struct2 q h;rw [D,E,f]at y;rw [o1,t1,f]at A;obtain⟨R,G,I⟩:=b 0 c0 rfl;obtain⟨S,g,J⟩:=b 1 c1 rfl;cases G;cases g;obtain⟨xs,K,L,_⟩:=qQ r u w I y;obtain⟨ys,M,wy,_⟩:=qQ r u w J A;exact⟨c0,c1,xs,ys,rfl,K,M,L,wy⟩
end
end
section
open Go.ChangeShapes Go.WideShapes Go.RowKit
section
variable{H:Type}{enc:TypeId×Value->H}{P:Program}
theorem wf64{z:Int}(h:(Lit.int .i64 z).wf=true): -9223372036854775808<=z/\z<=9223372036854775807:=by unfold Lit.wf at h;simp only [Bool.and_eq_true,decide_eq_true_eq]at h;exact h
end
end
section
open Go.ChangeShapes Go.WideShapes Go.RowKit
section
variable{H:Type}{enc:TypeId×Value->H}{P:Program}
theorem len8k{j:Type}{l:List j}(h:l.length=8): ∃a b c d e f g i,l=[a,b,c,d,e,f,g,i]:=by
 match l,h with
 | [a,b,c,d,e,f,g,i],_=>exact⟨a,b,c,d,e,f,g,i,rfl⟩
theorem open_d32{t f m L e4 g o:TypeId}{C D E F G I J K:Field}{sp:Nat->Bool}{hd:Bool}{d:DataW H}{p:List MemPlace}(Z:P.underlying t=some (.struct #[C,D,E,F,G,I,J,K]))(o0:C.offset=0)(o1:D.offset=1)(o2:E.offset=2)(o3:F.offset=3)(o4:G.offset=4)(o5:I.offset=5)(o6:J.offset=6)(o7:K.offset=7)
 (t0:C.type=f) (t1:D.type=f) (t2:E.type=f) (t3:F.type=g) (t4:G.type=m) (t5:I.type=g) (t6:J.type=g) (t7:K.type=o) (h0:P.underlying f=some (.slice L)) (q:P.underlying g=some (.int .u8)) (Q:P.underlying m=some (.slice e4)) (h7:P.underlying o=some (.int .i8))
 (R:P.underlying L=some (.int .u8)) (g4:P.underlying e4=some (.int .i64)) (c0:P.cellsOf L=1) (c4:P.cellsOf e4=1) (S:P.cellsOf f=1) (T:P.cellsOf g=1) (d4:P.cellsOf m=1) (d7:P.cellsOf o=1) (U:P.cellsOf t=8) (V:P.cellTypes P.depth t=some [f,f,f,g,m,g,g,o])
 (i:Value.okWide P W .any base t v) (h:DataW.Trod enc P W 0 sp hd t v d p):
 ∃ (a b c e:Value) (x y z w:Int) (B O M N:List Int),v=.agg #[a,b,c,.int .u8 x,e,.int .u8 y,.int .u8 z,.int .i8 w]/\SlW (hpW W) .u8 (lK W.heap.size a) B/\SlW (hpW W) .u8 (lK W.heap.size b) O/\SlW (hpW W) .u8 (lK W.heap.size c) M/\SlW (hpW W) .i64 (lK W.heap.size e) N/\
   (∀z∈O,(Lit.int .u8 z).wf=true)/\(∀z∈M,(Lit.int .u8 z).wf=true)/\(∀z∈N,(Lit.int .i64 z).wf=true)/\(Lit.int .u8 x).wf=true/\(Lit.int .u8 y).wf=true/\(Lit.int .u8 z).wf=true:=by
 unfold Value.okWide at i;rw [Z]at i;obtain⟨cs,rfl,k,ts,e1,_,s⟩:=i;rw [V]at e1;cases e1;rw [U]at k;obtain⟨l⟩:=cs;simp only [XD]at k;obtain⟨a,b,c,x,e,y,z,w,rfl⟩:=len8k k;obtain⟨ad,h⟩:=h;obtain⟨xs,n,_,_,hl,A,hf⟩:=DataW.trod_struct Z h;obtain⟨y0,y1,y2,y3,y4,y5,y6,y7,rfl⟩:=len8k (by rw [A];rfl:xs.length=8);have q0:=hf 0 C rfl;have q1:=hf 1 D rfl;have q2:=hf 2 E rfl;have q3:=hf 3 F rfl;have q4:=hf 4 G rfl;have q5:=hf 5 I rfl;have q6:=hf 6 J rfl;have q7:=hf 7 K rfl;rw [o0,t0,S]at q0;rw [o1,t1,S]at q1;rw [o2,t2,S]at q2;rw [o3,t3,T]at q3;rw [o4,t4,d4]at q4;rw [o5,t5,T]at q5;rw [o6,t6,T]at q6;rw [o7,t7,d7]at q7;have r: ∀(j:Nat) t v,[f,f,f,g,m,g,g,o][j%8]? =some t->[a,b,c,x,e,y,z,w][j]? =some v->Cell.okWide P W .any base t v:=fun j t v h1 h2=>by obtain⟨u,q,Q⟩:=s j v (by simpa using h2);obtain rfl:t=u:=Option.some.inj (h1.symm.trans q);exact Q
 obtain⟨B,hB,_,_⟩:=qQ h0 R c0 (r 0 f a rfl rfl) q0;obtain⟨O,hO,wO,_⟩:=qQ h0 R c0 (r 1 f b rfl rfl) q1;obtain⟨M,hM,wM,_⟩:=qQ h0 R c0 (r 2 f c rfl rfl) q2;obtain⟨N,hN,wN,_⟩:=qQ Q g4 c4 (r 4 m e rfl rfl) q4;obtain⟨u,e2,_,wu⟩:=DataW.trod_int q q3;obtain⟨u5,e5,_,X⟩:=DataW.trod_int q q5;obtain⟨u6,e6,_,Y⟩:=DataW.trod_int q q6;obtain⟨u7,e7,_,_⟩:=DataW.trod_int h7 q7;cases e2;cases e5;cases e6;cases e7;exact⟨a,b,c,e,u,u5,u6,u7,B,O,M,N,rfl,hB,hO,hM,hN,wO,wM,wN,wu,X,Y⟩
end
end
section
open Go.ChangeShapes Go.WideShapes Go.RowKit
section
variable{H:Type}{enc:TypeId×Value->H}{P:Program}
theorem len4q{e:Type}{l:List e}(h:l.length=4): ∃a b c d,l=[a,b,c,d]:=by
 match l,h with
 | [a,b,c,d],_=>exact⟨a,b,c,d,rfl⟩
theorem open_q4{t i:TypeId}{m o q r:Field}{G:Nat->Bool}{I:Bool}{d:DataW H}{p:List MemPlace}(z:P.underlying t=some (.struct #[m,o,q,r]))(J:m.offset=0)(o1:o.offset=1)(o2:q.offset=2)(o3:r.offset=3)
 (K:m.type=i) (t1:o.type=i) (t2:q.type=i) (t3:r.type=i) (s:P.underlying i=some (.int .i64)) (x:P.cellsOf i=1) (y:P.cellsOf t=4) (L:P.cellTypes P.depth t=some [i,i,i,i])
 (f:Value.okWide P W .any base t v) (h:DataW.Trod enc P W 0 G I t v d p):
 ∃(a b c e:Int),v=.agg #[.int .i64 a,.int .i64 b,.int .i64 c,.int .i64 e]/\(Lit.int .i64 a).wf=true/\(Lit.int .i64 b).wf=true/\(Lit.int .i64 c).wf=true/\(Lit.int .i64 e).wf=true:=by
 unfold Value.okWide at f;rw [z]at f;obtain⟨M,rfl,g,V,X,_,A⟩:=f;rw [y]at g;obtain⟨l⟩:=M;simp only [XD]at g;obtain⟨a,b,c,e,rfl⟩:=len4q g;obtain⟨B,h⟩:=h;obtain⟨N,n,_,_,Y,j,hf⟩:=DataW.trod_struct z h;obtain⟨Z,y1,y2,y3,rfl⟩:=len4q (by rw [j];rfl:N.length=4);have C:=hf 0 m rfl;have D:=hf 1 o rfl;have E:=hf 2 q rfl;have F:=hf 3 r rfl;rw [J,K,x]at C;rw [o1,t1,x]at D;rw [o2,t2,x]at E;rw [o3,t3,x]at F;obtain⟨u,O,_,Q⟩:=DataW.trod_int s C;obtain⟨v,R,_,S⟩:=DataW.trod_int s D;obtain⟨w,e4,_,T⟩:=DataW.trod_int s E;obtain⟨k,e5,_,U⟩:=DataW.trod_int s F;cases O;cases R;cases e4;cases e5;exact⟨u,v,w,k,rfl,Q,S,T,U⟩
end
end
end Go.Ab

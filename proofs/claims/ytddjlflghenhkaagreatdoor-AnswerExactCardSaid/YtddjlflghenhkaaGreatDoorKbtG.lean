/- Nets, cells, flags: what the functions do (part 7). -/
import Derived.Test.YtddjlflghenhkaaGreatDoorKbtF
import Derived.ChangeSlices
import Derived.ChangeArms
import Derived.ChangeSame
open Go.Ab.Tryz
open List renaming take_succ_cons->zM,length_take->Xa,drop_zero->Xb,take_zero->Xc,take->Xe,drop->Xf,flatMap_eq_foldl->Xi
open Go.Ab.Tryz renaming abEnv->zO
open Int renaming tmod_eq_emod_of_nonneg->Xd
open Nat renaming min_eq_left->Xg,le_refl->Xh
set_option maxHeartbeats 4000000
set_option linter.defProp false
set_option linter.unusedVariables false
set_option linter.unusedSimpArgs false
namespace Go.Ab
variable{h0:Hp}
variable{v:Value}
variable{P:Program}
variable{e:TypeId}
variable{base n:Nat}
variable{W:World}
open Go.Proofs
set_option maxRecDepth 10000
theorem DF(a:OZ h0):aT zO 7 [] h0 (.bool true):=ret_orc rfl ⟨rfl,Gr.refl a⟩
theorem SlW.grN{h h':Hp}{kd:IntKind}{l:List Int}(s:SlW h kd v l)(g:Gr h h'):SlW h' kd v l:=s.imp (fun h=>h) (fun⟨b,o,c,e,a,d⟩=>⟨b,o,c,e,a,g.load d⟩)
theorem hasX(x:Nat)(a:x<=255):(x&&& 243)<=255/\(x&&& 243)/4%2=0/\(x&&& 243)/8%2=0:=by
 have: ∀x:Fin 256,(x.1&&& 243)<=255/\(x.1&&& 243)/4%2=0/\(x.1&&& 243)/8%2=0:=by decide
 exact this ⟨x,by omega⟩
theorem queryI_ok(u:OZ h0){j k l m p:Value}{f t N:Nat}{way a:Int}(hf:f<=255)(C:t<=255)(D:1<=N)(v:N<=1000)(E:Fl j)(F:Fl k)(G:Fl l)(H:Fl m)(I:Fl p):aT zO 12 [.agg ⟨[j,k,l,m,p,.int .u8 (f:Nat),.int .u8 (t:Nat),.int .i8 a]⟩,.int .i64 (N:Nat),.int .i64 way] h0 (.agg ⟨[.int .i64 way,.int .i64 ((f%N:Nat):Int),.int .i64 ((t%N:Nat):Int),.int .i64 (aq .i64 a)]⟩):=by
 have S:=Si u;have w:aq .i64 (f:Int)=(f:Int):=by rw [wrap64]<;>omega
 have y:aq .i64 (t:Int)=(t:Int):=by rw [wrap64]<;>omega
 have z:(N:Int)≠0:=by omega
 have c:(f:Int).tmod (N:Int)=((f%N:Nat):Int):=by rw [Xd (by omega)];exact(Int.natCast_emod _ _).symm
 have d:(t:Int).tmod (N:Int)=((t%N:Nat):Int):=by rw [Xd (by omega)];exact(Int.natCast_emod _ _).symm
 refine aa (n:=22) (rs:=[.cell 6 48]) rfl Tryz.e12 rfl rfl rfl (lbt rfl) ?_;simp only [BZ,seval];refine ac (aV (by intro x e;cases e)) S ?_;clear S;intro h g S r;simp only [ae]at S;simp only [BZ];refine ac aB S ?_;clear S;intro h A S s;simp only [BZ];refine ar (aA rfl) (q:=0) (ps:=[]) (by kernel_rfl) ?_;simp only [BZ,jS,cQ,jU,cls,w,y,pX z,c,d,S.ld (b:=g) (o:=5) m1 rfl,S.ld (b:=g) (o:=6) m1 rfl,S.ld (b:=g) (o:=7) m1 rfl,seval];refine cP (S.store (i:=0) rfl ?_ ?_ rfl rfl ?_ ono) ?_
 . exact(by exact Tryz.t7.2.1)
 . exact(by intro x e;cases e)
 . exact lbt rfl
 clear S;rintro h ⟨S,B⟩;clear B;simp only [LC,ae,lay,Xe,Xf,seval]at S;simp only [BZ,ab,seval];refine(aZ (by decide) (by simp only [aF,ah,seval];exact bz Tryz.t48.1 Tryz.t48.2.1 (S.lds (b:=A) (o:=0) (n:=4) m0 (lbt rfl)))).2 ?_;exact bQ.2 ⟨rfl,S.gr⟩
theorem vW(ok:OZ h0){vB vO vM vN:Value}{r f t:Nat}{a:Int}{B O ms ns:List Int}(hB:SlW h0 .u8 vB B)(hO:SlW h0 .u8 vO O)(cO: ∀x∈O,0<=x/\x<=255)(hM:SlW h0 .u8 vM ms)(ai: ∀x∈ms,0<=x/\x<=255)(hN:SlW h0 .i64 vN ns)(cN: ∀x∈ns,-9223372036854775808<=x/\x<=9223372036854775807)(hh:r<=255)(hf:f<=255)(ht:t<=255):
 aT zO 5 [.agg ⟨[vB,vO,vM,.int .u8 (r:Nat),vN,.int .u8 (f:Nat),.int .u8 (t:Nat),.int .i8 a]⟩] h0 (.bool true):=by
 have S:=Si ok;have fB:=hB.sl.fl;have fO:=hO.sl.fl;have fM:=hM.sl.fl;have fN:=hN.sl.fl;have be:=c9;obtain⟨o1,o4,o5⟩:=hasX r hh;have an: ∀(t:TypeId) (p q:Operand),bS zO .and t p q (.int .u8 (r:Nat)) (.int .u8 243)=some (.int .u8 ((r&&& 243:Nat):Int)):=fun t p q=>b_andN (E:=zO) (t:=t) (p:=p) (q:=q) (k:=.u8) (x:=r) (y:=243) rfl (by simp only [pw];omega) (by decide);refine aa (n:=86) (rs:=[.tmp 2]) rfl Tryz.e5 rfl rfl rfl (lbt rfl) ?_;simp only [BZ,seval];refine ac (aV (by intro x e;cases e)) S ?_;clear S;intro h b1 S a8;simp only [ae]at S;simp only [BZ,an,S.ld (b:=b1) (o:=3) m0 rfl,seval];refine aC (aE S (i:=0) rfl Tryz.t5.2.2.1 aJ (Nat.lt_of_succ_le (lbt rfl)) ono) ?_;clear S an;rintro h ⟨S,_⟩;simp only [LC,ae,lay,Xe,Xf,seval]at S;generalize r&&& 243=ba at*
 simp only [BZ,Xb,zM,Xc,S.lds (b:=b1) (o:=0) (n:=8) m0 (lbt rfl),seval];refine step_ret (EL S.ok (hB.grN S.gr) (hO.grN S.gr) cO (hM.grN S.gr) ai (hN.grN S.gr) cN o1 o4 o5) ?_;rintro _ hm ⟨g,b,I,rfl,im,_,_⟩;replace S:=S.call g;obtain⟨l,R,Q,cf,Bt,Mc,U,own,oB⟩:=im.opened;replace own:=own o4;replace oB:=oB o5;have j:=U.good;obtain⟨bp,nb,pt,pc,pf,L,M,t1,t2,H,c2⟩:=id U.ex;have n1:=j.n1;have n2:=j.n2;have ak:I.C.isSome=true-> ∀v,v<I.g.nodes->cf v<Mc:=fun e=>by obtain⟨mb,ck,fp,fb,m,_,_,al,ax,_⟩:=H e;exact AH al ax
 have X:PtrB pt I.T.isSome:=by
  cases e:I.T.isSome with
  |true=>obtain⟨bt,_,e,_⟩:=t1 e;exact .inl ⟨rfl,bt,e⟩
  |false=>exact .inr ⟨rfl,t2 e⟩
 have Y:PtrB pc I.C.isSome:=by
  cases e:I.C.isSome with
  |true=>obtain⟨_,ck,_,_,_,e,_⟩:=H e;exact .inl ⟨rfl,ck,e⟩
  |false=>exact .inr ⟨rfl,(c2 e).1⟩
 have nT: ∀(x y:Operand),bS zO .neq 32 x y pt (.pointer none)=some (.bool I.T.isSome):=fun x y=>by rcases X with⟨e,x,rfl⟩|⟨e,rfl⟩<;>rw [e]<;>rfl
 have nC: ∀(x y:Operand),bS zO .neq 33 x y pc (.pointer none)=some (.bool I.C.isSome):=fun x y=>by rcases Y with⟨e,x,rfl⟩|⟨e,rfl⟩<;>rw [e]<;>rfl
 have ft:Fl pt:=by rcases X with⟨_,x,rfl⟩|⟨_,rfl⟩<;>exact bF
 have fc:Fl pc:=by rcases Y with⟨_,x,rfl⟩|⟨_,rfl⟩<;>exact bF
 have g0:=S.gr;have R0:=S.row (b:=b1) m0;have N:=S.ok;have l0:=L.load1 (o:=0) rfl;clear S;have S:=Si N;have eT:=fun {s:Nat} (C:s<I.g.nodes) (v:Nat)=>exTo N j M C v;have eF:=fun {s:Nat} (C:s<I.g.nodes) (v:Nat)=>exFrom N j M C v;simp only [BZ,l0,seval];refine step_ret (netRaw_ok S.ok j.b (M.gr S.gr)) ?_;rintro _ h ⟨g,vx,vy,va,rfl,V,_⟩;have Z:=g.ok;clear S;have S:=Si Z;have fx:=V.X.fl;have fy:=V.Y.fl;have fa:=V.A.fl;simp only [BZ,iX];refine ac aB S ?_;clear S;intro h b4 S bb;simp only [BZ,seval];refine aC (S.store (i:=0) rfl Tryz.t57.2.1 (by intro x e;cases e) rfl (by simp only [ae,List.all_cons,List.all_nil,fx.2.1,fy.2.1,fa.2.1,Bool.and_true];rfl) (lbt rfl) ono) ?_;clear S;rintro h ⟨S,_⟩;simp only [LC,ae,lay,Xe,Xf,seval]at S;replace V:=V.gr S.gr;have R4:=S.row (b:=b4) m0;have ay:=S.ok;have P:=g.trans S.gr;clear S g Z;rename Hp=>hr;replace im:=im.gr P;replace U:=U.gr P;replace L:=L.gr P;replace R0:=R0.gr P;replace M:=M.gr P;replace g0:=g0.trans P;have C:f%I.g.nodes<I.g.nodes:=Nat.mod_lt _ (by omega);have hw:t%I.g.nodes<I.g.nodes:=Nat.mod_lt _ (by omega);have ad:=R0.load (o:=0) (n:=8) (Xh 8);have aL:=R4.load1 (o:=0) rfl;have T:=R4.load (o:=0) (n:=4) (Xh 4);have a0:=L.load1 (o:=1) rfl;have a1:=L.load1 (o:=2) rfl;simp only [Xb,zM,Xc]at ad T;clear P l0;simp only [BZ];refine bA (fun(k:Nat) ρ h=>k<=6/\Gr hr h/\ρ 1=ptrTo b1/\ρ 3=ptrTo b/\ρ 4=ptrTo b4/\ρ 5=.int .i64 (k:Nat)) (fun k=>6-k) ?_ 0 _ _ ⟨Nat.zero_le _,Gr.refl ay,by simp [aG,ah]⟩;intro k ih ρ h ⟨hk,gk,r1,r3,r4,r5⟩;have wk:aq .i64 ((k:Int)+1)=((k+1:Nat):Int):=by rw [wrap64]<;>omega
 by_cases hlt:k<6;rotate_left
 . have c6:((k:Int)<6)=False:=eq_false (by omega);simp only [BZ,r5,c6,seval];refine ag (DF gk.ok) ?_;intro h g;simp only [BZ,ab,seval];exact g0.trans (gk.trans g)
 have c6:((k:Int)<6)=True:=eq_true (by omega);have S:=Si gk.ok;simp only [BZ,r1,r4,r5,c6,gk.load ad,gk.load aL,seval];refine ag (queryI_ok S.ok hf ht n1 (by omega) fB fO fM aJ fN) ?_;intro h' g;replace S:=S.call g;clear g;simp only [BZ];refine ac aB S ?_;clear S;intro h b6 S bc;simp only [BZ,seval];refine aC (S.store (i:=0) rfl ?_ ?_ rfl rfl ?_ ono) ?_
 . exact(by exact Tryz.t7.2.1)
 . exact(by intro x e;cases e)
 . exact lbt rfl
 clear S;rintro h ⟨S,mo⟩;clear mo;simp only [LC,ae,lay,Xe,Xf,seval]at S;generalize aq .i64 a=a' at S;generalize f%I.g.nodes=s at*
 generalize t%I.g.nodes=w at*
 simp only [BZ,r3,Xb,zM,Xc,S.lds (b:=b6) (o:=0) (n:=4) m0 (lbt rfl),seval];have gx:=gk.trans S.gr;refine step_ret (askK_ok S.ok (im.gr gx) (U.gr gx)) ?_;rintro _ h ⟨g,c,d,vA,bf,vE,rfl,fA,af,fE,oA⟩;replace S:=S.call g;clear g;simp only [BZ,nX,seval];have R6:=S.row (b:=b6) m0;have u:=gk.trans S.gr;have a2:=S.ok;clear S gx;rename Hp=>hq;have S:=Si a2;refine ac aB S ?_;clear S;intro h b7 S bd;simp only [BZ,seval];refine aC (S.store (i:=0) rfl Tryz.t43.2.1 (by intro x e;cases e) rfl (by simp only [ae,List.all_cons,List.all_nil,fA.2.1,af.2.1,Bool.and_true];rfl) (lbt rfl) ono) ?_;clear S;rintro h ⟨S,_⟩;simp only [LC,ae,lay,Xe,Xf,seval]at S;have R7:=S.row (b:=b7) m0;replace R6:=R6.gr S.gr;replace u:=u.trans S.gr;have gq:=S.gr;have a3:=S.ok;clear S;rename Hp=>hz;have S:=Si a3;have z:=R6.load (o:=0) (n:=4) (Xh 4);have A:=R7.load (o:=0) (n:=4) (Xh 4);simp only [Xb,zM,Xc]at z A;have a4:=R6.load1 (o:=1) rfl;have a5:=R6.load1 (o:=2) rfl;have F:=R7.load1 (o:=0) rfl;have G:=R7.load1 (o:=1) rfl;simp only [BZ,seval];refine ar (aA rfl) (q:=0) (ps:=[]) (by kernel_rfl) ?_;simp only [BZ,cls,r3,r4,u.load T,u.load a0,u.load a1,z,nT,nC,seval];refine bC (Dp S.ok fx fy fa aJ) ?_;intro h g;replace S:=S.call g;clear g;simp only [BZ,cls,r4,S.gr.load (u.load T),S.gr.load a4,S.gr.load a5,seval];have hD: ∀v,v<I.g.nodes->IsD I.g.arcs s v (dOf I.g.arcs s v):=fun v hv=>by have:=eF C v;rwa [iI]at this
 refine ag (Ei S.ok j ((V.gr u).gr S.gr) C hD hw) ?_;intro h g;replace S:=S.call g;clear g;rcases oA with⟨J,rfl,rfl,rfl,rfl,rfl⟩|⟨J,a6,oA⟩
 . by_cases W:gH I.g.nodes I.T.isSome I.C.isSome (k:Nat) (s:Nat) (w:Nat)=0
   . obtain rfl:s=w:=(by rcases J with h|h;exact absurd W h;omega);have d0:=(hD s C).self;rw [W]at F A;have H: ¬(72057594037927936:Int)<=((dOf I.g.arcs s s:Nat):Int):=(by rw [d0];omega);simp only [BZ,r3,W,H,S.gr.load F,S.gr.load z,S.gr.load A,seval];refine ag (ww (ids:=[]) (d:=0) S.ok j ((L.gr u).gr S.gr) ((M.gr u).gr S.gr) aJ aJ C (.inl ⟨rfl,rfl⟩) bg (Nat.zero_le _) .nil) ?_;intro h g;replace S:=S.call g;clear g;simp only [BZ,Int.cast_ofNat_Int,r5,d0,S.gr.load G,wk,seval];exact ih (k+1) _ _ (by omega) ⟨by omega,u.trans S.gr,by simp [aG,r1,ah,r3,r4]⟩
   . simp only [BZ,r3,W,S.gr.load F,S.gr.load z,S.gr.load A,seval];refine ag (wD S.ok aJ aJ aJ aJ W) ?_;intro h g;replace S:=S.call g;clear g;simp only [BZ,r5,W,S.gr.load G,wk,seval];exact ih (k+1) _ _ (by omega) ⟨by omega,u.trans S.gr,by simp [aG,r1,ah,r3,r4]⟩
 . have K:s≠w:=fun e=>a6 (by rw [e]);have hB:((!tw k||I.T.isSome)&&(!cw k||I.C.isSome))=true:=by
    unfold gH at J;rw [if_neg (by omega),if_neg (by omega),if_neg (by omega)]at J;by_cases hB:((!tw k||I.T.isSome)&&(!cw k||I.C.isSome))=true
    . exact hB
    . rw [show((k:Nat):Int).toNat=k from rfl,if_neg hB]at J;cases J
   have ho:=nj.own eT eF j C hw K hlt (fun e=>⟨(U.tab (by revert hB;rw [e];cases I.T.isSome<;>simp)).2.1,own⟩) (fun e=>by
    have hc:I.C.isSome=true:=(by revert hB;rw [e];cases I.C.isSome<;>simp);exact⟨ak hc,oB hc⟩) oA
   have a7:=nj.walkA j C hw K oA;rcases a7 with⟨rfl,rfl,rfl,rfl⟩|⟨rfl,D,ids,rfl,bh,sA,_,li,hp⟩
   . have c0:FAR<=dOf I.g.arcs s w:=by
      rcases ho with⟨x,_⟩|⟨_,x,_⟩
      . exact x
      . cases x
     have H:(72057594037927936:Int)<=((dOf I.g.arcs s w:Nat):Int):=(by omega);simp only [BZ,r3,J,H,S.gr.load F,S.gr.load z,S.gr.load A,seval];refine ag (wD (c:=20) S.ok aJ aJ aJ aJ (by decide)) ?_;intro h g;replace S:=S.call g;clear g;simp only [BZ,r5,(by decide: ¬(20:Int)=0),S.gr.load G,wk,seval];exact ih (k+1) _ _ (by omega) ⟨by omega,u.trans S.gr,by simp [aG,r1,ah,r3,r4]⟩
   . obtain⟨hd,e⟩:dOf I.g.arcs s w<FAR/\(D:Int)=(dOf I.g.arcs s w:Nat):=by
      rcases ho with⟨_,x⟩|⟨x,_,y⟩
      . cases x
      . exact⟨x,y⟩
     have H: ¬(72057594037927936:Int)<=((dOf I.g.arcs s w:Nat):Int):=(by omega);simp only [BZ,r3,J,H,S.gr.load F,S.gr.load z,S.gr.load A,seval];refine ag (ww S.ok j ((L.gr u).gr S.gr) ((M.gr u).gr S.gr) aJ aJ C ((sA.gr gq).gr S.gr) af li hp) ?_;intro h g;replace S:=S.call g;clear g;simp only [BZ,r5,e,S.gr.load G,wk,seval];exact ih (k+1) _ _ (by omega) ⟨by omega,u.trans S.gr,by simp [aG,r1,ah,r3,r4]⟩
section
open Go.ChangeShapes Go.WideShapes Go.RowKit
theorem rowAt_le{b:TypeId->Bool}{d:Nat}{a off:Nat}(h:rowAt P b d e a off n=true):off<=a*P.cellsOf e:=by
 cases d with
 |zero=>cases h
 | succ d=>
   unfold rowAt at h;simp only []at h
   split at h
   . cases h
   . rename_i i;have c:0<P.cellsOf e:=(by omega);have f:=Nat.div_add_mod off (P.cellsOf e);simp only [Bool.or_eq_true,Bool.and_eq_true,beq_iff_eq,decide_eq_true_eq]at h;rcases h with⟨⟨g,j⟩,_⟩|⟨g,_⟩
     . have:P.cellsOf e*(off/P.cellsOf e)<=P.cellsOf e*a:=Nat.mul_le_mul_left _ (by omega);rw [Nat.mul_comm a];omega
     . have:P.cellsOf e*(off/P.cellsOf e+1)<=P.cellsOf e*a:=Nat.mul_le_mul_left _ (by omega);have hlt:=Nat.mod_lt off c;rw [Nat.mul_add,Nat.mul_one]at this;rw [Nat.mul_comm a];omega
theorem liesAt_le{d:Nat}: ∀{e:TypeId} {a off:Nat} {u:TypeId} {n:Nat},liesAt P d e a off u n=true->off<=a*P.cellsOf e:=by
 induction d with
 |zero=>intro e a off u n h;cases h
 | succ d b=>
   intro e a off u n h;unfold liesAt at h;rw [Bool.or_eq_true]at h;rcases h with h|h
   . exact rowAt_le h
   . split at h
     . exact b h
     . cases h
theorem has_W{r:_root_.Go.Reach}{a:Addr}(h:W.has P r base a e n):a.spot=none/\a.block<W.heap.size/\ ∃l,(hpW W).load (a.block+16) a.off 0=some l:=by
 obtain⟨_,f,i,c,b,k⟩:=h;have hle:=liesAt_le k;have d:a.off<=c:=Nat.le_trans hle (Nat.div_mul_le_self _ _);unfold World.shape? at b
 split at b
 next m q s g=>
  cases b;have hlt:=(Array.getElem?_eq_some_iff.1 g).1;have p:Row (hpW W) (a.block+16) (m.toList.map (lO W.heap.size)) 0:=⟨_,_,by rw [uF,g];rfl,Tr.sized_ofList _,fun j=>Tr.get_ofList _ j⟩;exact⟨f,hlt,_,p.load (o:=a.off) (n:=0) (by simpa using d)⟩
 . cases b
section
variable{H:Type}{enc:TypeId×Value->H}{P:Program}
theorem qQ{s:TypeId}{k:IntKind}{c:Value}{C:Nat->Bool}{D:Bool}{x:DataW H×List MemPlace}(v:P.underlying s=some (.slice e))(E:P.underlying e=some (.int k))(F:P.cellsOf e=1)
 (b:Cell.okWide P W .any base s c) (h:DataW.trod enc P W 0 C D n s [c]=some x): ∃d:List Int,SlW (hpW W) k (lO W.heap.size c) d/\(∀z∈d,(Lit.int k z).wf=true)/\d.length<=9223372036854775807:=by
 rcases Go.ChangeShapes.open_ints v E F h with⟨w,_⟩|⟨a,g,o,d,w,J,A,K,p,_,j,y⟩
 . cases w;exact⟨[],.inl ⟨rfl,rfl⟩,fun z p=>(by cases p),by simp⟩
 . cases w;unfold Cell.okWide at b;rw [v]at b;simp only [Cell.ok,v]at b;obtain⟨B,q,r⟩:=b;obtain⟨t,hlt,G⟩:=has_W r;have m:g<=d.length:=(by rw [p];split<;>omega);refine⟨d.take g,.inr ⟨a.block+16,a.off,o,?_,?_,?_⟩,fun z p=>y z (List.mem_of_mem_take p),by
    have:(o:Int)<=9223372036854775807:=q;rw [Xa];omega⟩
   . rw [Xa,Xg m];simp only [lO,if_pos A,if_pos (And.intro t hlt)]
   . rw [Xa,Xg m];exact A
   . rw [Xa,Xg m,Nat.mul_one];rw [load_join (f:=fun i=>.int k (d.getD i 0)) G (fun i u=>load_W t (j i (by omega)))];congr 1;have I: ∀l:List Int,l.flatMap (encI k)=l.map fun x=>.int k x:=fun l=>(by rw [Xi,List.map_eq_flatMap,Xi];rfl);rw [I];refine List.ext_getElem? fun i=>?_;rw [List.getElem?_map,List.getElem?_map,List.getElem?_take];by_cases u:i<g
     . rw [if_pos u,List.getElem?_range u,List.getElem?_eq_getElem (show i<d.length by omega)];simp [List.getD_eq_getElem?_getD,show i<d.length by omega]
     . rw [if_neg u,List.getElem?_eq_none (by simpa using u)];rfl
theorem open_sl2{t s:TypeId}{k:IntKind}{j m:Field}{C:Nat->Bool}{D:Bool}{d:DataW H}{p:List MemPlace}(r:P.underlying t=some (.struct #[j,m]))(E:j.offset=0)(o1:m.offset=1)(F:j.type=s)(t1:m.type=s)
 (u:P.underlying s=some (.slice e)) (w:P.underlying e=some (.int k)) (x:P.cellsOf e=1) (f:P.cellsOf s=1) (o:P.cellsOf t=2) (q:P.cellTypes P.depth t=some [s,s])
 (a:Value.okWide P W .any base t v) (h:DataW.Trod enc P W 0 C D t v d p):
 ∃(c0 g:Value) (xs ys:List Int),v=.agg #[c0,g]/\SlW (hpW W) k (lO W.heap.size c0) xs/\SlW (hpW W) k (lO W.heap.size g) ys/\(∀z∈xs,(Lit.int k z).wf=true)/\ ∀z∈ys,(Lit.int k z).wf=true:=by
 unfold Value.okWide at a;rw [r]at a;obtain⟨G,rfl,c,O,i,_,b⟩:=a;rw [q]at i;cases i;rw [o]at c;obtain⟨l⟩:=G;simp only [List.size_toArray]at c;obtain⟨c0,g,rfl⟩:=len2 c;obtain⟨y,h⟩:=h;obtain⟨Q,R,n,_,_,A,B⟩:=Go.ChangeShapes.trod_struct2 r h;rw [E,F,f]at A;rw [o1,t1,f]at B;obtain⟨S,I,J⟩:=b 0 c0 rfl;obtain⟨T,i,K⟩:=b 1 g rfl;cases I;cases i;obtain⟨xs,L,M,_⟩:=qQ u w x J A;obtain⟨ys,N,wy,_⟩:=qQ u w x K B;exact⟨c0,g,xs,ys,rfl,L,N,M,wy⟩
end
end
section
open Go.ChangeShapes Go.WideShapes Go.RowKit
section
variable{H:Type}{enc:TypeId×Value->H}{P:Program}
theorem wf64{z:Int}(h:(Lit.int .i64 z).wf=true): -9223372036854775808<=z/\z<=9223372036854775807:=by unfold Lit.wf at h;simp only [Bool.and_eq_true,decide_eq_true_eq]at h;exact h
end
end
section
open Go.ChangeShapes Go.WideShapes Go.RowKit
section
variable{H:Type}{enc:TypeId×Value->H}{P:Program}
theorem len8k{j:Type}{l:List j}(h:l.length=8): ∃a b c d e f g i,l=[a,b,c,d,e,f,g,i]:=by
 match l,h with
 | [a,b,c,d,e,f,g,i],_=>exact⟨a,b,c,d,e,f,g,i,rfl⟩
theorem open_d32{t f m L Q g o:TypeId}{C D E F G I J K:Field}{sp:Nat->Bool}{hd:Bool}{d:DataW H}{p:List MemPlace}(ht:P.underlying t=some (.struct #[C,D,E,F,G,I,J,K]))(o0:C.offset=0)(o1:D.offset=1)(o2:E.offset=2)(o3:F.offset=3)(o4:G.offset=4)(o5:I.offset=5)(o6:J.offset=6)(o7:K.offset=7)
 (t0:C.type=f) (t1:D.type=f) (t2:E.type=f) (t3:F.type=g) (t4:G.type=m) (t5:I.type=g) (t6:J.type=g) (t7:K.type=o) (h0:P.underlying f=some (.slice L)) (q:P.underlying g=some (.int .u8)) (R:P.underlying m=some (.slice Q)) (h7:P.underlying o=some (.int .i8))
 (S:P.underlying L=some (.int .u8)) (g4:P.underlying Q=some (.int .i64)) (c0:P.cellsOf L=1) (c4:P.cellsOf Q=1) (T:P.cellsOf f=1) (U:P.cellsOf g=1) (d4:P.cellsOf m=1) (d7:P.cellsOf o=1) (V:P.cellsOf t=8) (X:P.cellTypes P.depth t=some [f,f,f,g,m,g,g,o])
 (i:Value.okWide P W .any base t v) (h:DataW.Trod enc P W 0 sp hd t v d p):
 ∃ (a b c e:Value) (x y z w:Int) (B O M N:List Int),v=.agg #[a,b,c,.int .u8 x,e,.int .u8 y,.int .u8 z,.int .i8 w]/\SlW (hpW W) .u8 (lO W.heap.size a) B/\SlW (hpW W) .u8 (lO W.heap.size b) O/\SlW (hpW W) .u8 (lO W.heap.size c) M/\SlW (hpW W) .i64 (lO W.heap.size e) N/\
   (∀z∈O,(Lit.int .u8 z).wf=true)/\(∀z∈M,(Lit.int .u8 z).wf=true)/\(∀z∈N,(Lit.int .i64 z).wf=true)/\(Lit.int .u8 x).wf=true/\(Lit.int .u8 y).wf=true/\(Lit.int .u8 z).wf=true:=by
 unfold Value.okWide at i;rw [ht]at i;obtain⟨cs,rfl,k,ts,e1,_,s⟩:=i;rw [X]at e1;cases e1;rw [V]at k;obtain⟨l⟩:=cs;simp only [List.size_toArray]at k;obtain⟨a,b,c,x,e,y,z,w,rfl⟩:=len8k k;obtain⟨ad,h⟩:=h;obtain⟨xs,n,_,_,hl,A,hf⟩:=DataW.trod_struct ht h;obtain⟨y0,y1,y2,y3,y4,y5,y6,y7,rfl⟩:=len8k (by rw [A];rfl:xs.length=8);have q0:=hf 0 C rfl;have q1:=hf 1 D rfl;have q2:=hf 2 E rfl;have q3:=hf 3 F rfl;have q4:=hf 4 G rfl;have q5:=hf 5 I rfl;have q6:=hf 6 J rfl;have q7:=hf 7 K rfl;rw [o0,t0,T]at q0;rw [o1,t1,T]at q1;rw [o2,t2,T]at q2;rw [o3,t3,U]at q3;rw [o4,t4,d4]at q4;rw [o5,t5,U]at q5;rw [o6,t6,U]at q6;rw [o7,t7,d7]at q7;have r: ∀(j:Nat) t v,[f,f,f,g,m,g,g,o][j%8]? =some t->[a,b,c,x,e,y,z,w][j]? =some v->Cell.okWide P W .any base t v:=fun j t v h1 h2=>by obtain⟨u,q,R⟩:=s j v (by simpa using h2);obtain rfl:t=u:=Option.some.inj (h1.symm.trans q);exact R
 obtain⟨B,hB,_,_⟩:=qQ h0 S c0 (r 0 f a rfl rfl) q0;obtain⟨O,hO,wO,_⟩:=qQ h0 S c0 (r 1 f b rfl rfl) q1;obtain⟨M,hM,wM,_⟩:=qQ h0 S c0 (r 2 f c rfl rfl) q2;obtain⟨N,hN,wN,_⟩:=qQ R g4 c4 (r 4 m e rfl rfl) q4;obtain⟨u,e2,_,wu⟩:=DataW.trod_int q q3;obtain⟨u5,e5,_,Y⟩:=DataW.trod_int q q5;obtain⟨u6,e6,_,Z⟩:=DataW.trod_int q q6;obtain⟨u7,e7,_,_⟩:=DataW.trod_int h7 q7;cases e2;cases e5;cases e6;cases e7;exact⟨a,b,c,e,u,u5,u6,u7,B,O,M,N,rfl,hB,hO,hM,hN,wO,wM,wN,wu,Y,Z⟩
end
end
end Go.Ab

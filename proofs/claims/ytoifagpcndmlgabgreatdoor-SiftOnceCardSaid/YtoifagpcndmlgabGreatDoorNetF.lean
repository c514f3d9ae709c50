/- Nets, cells, flags: what the functions do (part 6). -/
import Derived.Test.YtoifagpcndmlgabGreatDoorNetE
import Derived.ChangeSlices
import Derived.ChangeArms
import Derived.ChangeSame
open Go.Ab.Tryz
open Nat renaming zero_le->zL,lt_of_lt_of_le->Xe,min_eq_left->Xh,mul_one->Xi,mod_lt->Xj
open Go.Ab.Tryz renaming abEnv->zM
open List renaming flatMap_eq_foldl->zO,length_take->Xa,getElem?_eq_getElem->Xb,take->Xc,drop->Xd,getD_eq_getElem?_getD->Xf,getElem_mem->Xg,map_eq_flatMap->Xl
open Bool renaming and_true->Xk
set_option maxHeartbeats 4000000
set_option linter.defProp false
set_option linter.unusedVariables false
set_option linter.unusedSimpArgs false
section
namespace Go.Ab
open Go.Proofs
set_option maxRecDepth 10000
def Tryz.F0B:=aj t1<|aj t2<|aj t3<|aj t4<|aj t5<|t100
def Tryz.F1n:=aj t1<|aj t2<|aj t3<|aj t4<|aj t5<|aj t22<|aj t36<|aj t100<|aj t101<|Z8
def Tryz.FU:=aj t1<|aj t2<|aj t3<|aj t4<|aj t5<|aj t6<|aj Z3<|aj Z4<|t34
theorem clr1_ok{h0:Hp}(l:h0.t.Sized h0.n){a c j n i:Nat}{B:Nat->Nat}(R:Row h0 a (ia n B) 1)(f:j<n)(hB:B j<256)(m:i<8)(p:h0.load c 0 1=some [.bool false])(d:c≠a):
 Ret zM 58 [.pointer (some ⟨a,j,none⟩),.int .u8 ((2 ^i:Nat):Int),ptrTo c] h0 fun r g=>Mo (· =a) h0 g/\r=.bool true/\Row g a (ia n (cV B j (B j ^^^(B j&&& 2 ^i)))) 1:=by
 have S:=St.init1 l (o:=.row (ia n B) 1) R
 have k:=S.ld (b:=a) (o:=j) m0 (sT f)
 have q:=pow8 m
 refine ab (n:=19) (rs:=[.tmp 5]) rfl Tryz.e58 rfl rfl rfl (lbt rfl) ?_
 simp only [BS,LB,Nat.reduceLT,Nat.reduceEqDiff,F0B,k,xg hB q]
 refine az (ay S (i:=0) rfl Tryz.t5.2.2.1 aX (by rw [um];exact f) ono) ?_
 clear S k;rintro h ⟨S,s⟩
 simp only [LC]at S
 rw [ue]at S
 have e:=S.old p d
 simp only [BS,LB,ae,Nat.reduceLT,Nat.reduceEqDiff,F0B,e]
 exact⟨S.fr,S.row m0⟩
theorem As{h0:Hp}(D:h0.t.Sized h0.n){w u e k d:Nat}{B:Nat->Nat}(m:ey h0 w u e k d B)(y:w≠u){r i:Nat}(G:r<e)(H:i<k)(p:e<=100)(s:k<=1000)(t:d=(k+7)/8)(x:Bool):
 Ret zM 23 [ptrTo w,.int .i64 (r:Nat),.int .i64 (i:Nat),.bool x] h0 fun v A=>Mo (· =u) h0 A/\ ∃P,ey A w u e k d P:=by
 cases x with
 |true=>exact(bSet_ok D m y G H p s t).mono fun v A ⟨a,_,b⟩=>⟨a,_,b⟩
 |false=>
 obtain⟨Q,T,U,V,I,n6,J⟩:=rD G H p s t
 have W: ∀{h:Hp} {C:Nat},Gr h0 h->h.load C 0 1=some [.bool false]->C≠u->Ret zM 32 [ptrTo w,.int .i64 (r:Nat),.int .i64 (i:Nat),.func (.func 58) #[] #[ptrTo C]] h fun v A=>Mo (· =u) h A/\v=.bool true/\Row A u (ia (e*d) (cV B (r*d+i/8) (B (r*d+i/8) ^^^(B (r*d+i/8)&&& 2 ^(i%8))))) 1:=by
  intro h C g X Y
  have S:=Si g.ok
  have z:=m.gr g
  have Z: ¬(r:Int)<0:=by omega
  have c2: ¬(e:Int)<=(r:Int):=by omega
  have c3: ¬(i:Int)<0:=by omega
  have c4: ¬(k:Int)<=(i:Int):=by omega
  have l2:=z.r.load1 (o:=2) rfl
  have l3:=z.r.load1 (o:=3) rfl
  have zp:=z.r.lt g.ok
  refine ab (n:=46) (rs:=[.tmp 8]) rfl Tryz.e32 rfl rfl rfl (lbt rfl) ?_
  simp only [BS,LB,Nat.reduceLT,Nat.reduceEqDiff,Z]
  refine am (kD S.ok z.bits) ?_;intro h1 E;replace S:=S.call E
  simp only [BS,LB,Nat.reduceLT,Nat.reduceEqDiff,c2,c3]
  refine am (jq S.ok (z.gr E).bits) ?_;intro h2 K;replace S:=S.call K
  have l:=E.trans K
  have k2:=l.load l2
  have k3:=l.load l3
  simp only [BS,LB,Nat.reduceLT,Nat.reduceEqDiff,c4]
  refine au (aC rfl) (q:=0) (ps:=[]) (by kernel_rfl) ?_
  simp only [BS,LB,cls,Nat.reduceLT,Nat.reduceEqDiff,Nat.reduceAdd,Nat.reducePow,Nat.reduceDiv,Nat.reduceMod,Nat.reduceLeDiff,F1n,k2,k3,Q,T,U,V,I,kJ (n:=8) (by decide),kK (n:=8) (by decide),b_shl8 J]
  refine cM (clr1_ok S.ok (z.b.gr l) I (z.lt _) J (l.load X) Y) ?_
  rintro v h3 ⟨L,rfl,R3⟩
  have vv:leaves h2 h3 w=true:=m9 (L.get w (Xe zp l.n) y)
  simp only [BS,LB,cls,ae,Nat.reduceLT,Nat.reduceEqDiff,Nat.reduceAdd,Nat.reducePow,Nat.reduceDiv,Nat.reduceMod,Nat.reduceLeDiff]
  exact⟨(l.fr (M:=(· =u))).trans L (fun c F=>.inl F),R3⟩
 have S:=Si D
 have zb:=m.b.lt D
 refine ab (n:=14) (rs:=[.tmp 8]) rfl Tryz.e23 rfl rfl rfl (lbt rfl) ?_
 simp only [BS,Nat.reduceLT]
 refine ag (bC (by exact mC)) S ?_;clear S;intro h C S N
 simp only [BS,LB,Nat.reduceLT,Nat.reduceEqDiff]
 have k7:=S.fr.n
 refine step_ret (W S.gr (S.ld m0 rfl) (by omega)) ?_
 rintro v h ⟨f,rfl,R⟩
 simp only [BS,LB,Nat.reduceLT,Nat.reduceEqDiff]
 have O:Mo (· =u) h0 h:=(S.gr.fr (M:=(· =u))).trans f (fun c F=>.inl F)
 refine⟨O,_,O.has (o:=.row _ 1) m.r y,R,fun j=>?_⟩
 unfold cV
 split
 . exact Nat.xor_lt_two_pow (n:=8) (m.lt _) (Nat.lt_of_le_of_lt Nat.and_le_left (m.lt _))
 . exact m.lt _
theorem qh{h0:Hp}(k:h0.t.Sized h0.n){u v:Value}{l:List Nat}(e:ar h0 1 bM u l)(j:ar h0 1 bM v l)(s:l.length<=1000):aM zM 13 [u,v] h0 (.bool true):=by
 have S:=Si k
 have t:=e.fl
 have x:=j.fl
 refine ab (n:=26) (rs:=[.tmp 4]) rfl Tryz.e13 rfl rfl rfl (lbt rfl) ?_
 simp only [BS,LB,Nat.reduceLT,Nat.reduceEqDiff,FU,e.lenq,j.lenq]
 refine aO (fun(i:Nat) g h=>i<=l.length/\Gr h0 h/\g 0=u/\g 1=v/\g 5=.int .i64 i) (fun i=>l.length-i) ?_ 0 _ _ ?_
 . clear S
   intro i m g h ⟨hi,S,r0,r1,r5⟩
   by_cases hlt:i<l.length
   . obtain⟨c,o,f,b⟩:=(e.gr S).ix (kd:=.i64) cZ hlt
     obtain⟨p,r,d,a⟩:=(j.gr S).ix (kd:=.i64) cZ hlt
     replace b:h.load c o 1=some [.int .i64 (l[i]:Nat)]:=b
     replace a:h.load p r 1=some [.int .i64 (l[i]:Nat)]:=a
     have w:an .i64 ((i:Int)+1)=((i+1:Nat):Int):=by rw [wrap64]<;>omega
     simp only [BS,LB,Nat.reduceLT,Nat.reduceEqDiff,FU,r0,r5,e.lenq,aB,hlt]
     refine au (aC rfl) (q:=0) (ps:=[]) (by kernel_rfl) ?_
     simp only [BS,LB,cls,Nat.reduceLT,Nat.reduceEqDiff,Nat.reduceAdd,Nat.reducePow,Nat.reduceDiv,Nat.reduceMod,Nat.reduceLeDiff,FU,r0,r1,r5,f,b,d,a,w]
     exact m (i+1) _ _ (by omega) ⟨by omega,S,by simp [aa,r0],by simp [aa,r1],by simp [aa]⟩
   . simp only [BS,LB,ae,Nat.reduceLT,Nat.reduceEqDiff,FU,r0,r5,e.lenq,aB,hlt]
     exact S
 . exact⟨zL _,Gr.refl k,by simp [aa,aR],by simp [aa,aR,bU],by simp [aa]⟩
theorem once26_ok{h0:Hp}(e:h0.t.Sized h0.n){b f:Nat}{d:Gra}(c:aS h0 f (ptrTo b) d){v:Value}{xs:List Ev2}(a:ar h0 4 jE v xs)(k:EvK d xs):aM zM 8 [ptrTo b,v] h0 (.bool true):=by
 have S:=Si e
 have i:=a.fl
 refine ab (n:=13) (rs:=[.tmp 4]) rfl Tryz.e8 rfl rfl rfl (lbt rfl) ?_
 simp only [BS,LB,Nat.reduceLT,Nat.reduceEqDiff]
 refine am (yy S.ok c a k.len k.ok k.nd) ?_
 intro h g;replace S:=S.call g;clear g
 simp only [BS,LB,Nat.reduceLT,Nat.reduceEqDiff]
 refine am (yc S.ok (c.gr S.gr) (a.gr S.gr) k.len k.ok k.hd) ?_
 intro h g;replace S:=S.call g;clear g
 simp only [BS,LB,ae,Nat.reduceLT,Nat.reduceEqDiff]
 exact S.gr
def Tryz.Fw:=aj t1<|aj t2<|aj t3<|aj t4<|aj t5<|aj t6<|aj Z3<|aj Z4<|aj t9<|aj t10<|aj t22<|aj t23<|aj t24<|aj Z23<|aj t28<|aj t29<|aj Z0<|aj t32<|aj t33<|aj t34<|aj t35<|aj t36<|aj Z12<|aj Z10<|aj t42<|aj r42<|aj Z6<|aj Z2<|aj Z5<|aj Z8<|Z1
theorem AQ {h0:Hp} (Y:h0.t.Sized h0.n) {vB vO vM vF vx vy va N pn pt pf:Value} {xf xt xa:Int} {alt:Bool} {L:List Bool} (fB:Fl vB) (fO:Fl vO) (fM:Fl vM) (O:ar h0 1 kP vF L) (aL:L.length<=9223372036854775807) {a:Gra} (Z:Good a) (w:di h0 vx vy va a) (fn:Fl pn) (ft:Fl pt) (fo:Fl N) (ff:Fl pf) {cb mb j:Nat} {m:List Int} {cf:Nat->Nat} {q0 q1 q2 q3:Int} (ad:eG h0 mb (ptrTo cb) a.nodes m cf) (af:fh m+1=((j:Nat):Int)) (hM:j<=100):
 Ret zM 6 [.agg ⟨[vB,vO,vM,.int .u8 xf,.int .u8 xt,.int .i8 xa,.bool alt,vF]⟩,.agg ⟨[.int .i64 a.nodes,vx,vy,va,pn,pt,N,ptrTo cb,pf,.int .i64 q0,.int .i64 q1,.int .i64 q2,.int .i64 q3]⟩] h0 fun r X=>Gr h0 X/\ ∃s l Bt,r=ptrTo s/\h0.n<=s/\h0.n<=l/\ey X s l j a.arcs.length ((a.arcs.length+7)/8) Bt:=by
 have S:=Si Y
 have fF:=O.fl
 have fx:=w.X.fl
 have fy:=w.Y.fl
 have fa:=w.A.fl
 have P:=Z.many
 refine ab (n:=59) (rs:=[.tmp 4]) rfl Tryz.e6 rfl rfl rfl (lbt rfl) ?_
 simp only [BS,Nat.reduceLT]
 refine ag (aZ (by intro x e;cases e)) S ?_;clear S;intro h Q S al;simp only [ah]at S
 simp only [BS,Nat.reduceLT,Nat.reduceEqDiff,if_false]
 refine ag (aZ (by intro x e;cases e)) S ?_;clear S;intro h D S ax;simp only [ah]at S
 simp only [BS,LB,Nat.reduceLT,Nat.reduceEqDiff,Fw,S.ld (b:=D) (o:=7) m0 rfl]
 refine am (th S.ok (.inr ⟨⟨_,ad.at0.gr S.gr⟩,af.symm⟩:jo _ (ptrTo cb) m (j:Int))) ?_
 intro h g;replace S:=S.call g;clear g
 simp only [BS,LB,Nat.reduceLT,Nat.reduceEqDiff,Fw,w.A.lenq,S.ld (b:=D) (o:=3) m0 rfl]
 refine step_ret (yR S.ok hM (by omega)) ?_
 rintro v h ⟨g,s,l,rfl,n1,n2,R,C⟩
 have y2:=(S.row (b:=Q) m1).lt S.ok
 have y3:=(S.row (b:=D) m0).lt S.ok
 have n0:=S.fr.n
 replace S:=S.call g;clear g
 have R2:=S.row (b:=Q) m1
 have R3:=S.row (b:=D) m0
 have gN:=S.gr
 have ai:=S.ok
 clear S
 rename Hp=>hN
 have F:=@Mo.refl (· =l) hN ai
 have I:=(⟨F,_,C⟩:Mo (· =l) hN hN/\ ∃B,ey hN s l j a.arcs.length ((a.arcs.length+7)/8) B)
 have en: ∀{h:Hp},Mo (· =l) hN h->Gr h0 h:=fun f=>((gN.fr (M:=NoM)).trans f (fun c e=>.inr (by subst e;omega))).gr
 clear F C
 simp only [BS,LB,Nat.reduceLT,Nat.reduceEqDiff]
 refine aO (fun(i:Nat) d h=>i<=j/\(Mo (· =l) hN h/\ ∃B,ey h s l j a.arcs.length ((a.arcs.length+7)/8) B)/\d 2=ptrTo Q/\d 3=ptrTo D/\d 5=.int .i64 (j:Nat)/\d 6=ptrTo s/\d 7=.int .i64 i) (fun i=>j-i) ?_ 0 _ _ ?_
 . clear I
   intro i ih d h ⟨hi,I,y,t,z,u,r7⟩
   have wi:an .i64 ((i:Int)+1)=((i+1:Nat):Int):=by rw [wrap64]<;>omega
   by_cases hlt:i<j
   . simp only [BS,LB,Nat.reduceLT,Nat.reduceEqDiff,z,r7,aB,hlt]
     refine mS (fun d h=>(Mo (· =l) hN h/\ ∃B,ey h s l j a.arcs.length ((a.arcs.length+7)/8) B)/\d 2=ptrTo Q/\d 3=ptrTo D/\d 5=.int .i64 (j:Nat)/\d 6=ptrTo s/\d 7=.int .i64 i)
      (fun(k:Nat) d h=>k<=a.arcs.length/\(Mo (· =l) hN h/\ ∃B,ey h s l j a.arcs.length ((a.arcs.length+7)/8) B)/\d 2=ptrTo Q/\d 3=ptrTo D/\d 5=.int .i64 (j:Nat)/\d 6=ptrTo s/\d 7=.int .i64 i/\d 8=.int .i64 k) (fun k=>a.arcs.length-k) ?_ ?_ 0 ?_
     . clear I
       intro k T d h ⟨hk,⟨f,B,C⟩,y,t,z,u,r7,r8⟩
       have wk:an .i64 ((k:Int)+1)=((k+1:Nat):Int):=by rw [wrap64]<;>omega
       have K2:=Mo.has f (o:=.row _ 1) R2 (by omega)
       have K3:=Mo.has f (o:=.row _ 1) R3 (by omega)
       have U:=Row.load1 K2 (o:=7) rfl
       have E:=Row.load1 K3 (o:=3) rfl
       have sA:=(w.gr gN).A.mo f (fun c G e=>by have:=w.A.lt Y G;omega)
       have sF:=(O.gr gN).mo f (fun c G e=>by have:=O.lt Y G;omega)
       by_cases A:k<a.arcs.length
       . simp only [BS,LB,Nat.reduceLT,Nat.reduceEqDiff,Fw,t,r8,E,w.A.lenq,aB,A]
         refine au (aC rfl) (q:=0) (ps:=[]) (by kernel_rfl) ?_
         have z2:=K2.lt f.ok
         have z3:=K3.lt f.ok
         by_cases hL:0<L.length
         . have iv:i*a.arcs.length<=100*100:=Nat.mul_le_mul (by omega) P
           obtain⟨p,hp⟩: ∃p:Nat,p=i*a.arcs.length:=⟨_,rfl⟩
           obtain⟨K,a0⟩: ∃K:Nat,K=p+k:=⟨_,rfl⟩
           have u2:an .i64 ((i:Int)*(a.arcs.length:Int))=(p:Int):=by rw [show(i:Int)*(a.arcs.length:Int)=((i*a.arcs.length:Nat):Int) by push_cast;rfl,<-hp,wrap64]<;>omega
           have u3:an .i64 ((p:Int)+(k:Int))=(K:Int):=by rw [wrap64]<;>omega
           have nz:(L.length:Int)≠0:=by omega
           have H:(0:Int)<(L.length:Int):=by omega
           have tm:(K:Int).tmod (L.length:Int)=((K%L.length:Nat):Int):=by rw [Int.tmod_eq_emod_of_nonneg (by omega)];exact(Int.natCast_emod _ _).symm
           have V:K%L.length<L.length:=Xj _ hL
           obtain⟨cc,oo,W,ak⟩:=sF.ix (kd:=.i64) (fun _=>rfl) V
           simp only [BS,LB,cls,Nat.reduceLT,Nat.reduceEqDiff,Nat.reduceAdd,Nat.reducePow,Nat.reduceDiv,Nat.reduceMod,Nat.reduceLeDiff,Fw,y,t,u,r7,r8,U,E,O.lenq,w.A.lenq,H,u2,u3,kK nz,tm,W,ak,kP]
           refine cM (As f.ok C R hlt A hM (by omega) rfl _) ?_
           rintro v X ⟨f',B',J⟩
           simp only [BS,LB,Nat.reduceLT,Nat.reduceEqDiff,Nat.reduceAdd,r8,wk]
           exact T (k+1) _ _ (by omega) ⟨by omega,⟨f.trans f' (fun c G=>.inl G),B',J⟩,by simp [aa,y,ac],by simp [aa,t,ac],by simp [aa,z],by simp [aa,u,ac],by simp [aa,r7],by simp [aa]⟩
         . have H: ¬(0:Int)<(L.length:Int):=by omega
           simp only [BS,LB,cls,Nat.reduceLT,Nat.reduceEqDiff,Nat.reduceAdd,Nat.reducePow,Nat.reduceDiv,Nat.reduceMod,Nat.reduceLeDiff,Fw,y,u,r7,r8,U,O.lenq,H]
           refine cM (As f.ok C R hlt A hM (by omega) rfl _) ?_
           rintro v X ⟨f',B',J⟩
           simp only [BS,LB,Nat.reduceLT,Nat.reduceEqDiff,Nat.reduceAdd,r8,wk]
           exact T (k+1) _ _ (by omega) ⟨by omega,⟨f.trans f' (fun c G=>.inl G),B',J⟩,by simp [aa,y,ac],by simp [aa,t,ac],by simp [aa,z],by simp [aa,u,ac],by simp [aa,r7],by simp [aa]⟩
       . obtain rfl:k=a.arcs.length:=by omega
         simp only [BS,LB,Nat.reduceLT,Nat.reduceEqDiff,Fw,t,r8,E,w.A.lenq,aB,A]
         exact eC ⟨⟨f,B,C⟩,by simp [aa,y,ac],by simp [aa,t,ac],by simp [aa,z],by simp [aa,u,ac],by simp [aa,r7]⟩
     . clear I
       rintro d h ⟨I,y,t,z,u,r7⟩
       simp only [BS,LB,Nat.reduceLT,Nat.reduceEqDiff,r7,wi]
       exact ih (i+1) _ _ (by omega) ⟨by omega,I,by simp [aa,y,ac],by simp [aa,t,ac],by simp [aa,z],by simp [aa,u,ac],by simp [aa]⟩
     . exact⟨zL _,I,by simp [aa,y,ac],by simp [aa,t,ac],by simp [aa,z],by simp [aa,u,ac],by simp [aa,r7],by simp [aa]⟩
   . obtain⟨f,B,C⟩:=I
     simp only [BS,LB,ae,Nat.reduceLT,Nat.reduceEqDiff,z,u,r7,aB,hlt]
     exact⟨en f,s,l,B,rfl,by omega,by omega,C⟩
 . exact⟨zL _,I,by simp [aa,ac],by simp [aa,ac],by simp [aa],by simp [aa,ac],by simp [aa]⟩
end Go.Ab
end
section
namespace Go.Ab
open Go.Proofs
section
variable{A:List Arc}{N s:Nat}{al:Nat->Bool}{pi:Nat->Int}{σ:SS}
def OnE(A:List Arc)(al:Nat->Bool)(l:List Ev):Prop:= ∀e∈l,e.kind=1->e.id<A.length/\al e.id=true
theorem Sv.alP(h:Sv A N s al pi σ): ∀(n:Nat) {v:Nat},(σ.P v).length<=n->(v∈σ.O\/σ.K v≠none)-> ∀a∈σ.P v,a<A.length/\al a=true:=by
 intro n
 induction n with
 |zero=>intro v d _ a c;rw [List.length_eq_zero_iff.1 (Nat.le_zero.1 d)]at c;cases c
 | succ n f=>
   intro v d g a c
   rcases h.path v g with⟨_,e,_⟩|⟨b,i,j,_,k,l,_⟩
   . rw [e]at c;cases c
   . rw [l]at c d
     rcases List.mem_cons.1 c with rfl|c
     . exact⟨i,j⟩
     . exact f (by rw [List.length_cons]at d;omega) (.inl k) a c
theorem OnE.scan{v:Nat}: ∀(l:List Nat) {σ:SS},(∀a∈l,a<A.length)->OnE A al σ.ev->OnE A al (l.foldl (scan1 A al pi v) σ).ev
 | [],_,_,h=>h
 | a ::l,σ,c,h=>by
   rw [List.foldl_cons]
   refine OnE.scan l (fun x d=>c x (List.mem_cons_of_mem _ d)) ?_
   unfold scan1
   split
   . rename_i f
     rw [nK]
     intro e b g
     rcases List.mem_append.1 b with b|b
     . exact h e b g
     . rw [List.mem_singleton.1 b];exact⟨c a List.mem_cons_self,f⟩
   . exact h
theorem ends_on{to:Nat}{r:Fd}(g: ∀a∈A,a.t<N/\a.w<=cF)(b:Ends A al pi to σ r):Sv A N s al pi σ->OnE A al σ.ev->(∀a∈r.arcs,a<A.length/\al a=true)/\OnE A al r.ev:=by
 induction b with
 |none l=>exact fun _ h=>⟨fun a d=>(by cases d),h⟩
 | @hit σ k f=>
   intro I h
   refine⟨fun a d=>I.alP _ (Nat.le_refl _) (.inr (by rw [f.1];nofun)) a (List.mem_reverse.1 d),fun e b c=>?_⟩
   rcases List.mem_append.1 b with b|b
   . exact h e b c
   . rw [List.mem_singleton.1 b]at c;cases c
 | @step σ v k r f i _ j=>
   intro I h
   refine j (I.next g f.1).1 (OnE.scan _ (fun a d=>(gQ.1 d).1) fun e b c=>?_)
   rcases List.mem_append.1 b with b|b
   . exact h e b c
   . rw [List.mem_singleton.1 b]at c;cases c
theorem seek_on{c:Gra}(d:Good c){s to:Nat}(g:s<c.nodes){b:List Bool}{r:Fd}(f:Ends c.arcs (alF b) pi to (iF pi s) r):(∀a∈r.arcs,a<c.arcs.length/\alF b a=true)/\OnE c.arcs (alF b) r.ev:=
 ends_on (N:=c.nodes) (fun a h=>(d.arcs a h).2) f (qF g) (by unfold iF;rw [nK];exact fun e f=>by cases f)
end
end Go.Ab

end
section
namespace Go.Ab
open Go.Proofs
set_option maxRecDepth 10000
theorem cell_lt{h0:Hp}{f N c:Nat}{p:Value}{m:List Int}{d:Nat->Nat}(a:eG h0 f p N m d)(g:fh m+1=((c:Nat):Int)): ∀v,v<N->d v<c:=fun v h=>by
 have i:=a.len
 have j:=a.val v h
 have b:v<m.length:=by omega
 have e:m.getD v 0=m[v]:=by rw [Xf,Xb b,Option.getD_some]
 have:=lmax_ge (Xg b)
 omega
theorem BH {h0:Hp} (ok:h0.t.Sized h0.n) {M nb nt bt:Nat} {b:Gra} (j:Good b) (N:aS h0 nb (ptrTo M) b) {l:List Int} {R Q:Nat->List Int} (T:TabAt h0 nt (ptrTo bt) b.nodes l R Q) (lR: ∀i,i<l.length->(R i).length=b.nodes) (lQ: ∀i,i<l.length->(Q i).length=b.nodes) (ad:1<=l.length) (hl:l.length<=16) {mb O P fb J:Nat} {m:List Int} {E F:Nat->Nat} (o:eG h0 mb (ptrTo O) b.nodes m E) (p:fh m+1=((J:Nat):Int)) (hM:J<=100) (S:ey h0 P fb J b.arcs.length ((b.arcs.length+7)/8) F)
 {way a:Int} (k:way=4\/way=5) {s w:Nat} (K:s<b.nodes) (hw:w<b.nodes):
 Ret zM 7 [ptrTo M,ptrTo bt,.agg ⟨[ptrTo O,ptrTo P]⟩,.agg ⟨[.int .i64 way,.int .i64 (s:Nat),.int .i64 (w:Nat),.int .i64 a]⟩] h0 fun r q=>Gr h0 q/\ ∃(c d:Int) (vA G vE:Value) (L:List Ev) (n:List Nat),r=.tuple #[ansV c d vA G,vE]/\ar q 4 ie vE L/\EvK b (L.map ow)/\OnE b.arcs (fj F ((b.arcs.length+7)/8) (E w)) L/\
  ar q 1 bM vA n/\n.length<=1000/\(∀x∈n,x<b.arcs.length/\fj F ((b.arcs.length+7)/8) (E w) x=true)/\
  ((s≠w/\c=20/\d=0/\vA=.slice none 0 0/\G=.slice none 0 0)\/(∃U:Nat,c=0/\d=U/\kw b.arcs s n w U/\ar q 1 bM G (if s=w\/way=4 then []else jB b.nodes l.length R Q s w a))):=by
 refine(Cg (f:=s) (t:=w) (a:=a) (way:=way) ok j N (.inl ⟨_,T,lR,lQ⟩) hl cq cq (Bl j N o p S) (fun _=>⟨o,rfl,S,hM,rfl,cell_lt o p⟩)).mono ?_
 rintro r q ⟨g,c,d,vA,G,vE,rfl,nV,u⟩
 have v:jf true way l.length b.nodes b.nodes=true:=by
  unfold jf
  rcases k with rfl|rfl
  . rfl
  . simp;omega
 have e1:decide (way=4\/way=5)=true:=decide_eq_true k
 have e2:decide (0<=(s:Int)/\(s:Int)<(b.nodes:Int))=true:=decide_eq_true (by omega)
 have e3:decide (0<=(w:Int)/\(w:Int)<(b.nodes:Int))=true:=decide_eq_true (by omega)
 rw [v,e1,e2,e3]at u
 have hz:rz true true true true=0:=rfl
 rw [hz]at u
 rcases u with⟨h,rfl,rfl,rfl,rfl,rfl⟩|⟨_,H,y,I,es,ew,z,_,_,A,V,u⟩
 . have e:s=w:=by rcases h with h|h;exact absurd rfl h;omega
   subst e
   exact⟨g,_,_,_,_,_,[],[],rfl,.inl ⟨rfl,rfl⟩,EvK.nil,(fun e A=>by cases A),.inl ⟨rfl,rfl⟩,zL _,(fun x B=>by cases B),.inr ⟨0,rfl,rfl,.nil,by rw [if_pos (.inl rfl)];exact .inl ⟨rfl,rfl⟩⟩⟩
 . obtain rfl:H=s:=by omega
   obtain rfl:y=w:=by omega
   have W:=seek_evK j K A
   have X:=seek_on j K A
   have Y:OnE b.arcs (fj F ((b.arcs.length+7)/8) (E y)) I.ev:=fun e h1 h2=>by
    obtain⟨C,D⟩:=X.2 e h1 h2
    rw [alF_of C]at D
    exact⟨C,D⟩
   rcases u with⟨Z,rfl,rfl,rfl,rfl⟩|⟨Z,rfl,rfl,sA,sB⟩
   . exact⟨g,_,_,_,_,_,I.ev,[],rfl,V,W.1,Y,.inl ⟨rfl,rfl⟩,zL _,(fun x B=>by cases B),.inl ⟨z,rfl,rfl,rfl,rfl⟩⟩
   . refine⟨g,_,_,_,_,_,I.ev,I.arcs,rfl,V,W.1,Y,sA,by omega,fun x B=>?_,.inr ⟨_,rfl,rfl,seek_any j K A Z,?_⟩⟩
     . obtain⟨C,D⟩:=X.1 x B
       rw [alF_of C]at D
       exact⟨C,D⟩
     . have:(if H=y\/way=4 then []else jB b.nodes l.length R Q H y a)=(if way=5 then jB b.nodes l.length R Q H y a else []):=by
        rcases k with rfl|rfl
        . rw [if_pos (.inr rfl),if_neg (by decide)]
        . rw [if_neg (fun h=>h.elim z (by decide)),if_pos rfl]
       rw [this];exact sB
def Tryz.F5:=aj t1<|aj t2<|aj t3<|aj t4<|aj t5<|aj t6<|aj Z3<|aj Z4<|aj t9<|aj t10<|aj t11<|aj t12<|aj Z15<|aj Z22<|aj t15<|aj t16<|aj t17<|aj t18<|aj r18<|aj Z21<|aj t20<|aj t21<|aj t22<|aj t23<|aj t24<|aj t25<|aj r25<|aj Z23<|aj t27<|aj t28<|aj t29<|aj t30<|aj r30<|aj Z0<|aj t32<|aj t33<|aj t34<|aj t35<|aj t36<|aj Z12<|aj Z10<|aj t42<|aj r42<|aj t46<|aj t47<|aj t49<|aj r49<|aj t50<|aj Z9<|aj Z6<|aj t100<|aj Z2<|aj t110<|aj Z5<|aj Z8<|aj t164<|aj Z1<|aj t242<|aj t288<|aj Z19<|aj t300<|aj t302<|aj t304<|aj t305<|aj t306<|aj t307<|Z18
theorem SlW.grS{h a:Hp}{kd:IntKind}{v:Value}{xs:List Int}(s:SlW h kd v xs)(g:Gr h a):SlW a kd v xs:=s.imp (fun h=>h) (fun⟨b,o,c,d,e,f⟩=>⟨b,o,c,d,e,g.load f⟩)
theorem twoP_at{a0 a1 b0 b1:Value}{i:Nat}(a:i<2):nZ zM 46 (.agg ⟨[a0,a1,b0,b1]⟩) (.int .i64 (i:Nat))=some (.agg ⟨if i=0 then [a0,a1]else [b0,b1]⟩):=by
 match i,a with|0,_=>rfl|1,_=>rfl
theorem twoP_of{a0 a1 b0 b1:Value}:jV zM 46 [(0,.agg ⟨[a0,a1]⟩),(1,.agg ⟨[b0,b1]⟩)]=some (.agg ⟨[a0,a1,b0,b1]⟩):=rfl
theorem wF {h0:Hp} (ok:h0.t.Sized h0.n) {vB vO vM vF:Value} {f t:Nat} {xa:Int} {alt:Bool} {B O ms:List Int} {L:List Bool} (hB:SlW h0 .u8 vB B) (hO:SlW h0 .u8 vO O) (cO: ∀x∈O,0<=x/\x<=255) (hM:SlW h0 .u8 vM ms) (bu: ∀x∈ms,0<=x/\x<=255) (hF:ar h0 1 kP vF L) (bv:L.length<=9223372036854775807) (hf:f<=255) (ht:t<=255):
 aM zM 3 [.agg ⟨[vB,vO,vM,.int .u8 (f:Nat),.int .u8 (t:Nat),.int .i8 xa,.bool alt,vF]⟩] h0 (.bool true):=by
 have S:=Si ok
 have fB:=hB.sl.fl
 have fO:=hO.sl.fl
 have fM:=hM.sl.fl
 have fF:=hF.fl
 have cN:=nL
 refine ab (n:=155) (rs:=[.tmp 2]) rfl Tryz.e3 rfl rfl rfl (lbt rfl) ?_
 simp only [BS,Nat.reduceLT]
 refine ag (aZ (by intro x e;cases e)) S ?_;clear S;intro h b1 S cr;simp only [ah]at S
 simp only [BS,LB]
 refine am (BT S.ok) ?_
 intro h g;replace S:=S.call g;clear g
 simp only [BS,LB,Nat.reduceLT,Nat.reduceEqDiff,F5,List.drop_zero,List.take_succ_cons,List.take_zero,S.lds (b:=b1) (o:=0) (n:=8) m0 (lbt rfl)]
 refine step_ret (made26_ok (alt:=alt) S.ok (hB.grS S.gr) (hO.grS S.gr) cO (hM.grS S.gr) bu fF hf ht) ?_
 rintro r h ⟨g,G,vx,vy,va,bp,nb,bt,nt,l,cT,m,cf,H,mb,fp,fb,Mc,Bt,rfl,P,ga,hn,hT,hl,bx,cW,a6,I,ak,C,bm,oB⟩
 clear oB
 replace S:=S.call g;clear g
 have fx:=ga.X.fl
 have fy:=ga.Y.fl
 have fa:=ga.A.fl
 have n1:=P.n1
 have n2:=P.n2
 have g0:=S.gr
 have bB:=S.ok
 have R1:=S.row (b:=b1) m0
 clear S
 rename Hp=>hA
 have S:=Si bB
 have hs:f%G.nodes<G.nodes:=Xj _ (by omega)
 have hw:t%G.nodes<G.nodes:=Xj _ (by omega)
 generalize f%G.nodes=s at hs
 generalize t%G.nodes=w at hw
 generalize an .i64 xa=a'
 obtain⟨Q,a7,ba⟩: ∃Q:Int,(if alt=true then(5:Int)else 4)=Q/\(Q=4\/Q=5):=⟨_,rfl,by cases alt<;>simp⟩
 rw [a7]
 clear a7
 simp only [BS,LB,Nat.reduceLT,Nat.reduceEqDiff,F5]
 refine ag aw S ?_;clear S;intro h b3 S cs
 simp only [BS,LB,Nat.reduceLT,Nat.reduceEqDiff]
 refine az (S.store (i:=0) rfl Tryz.t42.2.1 (by intro x e;cases e) rfl (by simp only [ah,List.all_cons,List.all_nil,fx.2.1,fy.2.1,fa.2.1,a6.2.1,Xk];rfl) (lbt rfl) ono) ?_
 clear S;rintro h ⟨S,mo⟩;clear mo
 simp only [LC,ah,lay,Xc,Xd,Nat.reduceAdd]at S
 have R3:=S.row (b:=b3) m0
 replace R1:=R1.gr S.gr
 have gB:=S.gr
 have al:=S.ok
 clear S
 have S:=Si al
 rename Hp=>hB'
 have z1:=R1.lt al
 have z3:=R3.lt al
 have W:=R3.load1 (o:=7) rfl
 have l3:=R3.load (o:=0) (n:=13) (lbt rfl)
 have l1:=R1.load (o:=0) (n:=8) (lbt rfl)
 simp only [Xd,Xc]at l1 l3
 simp only [BS,LB,Nat.reduceLT,Nat.reduceEqDiff]
 refine au (lj (ord:=[7,0,1,2,3,4,5,6,8]) rfl rfl (by simp only [dI,oE,eo,List.getElem?_cons_zero,List.getElem?_cons_succ,List.map_toArray,List.map_cons,List.map_nil,Nat.reduceBEq,cond_true,cond_false];exact rfl)) (q:=1) (ps:=[(3,6),(0,6)]) (by kernel_rfl) ?_
 simp only [BS,LB,cls,Nat.reducePow,Nat.reduceDiv,Nat.reduceMod,Nat.reduceLeDiff,F5]
 refine dS aw S ?_;clear S;intro h b5 S cv bb
 have g5:=S.gr
 have y1:=Xe z1 g5.n
 have y3:=Xe z3 g5.n
 have y5:=(S.row (b:=b5) m0).lt S.ok
 simp only [BS,LB,cls,Nat.reduceLT,Nat.reduceEqDiff,Nat.reduceAdd,Nat.reducePow,Nat.reduceDiv,Nat.reduceMod,Nat.reduceLeDiff,F5,g5.load W,g5.load l3,g5.load l1]
 refine cM (AQ S.ok fB fO fM (((hF.gr g0).gr gB).gr g5) bv P ((ga.gr gB).gr g5) cq cq a6 cq ((I.gr gB).gr g5) ak C) ?_
 rintro r h ⟨g,D,bE,bL,rfl,nf,bP,X⟩
 have v1:=av g y1
 have v3:=av g y3
 have v5:=av g y5
 replace S:=S.call g
 simp only [BS,LB,cls,Nat.reduceLT,Nat.reduceEqDiff,Nat.reduceAdd,Nat.reducePow,Nat.reduceDiv,Nat.reduceMod,Nat.reduceLeDiff,F5]
 refine dw (S.store (i:=0) rfl Tryz.t38.2.1 (by intro x e;cases e) rfl rfl (lbt rfl) ono) ?_
 clear S;rintro h ⟨S,mo⟩
 simp only [LC,ah,lay,Xc,Xd,Nat.reduceAdd]at S
 replace X:ey h D bE Mc G.arcs.length ((G.arcs.length+7)/8) bL:=⟨mo.has (o:=.row _ 1) X.r (by omega),mo.has (o:=.row _ 1) X.b (by omega),X.lt⟩
 clear mo
 simp only [BS,LB,Nat.reduceLT,Nat.reduceEqDiff,Nat.reduceAdd,F5]
 refine⟨by simp only [bg,bF,aW,bI,a9,ne_eq,not_false_eq_true,bN,ce,bA,bn,bQ,c8,aK,Nat.reduceLT,Nat.reduceEqDiff,reduceIte,Xk,ac,jY,<-bb,aN v1,aI v1,aN v3,aI v3,aN v5,aI v5],?_⟩
 have R5:=S.row (b:=b5) m0
 have gC:=S.gr
 have bX:=S.ok
 replace R3:=R3.gr gC
 clear S g5 v1 v3 v5 y1 y3 y5 z1 z3 W l1 l3 g nf bP R1
 rename Hp=>hC
 have gA:=gB.trans gC
 have W:=R3.load (o:=7) (n:=2) (lbt rfl)
 have l5:=R5.load (o:=0) (n:=2) (lbt rfl)
 simp only [Xd,Xc]at W l5
 replace hn:=hn.gr gA
 replace hT:=hT.gr gA
 replace I:=I.gr gA
 replace bm:=bm.gr gA
 replace g0:=g0.trans gA
 clear gA gB gC
 simp only [BS,LB,Nat.reduceLT,Nat.reduceEqDiff,F5,W,l5,twoP_of]
 refine aO (fun(i:Nat) u h=>i<=2/\Gr hC h/\u 3=ptrTo b3/\u 33=.agg ⟨[ptrTo H,ptrTo fp,ptrTo H,ptrTo D]⟩/\u 34=.int .i64 i) (fun i=>2-i) ?_ 0 _ _ ?_
 . intro i ih u h ⟨hi,gi,v,p,j⟩
   have wi:an .i64 ((i:Int)+1)=((i+1:Nat):Int):=by rw [wrap64]<;>omega
   by_cases bY:i<2
   . obtain⟨ax,bc,Bx,ei,Y⟩: ∃ax bc Bx,(Value.agg ⟨if i=0 then [ptrTo H,ptrTo fp]else [ptrTo H,ptrTo D]⟩)=.agg ⟨[ptrTo H,ptrTo ax]⟩/\ey hC ax bc Mc G.arcs.length ((G.arcs.length+7)/8) Bx:=by
      by_cases bd:i=0
      . rw [if_pos bd];exact⟨_,_,_,rfl,bm⟩
      . rw [if_neg bd];exact⟨_,_,_,rfl,X⟩
     have aL:=twoP_at (a0:=ptrTo H) (a1:=ptrTo fp) (b0:=ptrTo H) (b1:=ptrTo D) bY
     rw [ei]at aL
     simp only [ac]at aL
     have S:=Si gi.ok
     have c2:(i:Int)<2:=by omega
     simp only [BS,LB,Nat.reduceLT,Nat.reduceEqDiff,F5,p,j,c2,aL]
     refine ag aw S ?_;clear S;intro h b7 S cx
     simp only [BS,LB,Nat.reduceLT,Nat.reduceEqDiff]
     refine az (S.store (i:=0) rfl Tryz.t38.2.1 (by intro x e;cases e) rfl rfl (lbt rfl) ono) ?_
     clear S;rintro h ⟨S,mo⟩;clear mo
     simp only [LC,ah,lay,Xc,Xd,Nat.reduceAdd]at S
     have R7:=S.row (b:=b7) m0
     have gX:=gi.trans S.gr
     have b2:=S.ok
     clear S gi
     rename Hp=>hX
     have S:=Si b2
     have R:=R3.gr gX
     have be:=R.load1 (o:=4) rfl
     have bf:=R.load1 (o:=5) rfl
     have a2:=R.load (o:=9) (n:=4) (lbt rfl)
     have l7:=R7.load (o:=0) (n:=2) (lbt rfl)
     simp only [Xd,Xc]at a2 l7
     simp only [BS,LB,Nat.reduceLT,Nat.reduceEqDiff,F5,v,be,bf,a2,l7]
     refine step_ret (BH (a:=a') S.ok P (hn.gr gX) (hT.gr gX) (fun i _=>toR_len) (fun i _=>frR_len) bx (by omega) (I.gr gX) ak C (Y.gr gX) ba hs hw) ?_
     rintro r h ⟨g,c,d,vA,a3,vE,ev,T,rfl,sE,kE,b4,sI,lI,b6,A⟩
     obtain⟨fA,bh,fE⟩:Fl vA/\Fl a3/\Fl vE:=by
      rcases A with⟨_,_,_,_,rfl⟩|⟨_,_,_,_,sB⟩
      . exact⟨sI.fl,cg,sE.fl⟩
      . exact⟨sI.fl,sB.fl,sE.fl⟩
     replace R7:=R7.gr g
     have gY:=gX.trans g
     have b9:=g.ok
     clear S be bf a2 l7 R g
     rename Hp=>hY
     have S:=Si b9
     generalize bi:Code.region 11 _ _=cX
     simp only [BS,LB,Nat.reduceLT,Nat.reduceEqDiff,F5,ansV]
     refine ag aw S ?_;clear S;intro h b8 S cz
     simp only [BS,LB,Nat.reduceLT,Nat.reduceEqDiff]
     refine az (S.store (i:=0) rfl Tryz.t49.2.1 (by intro x e;cases e) rfl (by simp only [ah,List.all_cons,List.all_nil,fA.2.1,bh.2.1,Xk];rfl) (lbt rfl) ono) ?_
     clear S;rintro h ⟨S,mo⟩;clear mo
     simp only [LC,ah,lay,Xc,Xd,Nat.reduceAdd]at S
     have R8:=S.row (b:=b8) m0
     replace R7:=R7.gr S.gr
     have gZ:=gY.trans S.gr
     replace sE:=sE.gr S.gr
     replace sI:=sI.gr S.gr
     replace A:(s≠w/\c=20/\d=0/\vA=.slice none 0 0/\a3=.slice none 0 0)\/(∃dd:Nat,c=0/\d=dd/\kw G.arcs s T w dd/\ar h 1 bM a3 (if s=w\/Q=4 then []else jB G.nodes l.length (toR G l) (frR G l) s w a')):=A.imp (fun x=>x) fun⟨dd,x1,x2,x3,x4⟩=>⟨dd,x1,x2,x3,x4.gr S.gr⟩
     have ch:=S.ok
     clear S gY gX
     rename Hp=>hZ
     simp only [BS,LB,Nat.reduceLT,Nat.reduceEqDiff]
     subst bi
     have R:=R3.gr gZ
     have bk:=R.load1 (o:=4) rfl
     have cY:=R.load1 (o:=7) rfl
     have bl:=R.load (o:=9) (n:=4) (lbt rfl)
     have cj:=R.load1 (o:=5) rfl
     have bo:=R.load1 (o:=9) rfl
     have ad:=R.load1 (o:=10) rfl
     have Z:=R.load1 (o:=11) rfl
     have ck:=R.load1 (o:=12) rfl
     have cl:=R7.load1 (o:=0) rfl
     have bq:=R7.load1 (o:=1) rfl
     have m8:=R8.load (o:=0) (n:=4) (lbt rfl)
     have U:=R8.load1 (o:=0) rfl
     have a4:=R8.load1 (o:=2) rfl
     have af:=R8.load1 (o:=3) rfl
     simp only [Xd,Xc]at bl m8
     replace hn:=hn.gr gZ
     replace hT:=hT.gr gZ
     replace I:=I.gr gZ
     replace Y:=Y.gr gZ
     have SZ:=Si ch
     refine uz (n:=155) (d:=[]) (rc:=none) (J:=fun K h'=>Gr hZ h'/\(K 3=ptrTo b3/\K 33=.agg ⟨[ptrTo H,ptrTo fp,ptrTo H,ptrTo D]⟩/\K 34=.int .i64 i/\K 7=ptrTo b7/\K 8=ptrTo b8/\K 9=vE)/\K 71=.bool false) ?_ ?_
     . have S:=SZ
       simp only [BS,LB,Nat.reduceLT,Nat.reduceEqDiff,F5,v,bk]
       refine am (once26_ok S.ok (hn.gr S.gr) (sl_toE2 sE) kE) ?_
       intro h g;replace S:=S.call g;clear g
       simp only [BS,LB,Nat.reduceLT,Nat.reduceEqDiff,F5,v,S.gr.load bk,S.gr.load bl,S.gr.load m8]
       rcases A with⟨_,rfl,rfl,rfl,rfl⟩|⟨dd,rfl,rfl,hp,sB⟩
       . refine am (AD S.ok aX aX aX aX (c:=20) (by decide)) ?_
         intro h g;replace S:=S.call g;clear g
         simp only [BS,LB,Nat.reduceLT,Nat.reduceEqDiff,F5,S.gr.load U,(by decide: ¬(20:Int)=0)]
         exact eC ⟨S.gr,⟨by simp [aa,v,ac],by simp [aa,p,ac],by simp [aa,j],by simp [aa,ac],by simp [aa,ac],by simp [aa]⟩,by simp [aa]⟩
       . refine am (AR S.ok P (hn.gr S.gr) aX aX hs (sI.gr S.gr) bh lI hp) ?_
         intro h g;replace S:=S.call g;clear g
         simp only [BS,LB,Nat.reduceLT,Nat.reduceEqDiff,F5,S.gr.load U]
         exact eC ⟨S.gr,⟨by simp [aa,v,ac],by simp [aa,p,ac],by simp [aa,j],by simp [aa,ac],by simp [aa,ac],by simp [aa]⟩,by simp [aa]⟩
     clear v p j
     rintro K h ⟨gj,⟨v,p,j,r7,r8,E⟩,a5⟩
     have S:=SZ.call gj
     clear gj
     simp only [BS,LB,Nat.reduceLT,Nat.reduceEqDiff,Nat.reduceAdd,F5,v,r7,a5,S.gr.load cl,S.gr.load Z]
     refine am (qm S.ok (I.gr S.gr) hw) ?_
     intro h g;replace S:=S.call g;clear g
     simp only [BS,LB,Nat.reduceLT,Nat.reduceEqDiff]
     have cw:=cell_lt I ak w hw
     have cA:=P.many
     have cn:=kE.len
     rw [List.length_map]at cn
     refine mS (fun u h=>Gr hZ h/\u 3=ptrTo b3/\u 33=.agg ⟨[ptrTo H,ptrTo fp,ptrTo H,ptrTo D]⟩/\u 34=.int .i64 i/\u 7=ptrTo b7/\u 8=ptrTo b8/\u 9=vE/\u 10=.int .i64 (cf w:Nat)) (fun(k:Nat) u h=>k<=ev.length/\Gr hZ h/\(u 3=ptrTo b3/\u 33=.agg ⟨[ptrTo H,ptrTo fp,ptrTo H,ptrTo D]⟩/\u 34=.int .i64 i/\u 7=ptrTo b7/\u 8=ptrTo b8/\u 9=vE/\u 10=.int .i64 (cf w:Nat))/\u 11=.int .i64 k) (fun k=>ev.length-k) ?_ ?_ 0 ?_
     . clear S v p j r7 r8 E a5
       intro k ai u h ⟨hk,y,⟨v,p,j,r7,r8,E,z⟩,r11⟩
       have wk:an .i64 ((k:Int)+1)=((k+1:Nat):Int):=by rw [wrap64]<;>omega
       by_cases F:k<ev.length
       . obtain⟨cc,oo,M,V⟩:=(sE.gr y).ix (kd:=.i64) ra F
         have k0:h.load cc oo 1=some [.int .i64 (ev[k].kind:Nat)]:=by have:=mi V (i:=0) (m:=1) (by decide);simpa [ie]using this
         have k2:h.load cc (oo+2) 1=some [.int .i64 (ev[k].id:Nat)]:=by have:=mi V (i:=2) (m:=1) (by decide);simpa [ie]using this
         simp only [BS,LB,Nat.reduceLT,Nat.reduceEqDiff,F5,E,r11,sE.lenq,aB,F]
         refine au (aC rfl) (q:=0) (ps:=[]) (by kernel_rfl) ?_
         by_cases cp:ev[k].kind=1
         . have ek:(ev[k].kind:Int)=1:=by omega
           obtain⟨o1,o2⟩:=b4 _ (Xg F) cp
           have y7:=(R7.gr y).lt y.ok
           simp only [BS,LB,cls,Nat.reduceLT,Nat.reduceEqDiff,Nat.reduceAdd,Nat.reducePow,Nat.reduceDiv,Nat.reduceMod,Nat.reduceLeDiff,F5,r7,E,z,r11,M,k0,k2,ek,y.load bq]
           refine cy (wV y.ok (Y.gr y) cw o1 C (by omega) rfl) ?_
           intro h' g
           have e7:=av g y7
           simp only [BS,LB,cls,Nat.reduceLT,Nat.reduceEqDiff,Nat.reduceAdd,Nat.reducePow,Nat.reduceDiv,Nat.reduceMod,Nat.reduceLeDiff,r11,o2,wk]
           exact ai (k+1) _ _ (by omega) ⟨by omega,y.trans g,⟨by simp [aa,v,ac],by simp [aa,p,ac],by simp [aa,j],by simp [aa,r7,ac],by simp [aa,r8,ac],by simp [aa,E],by simp [aa,z]⟩,by simp [aa]⟩
         . have ek: ¬(ev[k].kind:Int)=1:=by omega
           simp only [BS,LB,cls,Nat.reduceLT,Nat.reduceEqDiff,Nat.reduceAdd,Nat.reducePow,Nat.reduceDiv,Nat.reduceMod,Nat.reduceLeDiff,F5,E,r11,M,k0,ek,wk]
           exact ai (k+1) _ _ (by omega) ⟨by omega,y,⟨by simp [aa,v,ac],by simp [aa,p,ac],by simp [aa,j],by simp [aa,r7,ac],by simp [aa,r8,ac],by simp [aa,E],by simp [aa,z]⟩,by simp [aa]⟩
       . obtain rfl:k=ev.length:=by omega
         simp only [BS,LB,Nat.reduceLT,Nat.reduceEqDiff,F5,E,r11,sE.lenq,aB,F]
         exact eC ⟨y,by simp [aa,v,ac],by simp [aa,p,ac],by simp [aa,j],by simp [aa,r7,ac],by simp [aa,r8,ac],by simp [aa,E],by simp [aa,z]⟩
     rotate_left
     . exact⟨zL _,S.gr,⟨by simp [aa,v,ac],by simp [aa,p,ac],by simp [aa,j],by simp [aa,r7,ac],by simp [aa,r8,ac],by simp [aa,E],by simp [aa]⟩,by simp [aa]⟩
     clear S v p j r7 r8 E a5
     rintro u h ⟨y,v,p,j,r7,r8,E,z⟩
     simp only [BS]
     refine mS (fun u h=>Gr hZ h/\u 3=ptrTo b3/\u 33=.agg ⟨[ptrTo H,ptrTo fp,ptrTo H,ptrTo D]⟩/\u 34=.int .i64 i/\u 7=ptrTo b7/\u 8=ptrTo b8/\u 9=vE/\u 10=.int .i64 (cf w:Nat)) (fun(k:Nat) u h=>k<=T.length/\Gr hZ h/\(u 3=ptrTo b3/\u 33=.agg ⟨[ptrTo H,ptrTo fp,ptrTo H,ptrTo D]⟩/\u 34=.int .i64 i/\u 7=ptrTo b7/\u 8=ptrTo b8/\u 9=vE/\u 10=.int .i64 (cf w:Nat))/\u 12=.int .i64 k) (fun k=>T.length-k) ?_ ?_ 0 ?_
     . clear y v p j r7 r8 E z
       intro k ai u h ⟨hk,y,⟨v,p,j,r7,r8,E,z⟩,r12⟩
       have wk:an .i64 ((k:Int)+1)=((k+1:Nat):Int):=by rw [wrap64]<;>omega
       by_cases F:k<T.length
       . obtain⟨cc,oo,M,V⟩:=(sI.gr y).ix (kd:=.i64) cZ F
         replace V:h.load cc oo 1=some [.int .i64 (T[k]:Nat)]:=V
         obtain⟨o1,o2⟩:=b6 _ (Xg F)
         have y7:=(R7.gr y).lt y.ok
         have y8:=(R8.gr y).lt y.ok
         simp only [BS,LB,Nat.reduceLT,Nat.reduceEqDiff,F5,r8,r12,y.load a4,sI.lenq,aB,F]
         refine au (aC rfl) (q:=0) (ps:=[]) (by kernel_rfl) ?_
         simp only [BS,LB,cls,Nat.reduceLT,Nat.reduceEqDiff,Nat.reduceAdd,Nat.reducePow,Nat.reduceDiv,Nat.reduceMod,Nat.reduceLeDiff,F5,r7,r8,z,r12,y.load a4,y.load bq,M,V]
         refine cy (wV y.ok (Y.gr y) cw o1 C (by omega) rfl) ?_
         intro h' g
         have e7:=av g y7
         have e8:=av g y8
         simp only [BS,LB,cls,Nat.reduceLT,Nat.reduceEqDiff,Nat.reduceAdd,Nat.reducePow,Nat.reduceDiv,Nat.reduceMod,Nat.reduceLeDiff,r12,o2,wk]
         exact ai (k+1) _ _ (by omega) ⟨by omega,y.trans g,⟨by simp [aa,v,ac],by simp [aa,p,ac],by simp [aa,j],by simp [aa,r7,ac],by simp [aa,r8,ac],by simp [aa,E],by simp [aa,z]⟩,by simp [aa]⟩
       . obtain rfl:k=T.length:=by omega
         simp only [BS,LB,Nat.reduceLT,Nat.reduceEqDiff,F5,r8,r12,y.load a4,sI.lenq,aB,F]
         exact eC ⟨y,by simp [aa,v,ac],by simp [aa,p,ac],by simp [aa,j],by simp [aa,r7,ac],by simp [aa,r8,ac],by simp [aa,E],by simp [aa,z]⟩
     rotate_left
     . exact⟨zL _,y,⟨by simp [aa,v,ac],by simp [aa,p,ac],by simp [aa,j],by simp [aa,r7,ac],by simp [aa,r8,ac],by simp [aa,E],by simp [aa,z]⟩,by simp [aa]⟩
     clear y v p j r7 r8 E z
     rintro u h ⟨y,v,p,j,r7,r8,E,z⟩
     have S:=SZ.call y
     clear y
     simp only [BS,LB,Nat.reduceLT,Nat.reduceEqDiff,Nat.reduceAdd,F5,v,S.gr.load cj,S.gr.load ad,S.gr.load Z,S.gr.load ck]
     refine step_ret (vb S.ok (hT.gr S.gr) (fun i _=>toR_len) (fun i _=>frR_len) (by omega)) ?_
     rintro vW h ⟨g,sW,_⟩
     replace S:=S.call g;clear g
     have fW:=sW.fl
     have br:(jB G.nodes l.length (toR G l) (frR G l) s w a').length<=1000:=by unfold jB;rw [Xa];omega
     rcases A with⟨c0,rfl,rfl,rfl,rfl⟩|⟨dd,rfl,rfl,hp,sB⟩
     . simp only [BS,LB,Nat.reduceLT,Nat.reduceEqDiff,F5,r8,S.gr.load U,S.gr.load af,(by decide: ¬(20:Int)=0)]
       refine am (qh (l:=[]) S.ok (.inl ⟨rfl,rfl⟩) (.inl ⟨rfl,rfl⟩) (zL _)) ?_
       intro h g;replace S:=S.call g;clear g
       simp only [BS,LB,Nat.reduceLT,Nat.reduceEqDiff,j,wi]
       exact ih (i+1) _ _ (by omega) ⟨by omega,gZ.trans S.gr,by simp [aa,v,ac],by simp [aa,p,ac],by simp [aa]⟩
     by_cases bs:s=w
     . rw [if_pos (.inl bs)]at sB
       have N:(s:Int)=(w:Int):=by omega
       simp only [BS,LB,Nat.reduceLT,Nat.reduceEqDiff,Nat.reduceAdd,F5,v,r8,S.gr.load U,S.gr.load af,S.gr.load ad,S.gr.load Z,N]
       refine am (qh (l:=[]) S.ok (sB.gr S.gr) (.inl ⟨rfl,rfl⟩) (zL _)) ?_
       intro h g;replace S:=S.call g;clear g
       simp only [BS,LB,Nat.reduceLT,Nat.reduceEqDiff,j,wi]
       exact ih (i+1) _ _ (by omega) ⟨by omega,gZ.trans S.gr,by simp [aa,v,ac],by simp [aa,p,ac],by simp [aa]⟩
     have N: ¬(s:Int)=(w:Int):=by omega
     by_cases h4:Q=4
     . rw [if_pos (.inr h4)]at sB
       simp only [BS,LB,Nat.reduceLT,Nat.reduceEqDiff,Nat.reduceAdd,F5,v,r8,S.gr.load U,S.gr.load af,S.gr.load ad,S.gr.load Z,S.gr.load bo,N,h4]
       refine am (qh (l:=[]) S.ok (sB.gr S.gr) (.inl ⟨rfl,rfl⟩) (zL _)) ?_
       intro h g;replace S:=S.call g;clear g
       simp only [BS,LB,Nat.reduceLT,Nat.reduceEqDiff,j,wi]
       exact ih (i+1) _ _ (by omega) ⟨by omega,gZ.trans S.gr,by simp [aa,v,ac],by simp [aa,p,ac],by simp [aa]⟩
     . rw [if_neg (fun h=>h.elim bs h4)]at sB
       simp only [BS,LB,Nat.reduceLT,Nat.reduceEqDiff,Nat.reduceAdd,F5,v,r8,S.gr.load U,S.gr.load af,S.gr.load ad,S.gr.load Z,S.gr.load bo,N,h4]
       refine am (qh S.ok (sB.gr S.gr) sW br) ?_
       intro h g;replace S:=S.call g;clear g
       simp only [BS,LB,Nat.reduceLT,Nat.reduceEqDiff,j,wi]
       exact ih (i+1) _ _ (by omega) ⟨by omega,gZ.trans S.gr,by simp [aa,v,ac],by simp [aa,p,ac],by simp [aa]⟩
   . have c3: ¬(i:Int)<2:=by omega
     simp only [BS,LB,ae,Nat.reduceLT,Nat.reduceEqDiff,j,c3]
     exact g0.trans gi
 . exact⟨by omega,Gr.refl bX,by simp [aa,ac],by simp [aa,ac],by simp [aa]⟩
end Go.Ab
end
section
namespace Go.Ab
open Go.ChangeShapes Go.WideShapes Go.RowKit
theorem rowAt_le{P:Program}{b:TypeId->Bool}{d:Nat}{e:TypeId}{a off n:Nat}(h:rowAt P b d e a off n=true):off<=a*P.cellsOf e:=by
 cases d with
 |zero=>cases h
 | succ d=>
   unfold rowAt at h
   simp only []at h
   split at h
   . cases h
   . rename_i i
     have c:0<P.cellsOf e:=by omega
     have f:=Nat.div_add_mod off (P.cellsOf e)
     simp only [Bool.or_eq_true,Bool.and_eq_true,beq_iff_eq,decide_eq_true_eq]at h
     rcases h with⟨⟨g,j⟩,_⟩|⟨g,_⟩
     . have:P.cellsOf e*(off/P.cellsOf e)<=P.cellsOf e*a:=Nat.mul_le_mul_left _ (by omega)
       rw [Nat.mul_comm a];omega
     . have:P.cellsOf e*(off/P.cellsOf e+1)<=P.cellsOf e*a:=Nat.mul_le_mul_left _ (by omega)
       have hlt:=Xj off c
       rw [Nat.mul_add,Xi]at this
       rw [Nat.mul_comm a];omega
theorem liesAt_le{P:Program}{d:Nat}: ∀{e:TypeId} {a off:Nat} {u:TypeId} {n:Nat},liesAt P d e a off u n=true->off<=a*P.cellsOf e:=by
 induction d with
 |zero=>intro e a off u n h;cases h
 | succ d b=>
   intro e a off u n h
   unfold liesAt at h
   rw [Bool.or_eq_true]at h
   rcases h with h|h
   . exact rowAt_le h
   . split at h
     . exact b h
     . cases h
theorem has_W{P:Program}{W:World}{r:_root_.Go.Reach}{base:Nat}{a:Addr}{e:TypeId}{n:Nat}(h:W.has P r base a e n):a.spot=none/\a.block<W.heap.size/\ ∃l,(hpW W).load (a.block+16) a.off 0=some l:=by
 obtain⟨_,f,i,c,b,k⟩:=h
 have hle:=liesAt_le k
 have d:a.off<=c:=Nat.le_trans hle (Nat.div_mul_le_self _ _)
 unfold World.shape? at b
 split at b
 next m el q g=>
  cases b
  have hlt:=(Array.getElem?_eq_some_iff.1 g).1
  have p:Row (hpW W) (a.block+16) (m.toList.map (iz W.heap.size)) 0:=⟨_,_,by rw [sg,g];rfl,Tr.sized_ofList _,fun j=>Tr.get_ofList _ j⟩
  exact⟨f,hlt,_,p.load (o:=a.off) (n:=0) (by simpa using d)⟩
 . cases b
section
variable{H:Type}{enc:TypeId×Value->H}{P:Program}
theorem po{W:World}{base n:Nat}{s e:TypeId}{k:IntKind}{c:Value}{C:Nat->Bool}{D:Bool}{x:DataW H×List MemPlace}(v:P.underlying s=some (.slice e))(E:P.underlying e=some (.int k))(F:P.cellsOf e=1)
 (b:Cell.okWide P W .any base s c) (h:DataW.trod enc P W 0 C D n s [c]=some x): ∃d:List Int,SlW (hpW W) k (iz W.heap.size c) d/\(∀z∈d,(Lit.int k z).wf=true)/\d.length<=9223372036854775807:=by
 rcases Go.ChangeShapes.open_ints v E F h with⟨w,_⟩|⟨a,g,o,d,w,J,A,K,p,_,j,y⟩
 . cases w
   exact⟨[],.inl ⟨rfl,rfl⟩,fun z p=>(by cases p),by simp⟩
 . cases w
   unfold Cell.okWide at b
   rw [v]at b
   simp only [Cell.ok,v]at b
   obtain⟨B,q,r⟩:=b
   obtain⟨t,hlt,G⟩:=has_W r
   have m:g<=d.length:=by rw [p];split<;>omega
   refine⟨d.take g,.inr ⟨a.block+16,a.off,o,?_,?_,?_⟩,fun z p=>y z (List.mem_of_mem_take p),by
    have:(o:Int)<=9223372036854775807:=q
    rw [Xa];omega⟩
   . rw [Xa,Xh m]
     simp only [iz,if_pos A,if_pos (And.intro t hlt)]
   . rw [Xa,Xh m];exact A
   . rw [Xa,Xh m,Xi]
     rw [xK (f:=fun i=>.int k (d.getD i 0)) G (fun i u=>load_W t (j i (by omega)))]
     congr 1
     have I: ∀l:List Int,l.flatMap (encI k)=l.map fun x=>.int k x:=fun l=>by
      rw [zO,Xl,zO];rfl
     rw [I]
     refine List.ext_getElem? fun i=>?_
     rw [List.getElem?_map,List.getElem?_map,List.getElem?_take]
     by_cases u:i<g
     . rw [if_pos u,List.getElem?_range u,Xb (show i<d.length by omega)]
       simp [Xf,show i<d.length by omega]
     . rw [if_neg u,List.getElem?_eq_none (by simpa using u)];rfl
theorem open_slV{W:World}{base:Nat}{s e:TypeId}{k:IntKind}{v:Value}{j:Nat->Bool}{m:Bool}{d:DataW H}{p:List MemPlace}(c:P.underlying s=some (.slice e))(n:P.underlying e=some (.int k))(o:P.cellsOf e=1)
 (a:Value.okWide P W .any base s v) (h:DataW.Trod enc P W 0 j m s v d p): ∃f:List Int,SlW (hpW W) k (absA W.heap.size v) f/\(∀z∈f,(Lit.int k z).wf=true)/\f.length<=9223372036854775807:=by
 unfold Value.okWide at a
 rw [c]at a
 obtain⟨i,h⟩:=h
 have b: ∀l:Array Value,v≠ .agg l:=by
  rintro l rfl
  simp only [Cell.okWide,c,Cell.ok]at a
 have g:v.cells.toList=[v]:=by cases v<;>first|rfl|exact absurd rfl (b _)
 rw [g]at h
 have q:absA W.heap.size v=iz W.heap.size v:=by cases v<;>first|rfl|exact absurd rfl (b _)
 rw [q]
 exact po c n o a h
theorem open_sl2{W:World}{base:Nat}{t s e:TypeId}{k:IntKind}{j m:Field}{v:Value}{C:Nat->Bool}{D:Bool}{d:DataW H}{p:List MemPlace}(r:P.underlying t=some (.struct #[j,m]))(E:j.offset=0)(o1:m.offset=1)(F:j.type=s)(t1:m.type=s)
 (u:P.underlying s=some (.slice e)) (w:P.underlying e=some (.int k)) (x:P.cellsOf e=1) (f:P.cellsOf s=1) (o:P.cellsOf t=2) (q:P.cellTypes P.depth t=some [s,s])
 (a:Value.okWide P W .any base t v) (h:DataW.Trod enc P W 0 C D t v d p):
 ∃(c0 g:Value) (xs ys:List Int),v=.agg #[c0,g]/\SlW (hpW W) k (iz W.heap.size c0) xs/\SlW (hpW W) k (iz W.heap.size g) ys/\(∀z∈xs,(Lit.int k z).wf=true)/\ ∀z∈ys,(Lit.int k z).wf=true:=by
 unfold Value.okWide at a
 rw [r]at a
 obtain⟨G,rfl,c,O,i,_,b⟩:=a
 rw [q]at i
 cases i
 rw [o]at c
 obtain⟨l⟩:=G
 simp only [List.size_toArray]at c
 obtain⟨c0,g,rfl⟩:=len2 c
 obtain⟨y,h⟩:=h
 obtain⟨Q,R,n,_,_,A,B⟩:=Go.ChangeShapes.trod_struct2 r h
 rw [E,F,f]at A
 rw [o1,t1,f]at B
 obtain⟨S,I,J⟩:=b 0 c0 rfl
 obtain⟨T,i,K⟩:=b 1 g rfl
 cases I
 cases i
 obtain⟨xs,L,M,_⟩:=po u w x J A
 obtain⟨ys,N,wy,_⟩:=po u w x K B
 exact⟨c0,g,xs,ys,rfl,L,N,M,wy⟩
end
end Go.Ab

end
section
namespace Go.Ab
open Go.ChangeShapes Go.WideShapes Go.RowKit
section
variable{H:Type}{enc:TypeId×Value->H}{P:Program}
theorem open_slB{W:World}{base m:Nat}{s e:TypeId}{c:Value}{F:Nat->Bool}{G:Bool}{x:DataW H×List MemPlace}(t:P.underlying s=some (.slice e))(I:P.underlying e=some .bool)(J:P.cellsOf e=1)
 (d:Cell.okWide P W .any base s c) (h:DataW.trod enc P W 0 F G m s [c]=some x): ∃w:List Bool,ar (hpW W) 1 kP (iz W.heap.size c) w/\w.length<=9223372036854775807:=by
 rcases DataW.trod_slice t h with⟨u,_⟩|⟨a,b,o,g,y,n,_,u,_,Q,z,R,A,v,B,K⟩
 . cases u
   exact⟨[],.inl ⟨rfl,rfl⟩,by simp⟩
 . cases u
   unfold Cell.okWide at d
   rw [t]at d
   simp only [Cell.ok,t]at d
   obtain⟨C,p,q⟩:=d
   obtain⟨r,hlt,L⟩:=has_W q
   have D: ∀i,i<b-> ∃k,W.cell? (a.add i)=some (.bool k):=fun i j=>by
    have E:=v i j
    rw [Xb (show i<g.length by omega),J,Xi,Option.bind_eq_some_iff]at E
    obtain⟨S,M,N⟩:=E
    obtain⟨k,e5,_⟩:=DataW.trod_bool I N
    subst e5
    exact⟨k,cell_of_cells?_one M⟩
   obtain⟨f,hf⟩: ∃f:Nat->Bool,∀i,i<b->W.cell? (a.add i)=some (.bool (f i)):=⟨fun i=>if h:i<b then(D i h).choose else false,fun i j=>by
    simp only [dif_pos j];exact(D i j).choose_spec⟩
   have e6:((List.range b).map f).length=b:=by simp
   refine⟨(List.range b).map f,.inr ⟨a.block+16,a.off,none,o,?_,?_,?_⟩,by
    have:(o:Int)<=9223372036854775807:=p
    rw [e6];omega⟩
   . rw [e6]
     simp only [iz,if_pos z,if_pos (And.intro r hlt)]
   . rw [e6];exact z
   . rw [e6,Xi,xK (f:=fun i=>.bool (f i)) L (fun i j=>load_W r (hf i j))]
     congr 1
     have O: ∀l:List Bool,l.flatMap kP=l.map fun x=>.bool x:=fun l=>by
      rw [zO,Xl,zO];rfl
     rw [O,List.map_map]
     rfl
theorem len8{j:Type}{l:List j}(h:l.length=8): ∃a b c d e f g i,l=[a,b,c,d,e,f,g,i]:=by
 match l,h with
 | [a,b,c,d,e,f,g,i],_=>exact⟨a,b,c,d,e,f,g,i,rfl⟩
theorem open_d26b{W:World}{base:Nat}{t f o S e7 i s A:TypeId}{E F G I J K N Q:Field}{v:Value}{sp:Nat->Bool}{hd:Bool}{d:DataW H}{p:List MemPlace}(Y:P.underlying t=some (.struct #[E,F,G,I,J,K,N,Q]))(o0:E.offset=0)(o1:F.offset=1)(o2:G.offset=2)(o3:I.offset=3)(o4:J.offset=4)(o5:K.offset=5)(o6:N.offset=6)(o7:Q.offset=7)
 (t0:E.type=f) (t1:F.type=f) (t2:G.type=f) (t3:I.type=i) (t4:J.type=i) (t5:K.type=s) (t6:N.type=A) (t7:Q.type=o) (h0:P.underlying f=some (.slice S)) (R:P.underlying i=some (.int .u8)) (h5:P.underlying s=some (.int .i8)) (h6:P.underlying A=some .bool) (h7:P.underlying o=some (.slice e7))
 (T:P.underlying S=some (.int .u8)) (c0:P.cellsOf S=1) (U:P.cellsOf f=1) (Z:P.cellsOf i=1) (d5:P.cellsOf s=1) (d6:P.cellsOf A=1) (g7:P.underlying e7=some .bool) (c7:P.cellsOf e7=1) (d7:P.cellsOf o=1) (V:P.cellsOf t=8) (X:P.cellTypes P.depth t=some [f,f,f,i,i,s,A,o])
 (g:Value.okWide P W .any base t v) (h:DataW.Trod enc P W 0 sp hd t v d p):
 ∃ (a b c e:Value) (x y z:Int) (q:Bool) (B O M:List Int) (L:List Bool),v=.agg #[a,b,c,.int .u8 x,.int .u8 y,.int .i8 z,.bool q,e]/\SlW (hpW W) .u8 (iz W.heap.size a) B/\SlW (hpW W) .u8 (iz W.heap.size b) O/\SlW (hpW W) .u8 (iz W.heap.size c) M/\ar (hpW W) 1 kP (iz W.heap.size e) L/\L.length<=9223372036854775807/\
   (∀z∈O,(Lit.int .u8 z).wf=true)/\(∀z∈M,(Lit.int .u8 z).wf=true)/\(Lit.int .u8 x).wf=true/\(Lit.int .u8 y).wf=true:=by
 unfold Value.okWide at g
 rw [Y]at g
 obtain⟨cs,rfl,m,ts,e1,_,C⟩:=g
 rw [X]at e1
 cases e1
 rw [V]at m
 obtain⟨l⟩:=cs
 simp only [List.size_toArray]at m
 obtain⟨a,b,c,x,y,z,q,e,rfl⟩:=len8 m
 obtain⟨ad,h⟩:=h
 obtain⟨xs,n,_,_,hl,D,hf⟩:=DataW.trod_struct Y h
 obtain⟨y0,y1,y2,y3,y4,y5,y6,y7,rfl⟩:=len8 (by rw [D];rfl:xs.length=8)
 have q0:=hf 0 E rfl
 have q1:=hf 1 F rfl
 have q2:=hf 2 G rfl
 have q3:=hf 3 I rfl
 have q4:=hf 4 J rfl
 have q5:=hf 5 K rfl
 have q6:=hf 6 N rfl
 rw [o0,t0,U]at q0
 rw [o1,t1,U]at q1
 rw [o2,t2,U]at q2
 rw [o3,t3,Z]at q3
 rw [o4,t4,Z]at q4
 rw [o5,t5,d5]at q5
 rw [o6,t6,d6]at q6
 have q7:=hf 7 Q rfl
 rw [o7,t7,d7]at q7
 have r: ∀(j:Nat) t v,[f,f,f,i,i,s,A,o][j%8]? =some t->[a,b,c,x,y,z,q,e][j]? =some v->Cell.okWide P W .any base t v:=fun j t v h1 h2=>by
  obtain⟨u,R,h4⟩:=C j v (by simpa using h2)
  obtain rfl:t=u:=Option.some.inj (h1.symm.trans R)
  exact h4
 obtain⟨B,hB,_,_⟩:=po h0 T c0 (r 0 f a rfl rfl) q0
 obtain⟨O,hO,wO,_⟩:=po h0 T c0 (r 1 f b rfl rfl) q1
 obtain⟨M,hM,wM,_⟩:=po h0 T c0 (r 2 f c rfl rfl) q2
 obtain⟨L,hL,lL⟩:=open_slB h7 g7 c7 (r 7 o e rfl rfl) q7
 obtain⟨u,e2,_,wu⟩:=DataW.trod_int R q3
 obtain⟨v,e3,_,wv⟩:=DataW.trod_int R q4
 obtain⟨w,e4,_,ww⟩:=DataW.trod_int h5 q5
 obtain⟨k,e5,_⟩:=DataW.trod_bool h6 q6
 cases e2
 cases e3
 cases e4
 cases e5
 exact⟨a,b,c,e,u,v,w,k,B,O,M,L,rfl,hB,hO,hM,hL,lL,wO,wM,wu,wv⟩
end
end Go.Ab

end

/- Nets, cells, flags: what the functions do (part 6). -/
import Derived.Test.YtdicllcgofpggaaGreatDoorNetE
import Derived.ChangeSlices
import Derived.ChangeArms
import Derived.ChangeSame
open Go.Ab.Tryz
open Nat renaming lt_of_succ_le->zB,zero_le->Xd,mul_one->Xe,zero_add->Xg,le_refl->Xj,zero_mul->Xn,one_mul->Xq,mod_lt->Xr,zero_lt_succ->Xs,min_eq_left->XA,le_of_eq->XH
open List renaming getD_eq_getElem?_getD->zM,filterMap_nil->Xa,take->Xb,drop->Xc,map_cons->Xh,map_nil->Xi,not_mem_nil->Xk,length_take->Xo,mem_cons->Xp,length_set->Xv,mem_or_eq_of_mem_set->Xw,getElem_mem->Xx,nil_sublist->Xy,getElem?_eq_getElem->Xz,sublist_cons_self->XB,drop_zero->XC,flatMap_eq_foldl->XD,getElem?_set_ne->XE,take_succ_cons->XG
open Int renaming tmod_eq_emod_of_nonneg->zO,natCast_emod->Xl
open Go.Ab.Tryz renaming abEnv->Xf,e3E->Xm
open Option renaming map_some->Xt,map_none->Xu,isSome_some->XI
open Bool renaming and_true->XF
set_option maxHeartbeats 4000000
set_option linter.defProp false
set_option linter.unusedVariables false
set_option linter.unusedSimpArgs false
section
namespace Go.Ab
open Go.Proofs
set_option maxRecDepth 10000
def Tryz.F0:=aj t1<|aj t2<|aj t3<|aj t4<|aj t5<|aj t6<|aj Z0<|aj Z2<|aj t9<|aj t10<|aj t11<|aj t12<|aj Z6<|aj Z10<|aj t15<|aj t16<|aj t17<|aj Z23<|aj Z22<|aj t20<|aj t21<|aj t22<|aj t23<|aj t24<|aj r24<|aj t25<|aj r25<|aj t26<|aj t27<|aj t28<|aj t29<|aj t31<|aj t32<|aj t33<|aj t34<|aj t35<|aj t36<|aj r36<|aj Z1<|aj t38<|aj t39<|aj t40<|aj r40<|aj t41<|aj r41<|aj t42<|aj r42<|aj t43<|aj r43<|aj t44<|aj t45<|aj t46<|aj t47<|aj t48<|aj t49<|aj r49<|aj Z11<|aj t58<|aj t63<|aj t65<|aj r65<|aj t67<|aj t69<|aj t72<|aj t73<|aj t74<|aj Z14<|aj t85<|aj Z4<|aj Z9<|aj Z5<|aj t157<|aj t162<|aj Z3<|aj Z8<|aj t268<|aj Z15<|aj t355<|aj t357<|aj t359<|aj t360<|aj t361<|aj t362<|Z18
def Dz(T:Tab):Prop:= ∀i,i<T.l.length->(cI T.to i).getD (T.l.getD i 0).toNat 0=0/\(cI T.fr i).getD (T.l.getD i 0).toNat 0=0
def oZ(N z:Nat)(r:List Int):Prop:=r.length=N/\(∀x∈r,0<=x/\x<=72057594037927936)/\r.getD z 0=0
theorem oZ.ok{N z:Nat}{r:List Int}(h:oZ N z r):iX N r:=⟨h.1,h.2.1⟩
theorem dz_tabL{N:Nat}{l:List Int}{R Q:Nat->List Int}(h: ∀i,i<l.length->oZ N (l.getD i 0).toNat (R i)/\oZ N (l.getD i 0).toNat (Q i)):Dz (tabL l R Q):=fun i a=>by
 have a:i<l.length:=a
 simp only [tabL]
 rw [jH a,jH a]
 exact⟨(h i a).1.2.2,(h i a).2.2.2⟩
theorem yY{B:List Arc}{N s:Nat}(a:s<N):(nw B N s).getD s 0=0:=by
 rw [rowD_at a,(tD (B:=B) (s:=s) (v:=s) (x:=0) (.inl ⟨by decide,.nil,fun _ _=>Xd _⟩)).1];rfl
structure MadeI(has:Nat)(I:Img):Prop where
 g:Good I.g
 t:I.T.isSome=decide (has%2=1)
 c:I.C.isSome=decide (has/2%2=1)
 z: ∀T,I.T=some T->T.l[0]? =some 0/\T.l.length<=4/\gQ I.g.nodes T.l
 d: ∀T,I.T=some T->Dz T
theorem xO{a j:Nat}(g:a<=255)(b:j<8){E:Env}{t:TypeId}{p q:Operand}:a9 E .and t p q (.int .u8 (a:Int)) (.int .u8 ((2 ^j:Nat):Int))=some (.int .u8 ((if a/2 ^j%2=1 then 2 ^j else 0:Nat):Int)):=by
 have h:=s8 (E:=E) (t:=t) (p:=p) (q:=q) (k:=.u8) (x:=a) (y:=2 ^j) rfl (by simp only [pw];omega) (pow8 b)
 rw [h]
 congr 2
 have:a&&& 2 ^j=if a/2 ^j%2=1 then 2 ^j else 0:=by
  refine Nat.eq_of_testBit_eq fun i=>?_
  rw [Nat.testBit_and,Nat.testBit_two_pow]
  have c:a.testBit j=decide (a/2 ^j%2=1):=Nat.testBit_eq_decide_div_mod_eq ..
  by_cases e:j=i
  . subst e
    rw [c]
    by_cases d:a/2 ^j%2=1<;>simp [d]
  . have f: ¬i=j:=fun h=>e h.symm
    split<;>simp [Nat.testBit_two_pow,e,f]
 rw [this]
def TabY(h:Hp)(k:Nat)(p:Value)(N:Nat):Option Tab->Prop
 |none=>p=.pointer none
 |some T=>(∃m,k<m/\TabAt h m p N T.l (cI T.to) (cI T.fr))/\TabL N T/\Dz T/\T.l[0]? =some 0/\T.l.length<=4/\gQ N T.l
theorem TabY.mo{M:Nat->Prop}{h d:Hp}{k N:Nat}{p:Value}{T:Option Tab}(t:TabY h k p N T)(g:Mo M h d)(e: ∀b,M b->b<=k):TabY d k p N T:=by
 cases T with
 |none=>exact t
 | some T=>
   obtain⟨⟨m,a,b⟩,c⟩:=t
   exact⟨⟨m,a,b.mo g (fun x f=>by have:=e x f;omega)⟩,c⟩
theorem TabY.fl{h:Hp}{k N:Nat}{p:Value}{T:Option Tab}(t:TabY h k p N T):Fl p:=by
 cases T with
 |none=>have t:p=.pointer none:=t;subst t;exact cP
 |some T=>obtain⟨⟨m,_,b⟩,_⟩:=t;obtain⟨_,_,_,_,rfl,_⟩:=b.ex;exact cP
def rt(O:List Int)(i:Nat):Int:=if O.length=0 then 0 else(O.getD (i%O.length) 0).tmod 5
theorem made28_ok {h0:Hp} (ok:h0.t.Sized h0.n) {vB vO vM vN:Value} {s:Nat} {B O ms Z:List Int} (hB:SlW h0 .u8 vB B) (hO:SlW h0 .u8 vO O) (cO: ∀x∈O,0<=x/\x<=255) (hM:SlW h0 .u8 vM ms) (c2: ∀x∈ms,0<=x/\x<=255) (hN:SlW h0 .i64 vN Z) (cN: ∀x∈Z,-9223372036854775808<=x/\x<=9223372036854775807) (hh:s<=255):
 Ret Xf 7 [.agg ⟨[vB,vO,vM,.int .u8 (s:Nat),vN]⟩] h0 fun r W=>Gr h0 W/\ ∃b I,r=ptrTo b/\kC W b I/\MadeI s I:=by
 have S:=Si ok
 have fB:=hB.sl.fl
 have fO:=hO.sl.fl
 have fM:=hM.sl.fl
 have fN:=hN.sl.fl
 have mn:min (B.length:Int) 40=((min B.length 40:Nat):Int):=by omega
 obtain⟨ch,c4,sB,bB⟩:=hB.low (kd':=.i64) (n:=min B.length 40) Tryz.t22.1 Tryz.t5.2.2.1 (Nat.min_le_left _ _)
 have c5:=sB.fl
 refine ab (n:=281) (rs:=[.tmp 2]) rfl Tryz.e7 rfl rfl rfl (lbt rfl) ?_
 simp only [BS,Nat.reduceLT]
 refine ag (bU (by intro x e;cases e)) S ?_;clear S;intro h A S et;simp only [ah]at S
 simp only [BS,LB,Nat.reduceLT,Nat.reduceEqDiff,Nat.reduceAdd,Xt,Xu,F0,hB.sl.lenq,mn,c4,c5,S.ld (b:=A) (o:=0) m0 rfl]
 refine ag (bU (by intro x e;cases e)) S ?_;clear S;intro h bd S cl;simp only [ah]at S
 have c7:ay h 1 (encI .u8) ch (B.take (min B.length 40)):=sB.gr S.gr
 have nB: ¬aq ch bd:=fun L=>by have:=sB.lt ok L;omega
 have c8:(B.take (min B.length 40)).length<1000000:=by rw [Xo];omega
 simp only [BS,LB,Nat.reduceLT,Nat.reduceEqDiff]
 have k0:=S.fr.n
 have ap:=S.apart
 simp only [keys,Xh,Xi,Xa,List.append_nil,List.nodup_cons,Xp,Xk,or_false,not_or]at ap
 have eD:=(S.row (b:=A) m1).lt S.ok
 refine step_ret (raw_ok S.ok (S.row m0) ⟨c7,nB,c8,by omega⟩) ?_
 rintro v h ⟨fr,u,vx,vy,va,rfl,ad,ga,hz⟩
 have n1:=ad.n1
 have n2:=ad.n2
 replace S:=S.drop1.step fr (fun c L=>by subst L;exact .inr cl) (fun c L e=>by simp [keys]at L;omega)
 have fx:=ga.X.fl
 have fy:=ga.Y.fl
 have fa:=ga.A.fl
 have gS:=S.gr
 have S0:=S
 replace S:=S.base
 simp only [BS,F0,iP]
 refine ag av S ?_;clear S;intro h D S ev
 simp only [BS,LB,Nat.reduceLT,Nat.reduceEqDiff]
 refine aw (S.store (i:=0) rfl Tryz.t37.2.1 (by intro x e;cases e) rfl (by simp only [ah,List.all_cons,List.all_nil,fx.2.1,fy.2.1,fa.2.1,XF];rfl) (lbt rfl) ono) ?_
 clear S;rintro h ⟨S,mo⟩
 simp only [LC,ah,lay,Xb,Xc,Nat.reduceAdd]at S
 have db:=ga.mo S.fr (fun c L X=>by have:=hz c L;simp [keys]at X;omega)
 simp only [BS,LB,Nat.reduceLT,Nat.reduceEqDiff,F0,XC,XG,List.take_zero,S.lds (b:=D) (o:=0) (n:=4) m0 (lbt rfl)]
 have q4:=(S.row (b:=D) m0).lt S.ok
 have q1:=(S.row (b:=A) m1).lt S.ok
 refine step_ret (yS S.ok ad.b db) ?_
 rintro v h ⟨p,rfl,g,hp⟩
 replace S:=S.call g
 clear g
 obtain⟨P,rfl⟩:=hp.ptr
 replace S:=S0.rebase S
 have a0:=S.gr
 have eL:=S.ok
 clear S0
 replace S:=S.base
 simp only [LC,keys,Xh,Xi,Xa]at S
 rename Hp=>hC0
 have z4:=(S.row (b:=D) m0).lt S.ok
 have z1:=(S.row (b:=A) m1).lt S.ok
 simp only [BS,LB,Nat.reduceLT,Nat.reduceEqDiff,Nat.reduceAdd,F0]
 refine ag (bU (by intro x e;cases e)) S ?_;clear S;intro h F S cp;simp only [ah]at S
 have d1:decide (((s%2:Nat):Int)=1)=decide (s%2=1):=decide_eq_decide.2 (by omega)
 have a2: ∀(t:TypeId) (p q:Operand),a9 Xf .and t p q (.int .u8 (s:Nat)) (.int .u8 2)=some (.int .u8 ((if s/2%2=1 then 2 else 0:Nat):Int)):=fun t p q=>xO hh (j:=1) (by decide)
 have d2:decide (((if s/2%2=1 then 2 else 0:Nat):Int)=2)=decide (s/2%2=1):=decide_eq_decide.2 (by split<;>omega)
 have a4: ∀(t:TypeId) (p q:Operand),a9 Xf .and t p q (.int .u8 (s:Nat)) (.int .u8 4)=some (.int .u8 ((if s/4%2=1 then 4 else 0:Nat):Int)):=fun t p q=>xO hh (j:=2) (by decide)
 have d4:decide (((if s/4%2=1 then 4 else 0:Nat):Int)=4)=decide (s/4%2=1):=decide_eq_decide.2 (by split<;>omega)
 have a8: ∀(t:TypeId) (p q:Operand),a9 Xf .and t p q (.int .u8 (s:Nat)) (.int .u8 8)=some (.int .u8 ((if s/8%2=1 then 8 else 0:Nat):Int)):=fun t p q=>xO hh (j:=3) (by decide)
 have d8:decide (((if s/8%2=1 then 8 else 0:Nat):Int)=8)=decide (s/8%2=1):=decide_eq_decide.2 (by split<;>omega)
 have n7:=cp
 have nb: ∀c,c<h0.n-> ¬c∈[D,A]:=fun c L X=>by
  simp only [Xp,Xk,or_false]at X
  have:=gS.n
  omega
 have dd: ∀c,c∈[D,A]->h0.n<=c:=fun c X=>by
  simp only [Xp,Xk,or_false]at X
  have:=gS.n
  omega
 have de: ∀c,aq vM c->c<h0.n:=fun c L=>hM.sl.lt ok L
 have df: ∀c,aq vO c->c<h0.n:=fun c L=>hO.sl.lt ok L
 have bP: ∀c,aq vN c->c<h0.n:=fun c L=>hN.sl.lt ok L
 have bi: ∀{N:Hp},Mo (· ∈[D,A]) hC0 N->bW N _ (ptrTo P) u:=fun f=>hp.mo f (fun c X=>by simp only [Xp,Xk,or_false]at X;omega)
 simp only [BS,LB,Nat.reduceLT,Nat.reduceEqDiff,F0,b_andB (show s<256 by omega),d1,S.ld (b:=A) (o:=3) m2 rfl]
 refine mK (fun a W=> ∃pt T,St (· ∈[D,A]) hC0 W [(F,.row [ptrTo P,pt,.pointer none,.pointer none] 1),(D,.row [.int .i64 u.nodes,vx,vy,va] 1),(A,.row [vB,vO,vM,.int .u8 (s:Nat),vN] 1)] []/\TabY W F pt u.nodes T/\T.isSome=decide (s%2=1)/\a 1=ptrTo A/\a 4=ptrTo D/\a 5=ptrTo P/\a 7=ptrTo F) ?_ ?_ ?_
 . intro bk
   simp only [BS,LB]
   refine ag (bj (by exact Tryz.t38.1) (by exact Xm) (by decide) (by rfl)) S ?_;clear S;intro h bt S ew;simp only [LC,aU,bA,ah,Nat.reduceMul,Nat.reduceAdd,Xn,Xg,Xe,Xq]at S
   simp only [BS,LB,Nat.reduceLT,Nat.reduceEqDiff]
   refine si (fun a W=> ∃(Y:Value) (l:List Int) (G:List GL),St (· ∈[D,A]) hC0 W [(bt,.row [.int .i64 0] 1),(F,.row [ptrTo P,.pointer none,.pointer none,.pointer none] 1),(D,.row [.int .i64 u.nodes,vx,vy,va] 1),(A,.row [vB,vO,vM,.int .u8 (s:Nat),vN] 1)] G/\((G=[]/\Y=.slice (some ⟨bt,0,none⟩) 1 1/\l=[0])\/G=[(Y,1,ints l)])/\gQ u.nodes l/\l[0]? =some 0/\l.length<=4/\a 1=ptrTo A/\a 4=ptrTo D/\a 5=ptrTo P/\a 7=ptrTo F/\a 8=Y)
    (fun(i:Nat) a W=>i<=ms.length/\i<=3/\ ∃(Y:Value) (l:List Int) (G:List GL),St (· ∈[D,A]) hC0 W [(bt,.row [.int .i64 0] 1),(F,.row [ptrTo P,.pointer none,.pointer none,.pointer none] 1),(D,.row [.int .i64 u.nodes,vx,vy,va] 1),(A,.row [vB,vO,vM,.int .u8 (s:Nat),vN] 1)] G/\((G=[]/\Y=.slice (some ⟨bt,0,none⟩) 1 1/\l=[0])\/G=[(Y,1,ints l)])/\gQ u.nodes l/\l[0]? =some 0/\l.length<=i+1/\a 1=ptrTo A/\a 4=ptrTo D/\a 5=ptrTo P/\a 7=ptrTo F/\a 8=Y/\a 9=.int .i64 i) (fun i=>ms.length-i) ?_ ?_ 0 ⟨Xd _,Xd _,_,[0],[],S,.inl ⟨rfl,rfl,rfl⟩,(mayL_nil _).push (by simp) (by decide) (by omega) (by simp),rfl,by simp,by simp [aa,ac],by simp [aa,ac],by simp [aa,ac],by simp [aa,ac],by simp [aa],by simp [aa]⟩
   . clear S
     intro i ih a W ⟨V,hi3,Y,l,G,S,hG,hl,hl0,hli,E,H,J,r7,r8,r9⟩
     have cr:=(hM.sl.gr a0).mo S.fr (fun c L=>nb c (de c L))
     have a1: ∀(n:Nat) (d:List Deferred) (rc:Option (Value×Bool)) (aL:Nat->Value),aL 1=ptrTo A->aL 4=ptrTo D->aL 5=ptrTo P->aL 7=ptrTo F->aL 8=Y->JP n d rc (fun a W=> ∃(Y:Value) (l:List Int) (G:List GL),St (· ∈[D,A]) hC0 W [(bt,.row [.int .i64 0] 1),(F,.row [ptrTo P,.pointer none,.pointer none,.pointer none] 1),(D,.row [.int .i64 u.nodes,vx,vy,va] 1),(A,.row [vB,vO,vM,.int .u8 (s:Nat),vN] 1)] G/\((G=[]/\Y=.slice (some ⟨bt,0,none⟩) 1 1/\l=[0])\/G=[(Y,1,ints l)])/\gQ u.nodes l/\l[0]? =some 0/\l.length<=4/\a 1=ptrTo A/\a 4=ptrTo D/\a 5=ptrTo P/\a 7=ptrTo F/\a 8=Y) .normal (LL n aL d rc) W:=fun n d rc aL e1 e4 e5 e7 e8=>dg ⟨Y,l,G,S,hG,hl,hl0,by omega,e1,e4,e5,e7,e8⟩
     have sR:ay W 1 (encI .i64) Y l:=by
      rcases hG with⟨_,rfl,rfl⟩|rfl
      . exact .inr ⟨bt,0,none,1,rfl,Xj _,S.lds (b:=bt) (o:=0) (n:=1*1) m0 (lbt rfl)⟩
      . exact(S.gown _ m0).1.sl rfl (fun _=>rfl) (by decide)
     by_cases hlt:i<ms.length
     . by_cases h3:i<3
       . have c3:(i:Int)<3:=by omega
         obtain⟨c,o,a5,bl⟩:=cr.ix (kd:=.i64) (aH .u8) hlt
         have hx:=c2 _ (Xx hlt)
         obtain⟨x,ex⟩: ∃x:Nat,ms[i]=x:=⟨ms[i].toNat,by omega⟩
         rw [ex]at bl hx
         have nz:(u.nodes:Int)≠0:=by omega
         have wc:am .i64 (x:Int)=(x:Int):=by rw [wrap64]<;>omega
         have tm:(x:Int).tmod (u.nodes:Int)=((x%u.nodes:Nat):Int):=by rw [zO (by omega)];exact(Xl _ _).symm
         have ai:x%u.nodes<u.nodes:=Xr _ (by omega)
         have w:am .i64 ((i:Int)+1)=((i+1:Nat):Int):=by rw [wrap64]<;>omega
         simp only [BS,LB,Nat.reduceLT,Nat.reduceEqDiff,F0,E,r9,hM.sl.lenq,an,hlt,c3,S.ld (b:=A) (o:=2) m3 rfl]
         refine au (ax rfl) (q:=0) (ps:=[]) (by kernel_rfl) ?_
         simp only [BS,LB,ck,aF,cq,cls,Nat.reduceLT,Nat.reduceEqDiff,Nat.reduceAdd,Nat.reducePow,Nat.reduceDiv,Nat.reduceMod,Nat.reduceLeDiff,F0,E,H,r9,a5,bl,encI,wc,iK nz,tm,S.ld (b:=D) (o:=0) m2 rfl,S.ld (b:=A) (o:=2) m3 rfl]
         generalize x%u.nodes=v at ai
         clear cr
         refine az (fun(k:Nat) a N=>k<=l.length/\N=W/\a 1=ptrTo A/\a 4=ptrTo D/\a 5=ptrTo P/\a 7=ptrTo F/\a 8=Y/\a 9=.int .i64 i/\a 10=.int .i64 v/\a 11=.bool (decide ((v:Int)∈l.take k))/\a 12=.int .i64 k) (fun k=>l.length-k) ?_ 0 _ _ ⟨Xd _,rfl,by simp [aa,E,ac],by simp [aa,H,ac],by simp [aa,J,ac],by simp [aa,r7,ac],by simp [aa,r8],by simp [aa,r9],by simp [aa],by simp [aa],by simp [aa]⟩
         clear E H J r7 r8 r9
         rintro k cs a N ⟨hk,rfl,E,H,J,r7,r8,r9,bn,af,br⟩
         have wk:am .i64 ((k:Int)+1)=((k+1:Nat):Int):=by rw [wrap64]<;>omega
         by_cases a3:k<l.length
         . have tk:l.take (k+1)=l.take k++[l[k]]:=List.take_succ_eq_append_getElem a3
           by_cases X:(v:Int)∈l.take k
           . rw [decide_eq_true X]at af
             have dj:(v:Int)∈l.take (k+1):=by rw [tk];exact List.mem_append_left _ X
             simp only [BS,LB,Nat.reduceLT,Nat.reduceEqDiff,F0,r8,af,br,sR.lenq,an,a3,wk]
             exact cs (k+1) _ _ (by omega) ⟨by omega,rfl,by simp [aa,E,ac],by simp [aa,H,ac],by simp [aa,J,ac],by simp [aa,r7,ac],by simp [aa,r8],by simp [aa,r9],by simp [aa,bn],by simp [aa,dj],by simp [aa]⟩
           . rw [decide_eq_false X]at af
             obtain⟨c1,o1,i1,y1⟩:=sR.ix (kd:=.i64) (aH .i64) a3
             have m2:decide (l[k]=(v:Int))=decide ((v:Int)∈l.take (k+1)):=decide_eq_decide.2 ⟨fun he=>by rw [tk,he];exact List.mem_append_right _ (List.mem_singleton.2 rfl),fun h=>by
              rw [tk]at h
              rcases List.mem_append.1 h with h|h
              . exact absurd h X
              . exact(List.mem_singleton.1 h).symm⟩
             simp only [BS,LB,Nat.reduceLT,Nat.reduceEqDiff,F0,r8,bn,af,br,sR.lenq,an,a3,wk,i1,y1,encI,m2]
             exact cs (k+1) _ _ (by omega) ⟨by omega,rfl,by simp [aa,E,ac],by simp [aa,H,ac],by simp [aa,J,ac],by simp [aa,r7,ac],by simp [aa,r8],by simp [aa,r9],by simp [aa,bn],by simp [aa],by simp [aa]⟩
         . have ek:k=l.length:=by omega
           subst ek
           rw [List.take_length]at af
           by_cases X:(v:Int)∈l
           . rw [decide_eq_true X]at af
             simp only [BS,LB,Nat.reduceLT,Nat.reduceEqDiff,F0,r8,r9,af,br,sR.lenq,an,a3,w]
             exact ih (i+1) _ _ (by omega) ⟨by omega,by omega,Y,l,G,S,hG,hl,hl0,by omega,by simp [aa,E,ac],by simp [aa,H,ac],by simp [aa,J,ac],by simp [aa,r7,ac],by simp [aa,r8],by simp [aa]⟩
           . rw [decide_eq_false X]at af
             simp only [BS,LB,Nat.reduceLT,Nat.reduceEqDiff,F0,r8,r9,bn,af,br,sR.lenq,an,a3]
             refine ag (bj (by exact Tryz.t38.1) (by exact Xm) (by decide) (by rfl)) S ?_;clear S;intro h bu S eA;simp only [LC,aU,bA,ah,Nat.reduceMul,Nat.reduceAdd,Xn,Xg,Xe,Xq]at S
             simp only [BS,LB,Nat.reduceLT,Nat.reduceEqDiff]
             have bX:aA h 1 (.slice (some ⟨bu,0,none⟩) 1 1)=some (1,ints [(v:Int)]):=by simp only [aA];rw [S.lds (b:=bu) (o:=0) (n:=1*1) m0 (lbt rfl)];rfl
             replace S:=S.drop1
             have cv: ∃h3 v',dp Xf h [38,38] Y (.slice (some ⟨bu,0,none⟩) 1 1)=some (h3,v')/\St (· ∈[D,A]) hC0 h3 [(bt,.row [.int .i64 0] 1),(F,.row [ptrTo P,.pointer none,.pointer none,.pointer none] 1),(D,.row [.int .i64 u.nodes,vx,vy,va] 1),(A,.row [vB,vO,vM,.int .u8 (s:Nat),vN] 1)] [(v',1,ints (l++[(v:Int)]))]:=by
              rcases hG with⟨rfl,rfl,rfl⟩|rfl
              . rw [gM]
                exact St.growB S (b:=bt) (len:=1) (m:=1) (new:=ints [(v:Int)]) (S.row m0) rfl Tryz.t38.1 Xm (by decide) Tryz.t38.2.2.2.2.2 bX rfl (by decide) (by decide) (by rw [bQ];exact lbt rfl)
              . rw [gM]
                exact S.grow (j:=0) (m:=1) (new:=ints [(v:Int)]) rfl Tryz.t38.1 Xm (by decide) Tryz.t38.2.2.2.2.2 bX rfl (by decide) rfl (by rw [bQ,bQ];simp;omega)
             refine dT cv ?_
             clear S bX hG cv sR a1;rintro h dn S
             simp only [BS,LB,Nat.reduceLT,Nat.reduceEqDiff,r9,w]
             exact ih (i+1) _ _ (by omega) ⟨by omega,by omega,dn,l++[(v:Int)],_,S,.inr rfl,hl.push (by omega) (by omega) (by omega) X,by rw [List.getElem?_append_left (by have:=(List.getElem?_eq_some_iff.1 hl0).1;exact this)];exact hl0,by simp;omega,by simp [aa,E,ac],by simp [aa,H,ac],by simp [aa,J,ac],by simp [aa,r7,ac],by simp [aa],by simp [aa]⟩
       . have c3: ¬(i:Int)<3:=by omega
         simp only [BS,LB,Nat.reduceLT,Nat.reduceEqDiff,F0,E,r9,hM.sl.lenq,an,hlt,c3,S.ld (b:=A) (o:=2) m3 rfl]
         exact a1 _ _ _ _ (by simp [aa,E,ac]) (by simp [aa,H,ac]) (by simp [aa,J,ac]) (by simp [aa,r7,ac]) (by simp [aa,r8])
     . simp only [BS,LB,Nat.reduceLT,Nat.reduceEqDiff,F0,E,r9,hM.sl.lenq,an,hlt,S.ld (b:=A) (o:=2) m3 rfl]
       exact a1 _ _ _ _ (by simp [aa,E,ac]) (by simp [aa,H,ac]) (by simp [aa,J,ac]) (by simp [aa,r7,ac]) (by simp [aa,r8])
   clear S
   intro a W ⟨Y,l,G,S,hG,hl,hl0,hl4,E,H,J,r7,r8⟩
   have sR: ∀{x:Hp} {L':List (Nat×Ob)} {G':List GL},St (· ∈[D,A]) hC0 x L' G'->(bt,Ob.row [.int .i64 0] 1)∈L'->(∀p∈G,p∈G')->ay x 1 (encI .i64) Y l:=fun {x L' G'} U hL dr=>by
    rcases hG with⟨_,rfl,rfl⟩|rfl
    . exact .inr ⟨bt,0,none,1,rfl,Xj _,U.lds (b:=bt) (o:=0) (n:=1*1) hL (lbt rfl)⟩
    . exact ip.sl (xs:=l) (enc:=encI .i64) (U.gown (Y,1,ints l) (dr _ m0)).1 rfl (fun _=>rfl) (by decide)
   have l1:1<=l.length:=(List.getElem?_eq_some_iff.1 hl0).1
   have fR:Fl Y:=(sR S m0 (fun p hp=>hp)).fl
   have k7: ∀{x:Hp} {L':List (Nat×Ob)} {G':List GL} {o:Ob},St (· ∈[D,A]) hC0 x L' G'->(F,o)∈L'->F<x.n:=fun U X=>(U.own _ X).2.lt U.ok
   have kb: ∀c,c∈[D,A]->c<=F:=fun c X=>by
    simp only [Xp,Xk,or_false]at X;omega
   simp only [BS,LB,Nat.reduceLT,Nat.reduceEqDiff,J,r7,r8]
   refine step_ret (tabOf_ok S.ok ad (bi S.fr) (sR S m0 (fun p hp=>hp)) (by omega)) ?_
   rintro pt h ⟨g,hT⟩
   replace hT:=(hT.resolve_left (fun h=>h.1 hl)).2
   have kn:=k7 S m1
   replace S:=S.call g
   have own: ∀i,i<l.length->iX u.nodes (toR u l i)/\iX u.nodes (frR u l i):=fun i V=>ownRows S.ok ad (bi S.fr) hl V
   have a6: ∀i,i<l.length->oZ u.nodes (l.getD i 0).toNat (toR u l i)/\oZ u.nodes (l.getD i 0).toNat (frR u l i):=fun i V=>by
    have hh:=own i V
    have:=hl.2 i V
    exact⟨⟨hh.1.1,hh.1.2,yY (by omega)⟩,⟨hh.2.1,hh.2.2,yY (by omega)⟩⟩
   have tY:TabY h F pt u.nodes (some (tabL l (toR u l) (frR u l))):=⟨⟨_,kn,tabL_at hT⟩,tabL_L hl (by omega) l1 (fun i V=>(own i V).1) (fun i V=>(own i V).2),dz_tabL a6,hl0,hl4,hl⟩
   have bY:=tY.fl
   simp only [BS,LB,Nat.reduceLT,Nat.reduceEqDiff,F0]
   refine aw (ar S (i:=1) rfl Tryz.t72.2.2.1 bY (zB (lbt rfl)) ono) ?_
   clear S hT;rintro h ⟨S,mo⟩
   simp only [LC,ah,lay,Xb,Xc,Nat.reduceAdd]at S
   replace tY:=tY.mo mo (fun b e=>XH e)
   have ds: ∃b,pt=ptrTo b:=by obtain⟨⟨m,_,x⟩,_⟩:=tY;obtain⟨b,_,_,_,e,_⟩:=x.ex;exact⟨b,e⟩
   obtain⟨bT,rfl⟩:=ds
   by_cases h4:s/4%2=1
   . have e4:decide (s/4%2=1)=true:=decide_eq_true h4
     simp only [BS,LB,Nat.reduceLT,Nat.reduceEqDiff,F0,E,r7,a4,d4,e4,S.ld (b:=A) (o:=3) m3 rfl,S.ld (b:=F) (o:=1) m1 rfl]
     obtain⟨⟨mT,_,tA⟩,tL,_,_,_⟩:=tY
     have eC:=a6
     replace tA:TabAt _ mT (ptrTo bT) u.nodes l (toR u l) (frR u l):=tA.congr (fun i V=>jH V) (fun i V=>jH V)
     obtain⟨nB,b0⟩: ∃n,n=h.n:=⟨_,rfl⟩
     have kS: ∀c∈keys [(bt,.row [.int .i64 0] 1),(F,.row [ptrTo P,ptrTo bT,.pointer none,.pointer none] 1),(D,.row [.int .i64 u.nodes,vx,vy,va] 1),(A,.row [vB,vO,vM,.int .u8 (s:Nat),vN] 1)] G,c<nB:=fun c L=>by rw [b0];exact S.key_lt L
     have gN:hC0.n<=nB:=by rw [b0];exact S.fr.n
     refine step_ret (vJ S.ok tA (by omega) (fun i V=>by rw [(own i V).1.1];omega) (fun i V=>by rw [(own i V).2.1];omega)) ?_
     rintro _ h ⟨g,vT,vF,kk,rfl,DT,DF,y1,y2⟩
     rw [<-b0]at DT y1
     obtain⟨nE,dt⟩: ∃n,n=h.n:=⟨_,rfl⟩
     rw [<-dt]at DF y2
     replace S:=S.call g
     obtain⟨ta,tn,tc,eT⟩:=DT.form
     obtain⟨fa,fn,fc,eF⟩:=DF.form
     simp only [BS,LB,Nat.reduceLT,Nat.reduceEqDiff]
     refine az (fun(i:Nat) a N=>i<=l.length/\ ∃(R Q:Nat->List Int),St (· ∈[D,A]) hC0 N [(bt,.row [.int .i64 0] 1),(F,.row [ptrTo P,ptrTo bT,.pointer none,.pointer none] 1),(D,.row [.int .i64 u.nodes,vx,vy,va] 1),(A,.row [vB,vO,vM,.int .u8 (s:Nat),vN] 1)] G/\LLD N nB kk vT l.length R/\LLD N kk nE vF l.length Q/\(∀i,i<l.length->oZ u.nodes (l.getD i 0).toNat (R i)/\oZ u.nodes (l.getD i 0).toNat (Q i))/\a 1=ptrTo A/\a 4=ptrTo D/\a 5=ptrTo P/\a 7=ptrTo F/\a 8=Y/\a 13=vT/\a 14=vF/\a 15=.int .i64 i) (fun i=>l.length-i) ?_ 0 _ _ ⟨Xd _,_,_,S,DT,DF,a6,by simp [aa,E,ac],by simp [aa,H,ac],by simp [aa,J,ac],by simp [aa,r7,ac],by simp [aa,r8],by simp [aa],by simp [aa],by simp [aa]⟩
     clear S DT DF E H J r7 r8 g mo
     intro i ih a N ⟨V,R,Q,S,DT,DF,hRQ,E,H,J,r7,r8,r13,r14,r15⟩
     have w:am .i64 ((i:Int)+1)=((i+1:Nat):Int):=by rw [wrap64]<;>omega
     by_cases hlt:i<l.length
     . simp only [BS,LB,Nat.reduceLT,Nat.reduceEqDiff,F0,r8,r15,(sR S m0 (fun p hp=>hp)).lenq,an,hlt]
       refine az (fun(v:Nat) a N=>v<=u.nodes/\ ∃(R Q:Nat->List Int),St (· ∈[D,A]) hC0 N [(bt,.row [.int .i64 0] 1),(F,.row [ptrTo P,ptrTo bT,.pointer none,.pointer none] 1),(D,.row [.int .i64 u.nodes,vx,vy,va] 1),(A,.row [vB,vO,vM,.int .u8 (s:Nat),vN] 1)] G/\LLD N nB kk vT l.length R/\LLD N kk nE vF l.length Q/\(∀i,i<l.length->oZ u.nodes (l.getD i 0).toNat (R i)/\oZ u.nodes (l.getD i 0).toNat (Q i))/\a 1=ptrTo A/\a 4=ptrTo D/\a 5=ptrTo P/\a 7=ptrTo F/\a 8=Y/\a 13=vT/\a 14=vF/\a 15=.int .i64 i/\a 16=.int .i64 v) (fun v=>u.nodes-v) ?_ 0 _ _ ⟨Xd _,_,_,S,DT,DF,hRQ,by simp [aa,E,ac],by simp [aa,H,ac],by simp [aa,J,ac],by simp [aa,r7,ac],by simp [aa,r8],by simp [aa,r13],by simp [aa,r14],by simp [aa,r15],by simp [aa]⟩
       clear S DT DF hRQ E H J r7 r8 r13 r14 r15 R Q
       intro v b2 a N ⟨hv,R,Q,S,DT,DF,hRQ,E,H,J,r7,r8,r13,r14,r15,r16⟩
       have wv:am .i64 ((v:Int)+1)=((v+1:Nat):Int):=by rw [wrap64]<;>omega
       by_cases bv:v<u.nodes
       . obtain⟨cm,om,b3,b5⟩:=(sR S m0 (fun p hp=>hp)).ix (kd:=.i64) (aH .i64) hlt
         have a7:=(hN.sl.gr a0).mo S.fr (fun c L=>nb c (bP c L))
         by_cases X:(v:Int)=l[i]
         . have dv:=X.symm
           simp only [BS,LB,Nat.reduceLT,Nat.reduceEqDiff,F0,H,r8,r15,r16,an,bv,b3,b5,encI,dv,wv,S.ld (b:=D) (o:=0) m2 rfl]
           exact b2 (v+1) _ _ (by omega) ⟨by omega,R,Q,S,DT,DF,hRQ,by simp [aa,E,ac],by simp [aa,H,ac],by simp [aa,J,ac],by simp [aa,r7,ac],by simp [aa,r8],by simp [aa,r13],by simp [aa,r14],by simp [aa,r15],by simp [aa]⟩
         by_cases hz:Z.length=0
         . have c0: ¬(0:Int)<(Z.length:Int):=by omega
           simp only [BS,LB,Nat.reduceLT,Nat.reduceEqDiff,F0,E,H,r8,r15,r16,an,bv,b3,b5,encI,X,hN.sl.lenq,c0,wv,S.ld (b:=D) (o:=0) m2 rfl,S.ld (b:=A) (o:=4) m3 rfl]
           exact b2 (v+1) _ _ (by omega) ⟨by omega,R,Q,S,DT,DF,hRQ,by simp [aa,E,ac],by simp [aa,H,ac],by simp [aa,J,ac],by simp [aa,r7,ac],by simp [aa,r8],by simp [aa,r13],by simp [aa,r14],by simp [aa,r15],by simp [aa]⟩
         . have c0:(0:Int)<(Z.length:Int):=by omega
           have cx:(Z.length:Int)≠0:=by omega
           have w1:am .i64 ((i:Int)+(v:Int))=((i+v:Nat):Int):=by rw [wrap64]<;>omega
           have w2:am .i64 (3*(i:Int))=((3*i:Nat):Int):=by rw [wrap64]<;>omega
           have w3:am .i64 (((3*i:Nat):Int)+(v:Int))=((3*i+v:Nat):Int):=by rw [wrap64]<;>omega
           have dx:((i+v:Nat):Int).tmod (Z.length:Int)=(((i+v)%Z.length:Nat):Int):=by rw [zO (Int.natCast_nonneg _)];exact(Xl _ _).symm
           have dA:((3*i+v:Nat):Int).tmod (Z.length:Int)=(((3*i+v)%Z.length:Nat):Int):=by rw [zO (Int.natCast_nonneg _)];exact(Xl _ _).symm
           simp only [BS,LB,Nat.reduceLT,Nat.reduceEqDiff,F0,E,H,r8,r15,r16,an,bv,b3,b5,encI,X,hN.sl.lenq,c0,S.ld (b:=D) (o:=0) m2 rfl,S.ld (b:=A) (o:=4) m3 rfl]
           have vz:v≠(l.getD i 0).toNat:=fun e=>by
            have h1:=hl.2 i hlt
            have N:l.getD i 0=l[i]:=by simp [zM,hlt]
            omega
           refine au (ax rfl) (q:=0) (ps:=[]) (by kernel_rfl) ?_
           have b6:R i≠ []:=fun e=>by have:=(hRQ i hlt).1;rw [e]at this;have:=this.1;simp at this;omega
           obtain⟨c,⟨q,o,e1,e2⟩,ba,dF,d0,bb⟩:=DT.at hlt b6
           have bc:=(hRQ i hlt).1.1
           have iv:iQ (some 1) (.slice (some ⟨c,0,some 1⟩) (R i).length (R i).length) (.int .i64 (v:Nat))=some (.pointer (some ⟨c,v,none⟩)):=by
            rw [mg,fE (by omega),tH,Xg,Xe]
           obtain⟨cn,on,be,ak⟩:=a7.ix (kd:=.i64) (aH .i64) (Xr (i+v) (show 0<Z.length by omega))
           generalize Z[(i+v)%Z.length]'(Xr (i+v) (by omega))=z at ak
           simp only [BS,LB,cls,Nat.reduceLT,Nat.reduceEqDiff,Nat.reduceAdd,Nat.reducePow,Nat.reduceDiv,Nat.reduceMod,Nat.reduceLeDiff,F0,E,r13,r15,r16,hN.sl.lenq,iK cx,w1,dx,e1,e2,be,ak,encI,iv,S.ld (b:=A) (o:=4) m3 rfl]
           have T:=St.init1 S.ok (o:=.row (ints (R i)) 1) ba
           refine d9 (ar T (i:=0) rfl Tryz.t2.2.2.1 cg (by rw [bQ];omega) ono) ?_
           clear T;rintro h3 ⟨T,mo⟩
           simp only [List.set_cons_zero,ints_set]at T
           have kc: ∀b∈keys [(bt,.row [.int .i64 0] 1),(F,.row [ptrTo P,ptrTo bT,.pointer none,.pointer none] 1),(D,.row [.int .i64 u.nodes,vx,vy,va] 1),(A,.row [vB,vO,vM,.int .u8 (s:Nat),vN] 1)] G,b≠c:=fun b hb e=>by have:=kS b hb;omega
           replace S:=S.step mo (fun b e=>.inr (by have e:b=c:=e;omega)) (fun b hb e=>kc b hb e)
           have D1:=bb _ _ mo (Xv ..) (T.row m0)
           have D2:=DF.mo mo (fun b e=>by have e:b=c:=e;omega)
           have bf:oZ u.nodes (l.getD i 0).toNat ((R i).set v (min (max z 0) 72057594037927936)):=⟨by rw [Xv];exact bc,fun x hx=>by
            rcases Xw hx with h|h
            . exact(hRQ i hlt).1.2.1 x h
            . omega,by
            rw [zM,XE vz,<-zM];exact(hRQ i hlt).1.2.2⟩
           clear DT DF T bb ba e2
           simp only [BS,LB,Nat.reduceAdd]
           have d3:=bf
           have a7:=(hN.sl.gr a0).mo S.fr (fun c L=>nb c (bP c L))
           refine au (ax rfl) (q:=0) (ps:=[]) (by kernel_rfl) ?_
           have b6:Q i≠ []:=fun e=>by have:=(hRQ i hlt).2;rw [e]at this;have:=this.1;simp at this;omega
           obtain⟨c,⟨q,o,e1,e2⟩,ba,dF,d0,bb⟩:=D2.at hlt b6
           have bc:=(hRQ i hlt).2.1
           have iv:iQ (some 1) (.slice (some ⟨c,0,some 1⟩) (Q i).length (Q i).length) (.int .i64 (v:Nat))=some (.pointer (some ⟨c,v,none⟩)):=by
            rw [mg,fE (by omega),tH,Xg,Xe]
           obtain⟨cn,on,be,ak⟩:=a7.ix (kd:=.i64) (aH .i64) (Xr (3*i+v) (show 0<Z.length by omega))
           generalize Z[(3*i+v)%Z.length]'(Xr (3*i+v) (by omega))=z at ak
           simp only [BS,LB,cls,Nat.reduceLT,Nat.reduceEqDiff,Nat.reduceAdd,Nat.reducePow,Nat.reduceDiv,Nat.reduceMod,Nat.reduceLeDiff,F0,E,r14,r15,r16,hN.sl.lenq,iK cx,w2,w3,dA,e1,e2,be,ak,encI,iv,S.ld (b:=A) (o:=4) m3 rfl]
           have T:=St.init1 S.ok (o:=.row (ints (Q i)) 1) ba
           refine d9 (ar T (i:=0) rfl Tryz.t2.2.2.1 cg (by rw [bQ];omega) ono) ?_
           clear T;rintro h3 ⟨T,mo⟩
           simp only [List.set_cons_zero,ints_set]at T
           have kc: ∀b∈keys [(bt,.row [.int .i64 0] 1),(F,.row [ptrTo P,ptrTo bT,.pointer none,.pointer none] 1),(D,.row [.int .i64 u.nodes,vx,vy,va] 1),(A,.row [vB,vO,vM,.int .u8 (s:Nat),vN] 1)] G,b≠c:=fun b hb e=>by have:=kS b hb;omega
           replace S:=S.step mo (fun b e=>.inr (by have e:b=c:=e;omega)) (fun b hb e=>kc b hb e)
           have D3:=bb _ _ mo (Xv ..) (T.row m0)
           have D4:=D1.mo mo (fun b e=>by have e:b=c:=e;omega)
           have bf:oZ u.nodes (l.getD i 0).toNat ((Q i).set v (min (max z 0) 72057594037927936)):=⟨by rw [Xv];exact bc,fun x hx=>by
            rcases Xw hx with h|h
            . exact(hRQ i hlt).2.2.1 x h
            . omega,by
            rw [zM,XE vz,<-zM];exact(hRQ i hlt).2.2.2⟩
           clear D2 D1 T bb ba e2
           simp only [BS,LB,Nat.reduceLT,Nat.reduceEqDiff,Nat.reduceAdd,r16,wv]
           exact b2 (v+1) _ _ (by omega) ⟨by omega,_,_,S,D4,D3,fun j hj=>⟨by
            by_cases ej:j=i
            . subst ej;simp only [if_true];exact d3
            . simp only [if_neg ej];exact(hRQ j hj).1,by
            by_cases ej:j=i
            . subst ej;simp only [if_true];exact bf
            . simp only [if_neg ej];exact(hRQ j hj).2⟩,by simp [aa,E,ac],by simp [aa,H,ac],by simp [aa,J,ac],by simp [aa,r7,ac],by simp [aa,r8],by simp [aa,r13],by simp [aa,r14],by simp [aa,r15],by simp [aa]⟩
       . simp only [BS,LB,Nat.reduceLT,Nat.reduceEqDiff,F0,H,r7,r8,r13,r14,r15,r16,an,bv,w,S.ld (b:=D) (o:=0) m2 rfl]
         exact ih (i+1) _ _ (by omega) ⟨by omega,R,Q,S,DT,DF,hRQ,by simp [aa,E,ac],by simp [aa,H,ac],by simp [aa,J,ac],by simp [aa,r7,ac],by simp [aa,r8],by simp [aa,r13],by simp [aa,r14],by simp [aa]⟩
     . simp only [BS,LB,Nat.reduceLT,Nat.reduceEqDiff,F0,H,r7,r8,r13,r14,r15,(sR S m0 (fun p hp=>hp)).lenq,an,hlt,S.ld (b:=D) (o:=0) m2 rfl]
       refine step_ret (make_ok S.ok (sR S m0 (fun p hp=>hp)) DT.ll DF.ll (by omega) (by omega) hl (fun i V=>(hRQ i V).1.ok) (fun i V=>(hRQ i V).2.ok)) ?_
       rintro pt h ⟨g,hT⟩
       have kn:=k7 S m1
       replace S:=S.call g
       have tY:TabY h F pt u.nodes (some (tabL l R Q)):=⟨⟨_,kn,tabL_at hT⟩,tabL_L hl (by omega) l1 (fun i V=>(hRQ i V).1.ok) (fun i V=>(hRQ i V).2.ok),dz_tabL hRQ,hl0,hl4,hl⟩
       have bY:=tY.fl
       simp only [BS,LB,Nat.reduceLT,Nat.reduceEqDiff,F0]
       refine aw (ar S (i:=1) rfl Tryz.t72.2.2.1 bY (zB (lbt rfl)) ono) ?_
       clear S hT;rintro h ⟨S,mo⟩
       simp only [LC,ah,lay,Xb,Xc,Nat.reduceAdd]at S
       replace tY:=tY.mo mo (fun b e=>XH e)
       simp only [BS]
       refine dg ⟨_,_,(?_ :St (· ∈[D,A]) hC0 _ _ []),tY,?_,by simp [aa,E,ac],by simp [aa,H,ac],by simp [aa,J,ac],by simp [aa,r7,ac]⟩
       . exact S.sub (XB _ _) (Xy _)
       . rw [bk];rfl
   . have e4:decide (s/4%2=1)=false:=decide_eq_false h4
     simp only [BS,LB,Nat.reduceLT,Nat.reduceEqDiff,F0,E,a4,d4,e4,S.ld (b:=A) (o:=3) m3 rfl]
     refine dg ⟨_,_,(?_ :St (· ∈[D,A]) hC0 _ _ []),tY,?_,by simp [aa,E,ac],by simp [aa,H,ac],by simp [aa,J,ac],by simp [aa,r7,ac]⟩
     . exact S.sub (XB _ _) (Xy _)
     . rw [bk];rfl
 . intro bk
   simp only [BS]
   exact dg ⟨_,none,S,rfl,by rw [bk];rfl,by simp [aa,ac],by simp [aa,ac],by simp [aa,ac],by simp [aa,ac]⟩
 clear S
 intro a hA ⟨pt,T,S,tY,hTs,E,H,J,r7⟩
 simp only [BS,LB,Nat.reduceLT,Nat.reduceEqDiff,F0,E,a2,d2,S.ld (b:=A) (o:=3) m2 rfl]
 refine mK (fun a W=> ∃pc pf C,St (· ∈[D,A]) hC0 W [(F,.row [ptrTo P,pt,pc,pf] 1),(D,.row [.int .i64 u.nodes,vx,vy,va] 1),(A,.row [vB,vO,vM,.int .u8 (s:Nat),vN] 1)] []/\TabY W F pt u.nodes T/\CelX W pc pf u C/\C.isSome=decide (s/2%2=1)/\a 1=ptrTo A/\a 4=ptrTo D/\a 5=ptrTo P/\a 7=ptrTo F) ?_ ?_ ?_
 . intro bw
   simp only [BS]
   have S9:=S
   replace S:=S.base
   simp only [LC,keys,Xh,Xi,Xa]at S
   have hq: ∀{N:Hp},Mo (· ∈[F,D,A]) hA N->Mo (· ∈[D,A]) hC0 N:=fun f=>S9.fr.trans f (fun c L=>by
    rcases List.mem_cons.1 L with rfl|L
    . exact .inr n7
    . exact .inl L)
   have kb: ∀c,c∈[F,D,A]->c<=F:=fun c X=>by
    simp only [Xp,Xk,or_false]at X;omega
   replace S:=S.nilG (k:=1)
   refine az (fun(i:Nat) a h=>i<=u.nodes/\ ∃vQ,St (· ∈[F,D,A]) hA h [(F,.row [ptrTo P,pt,.pointer none,.pointer none] 1),(D,.row [.int .i64 u.nodes,vx,vy,va] 1),(A,.row [vB,vO,vM,.int .u8 (s:Nat),vN] 1)] [(vQ,1,ints ((List.range i).map (rt O)))]/\a 1=ptrTo A/\a 4=ptrTo D/\a 5=ptrTo P/\a 7=ptrTo F/\a 17=vQ/\a 18=.int .i64 i) (fun i=>u.nodes-i) ?_ 0 _ _ ⟨Xd _,_,S,by simp [aa,E,ac],by simp [aa,H,ac],by simp [aa,J,ac],by simp [aa,r7,ac],by simp [aa],by simp [aa]⟩
   clear S
   clear E H J r7
   intro i ih a h ⟨V,vQ,S,E,H,J,r7,r17,r18⟩
   have w:am .i64 ((i:Int)+1)=((i+1:Nat):Int):=by rw [wrap64]<;>omega
   have d5:=(hO.sl.gr a0).mo (hq S.fr) (fun c L=>nb c (df c L))
   by_cases hlt:i<u.nodes
   . by_cases cA:O.length=0
     . have c0: ¬(0:Int)<(O.length:Int):=by omega
       simp only [BS,LB,Nat.reduceLT,Nat.reduceEqDiff,F0,E,H,r17,r18,an,hlt,hO.sl.lenq,c0,S.ld (b:=D) (o:=0) m1 rfl,S.ld (b:=A) (o:=1) m2 rfl]
       refine ag (bj (by exact Tryz.t38.1) (by exact Xm) (by decide) (by rfl)) S ?_;clear S;intro h bs S cQ;simp only [LC,aU,bA,ah,Nat.reduceMul,Nat.reduceAdd,Xn,Xg,Xe,Xq]at S
       simp only [BS,LB,Nat.reduceLT,Nat.reduceEqDiff]
       refine dT (S.grow (j:=0) (m:=1) (new:=ints [(0:Int)]) rfl Tryz.t38.1 Xm (by decide) Tryz.t38.2.2.2.2.2 (by simp only [aA];rw [S.lds (b:=bs) (o:=0) (n:=1*1) m0 (lbt rfl)];rfl) rfl (by decide) rfl (by rw [bQ,bQ];simp;omega)) ?_
       clear S
       rintro h b8 S
       simp only [LC]at S
       replace S:=S.drop1
       rw [<-gM]at S
       simp only [BS,LB,Nat.reduceLT,Nat.reduceEqDiff,r18,w]
       refine ih (i+1) _ _ (by omega) ⟨by omega,b8,?_,by simp [aa,E,ac],by simp [aa,H,ac],by simp [aa,J,ac],by simp [aa,r7,ac],by simp [aa],by simp [aa]⟩
       rw [List.range_succ,List.map_append,List.map_singleton,show rt O i=(0:Int)from by unfold rt;rw [if_pos cA]]
       exact S
     . have c0:(0:Int)<(O.length:Int):=by omega
       have ai:i%O.length<O.length:=Xr _ (by omega)
       have tm:(i:Int).tmod (O.length:Int)=((i%O.length:Nat):Int):=by rw [zO (by omega)];exact(Xl _ _).symm
       obtain⟨c,o,a5,bl⟩:=d5.ix (kd:=.i64) (aH _) ai
       have cz:(O.length:Int)≠0:=by omega
       have hx:=cO _ (Xx ai)
       have t4:(O[i%O.length]).tmod 5=O[i%O.length]%5:=zO hx.1
       have wc:am .i64 ((O[i%O.length]).tmod 5)=(O[i%O.length]).tmod 5:=by rw [wrap64]<;>omega
       simp only [BS,LB,Nat.reduceLT,Nat.reduceEqDiff,F0,E,H,r18,an,hlt,hO.sl.lenq,c0,S.ld (b:=D) (o:=0) m1 rfl,S.ld (b:=A) (o:=1) m2 rfl]
       refine au (ax rfl) (q:=0) (ps:=[]) (by kernel_rfl) ?_
       simp only [BS,LB,ck,aF,cq,cls,Nat.reduceLT,Nat.reduceEqDiff,Nat.reduceAdd,Nat.reducePow,Nat.reduceDiv,Nat.reduceMod,Nat.reduceLeDiff,F0,E,r17,r18,hO.sl.lenq,iK cz,tm,a5,bl,encI,iK (n:=5) (by decide),wc,S.ld (b:=A) (o:=1) m2 rfl]
       refine ag (bj (by exact Tryz.t38.1) (by exact Xm) (by decide) (by rfl)) S ?_;clear S;intro h bs S cQ;simp only [LC,aU,bA,ah,Nat.reduceMul,Nat.reduceAdd,Xn,Xg,Xe,Xq]at S
       simp only [BS,LB,Nat.reduceLT,Nat.reduceEqDiff]
       refine dT (S.grow (j:=0) (m:=1) (new:=ints [(O[i%O.length]).tmod 5]) rfl Tryz.t38.1 Xm (by decide) Tryz.t38.2.2.2.2.2 (by simp only [aA];rw [S.lds (b:=bs) (o:=0) (n:=1*1) m0 (lbt rfl)];rfl) rfl (by decide) rfl (by rw [bQ,bQ];simp;omega)) ?_
       clear S
       rintro h b8 S
       simp only [LC]at S
       replace S:=S.drop1
       rw [<-gM]at S
       simp only [BS,LB,Nat.reduceLT,Nat.reduceEqDiff,r18,w]
       refine ih (i+1) _ _ (by omega) ⟨by omega,b8,?_,by simp [aa,E,ac],by simp [aa,H,ac],by simp [aa,J,ac],by simp [aa,r7,ac],by simp [aa],by simp [aa]⟩
       rw [List.range_succ,List.map_append,List.map_singleton,show rt O i=(O[i%O.length]).tmod 5 from by unfold rt;rw [if_neg cA];simp [zM,ai]]
       exact S
   . have ea :i=u.nodes:=by omega
     simp only [BS,LB,Nat.reduceLT,Nat.reduceEqDiff,F0,H,r7,r17,r18,an,hlt,S.ld (b:=D) (o:=0) m1 rfl]
     generalize hL:(List.range i).map (rt O)=Ls at S
     have lL:Ls.length=u.nodes:=by rw [<-hL];simp [ea]
     have bL:=lmax_bd (K:=((0+Ls.length:Nat):Int)) (by omega) (xy [] Ls)
     have nl:=zT [] Ls
     have b9: ¬q7 (norm [] Ls):=by
      rintro(h|h|h)
      . rw [h]at nl;simp at nl;omega
      . exact h (norm_idem [] Ls)
      . omega
     have sl:ay h 1 (encI .i64) vQ Ls:=(S.gown _ m0).1.sl rfl (fun _=>rfl) (by decide)
     refine step_ret (B0 S.ok sl (by omega)) ?_
     rintro v1 hP ⟨g1,s1,q1⟩
     replace S:=S.call g1
     simp only [BS,LB,Nat.reduceLT,Nat.reduceEqDiff]
     have k7:=S.key_lt (b:=F) (by simp [keys])
     refine step_ret (vW S.ok s1 (by omega) (by omega)) ?_
     rintro v2 hR ⟨g2,eb⟩
     obtain⟨_,bh⟩:=eb.resolve_left (fun h=>b9 h.1)
     replace S:=S.call g2
     obtain⟨cb,ed⟩: ∃b,v2=ptrTo b:=by obtain⟨b,_,e,_⟩:=bh;exact⟨b,e⟩
     subst ed
     have ee:=xy [] Ls
     have lm:(norm [] Ls).length=u.nodes:=by omega
     have mz: ∀x∈norm [] Ls,0<=x/\x<256:=fun x hx=>by have:=ee x hx;simp only [List.length_nil]at this;omega
     generalize norm [] Ls=m at bh bL b9 lm mz
     have eg: ∃c:Nat->Nat,∀v,v<u.nodes->m.getD v 0=(c v:Int):=⟨fun v=>(m.getD v 0).toNat,fun v hv=>by
      have cT:v<m.length:=by omega
      have:=(mz _ (Xx cT)).1
      have e:m.getD v 0=m[v]:=by rw [zM,Xz cT,Option.getD_some]
      show m.getD v 0=((m.getD v 0).toNat:Int)
      rw [e];omega⟩
     obtain⟨cf,eh⟩:=eg
     obtain⟨Mc,cW⟩: ∃M:Nat,gK m+1=(M:Int):=⟨(gK m+1).toNat,by omega⟩
     replace S:St (· ∈[F,D,A]) hA hR [(F,.row [ptrTo P,pt,.pointer none,.pointer none] 1),(D,.row [.int .i64 u.nodes,vx,vy,va] 1),(A,.row [vB,vO,vM,.int .u8 (s:Nat),vN] 1)] []:=S.sub (List.Sublist.refl _) (Xy _)
     have S8:=S
     have kz:F<hR.n:=(S8.own _ m0).2.lt S8.ok
     replace S:=S.base
     simp only [LC,keys,Xh,Xi,Xa]at S
     have cc: ∀{N:Hp},Mo (· ∈[F,D,A]) hR N->Mo (· ∈[F,D,A]) hA N:=fun f=>S8.fr.trans f (fun c L=>.inl L)
     have bI: ∀{N:Hp},Mo (· ∈[F,D,A]) hR N->iA N _ (ptrTo cb) m:=fun f=>bh.mo f (fun c L=>by have:=kb c L;omega)
     simp only [BS,LB,Nat.reduceLT,Nat.reduceEqDiff,F0]
     refine aw (ar S (i:=0) rfl Tryz.t73.2.2.1 cP (zB (lbt rfl)) ono) ?_
     clear S;rintro h ⟨S,_⟩
     simp only [LC,ah,lay,Xb,Xc,Nat.reduceAdd]at S
     simp only [BS,LB,Nat.reduceLT,Nat.reduceEqDiff,F0,J,r7,S.ld (b:=F) (o:=2) m0 rfl]
     have kh:=S.fr.n
     refine step_ret (ofB_ok S.ok ad (bi (hq (cc S.fr))) ⟨bI S.fr,lm,eh⟩ cW (by omega)) ?_
     rintro _ h ⟨g6,fp,fb,Bt,rfl,nf,eM,cY,BN,oB⟩
     replace S:=S.call g6
     have tz:Tz u.arcs.length ((u.arcs.length+7)/8) Bt:=fun r i h1 N=>by
      cases hb:bitB Bt ((u.arcs.length+7)/8) r i with
      |false=>rfl
      | true=>
        rcases(oB r i N).1 hb with⟨_,h⟩|⟨_,h⟩
        . have:=yy h;omega
        . simp at h
     simp only [BS,LB,Nat.reduceLT,Nat.reduceEqDiff,F0]
     refine aw (ar S (i:=0) rfl Tryz.t74.2.2.1 cP (zB (lbt rfl)) ono) ?_
     clear S;rintro h ⟨S,mo⟩
     simp only [LC,ah,lay,Xb,Xc,Nat.reduceAdd]at S
     have bx:ij h fp fb Mc u.arcs.length ((u.arcs.length+7)/8) Bt:=⟨mo.has (o:=.row _ 1) BN.r (fun e=>by have e:fp=F:=e;omega),mo.has (o:=.row _ 1) BN.b (fun e=>by have e:fb=F:=e;omega),BN.lt⟩
     clear BN mo oB
     have a1: ∀{N:Hp} {B:Nat->Nat},Mo (· ∈[F,D,A]) hR N->ij N fp fb Mc u.arcs.length ((u.arcs.length+7)/8) B->Tz u.arcs.length ((u.arcs.length+7)/8) B->TabY N F pt u.nodes T/\CelX N (ptrTo cb) (ptrTo fp) u (some (m,byB (Mc*((u.arcs.length+7)/8)) B)):=fun f b z=>⟨tY.mo (cc f) kb,_,fp,fb,Mc,_,_,bI f,lm,rfl,cW,b,rfl,mz,b9,rfl,z⟩
     by_cases h8:s/8%2=1
     . have e8:decide (s/8%2=1)=true:=decide_eq_true h8
       simp only [BS,LB,Nat.reduceLT,Nat.reduceEqDiff,F0,E,r7,a8,d8,e8,S.ld (b:=A) (o:=3) m2 rfl,S.ld (b:=F) (o:=3) m0 rfl]
       refine si (fun a W=> ∃B,St (· ∈[F,D,A]) hR W [(F,.row [ptrTo P,pt,ptrTo cb,ptrTo fp] 1),(D,.row [.int .i64 u.nodes,vx,vy,va] 1),(A,.row [vB,vO,vM,.int .u8 (s:Nat),vN] 1)] []/\ij W fp fb Mc u.arcs.length ((u.arcs.length+7)/8) B/\Tz u.arcs.length ((u.arcs.length+7)/8) B/\a 1=ptrTo A/\a 4=ptrTo D/\a 5=ptrTo P/\a 7=ptrTo F)
        (fun(i:Nat) a W=>i<=Z.length/\i<=9/\ ∃B,St (· ∈[F,D,A]) hR W [(F,.row [ptrTo P,pt,ptrTo cb,ptrTo fp] 1),(D,.row [.int .i64 u.nodes,vx,vy,va] 1),(A,.row [vB,vO,vM,.int .u8 (s:Nat),vN] 1)] []/\ij W fp fb Mc u.arcs.length ((u.arcs.length+7)/8) B/\Tz u.arcs.length ((u.arcs.length+7)/8) B/\a 1=ptrTo A/\a 4=ptrTo D/\a 5=ptrTo P/\a 7=ptrTo F/\a 20=.int .i64 i) (fun i=>Z.length-i) ?_ ?_ 0 ⟨Xd _,Xd _,Bt,S,bx,tz,by simp [aa,E,ac],by simp [aa,H,ac],by simp [aa,J,ac],by simp [aa,r7,ac],by simp [aa]⟩
       . clear S bx tz ih E H J r7 r17 r18 w
         intro i ih a N ⟨V,hi9,B,S,bm,tz,E,H,J,r7,r20⟩
         have w:am .i64 ((i:Int)+1)=((i+1:Nat):Int):=by rw [wrap64]<;>omega
         by_cases hlt:i<Z.length
         . by_cases h9:i<9
           . have c9:(i:Int)<9:=by omega
             have a7:=(hN.sl.gr a0).mo (hq (cc S.fr)) (fun c L=>nb c (bP c L))
             obtain⟨cn,on,be,ak⟩:=a7.ix (kd:=.i64) (aH .i64) hlt
             generalize Z[i]=z at ak
             have w5:am .i64 ((u64 z%5:Nat):Int)=((u64 z%5:Nat):Int):=by rw [wrap64]<;>omega
             have m5:((u64 z:Nat):Int).tmod 5=((u64 z%5:Nat):Int):=by rw [zO (by omega)];exact(Xl _ _).symm
             have q5:am .u64 (((u64 z:Nat):Int).tdiv 5)=((u64 z/5:Nat):Int):=by
              have:=u64_lt z
              rw [Int.tdiv_eq_ediv_of_nonneg (by omega),show((u64 z:Int)/5)=((u64 z/5:Nat):Int) by omega,cC rfl]
              simp only [pw];omega
             have ei:((u64 z/5:Nat):Int).tmod 30=((u64 z/5%30:Nat):Int):=by rw [zO (by omega)];exact(Xl _ _).symm
             have em:am .i64 ((u64 z/5%30:Nat):Int)=((u64 z/5%30:Nat):Int):=by rw [wrap64]<;>omega
             simp only [BS,LB,Nat.reduceLT,Nat.reduceEqDiff,F0,E,r20,hN.sl.lenq,an,hlt,c9,S.ld (b:=A) (o:=4) m2 rfl]
             refine au (ax rfl) (q:=0) (ps:=[]) (by kernel_rfl) ?_
             simp only [BS,LB,ck,aF,cq,cls,Nat.reduceLT,Nat.reduceEqDiff,Nat.reduceAdd,Nat.reducePow,Nat.reduceDiv,Nat.reduceMod,Nat.reduceLeDiff,F0,E,r7,r20,be,ak,encI,wrap_u64,iK (n:=5) (by decide),mL (n:=5) (by decide),iK (n:=30) (by decide),iK (n:=2) (by decide),w5,m5,q5,ei,em,S.ld (b:=A) (o:=4) m2 rfl,S.ld (b:=F) (o:=3) m0 rfl]
             refine ce (bSetG_ok S.ok bm cY (by omega) (by have:=ad.many;omega) rfl _) ?_
             rintro _ h3 ⟨mo,B',er,es⟩
             replace S:=S.step mo (fun b e=>.inr (by have e:b=fb:=e;omega)) (fun b hb e=>by
              have e:b=fb:=e
              simp only [keys,Xh,Xi,Xa,List.append_nil]at hb
              have:=kb b hb;omega)
             simp only [BS,LB,Nat.reduceLT,Nat.reduceEqDiff,Nat.reduceAdd,r20,w]
             exact ih (i+1) _ _ (by omega) ⟨by omega,by omega,B',S,er,es tz,by simp [aa,E,ac],by simp [aa,H,ac],by simp [aa,J,ac],by simp [aa,r7,ac],by simp [aa]⟩
           . have c9: ¬(i:Int)<9:=by omega
             simp only [BS,LB,Nat.reduceLT,Nat.reduceEqDiff,F0,E,r20,hN.sl.lenq,an,hlt,c9,S.ld (b:=A) (o:=4) m2 rfl]
             exact dg ⟨B,S,bm,tz,by simp [aa,E,ac],by simp [aa,H,ac],by simp [aa,J,ac],by simp [aa,r7,ac]⟩
         . simp only [BS,LB,Nat.reduceLT,Nat.reduceEqDiff,F0,E,r20,hN.sl.lenq,an,hlt,S.ld (b:=A) (o:=4) m2 rfl]
           exact dg ⟨B,S,bm,tz,by simp [aa,E,ac],by simp [aa,H,ac],by simp [aa,J,ac],by simp [aa,r7,ac]⟩
       . clear S bx tz E H J r7 r17 r18
         rintro a N ⟨B,S,bm,tz,E,H,J,r7⟩
         obtain⟨f1,f2⟩:=a1 S.fr bm tz
         simp only [BS]
         exact dg ⟨_,_,some _,S9.rebase (S8.rebase S),f1,f2,by rw [bw];rfl,by simp [aa,E,ac],by simp [aa,H,ac],by simp [aa,J,ac],by simp [aa,r7,ac]⟩
     . have e8:decide (s/8%2=1)=false:=decide_eq_false h8
       obtain⟨f1,f2⟩:=a1 S.fr bx tz
       simp only [BS,LB,Nat.reduceLT,Nat.reduceEqDiff,F0,E,a8,d8,e8,S.ld (b:=A) (o:=3) m2 rfl]
       refine dg ⟨_,_,some _,S9.rebase (S8.rebase S),f1,f2,by rw [bw];rfl,by simp [aa,E,ac],by simp [aa,H,ac],by simp [aa,J,ac],by simp [aa,r7,ac]⟩
 . intro bw
   simp only [BS]
   exact dg ⟨_,_,none,S,tY,⟨rfl,rfl⟩,by rw [bw];rfl,by simp [aa,E,ac],by simp [aa,H,ac],by simp [aa,J,ac],by simp [aa,r7,ac]⟩
 clear S tY E H J r7
 intro a hE ⟨pc,pf,C,S,tY,cX,hCs,E,H,J,r7⟩
 have hn:=bi S.fr
 have gZ:Gr h0 hE:=(a0.fr.trans S.fr (fun c L=>.inr (dd c L)):Mo NoM h0 hE).gr
 simp only [BS,LB,ae,Nat.reduceLT,Nat.reduceEqDiff,r7]
 refine⟨gZ,F,⟨u,T,C⟩,rfl,⟨_,_,_,_,S.row m0,⟨_,hn⟩,ad.b,?_,cX⟩,ad,hTs,hCs,?_,?_⟩
 . cases T with
   |none=>exact tY
   |some T=>obtain⟨⟨m,_,x⟩,y,_⟩:=tY;exact⟨⟨m,x⟩,y⟩
 . rintro T rfl
   obtain⟨_,_,_,x⟩:=tY
   exact x
 . rintro T rfl
   obtain⟨_,_,x,_⟩:=tY
   exact x
structure ImL(I:Img):Prop where
 g:fo I.g
 t: ∀T,I.T=some T->TabL I.g.nodes T
 c: ∀m F,I.C=some (m,F)->m.length=I.g.nodes/\F.length<=12800/\(∀x∈m,0<=x/\x<256)
theorem ImC.l{h:Hp}{l n d f:Value}{I:Img}(i:ImC h l n d f I):ImL I:=by
 obtain⟨_,a,g,j⟩:=i
 refine⟨a,fun T e=>?_,fun m F e=>?_⟩
 . rw [e]at g;exact g.2
 . rw [e]at j
   obtain⟨k,r,s,b,c,B,_,o,_,t,_,rfl,p,q,u,_⟩:=(j:kQ h d f I.g m F)
   have: ¬256<gK m+1:=fun h=>q (.inr (.inr h))
   have:=a.many
   refine⟨o,?_,p⟩
   have:b*c<=256*50:=Nat.mul_le_mul (by omega) (by omega)
   simpa [byB]using this
theorem kC.l{h:Hp}{b:Nat}{I:Img}(i:kC h b I):ImL I:=by obtain⟨_,_,_,_,_,c⟩:=i;exact c.l
theorem graB_len{a:Gra}(h:fo a):(fj a).length<=9608:=by
 have:=h.n2
 have:=h.many
 have b:(a.X.zip a.Y).length=a.nodes:=by rw [List.length_zip,h.lX,h.lY];omega
 unfold fj
 simp only [List.length_append,aJ,dJ pN,dJ rO,b];omega
theorem xR{I:Img}(i:ImL I):((dP I).flatMap Prod.snd).length<=100000:=by
 have f:=graB_len i.g
 have g:=i.g.n2
 have d: ∀T,I.T=some T->(fK T).length<=76865:=fun T e=>by
  have a:=i.t T e
  rw [Ah a]
  have:=a.l2
  have:T.l.length*(4+16*I.g.nodes)<=16*4804:=Nat.mul_le_mul this (by omega)
  omega
 unfold dP
 cases a:I.T with
 | none=>
   cases b:I.C with
   |none=>simp;omega
   | some c=>
     obtain⟨m,F⟩:=c
     have:=i.c m F b
     simp [fU];omega
 | some T=>
   have:=d T a
   cases b:I.C with
   |none=>simp;omega
   | some c=>
     obtain⟨m,F⟩:=c
     have:=i.c m F b
     simp [fU];omega
theorem mem_flat{l:List Sec}{x:Sec}(h:x∈l):x.2.length<=(l.flatMap Prod.snd).length:=by
 induction l with
 |nil=>cases h
 | cons y l a=>
   rw [List.flatMap_cons,List.length_append]
   rcases List.mem_cons.1 h with rfl|h
   . omega
   . have:=a h;omega
theorem secs_ok{I:Img}(i:ImL I): ∀x∈dP I,secOk x:=fun x a=>⟨yk I x a,by have:=mem_flat a;have:=xR i;omega⟩
theorem fo.r{a:Gra}(h:fo a):RightG a:=⟨h.n1,h.cX,h.cY,h.arcs⟩
def Tryz.F1r:=aj t1<|aj t2<|aj t3<|aj t4<|aj t5<|aj t20<|aj t27<|aj t29<|aj t67<|aj t72<|aj t73<|aj t74<|aj Z14<|aj t107<|r107
def Tryz.F8:=aj t1<|aj t2<|aj t3<|aj t4<|aj t5<|aj t6<|aj Z0<|aj Z2<|aj t9<|aj t10<|aj t11<|aj t12<|aj Z6<|aj Z10<|aj t15<|aj t16<|aj t17<|aj t22<|aj t27<|aj t29<|aj t33<|aj Z1<|aj t38<|aj t39<|aj Z11<|aj t67<|aj t72<|aj t73<|aj t74<|aj Z14<|aj t111<|aj Z9<|aj Z5<|aj t162<|aj Z3<|aj Z8<|aj Z15<|aj t355<|t357
theorem imDec1_ok{a:Hp}(b:a.t.Sized a.n){c d:Nat}:dQ Xf 50 [ptrTo c,ptrTo d] none a fun o e f=>(∃v,o=.ret v)/\e=none/\Gr a f:=by
 have S:=Si b
 refine enter (n:=18) (rs:=[]) rfl Tryz.e50 rfl rfl rfl (lbt rfl) ?_
 simp only [BS,LB,Nat.reduceLT,Nat.reduceEqDiff,F1r]
 exact di (cL ⟨rfl,_,rfl,⟨_,rfl⟩,rfl,S.gr⟩)
def TabK(h:Hp)(k:Nat)(p:Value)(N:Nat):Option Tab->Prop
 |none=>p=.pointer none
 |some T=>(∃m,k<m/\TabAt h m p N T.l (cI T.to) (cI T.fr))/\TabL N T
theorem TabK.mo{M:Nat->Prop}{h d:Hp}{k N:Nat}{p:Value}{T:Option Tab}(t:TabK h k p N T)(g:Mo M h d)(e: ∀b,M b->b<=k):TabK d k p N T:=by
 cases T with
 |none=>exact t
 |some T=>obtain⟨⟨m,a,b⟩,c⟩:=t;exact⟨⟨m,a,b.mo g (fun x f=>by have:=e x f;omega)⟩,c⟩
theorem TabK.x{h:Hp}{k N:Nat}{p:Value}{T:Option Tab}(t:TabK h k p N T):TabX h p N T:=by
 cases T with
 |none=>exact t
 |some T=>obtain⟨⟨m,_,b⟩,c⟩:=t;exact⟨⟨m,b⟩,c⟩
def secT:Option Tab->List Sec
 |some T=>[(2,fK T)]
 |none=>[]
def secC:Option (List Int×Bs)->List Sec
 |some (m,f)=>[(3,fU m),(4,f)]
 |none=>[]
theorem lJ(I:Img):dP I=(1,fj I.g)::(secT I.T++secC I.C):=by
 unfold dP
 cases I.T<;>rcases I.C with _|⟨m,F⟩<;>rfl
theorem norm_rows{m:List Int}(h: ¬q7 m)(f:m.length<=50){a:Nat}(g:gK m+1=((a:Nat):Int))(i: ∀x∈m,0<=x/\x<256):1<=a/\a<=100:=by
 have b:norm [] m=m:=Classical.byContradiction fun e=>h (.inr (.inl e))
 have c: ∀x∈m,0<=x/\x<=50:=fun x d=>by
  have:=xy [] m x (by rw [b];exact d)
  simp only [List.length_nil,Xg]at this
  omega
 have:=lmax_bd (K:=50) (by decide) c
 omega
def DrT(N:Nat)(T:Tab):Prop:=gQ N T.l/\ ∀i,i<T.l.length->(cI T.to i).getD (T.l.getD i 0).toNat 0=0/\(cI T.fr i).getD (T.l.getD i 0).toNat 0=0
theorem DrT.tell{N:Nat}{T:Tab}(d:DrT N T)(i:Nat)(v:Int)(h:T.l[i]? =some v):pI N T.l.length (cI T.to) i v=0/\pI N T.l.length (cI T.fr) i v=0:=by
 obtain⟨b,g⟩:=List.getElem?_eq_some_iff.1 h
 have e:T.l.getD i 0=v:=by simp [zM,h]
 have a:=d.1.2 i b
 have f:=d.2 i b
 rw [e]at a f
 unfold pI
 have c:(0:Int)<=(i:Int)/\(i:Int)<(T.l.length:Int)/\0<=v/\v<(N:Int):=⟨by omega,by omega,a.1,a.2.1⟩
 rw [if_pos c,if_pos c]
 exact f
theorem Bx{h0 hx:Hp}(ok:h0.t.Sized h0.n){bI:Nat}{I:Img}(hI:kC hx bI I)(hd: ∀T,I.T=some T->DrT I.g.nodes T)(bw:I.g.nodes<=50):
 Ret Xf 17 [sv (oX (dP I))] h0 fun r h'=>Gr h0 h'/\ ∃b,r=.tuple #[ptrTo b,.int .i64 0]/\kC h' b I:=by
 have S:=Si ok
 have il:=hI.l
 have sz:=xR il
 have aL:(dP I).length<=16:=by rw [lJ];cases I.T<;>rcases I.C with _|⟨m,F⟩<;>exact lbt rfl
 have so:=secs_ok il
 have df:=decF_encF aL so
 have hs:(oX (dP I)).length<=1000000:=by rw [encF_len];omega
 obtain⟨_,_,_,_,_,_,H,tx,cx⟩:=hI
 refine ab (n:=78) (rs:=[.cell 2 27,.cell 3 29]) rfl Tryz.e17 rfl rfl rfl (lbt rfl) ?_
 simp only [BS,F8]
 refine ag av S ?_;clear S;intro h t S bm
 simp only [BS,F8]
 refine ag av S ?_;clear S;intro h D S bp
 simp only [BS,LB,Nat.reduceLT,Nat.reduceEqDiff,qq (l:=oX (dP I))]
 refine step_ret (Cd S.ok hs) ?_
 rintro _ h1 ⟨g,P⟩
 simp only [df]at P
 obtain⟨V,rfl,sl,nl⟩:=P
 have kS: ∀c∈[D,t],c<_:=fun c u=>S.key_lt (by simpa [keys]using u)
 replace S:=S.call g
 have S0:=S
 have a4:=S.ok
 replace S:=S.base
 simp only [LC,keys,Xh,Xi,Xa]at S
 have a5: ∀c,aq V c->c<h1.n:=fun c u=>sl.sl.lt a4 u
 have ad: ∀{N:Hp} {M:Nat->Prop},Mo M h1 N->(∀c,M c->c∈[D,t])->SlK N 2 encS V (dP I):=fun f hm=>sl.mo f (fun c u hM=>by have:=nl c u;have:=kS c (hm c hM);omega)
 have bB:Fl V:=sl.sl.fl
 simp only [BS,LB,Nat.reduceLT,Nat.reduceEqDiff,F8]
 refine ag av S ?_;clear S;intro h d S br
 simp only [BS,LB,Nat.reduceLT,Nat.reduceEqDiff]
 refine aw (ar S (i:=0) rfl ?_ ?_ ?_ ono) ?_
 . exact(by simp only [F8])
 . exact(by assumption)
 . exact zB (lbt rfl)
 clear S;rintro h ⟨S,E⟩;clear E;simp only [LC,ah,lay,Xb,Xc,Nat.reduceAdd]at S
 simp only [BS,LB,Nat.reduceLT,Nat.reduceEqDiff]
 refine aw (ar S (i:=1) rfl ?_ ?_ ?_ ono) ?_
 . exact(by simp only [F8])
 . exact(by exact cg)
 . exact zB (lbt rfl)
 clear S;rintro h ⟨S,E⟩;clear E;simp only [LC,ah,lay,Xb,Xc,Nat.reduceAdd]at S
 simp only [BS,LB,Nat.reduceLT,Nat.reduceEqDiff,F8,S.ld (b:=D) (o:=0) m1 rfl]
 refine ag (bj (by exact Tryz.t38.1) (by exact Xm) (by decide) (by rfl)) S ?_;clear S;intro h O S Z;simp only [LC,aU,bA,ah,Nat.reduceMul,Nat.reduceAdd,Xn,Xg,Xe,Xq]at S
 simp only [BS,LB,Nat.reduceLT,Nat.reduceEqDiff]
 have Q:=is_ok S.ok (S.ld (b:=d) (o:=0) m1 rfl) (ad S.fr (fun _ h=>h)) (v:=.slice (some ⟨O,0,none⟩) 1 1) (m:=[1]) (.inr ⟨O,0,none,1,rfl,Xj _,S.lds (b:=O) (o:=0) (n:=1*1) m0 (lbt rfl)⟩) (by omega)
 rw [show decide ((((dP I).take ([1]:List Int).length).map fun x=>(x.1:Int))=[1])=true from decide_eq_true (by rw [lJ];rfl)]at Q
 refine al Q ?_
 intro h g
 clear Q
 replace S:=S.drop1.call g
 clear g
 simp only [BS,LB,Nat.reduceLT,Nat.reduceEqDiff]
 refine al (gL S.ok) ?_;intro h g;replace S:=S.call g;clear g
 obtain⟨c,o,z,p⟩:=(ad S.fr (fun _ h=>h)).sl.ix (kd:=.i64) dk (i:=0) (by rw [lJ];exact Xs _)
 rw [show(dP I)[0]'(by rw [lJ];exact Xs _)=(1,fj I.g) by simp [lJ]]at p
 have A:_=some [sv (fj I.g)]:=gP p (i:=1) (m:=1) (by decide)
 have k:iQ (some 2) V (.int .i64 0)=_:=z
 simp only [BS,LB,Nat.reduceLT,Nat.reduceEqDiff,F8,k,A,S.ld (b:=d) (o:=0) m0 rfl]
 refine step_ret (zA S.ok H) ?_
 rintro pn N ⟨g,nb,kb,hN⟩
 have kg:=g.n
 have a0: ∀c∈[d,D,t],c<_:=fun c u=>S.key_lt (by simpa [keys]using u)
 replace S:=S.call g
 clear g z k p A
 have S1:=S
 replace S:=S.base
 simp only [LC,keys,Xh,Xi,Xa]at S
 obtain⟨bn,rfl⟩:=hN.ptr
 have af: ∀{h3:Hp},Mo (· ∈[d,D,t]) N h3->bW h3 nb (ptrTo bn) I.g:=fun f=>hN.mo f (fun c u=>Nat.lt_of_lt_of_le (a0 c u) kb)
 have a6:SlK N 2 encS V (dP I):=ad S1.fr (fun _ h=>h)
 have a7: ∀c,aq V c-> ¬c∈[d,D,t]:=fun c u hM=>by
  have h3:=nl c u
  have h4:=a5 c u
  rcases List.mem_cons.1 hM with rfl|hM
  . omega
  . have:=kS c hM;omega
 have C: ∀{h3:Hp},Mo (· ∈[d,D,t]) N h3-> ∀{v:Value} {l:List Sec},SlK N 2 encS v l->(∀c,aq v c->aq V c)->SlK h3 2 encS v l:=by
  intro h3 f v l s hv
  exact s.mo f (fun c u=>a7 c (hv c u))
 have us:=Tryz.t33.1
 have ss:=Tryz.t50.2.1
 obtain⟨v1,c1,s1,n1⟩:=a6.from (kd:=.i64) us ss dk (n:=1) (by rw [lJ];exact Nat.succ_le_succ (Xd _))
 rw [lJ,List.drop_succ_cons,XC]at s1
 have f1:Fl v1:=s1.sl.fl
 have a8:cJ Xf 33 V (some (.int .i64 1)) none none=some v1:=c1
 simp only [BS,LB,Nat.reduceLT,Nat.reduceEqDiff,Nat.reduceAdd,F8]
 refine ag (bU (by intro x e;cases e)) S ?_;clear S;intro h G S bs;simp only [ah]at S
 simp only [BS,LB,Nat.reduceLT,Nat.reduceEqDiff]
 refine aw (ar S (i:=3) rfl ?_ ?_ ?_ ono) ?_
 . exact(by simp only [F8])
 . exact(by exact cP)
 . exact zB (lbt rfl)
 clear S;rintro h ⟨S,E⟩;clear E;simp only [LC,ah,lay,Xb,Xc,Nat.reduceAdd]at S
 simp only [BS,LB,Nat.reduceLT,Nat.reduceEqDiff,Xt,Xu,F8,a8,S.ld (b:=d) (o:=0) m1 rfl]
 refine aw (ar S (i:=1) rfl ?_ ?_ ?_ ono) ?_
 . exact(by simp only [F8])
 . exact(by assumption)
 . exact zB (lbt rfl)
 clear S;rintro h ⟨S,E⟩;clear E;simp only [LC,ah,lay,Xb,Xc,Nat.reduceAdd]at S
 simp only [BS,LB,Nat.reduceLT,Nat.reduceEqDiff]
 refine ag (bj (by exact Tryz.t38.1) (by exact Xm) (by decide) (by rfl)) S ?_;clear S;intro h O S Z;simp only [LC,aU,bA,ah,Nat.reduceMul,Nat.reduceAdd,Xn,Xg,Xe,Xq]at S
 simp only [BS,LB,Nat.reduceLT,Nat.reduceEqDiff]
 have Q:=is_ok S.ok (S.ld (b:=d) (o:=0) m2 rfl) (C S.fr s1 n1) (v:=.slice (some ⟨O,0,none⟩) 1 1) (m:=[2]) (.inr ⟨O,0,none,1,rfl,Xj _,S.lds (b:=O) (o:=0) (n:=1*1) m0 (lbt rfl)⟩) (by cases I.T<;>rcases I.C with _|⟨m,F⟩<;>exact lbt rfl)
 have d1:decide ((((secT I.T++secC I.C).take ([2]:List Int).length).map fun x=>(x.1:Int))=[2])=I.T.isSome:=by cases I.T<;>rcases I.C with _|⟨m,F⟩<;>rfl
 rw [d1]at Q
 refine al Q ?_
 intro h g
 clear Q
 replace S:=S.drop1.call g
 clear g
 have ai: ∀c,c∈[d,D,t]->c<=G:=fun c u=>by have:=a0 c u;omega
 simp only [BS,LB,Nat.reduceLT,Nat.reduceEqDiff]
 refine mK (fun W h=> ∃pt J,St (· ∈[d,D,t]) N h [(G,.row [ptrTo bn,pt,.pointer none,.pointer none] 1),(d,.row [J] 1),(D,.row [.int .i64 0] 1),(t,.row [ptrTo G] 1)] []/\TabK h G pt I.g.nodes I.T/\SlK N 2 encS J (secC I.C)/\(∀c,aq J c->aq V c)/\W 2=ptrTo t/\W 3=ptrTo D/\W 4=ptrTo d/\W 5=.func (.func 51) #[] #[ptrTo d]) ?_ ?_ ?_
 . intro w
   cases X:I.T with
   |none=>rw [X]at w;cases w
   | some T=>
     rw [X]at tx s1
     obtain⟨_,tl⟩:=tx
     have dr:=hd T X
     obtain⟨c,o,z,p⟩:=(C S.fr s1 n1).sl.ix (kd:=.i64) dk (i:=0) (Xs _)
     replace p:h.load c o 2=some (encS (2,fK T)):=p
     have A:_=some [sv (fK T)]:=gP p (i:=1) (m:=1) (by decide)
     have k:iQ (some 2) v1 (.int .i64 0)=_:=z
     obtain⟨J,c2,L,n2⟩:=s1.from (kd:=.i64) us ss dk (n:=1) (Nat.succ_le_succ (Xd _))
     rw [show(secT (some T)++secC I.C).drop 1=secC I.C from rfl]at L
     have f2:Fl J:=L.sl.fl
     have ba:cJ Xf 33 v1 (some (.int .i64 1)) none none=some J:=c2
     simp only [BS,XI]
     refine au (ax rfl) (q:=0) (ps:=[(0,9)]) (by kernel_rfl) ?_
     simp only [BS,LB,cls,Nat.reduceLT,Nat.reduceEqDiff,Nat.reduceAdd,Nat.reducePow,Nat.reduceDiv,Nat.reduceMod,Nat.reduceLeDiff,F8,k,A,S.ld (b:=t) (o:=0) m3 rfl,S.ld (b:=d) (o:=0) m1 rfl,S.ld (b:=G) (o:=0) m0 rfl]
     have k2:=S.key_lt (b:=t) (by simp [keys])
     refine ce (AR S.ok H (by omega) (af S.fr) tl dr.1 dr.tell) ?_
     rintro pt h ⟨g,mt,hm,hA⟩
     have R:=aP g k2
     have kx:=S.key_lt (b:=G) (by simp [keys])
     replace S:=S.call g
     obtain⟨bt,_,_,_,rfl,_⟩:=id hA.ex
     simp only [BS,LB,cls,Nat.reduceLT,Nat.reduceEqDiff,Nat.reduceAdd,Nat.reducePow,Nat.reduceDiv,Nat.reduceMod,Nat.reduceLeDiff,F8]
     refine d9 (ar S (i:=0) rfl Tryz.t72.2.2.1 cP (zB (lbt rfl)) ono) ?_
     clear S;rintro h ⟨S,E⟩
     simp only [LC,ah,lay,Xb,Xc,Nat.reduceAdd]at S
     have y:TabK h G (ptrTo bt) I.g.nodes (some T):=TabK.mo (T:=some T) ⟨⟨mt,by omega,hA⟩,tl⟩ E (fun b e=>XH e)
     clear E hA g
     simp only [BS,LB,Nat.reduceLT,Nat.reduceEqDiff,Nat.reduceAdd,F8]
     refine⟨by simp only [aX,bo,aS,bD,aV,ne_eq,not_false_eq_true,bC,bR,aZ,aW,bZ,cu,aT,Nat.reduceLT,Nat.reduceEqDiff,reduceIte,XF,ac,aD R,aQ R],?_⟩
     simp only [BS,LB,Nat.reduceLT,Nat.reduceEqDiff,Xt,Xu,ba,S.ld (b:=d) (o:=0) m1 rfl]
     refine aw (ar S (i:=1) rfl Tryz.t33.2.2.1 f2 (zB (lbt rfl)) ono) ?_
     clear S;rintro h ⟨S,E⟩
     simp only [LC,ah,lay,Xb,Xc,Nat.reduceAdd]at S
     replace y:=y.mo E (fun b e=>by have e:b=d:=e;exact e▸ai d m0)
     simp only [BS]
     exact dg ⟨_,J,S,y,L,fun c u=>n1 c (n2 c u),by simp [aa,ac],by simp [aa,ac],by simp [aa,ac],by simp [aa]⟩
 . intro w
   cases X:I.T with
   |some T=>rw [X]at w;cases w
   | none=>
     rw [X]at s1
     simp only [BS]
     exact dg ⟨_,v1,S,rfl,s1,n1,by simp [aa,ac],by simp [aa,ac],by simp [aa,ac],by simp [aa]⟩
 clear S
 intro W h ⟨pt,J,S,y,L,n2,r2,r3,r4,r5⟩
 have S2:=S
 have bb:=S.ok
 have f2:Fl J:=L.sl.fl
 have bL:Fl pt:=by
  cases X:I.T with
  |none=>rw [X]at y;have y:pt=.pointer none:=y;subst y;exact cP
  |some T=>rw [X]at y;obtain⟨⟨_,_,x⟩,_⟩:=y;obtain⟨_,_,_,_,rfl,_⟩:=x.ex;exact cP
 clear S
 have S:=Si bb
 simp only [BS,LB,Nat.reduceLT,r5]
 refine ag (bj (by exact Tryz.t38.1) (by exact Xm) (by decide) (by rfl)) S ?_;clear S;intro h O S Z;simp only [LC,aU,bA,ah,Nat.reduceMul,Nat.reduceAdd,Xn,Xg,Xe,Xq]at S
 simp only [BS,LB,Nat.reduceLT,Nat.reduceEqDiff]
 have Q:=is_ok S.ok (S.gr.load (S2.ld (b:=d) (o:=0) m1 rfl)) ((C S2.fr L n2).gr S.gr) (v:=.slice (some ⟨O,0,none⟩) 2 2) (m:=[3,4]) (.inr ⟨O,0,none,2,rfl,Xj _,S.lds (b:=O) (o:=0) (n:=2*1) m0 (lbt rfl)⟩) (by rcases I.C with _|⟨m,F⟩<;>exact lbt rfl)
 have d1:decide ((((secC I.C).take ([3,4]:List Int).length).map fun x=>(x.1:Int))=[3,4])=I.C.isSome:=by rcases I.C with _|⟨m,F⟩<;>rfl
 rw [d1]at Q
 refine al Q ?_
 intro h g
 clear Q
 replace g:=S.gr.trans g
 replace S:=S2.call g
 replace y:=y.mo (M:=NoM) g.fr (fun _ h=>h.elim)
 clear g
 simp only [BS,LB,Nat.reduceLT,Nat.reduceEqDiff]
 refine mK (fun W h=> ∃pc pf Y,St (· ∈[d,D,t]) N h [(G,.row [ptrTo bn,pt,pc,pf] 1),(d,.row [Y] 1),(D,.row [.int .i64 0] 1),(t,.row [ptrTo G] 1)] []/\TabK h G pt I.g.nodes I.T/\(∀(M:Nat->Prop) (h':Hp),Mo M h h'->(∀b,M b->b∈[G,d,D,t])->CelX h' pc pf I.g I.C)/\SlK N 2 encS Y []/\(∀c,aq Y c->aq V c)/\W 2=ptrTo t/\W 3=ptrTo D/\W 4=ptrTo d) ?_ ?_ ?_
 . intro w
   cases hC:I.C with
   |none=>rw [hC]at w;cases w
   | some mF=>
     obtain⟨m,F⟩:=mF
     rw [hC]at cx L
     obtain⟨_,_,_,bu,bv,B,_,ml,rfl,mr,mB,hF,hm,mn,hl,bd⟩:=(cx:kQ hx _ _ I.g m F)
     obtain⟨be,bh⟩:=norm_rows mn (by omega) mr hm
     obtain⟨c,o,z,p⟩:=(C S.fr L n2).sl.ix (kd:=.i64) dk (i:=0) (Xs _)
     replace p:h.load c o 2=some (encS (3,fU m)):=p
     have A:_=some [sv (fU m)]:=gP p (i:=1) (m:=1) (by decide)
     have k:iQ (some 2) J (.int .i64 0)=_:=z
     obtain⟨c',o',a1,hle⟩:=(C S.fr L n2).sl.ix (kd:=.i64) dk (i:=1) (Xj _)
     replace hle:h.load c' o' 2=some (encS (4,F)):=hle
     have a2:_=some [sv F]:=gP hle (i:=1) (m:=1) (by decide)
     have ak:iQ (some 2) J (.int .i64 1)=_:=a1
     obtain⟨Y,c3,s3,n3⟩:=L.from (kd:=.i64) us ss dk (n:=2) (Xj _)
     replace s3:SlK N 2 encS Y []:=s3
     have f3:Fl Y:=s3.sl.fl
     have bi:cJ Xf 33 J (some (.int .i64 2)) none none=some Y:=c3
     simp only [BS,XI]
     refine au (ax rfl) (q:=0) (ps:=[(1,20),(1,14),(0,14)]) (by kernel_rfl) ?_
     simp only [BS,LB,cls,Nat.reduceLT,Nat.reduceEqDiff,Nat.reduceAdd,Nat.reducePow,Nat.reduceDiv,Nat.reduceMod,Nat.reduceLeDiff,F8,r2,r4,k,A,ak,a2,S.ld (b:=t) (o:=0) m3 rfl,S.ld (b:=d) (o:=0) m1 rfl,S.ld (b:=G) (o:=0) m0 rfl]
     have k2:=S.key_lt (b:=t) (by simp [keys])
     have a3: ∀c∈[G,d,D,t],c<_:=fun c u=>S.key_lt (by simpa [keys]using u)
     refine ce (zt S.ok H (af S.fr) ml mr be bh hF hm mn hl bd mB.lt) ?_
     rintro _ h4 ⟨g,pc,pf,rfl,K⟩
     have R:=aP g k2
     replace S:=S.call g
     replace y:=y.mo (M:=NoM) g.fr (fun _ h=>h.elim)
     have S3:=S
     have nx:=S.ne (i:=0) (j:=3) rfl rfl (by decide)
     replace S:=S.base
     simp only [LC,keys,Xh,Xi,Xa]at S
     obtain⟨bc,bf,rfl,rfl⟩:=(K (M:=NoM) (Gr.refl S.ok).fr (fun _ h=>h.elim)).ptr
     simp only [BS,LB,cls,Nat.reduceLT,Nat.reduceEqDiff,Nat.reduceAdd,Nat.reducePow,Nat.reduceDiv,Nat.reduceMod,Nat.reduceLeDiff,F8]
     refine d9 (ar S (i:=0) rfl Tryz.t73.2.2.1 cP (zB (lbt rfl)) ono) ?_
     clear S;rintro h ⟨S,_⟩
     simp only [LC,ah,lay,Xb,Xc,Nat.reduceAdd]at S
     simp only [BS,LB,cls,Nat.reduceLT,Nat.reduceEqDiff,Nat.reduceAdd,Nat.reducePow,Nat.reduceDiv,Nat.reduceMod,Nat.reduceLeDiff,F8]
     refine d9 (ar S (i:=0) rfl Tryz.t74.2.2.1 cP (zB (lbt rfl)) ono) ?_
     clear S;rintro h ⟨S,_⟩
     simp only [LC,ah,lay,Xb,Xc,Nat.reduceAdd]at S
     simp only [BS,Nat.reduceLT,Nat.reduceEqDiff,Nat.reduceAdd,if_false,F8,r4]
     refine⟨by simp only [aX,bo,aS,bD,aV,ne_eq,not_false_eq_true,bC,bR,aZ,aW,bZ,cu,aT,Nat.reduceLT,Nat.reduceEqDiff,reduceIte,XF,r2,r3,r4,ac,vV,aD R,aQ R,ja nx,ja nx.symm],?_⟩
     simp only [BS,LB,Nat.reduceLT,Nat.reduceEqDiff,Xt,Xu,r4,bi,S.ld (b:=d) (o:=0) m1 rfl]
     refine aw (ar S (i:=1) rfl Tryz.t33.2.2.1 f3 (zB (lbt rfl)) ono) ?_
     clear S;rintro h ⟨S,_⟩
     simp only [LC,ah,lay,Xb,Xc,Nat.reduceAdd]at S
     simp only [BS]
     refine dg ⟨_,_,Y,S3.rebase S,y.mo S.fr (fun b w=>?_),fun M h' E hm=>K (S.fr.trans E (fun b w=>.inl (hm b w))) a3,s3,fun c u=>n2 c (n3 c u),by simp [aa,r2,ac],by simp [aa,r3,ac],by simp [aa,r4,ac]⟩
     rcases List.mem_cons.1 w with rfl|w
     . exact Xj _
     . exact ai b w
 . intro w
   cases hC:I.C with
   |some mF=>rw [hC]at w;cases w
   | none=>
     rw [hC]at L
     simp only [BS]
     exact dg ⟨_,_,J,S,y,fun _ _ _ _=>⟨rfl,rfl⟩,L,n2,by simp [aa,r2,ac],by simp [aa,r3,ac],by simp [aa,r4,ac]⟩
 clear S S2 y r2 r3 r4 r5 L n2 f2
 intro W h ⟨pc,pf,Y,S,y,cX,s3,n3,r2,r3,r4⟩
 have z0:((0:Nat):Int)=0:=rfl
 simp only [BS,LB,Nat.reduceLT,Nat.reduceEqDiff,F8,r4,(C S.fr s3 n3).sl.lenq,z0,S.ld (b:=d) (o:=0) m1 rfl]
 refine al (gL S.ok) ?_
 intro h g
 replace S:=S.call g
 replace y:=y.mo (M:=NoM) g.fr (fun _ h=>h.elim)
 have gn:=g
 have S4:=S
 have oS:=S.ok
 replace S:=S.base
 simp only [LC,keys,Xh,Xi,Xa]at S
 simp only [BS,LB,Nat.reduceLT,Nat.reduceEqDiff,F8,r2,S.ld (b:=t) (o:=0) m3 rfl]
 refine aw (ar S (i:=3) rfl ?_ ?_ ?_ ono) ?_
 . exact(by simp only [F8])
 . exact(by exact cP)
 . exact zB (lbt rfl)
 clear S;rintro h ⟨S,E⟩;clear E;simp only [LC,ah,lay,Xb,Xc,Nat.reduceAdd]at S
 simp only [BS,Nat.reduceLT,Nat.reduceEqDiff,if_false,r3]
 refine aw (ar S (i:=2) rfl ?_ ?_ ?_ ono) ?_
 . exact(by simp only [F8])
 . exact(by exact cg)
 . exact zB (lbt rfl)
 clear S;rintro h ⟨S,E⟩;clear E;simp only [LC,ah,lay,Xb,Xc,Nat.reduceAdd]at S
 simp only [BS]
 refine fH (un_fn (eJ (imDec1_ok S.ok) fun o rc h' ⟨a,e,g⟩=>⟨a,e,cL ⟨rfl,?_⟩⟩))
 have F:=(gn.fr.trans S.fr (M':=(· ∈[G,d,D,t])) (M:=(· ∈[G,d,D,t])) (fun _ h=>.inl h)).trans (M':=NoM) g.fr (fun _ h=>h.elim)
 have T:=S.call g
 refine(gf (by decide) (by simp only [aT,ac,r2,r3,Nat.reduceEqDiff,reduceIte];exact lN Tryz.t27.2.1 (T.ld m3 rfl))).2 ?_
 refine(gf (by decide) (by simp only [aT,ac,r2,r3,Nat.reduceEqDiff,reduceIte];exact lN Tryz.t29.2.1 (T.ld m2 rfl))).2 ?_
 have U:=S0.rebase (S1.rebase (S4.rebase T))
 have bl:=y.mo (T.fr) (fun b w=>by
  rcases List.mem_cons.1 w with rfl|w
  . exact Xj _
  . exact ai b w)
 exact ib.2 ⟨U.gr,G,rfl,_,_,_,_,T.row m0,⟨nb,af (S4.rebase T).fr⟩,H,bl.x,cX _ _ F (fun _ h=>h)⟩
theorem Cz{a:Hp}(b:a.t.Sized a.n):bG Xf 13 [] a (.bool true):=ret_orc rfl ⟨rfl,Gr.refl b⟩
theorem SlW.grU{h a:Hp}{kd:IntKind}{v:Value}{l:List Int}(s:SlW h kd v l)(g:Gr h a):SlW a kd v l:=s.imp (fun h=>h) (fun⟨b,o,c,e,d,f⟩=>⟨b,o,c,e,d,g.load f⟩)
def Tryz.F0F:=aj t1<|aj t2<|aj t3<|aj t4<|aj t5<|aj t6<|aj Z0<|aj Z2<|aj t9<|aj t10<|aj t11<|aj t22<|aj t23<|aj t25<|aj r25<|aj t27<|aj t29<|aj t67<|aj t72<|aj t73<|aj t74<|Z14
theorem vH{d:Hp}(z:d.t.Sized d.n){l vO m p:Value}{c:Int}{B O q r:List Int}(s:SlW d .u8 l B)(t:SlW d .u8 vO O)(A: ∀x∈O,0<=x/\x<=255)(u:SlW d .u8 m q)(i: ∀x∈q,0<=x/\x<=255)(v:SlW d .i64 p r)(C: ∀x∈r,-9223372036854775808<=x/\x<=9223372036854775807)(j:0<=c/\c<=255):
 bG Xf 5 [.agg ⟨[l,vO,m,.int .u8 c,p]⟩] d (.bool true):=by
 have S:=Si z
 obtain⟨c,rfl⟩:=Int.eq_ofNat_of_zero_le j.1
 replace j:c<=255:=by omega
 have F:=s.sl.fl
 have G:=t.sl.fl
 have H:=u.sl.fl
 have J:=v.sl.fl
 refine ab (n:=66) (rs:=[.tmp 2]) rfl Tryz.e5 rfl rfl rfl (lbt rfl) ?_
 simp only [BS,Nat.reduceLT]
 refine ag (bU (by intro x e;cases e)) S ?_;clear S;intro h D S w;simp only [ah]at S
 simp only [BS,LB]
 refine al (Cz S.ok) ?_;intro h g;replace S:=S.call g;clear g
 simp only [BS,LB,Nat.reduceLT,Nat.reduceEqDiff,F0F,XC,XG,List.take_zero,S.lds (b:=D) (o:=0) (n:=5) m0 (lbt rfl)]
 refine step_ret (made28_ok S.ok (s.grU S.gr) (t.grU S.gr) A (u.grU S.gr) i (v.grU S.gr) C j) ?_
 rintro _ K ⟨g,b,I,rfl,a,k⟩
 replace S:=S.call g
 have E:=a.l
 have y:=xR E
 have L:=k.g.n2
 simp only [BS,LB,Nat.reduceLT,Nat.reduceEqDiff,F0F]
 refine al (qa S.ok a) ?_;intro h g;replace S:=S.call g;replace a:=a.gr g;clear g
 simp only [BS,LB,Nat.reduceLT,Nat.reduceEqDiff]
 refine al (same_ok S.ok a a) ?_;intro h g;replace S:=S.call g;replace a:=a.gr g;clear g
 have M:decide (dP I=dP I)=true:=decide_eq_true rfl
 simp only [BS,LB,Nat.reduceLT,Nat.reduceEqDiff]
 refine step_ret (uJ S.ok a y) ?_
 rintro _ h ⟨g,rfl⟩
 replace S:=S.call g
 replace a:=a.gr g
 simp only [BS,LB,Nat.reduceLT,Nat.reduceEqDiff]
 refine step_ret (Bx S.ok a (fun T e=>⟨(k.z T e).2.2,k.d T e⟩) (by omega)) ?_
 rintro _ h ⟨g,N,rfl,f⟩
 replace S:=S.call g
 replace a:=a.gr g
 simp only [BS,LB,Nat.reduceLT,Nat.reduceEqDiff]
 refine al (same_ok S.ok f a) ?_;intro h g;replace S:=S.call g;replace a:=a.gr g;replace f:=f.gr g;clear g
 simp only [BS,LB,Nat.reduceLT,Nat.reduceEqDiff]
 refine al (qa S.ok f) ?_;intro h g;replace S:=S.call g;replace a:=a.gr g;replace f:=f.gr g;clear g
 simp only [BS,LB,Nat.reduceLT,Nat.reduceEqDiff]
 refine step_ret (uJ S.ok f y) ?_
 rintro _ h ⟨g,rfl⟩
 replace S:=S.call g
 have P:decide (oX (dP I)=oX (dP I))=true:=decide_eq_true rfl
 simp only [BS,LB,ae,Nat.reduceLT,Nat.reduceEqDiff,AF]
 exact S.gr
end Go.Ab
end
section
namespace Go.Ab
open Go.ChangeShapes Go.WideShapes Go.RowKit
theorem rowAt_le{P:Program}{b:TypeId->Bool}{d:Nat}{e:TypeId}{a off n:Nat}(h:rowAt P b d e a off n=true):off<=a*P.cellsOf e:=by
 cases d with
 |zero=>cases h
 | succ d=>
   unfold rowAt at h
   simp only []at h
   split at h
   . cases h
   . rename_i i
     have c:0<P.cellsOf e:=by omega
     have f:=Nat.div_add_mod off (P.cellsOf e)
     simp only [Bool.or_eq_true,Bool.and_eq_true,beq_iff_eq,decide_eq_true_eq]at h
     rcases h with⟨⟨g,j⟩,_⟩|⟨g,_⟩
     . have:P.cellsOf e*(off/P.cellsOf e)<=P.cellsOf e*a:=Nat.mul_le_mul_left _ (by omega)
       rw [Nat.mul_comm a];omega
     . have:P.cellsOf e*(off/P.cellsOf e+1)<=P.cellsOf e*a:=Nat.mul_le_mul_left _ (by omega)
       have hlt:=Xr off c
       rw [Nat.mul_add,Xe]at this
       rw [Nat.mul_comm a];omega
theorem liesAt_le{P:Program}{d:Nat}: ∀{e:TypeId} {a off:Nat} {u:TypeId} {n:Nat},liesAt P d e a off u n=true->off<=a*P.cellsOf e:=by
 induction d with
 |zero=>intro e a off u n h;cases h
 | succ d b=>
   intro e a off u n h
   unfold liesAt at h
   rw [Bool.or_eq_true]at h
   rcases h with h|h
   . exact rowAt_le h
   . split at h
     . exact b h
     . cases h
theorem has_W{P:Program}{W:World}{r:_root_.Go.Reach}{base:Nat}{a:Addr}{e:TypeId}{n:Nat}(h:W.has P r base a e n):a.spot=none/\a.block<W.heap.size/\ ∃l,(hpW W).load (a.block+16) a.off 0=some l:=by
 obtain⟨_,f,i,c,b,k⟩:=h
 have hle:=liesAt_le k
 have d:a.off<=c:=Nat.le_trans hle (Nat.div_mul_le_self _ _)
 unfold World.shape? at b
 split at b
 next m el q g=>
  cases b
  have hlt:=(Array.getElem?_eq_some_iff.1 g).1
  have p:Row (hpW W) (a.block+16) (m.toList.map (jz W.heap.size)) 0:=⟨_,_,by rw [sZ,g];rfl,Tr.sized_ofList _,fun j=>Tr.get_ofList _ j⟩
  exact⟨f,hlt,_,p.load (o:=a.off) (n:=0) (by simpa using d)⟩
 . cases b
section
variable{H:Type}{enc:TypeId×Value->H}{P:Program}
theorem mV{W:World}{base n:Nat}{s e:TypeId}{k:IntKind}{c:Value}{C:Nat->Bool}{D:Bool}{x:DataW H×List MemPlace}(v:P.underlying s=some (.slice e))(E:P.underlying e=some (.int k))(F:P.cellsOf e=1)
 (b:Cell.okWide P W .any base s c) (h:DataW.trod enc P W 0 C D n s [c]=some x): ∃d:List Int,SlW (hpW W) k (jz W.heap.size c) d/\(∀z∈d,(Lit.int k z).wf=true)/\d.length<=9223372036854775807:=by
 rcases Go.ChangeShapes.open_ints v E F h with⟨w,_⟩|⟨a,g,o,d,w,J,A,K,p,_,j,y⟩
 . cases w
   exact⟨[],.inl ⟨rfl,rfl⟩,fun z p=>(by cases p),by simp⟩
 . cases w
   unfold Cell.okWide at b
   rw [v]at b
   simp only [Cell.ok,v]at b
   obtain⟨B,q,r⟩:=b
   obtain⟨t,hlt,G⟩:=has_W r
   have m:g<=d.length:=by rw [p];split<;>omega
   refine⟨d.take g,.inr ⟨a.block+16,a.off,o,?_,?_,?_⟩,fun z p=>y z (List.mem_of_mem_take p),by
    have:(o:Int)<=9223372036854775807:=q
    rw [Xo];omega⟩
   . rw [Xo,XA m]
     simp only [jz,if_pos A,if_pos (And.intro t hlt)]
   . rw [Xo,XA m];exact A
   . rw [Xo,XA m,Xe]
     rw [load_join (f:=fun i=>.int k (d.getD i 0)) G (fun i u=>load_W t (j i (by omega)))]
     congr 1
     have I: ∀l:List Int,l.flatMap (encI k)=l.map fun x=>.int k x:=fun l=>by
      rw [XD,List.map_eq_flatMap,XD];rfl
     rw [I]
     refine List.ext_getElem? fun i=>?_
     rw [List.getElem?_map,List.getElem?_map,List.getElem?_take]
     by_cases u:i<g
     . rw [if_pos u,List.getElem?_range u,Xz (show i<d.length by omega)]
       simp [zM,show i<d.length by omega]
     . rw [if_neg u,List.getElem?_eq_none (by simpa using u)];rfl
theorem open_slV{W:World}{base:Nat}{s e:TypeId}{k:IntKind}{v:Value}{j:Nat->Bool}{m:Bool}{d:DataW H}{p:List MemPlace}(c:P.underlying s=some (.slice e))(n:P.underlying e=some (.int k))(o:P.cellsOf e=1)
 (a:Value.okWide P W .any base s v) (h:DataW.Trod enc P W 0 j m s v d p): ∃f:List Int,SlW (hpW W) k (absA W.heap.size v) f/\(∀z∈f,(Lit.int k z).wf=true)/\f.length<=9223372036854775807:=by
 unfold Value.okWide at a
 rw [c]at a
 obtain⟨i,h⟩:=h
 have b: ∀l:Array Value,v≠ .agg l:=by
  rintro l rfl
  simp only [Cell.okWide,c,Cell.ok]at a
 have g:v.cells.toList=[v]:=by cases v<;>first|rfl|exact absurd rfl (b _)
 rw [g]at h
 have q:absA W.heap.size v=jz W.heap.size v:=by cases v<;>first|rfl|exact absurd rfl (b _)
 rw [q]
 exact mV c n o a h
theorem open_sl2{W:World}{base:Nat}{t s e:TypeId}{k:IntKind}{j m:Field}{v:Value}{C:Nat->Bool}{D:Bool}{d:DataW H}{p:List MemPlace}(r:P.underlying t=some (.struct #[j,m]))(E:j.offset=0)(o1:m.offset=1)(F:j.type=s)(t1:m.type=s)
 (u:P.underlying s=some (.slice e)) (w:P.underlying e=some (.int k)) (x:P.cellsOf e=1) (f:P.cellsOf s=1) (o:P.cellsOf t=2) (q:P.cellTypes P.depth t=some [s,s])
 (a:Value.okWide P W .any base t v) (h:DataW.Trod enc P W 0 C D t v d p):
 ∃(c0 g:Value) (xs ys:List Int),v=.agg #[c0,g]/\SlW (hpW W) k (jz W.heap.size c0) xs/\SlW (hpW W) k (jz W.heap.size g) ys/\(∀z∈xs,(Lit.int k z).wf=true)/\ ∀z∈ys,(Lit.int k z).wf=true:=by
 unfold Value.okWide at a
 rw [r]at a
 obtain⟨G,rfl,c,O,i,_,b⟩:=a
 rw [q]at i
 cases i
 rw [o]at c
 obtain⟨l⟩:=G
 simp only [List.size_toArray]at c
 obtain⟨c0,g,rfl⟩:=len2 c
 obtain⟨y,h⟩:=h
 obtain⟨Q,R,n,_,_,A,B⟩:=Go.ChangeShapes.trod_struct2 r h
 rw [E,F,f]at A
 rw [o1,t1,f]at B
 obtain⟨S,I,J⟩:=b 0 c0 rfl
 obtain⟨T,i,K⟩:=b 1 g rfl
 cases I
 cases i
 obtain⟨xs,L,M,_⟩:=mV u w x J A
 obtain⟨ys,N,wy,_⟩:=mV u w x K B
 exact⟨c0,g,xs,ys,rfl,L,N,M,wy⟩
end
end Go.Ab

end
section
namespace Go.Ab
open Go.ChangeShapes Go.WideShapes Go.RowKit
section
variable{H:Type}{enc:TypeId×Value->H}{P:Program}
theorem len5j{f:Type}{l:List f}(h:l.length=5): ∃a b c d e,l=[a,b,c,d,e]:=by
 match l,h with
 | [a,b,c,d,e],_=>exact⟨a,b,c,d,e,rfl⟩
theorem wf64{z:Int}(h:(Lit.int .i64 z).wf=true): -9223372036854775808<=z/\z<=9223372036854775807:=by
 unfold Lit.wf at h
 simp only [Bool.and_eq_true,decide_eq_true_eq]at h
 exact h
theorem open_d28{W:World}{base:Nat}{t f k D E m:TypeId}{s w y A C:Field}{v:Value}{sp:Nat->Bool}{hd:Bool}{d:DataW H}{p:List MemPlace}(R:P.underlying t=some (.struct #[s,w,y,A,C]))(o0:s.offset=0)(o1:w.offset=1)(o2:y.offset=2)(o3:A.offset=3)(o4:C.offset=4)
 (t0:s.type=f) (t1:w.type=f) (t2:y.type=f) (t3:A.type=m) (t4:C.type=k) (F:P.underlying f=some (.slice D)) (G:P.underlying m=some (.int .u8)) (I:P.underlying k=some (.slice E))
 (J:P.underlying D=some (.int .u8)) (g4:P.underlying E=some (.int .i64)) (c0:P.cellsOf D=1) (c4:P.cellsOf E=1) (K:P.cellsOf f=1) (d3:P.cellsOf m=1) (d4:P.cellsOf k=1) (L:P.cellsOf t=5) (Q:P.cellTypes P.depth t=some [f,f,f,m,k])
 (g:Value.okWide P W .any base t v) (h:DataW.Trod enc P W 0 sp hd t v d p):
 ∃ (a b c e:Value) (x:Int) (B O M N:List Int),v=.agg #[a,b,c,.int .u8 x,e]/\SlW (hpW W) .u8 (jz W.heap.size a) B/\SlW (hpW W) .u8 (jz W.heap.size b) O/\SlW (hpW W) .u8 (jz W.heap.size c) M/\SlW (hpW W) .i64 (jz W.heap.size e) N/\
   (∀z∈O,(Lit.int .u8 z).wf=true)/\(∀z∈M,(Lit.int .u8 z).wf=true)/\(∀z∈N,(Lit.int .i64 z).wf=true)/\(Lit.int .u8 x).wf=true:=by
 unfold Value.okWide at g
 rw [R]at g
 obtain⟨cs,rfl,i,ts,S,_,o⟩:=g
 rw [Q]at S
 cases S
 rw [L]at i
 obtain⟨l⟩:=cs
 simp only [List.size_toArray]at i
 obtain⟨a,b,c,x,e,rfl⟩:=len5j i
 obtain⟨T,h⟩:=h
 obtain⟨xs,n,_,_,hl,q,hf⟩:=DataW.trod_struct R h
 obtain⟨y0,y1,y2,y3,y4,rfl⟩:=len5j (by rw [q];rfl:xs.length=5)
 have U:=hf 0 s rfl
 have V:=hf 1 w rfl
 have X:=hf 2 y rfl
 have Y:=hf 3 A rfl
 have Z:=hf 4 C rfl
 rw [o0,t0,K]at U
 rw [o1,t1,K]at V
 rw [o2,t2,K]at X
 rw [o3,t3,d3]at Y
 rw [o4,t4,d4]at Z
 have r: ∀(j:Nat) t v,[f,f,f,m,k][j%5]? =some t->[a,b,c,x,e][j]? =some v->Cell.okWide P W .any base t v:=fun j t v h1 h2=>by
  obtain⟨u,G,I⟩:=o j v (by simpa using h2)
  obtain rfl:t=u:=Option.some.inj (h1.symm.trans G)
  exact I
 obtain⟨B,hB,_,_⟩:=mV F J c0 (r 0 f a rfl rfl) U
 obtain⟨O,hO,wO,_⟩:=mV F J c0 (r 1 f b rfl rfl) V
 obtain⟨M,hM,wM,_⟩:=mV F J c0 (r 2 f c rfl rfl) X
 obtain⟨N,hN,wN,_⟩:=mV I g4 c4 (r 4 k e rfl rfl) Z
 obtain⟨u,e2,_,wu⟩:=DataW.trod_int G Y
 cases e2
 exact⟨a,b,c,e,u,B,O,M,N,rfl,hB,hO,hM,hN,wO,wM,wN,wu⟩
end
end Go.Ab

end

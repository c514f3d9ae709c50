/- Nets, cells, flags: what the functions do (part 5). -/
import Derived.Test.YtoifagpcndmlgaaGreatDoorNetD
import Derived.ChangeSlices
import Derived.ChangeArms
import Derived.ChangeSame
open Go.Ab.Tryz
open Int renaming tmod_eq_emod_of_nonneg->zB,natCast_emod->zO,tdiv_eq_ediv_of_nonneg->Xq,eq_ofNat_of_zero_le->XC
open Nat renaming lt_of_succ_le->zM,mul_one->Xh,zero_add->Xj,mod_lt->Xl,zero_le->Xm,le_refl->Xy,zero_mul->XA,min_eq_left->XD,one_mul->XE,mul_comm->XI
open List renaming getD_eq_getElem?_getD->Xa,length_set->Xb,getElem?_eq_getElem->Xc,take->Xd,drop->Xe,getElem_mem->Xf,mem_or_eq_of_mem_set->Xg,not_mem_nil->Xi,filterMap_nil->Xk,length_take->Xo,mem_cons->Xp,take_succ_cons->Xr,set_cons_zero->Xs,drop_zero->Xt,map_cons->Xu,map_nil->Xw,take_zero->Xx,getElem?_map->Xz,nil_sublist->XB,sublist_cons_self->XF,flatMap_eq_foldl->XG
open Go.Ab.Tryz renaming abEnv->Xn,e3E->Xv
open Bool renaming and_true->XH
set_option maxHeartbeats 4000000
set_option linter.defProp false
set_option linter.unusedVariables false
set_option linter.unusedSimpArgs false
section
namespace Go.Ab
open Go.Proofs
set_option maxRecDepth 10000
def Tryz.F0:=aj t1<|aj t2<|aj t3<|aj t4<|aj t5<|aj t6<|aj Z1<|aj Z4<|aj t9<|aj t10<|aj t11<|aj t12<|aj Z7<|aj Z13<|aj t15<|aj t16<|aj t17<|aj t18<|aj r18<|aj Z19<|aj t20<|aj t21<|aj t22<|aj t23<|aj t24<|aj r24<|aj t25<|aj r25<|aj t26<|aj t27<|aj t28<|aj t29<|aj t30<|aj t31<|aj t32<|aj t33<|aj r33<|aj Z12<|aj t35<|aj t36<|aj r36<|aj Z0<|aj t38<|aj t39<|aj t41<|aj t42<|aj t43<|aj t44<|aj t45<|aj r45<|aj Z3<|aj t47<|aj t48<|aj t76<|aj t84<|aj t86<|aj r86<|aj t90<|aj t92<|aj Z2<|aj Z8<|aj Z5<|aj t161<|aj Z6<|aj t248<|aj Z16<|aj t356<|aj t358<|aj t360<|aj t361<|aj t362<|aj t363<|Z15
structure MadeI(has:Nat)(I:Img):Prop where
 g:Good I.g
 t:I.T.isSome=decide (has%2=1)
 c:I.C.isSome=decide (has/2%2=1)
 z: ∀T,I.T=some T->T.l[0]? =some 0/\T.l.length<=4/\gm I.g.nodes T.l
theorem u7{a j:Nat}(g:a<=255)(b:j<8){E:Env}{t:TypeId}{p q:Operand}:aO E .and t p q (.int .u8 (a:Int)) (.int .u8 ((2 ^j:Nat):Int))=some (.int .u8 ((if a/2 ^j%2=1 then 2 ^j else 0:Nat):Int)):=by
 have h:=rD (E:=E) (t:=t) (p:=p) (q:=q) (k:=.u8) (x:=a) (y:=2 ^j) rfl (by simp only [pw];omega) (pow8 b)
 rw [h]
 congr 2
 have:a&&& 2 ^j=if a/2 ^j%2=1 then 2 ^j else 0:=by
  refine Nat.eq_of_testBit_eq fun i=>?_
  rw [Nat.testBit_and,Nat.testBit_two_pow]
  have c:a.testBit j=decide (a/2 ^j%2=1):=Nat.testBit_eq_decide_div_mod_eq ..
  by_cases e:j=i
  . subst e
    rw [c]
    by_cases d:a/2 ^j%2=1<;>simp [d]
  . have f: ¬i=j:=fun h=>e h.symm
    split<;>simp [Nat.testBit_two_pow,e,f]
 rw [this]
def TabY(h:Hp)(k:Nat)(p:Value)(N:Nat):Option Tab->Prop
 |none=>p=.pointer none
 |some T=>(∃m,k<m/\TabAt h m p N T.l (bI T.to) (bI T.fr))/\TabL N T/\T.l[0]? =some 0/\T.l.length<=4/\gm N T.l
theorem TabY.mo{M:Nat->Prop}{h d:Hp}{k N:Nat}{p:Value}{T:Option Tab}(t:TabY h k p N T)(g:Mo M h d)(e: ∀b,M b->b<=k):TabY d k p N T:=by
 cases T with
 |none=>exact t
 | some T=>
   obtain⟨⟨m,a,b⟩,c⟩:=t
   exact⟨⟨m,a,b.mo g (fun x f=>by have:=e x f;omega)⟩,c⟩
theorem TabY.fl{h:Hp}{k N:Nat}{p:Value}{T:Option Tab}(t:TabY h k p N T):Fl p:=by
 cases T with
 |none=>have t:p=.pointer none:=t;subst t;exact dh
 |some T=>obtain⟨⟨m,_,b⟩,_⟩:=t;obtain⟨_,_,_,_,rfl,_⟩:=b.ex;exact dh
def pY(O:List Int)(i:Nat):Int:=if O.length=0 then 0 else(O.getD (i%O.length) 0).tmod 5
theorem made28_ok {h0:Hp} (ok:h0.t.Sized h0.n) {vB vO vM vN:Value} {s:Nat} {B O ms Z:List Int} (hB:SlW h0 .u8 vB B) (hO:SlW h0 .u8 vO O) (cO: ∀x∈O,0<=x/\x<=255) (hM:SlW h0 .u8 vM ms) (cT: ∀x∈ms,0<=x/\x<=255) (hN:SlW h0 .i64 vN Z) (cN: ∀x∈Z,-9223372036854775808<=x/\x<=9223372036854775807) (hh:s<=255):
 Ret Xn 9 [.agg ⟨[vB,vO,vM,.int .u8 (s:Nat),vN]⟩] h0 fun r V=>Gr h0 V/\ ∃b I,r=ptrTo b/\iz V b I/\MadeI s I:=by
 have S:=Si ok
 have fB:=hB.sl.fl
 have fO:=hO.sl.fl
 have fM:=hM.sl.fl
 have fN:=hN.sl.fl
 have mn:min (B.length:Int) 40=((min B.length 40:Nat):Int):=by omega
 obtain⟨b9,cW,sB,bB⟩:=hB.low (kd':=.i64) (n:=min B.length 40) Tryz.t22.1 Tryz.t5.2.2.1 (Nat.min_le_left _ _)
 have cY:=sB.fl
 refine ac (n:=281) (rs:=[.tmp 2]) rfl Tryz.e9 rfl rfl rfl (lbt rfl) ?_
 simp only [BS,Nat.reduceLT]
 refine ag (bR (by intro x e;cases e)) S ?_;clear S;intro h A S ev;simp only [ah]at S
 simp only [BS,LB,Nat.reduceLT,Nat.reduceEqDiff,Nat.reduceAdd,Option.map_some,Option.map_none,F0,hB.sl.lenq,mn,cW,cY,S.ld (b:=A) (o:=0) m0 rfl]
 refine ag (bR (by intro x e;cases e)) S ?_;clear S;intro h bd S cc;simp only [ah]at S
 have c2:au h 1 (encI .u8) b9 (B.take (min B.length 40)):=sB.gr S.gr
 have nB: ¬ao b9 bd:=fun L=>by have:=sB.lt ok L;omega
 have c4:(B.take (min B.length 40)).length<1000000:=by rw [Xo];omega
 simp only [BS,LB,Nat.reduceLT,Nat.reduceEqDiff]
 have k0:=S.fr.n
 have ap:=S.apart
 simp only [keys,Xu,Xw,Xk,List.append_nil,List.nodup_cons,Xp,Xi,or_false,not_or]at ap
 have eM:=(S.row (b:=A) m1).lt S.ok
 refine step_ret (raw_ok S.ok (S.row m0) ⟨c2,nB,c4,by omega⟩) ?_
 rintro v h ⟨fr,u,vx,vy,va,rfl,ad,ga,hz⟩
 have n1:=ad.n1
 have n2:=ad.n2
 replace S:=S.drop1.step fr (fun c L=>by subst L;exact .inr cc) (fun c L e=>by simp [keys]at L;omega)
 have fx:=ga.X.fl
 have fy:=ga.Y.fl
 have fa:=ga.A.fl
 have gS:=S.gr
 have S0:=S
 replace S:=S.base
 simp only [BS,F0,fW]
 refine ag aw S ?_;clear S;intro h D S ew
 simp only [BS,LB,Nat.reduceLT,Nat.reduceEqDiff]
 refine ax (S.store (i:=0) rfl Tryz.t37.2.1 (by intro x e;cases e) rfl (by simp only [ah,List.all_cons,List.all_nil,fx.2.1,fy.2.1,fa.2.1,XH];rfl) (lbt rfl) ono) ?_
 clear S;rintro h ⟨S,mo⟩
 simp only [LC,ah,lay,Xd,Xe,Nat.reduceAdd]at S
 have c5:=ga.mo S.fr (fun c L W=>by have:=hz c L;simp [keys]at W;omega)
 simp only [BS,LB,Nat.reduceLT,Nat.reduceEqDiff,F0,Xt,Xr,Xx,S.lds (b:=D) (o:=0) (n:=4) m0 (lbt rfl)]
 have q4:=(S.row (b:=D) m0).lt S.ok
 have q1:=(S.row (b:=A) m1).lt S.ok
 refine step_ret (wS S.ok ad.b c5) ?_
 rintro v h ⟨p,rfl,g,hp⟩
 replace S:=S.call g
 clear g
 obtain⟨P,rfl⟩:=hp.ptr
 replace S:=S0.rebase S
 have a0:=S.gr
 have eN:=S.ok
 clear S0
 replace S:=S.base
 simp only [LC,keys,Xu,Xw,Xk]at S
 rename Hp=>hC0
 have z4:=(S.row (b:=D) m0).lt S.ok
 have z1:=(S.row (b:=A) m1).lt S.ok
 simp only [BS,LB,Nat.reduceLT,Nat.reduceEqDiff,Nat.reduceAdd,F0]
 refine ag (bR (by intro x e;cases e)) S ?_;clear S;intro h F S ch;simp only [ah]at S
 have d1:decide (((s%2:Nat):Int)=1)=decide (s%2=1):=decide_eq_decide.2 (by omega)
 have a2: ∀(t:TypeId) (p q:Operand),aO Xn .and t p q (.int .u8 (s:Nat)) (.int .u8 2)=some (.int .u8 ((if s/2%2=1 then 2 else 0:Nat):Int)):=fun t p q=>u7 hh (j:=1) (by decide)
 have d2:decide (((if s/2%2=1 then 2 else 0:Nat):Int)=2)=decide (s/2%2=1):=decide_eq_decide.2 (by split<;>omega)
 have a4: ∀(t:TypeId) (p q:Operand),aO Xn .and t p q (.int .u8 (s:Nat)) (.int .u8 4)=some (.int .u8 ((if s/4%2=1 then 4 else 0:Nat):Int)):=fun t p q=>u7 hh (j:=2) (by decide)
 have d4:decide (((if s/4%2=1 then 4 else 0:Nat):Int)=4)=decide (s/4%2=1):=decide_eq_decide.2 (by split<;>omega)
 have a8: ∀(t:TypeId) (p q:Operand),aO Xn .and t p q (.int .u8 (s:Nat)) (.int .u8 8)=some (.int .u8 ((if s/8%2=1 then 8 else 0:Nat):Int)):=fun t p q=>u7 hh (j:=3) (by decide)
 have d8:decide (((if s/8%2=1 then 8 else 0:Nat):Int)=8)=decide (s/8%2=1):=decide_eq_decide.2 (by split<;>omega)
 have n7:=ch
 have nb: ∀c,c<h0.n-> ¬c∈[D,A]:=fun c L W=>by
  simp only [Xp,Xi,or_false]at W
  have:=gS.n
  omega
 have c7: ∀c,c∈[D,A]->h0.n<=c:=fun c W=>by
  simp only [Xp,Xi,or_false]at W
  have:=gS.n
  omega
 have c8: ∀c,ao vM c->c<h0.n:=fun c L=>hM.sl.lt ok L
 have db: ∀c,ao vO c->c<h0.n:=fun c L=>hO.sl.lt ok L
 have bx: ∀c,ao vN c->c<h0.n:=fun c L=>hN.sl.lt ok L
 have bh: ∀{N:Hp},Mo (· ∈[D,A]) hC0 N->bF N _ (ptrTo P) u:=fun f=>hp.mo f (fun c W=>by simp only [Xp,Xi,or_false]at W;omega)
 simp only [BS,LB,Nat.reduceLT,Nat.reduceEqDiff,F0,b_andB (show s<256 by omega),d1,S.ld (b:=A) (o:=3) m2 rfl]
 refine qz (fun a V=> ∃pt T,St (· ∈[D,A]) hC0 V [(F,.row [ptrTo P,pt,.pointer none,.pointer none] 1),(D,.row [.int .i64 u.nodes,vx,vy,va] 1),(A,.row [vB,vO,vM,.int .u8 (s:Nat),vN] 1)] []/\TabY V F pt u.nodes T/\T.isSome=decide (s%2=1)/\a 1=ptrTo A/\a 4=ptrTo D/\a 5=ptrTo P/\a 7=ptrTo F) ?_ ?_ ?_
 . intro bi
   simp only [BS,LB]
   refine ag (bj (by exact Tryz.t42.1) (by exact Xv) (by decide) (by rfl)) S ?_;clear S;intro h bt S eA;simp only [LC,aR,bo,ah,Nat.reduceMul,Nat.reduceAdd,XA,Xj,Xh,XE]at S
   simp only [BS,LB,Nat.reduceLT,Nat.reduceEqDiff]
   refine qB (fun a V=> ∃(Y:Value) (l:List Int) (G:List GL),St (· ∈[D,A]) hC0 V [(bt,.row [.int .i64 0] 1),(F,.row [ptrTo P,.pointer none,.pointer none,.pointer none] 1),(D,.row [.int .i64 u.nodes,vx,vy,va] 1),(A,.row [vB,vO,vM,.int .u8 (s:Nat),vN] 1)] G/\((G=[]/\Y=.slice (some ⟨bt,0,none⟩) 1 1/\l=[0])\/G=[(Y,1,ints l)])/\gm u.nodes l/\l[0]? =some 0/\l.length<=4/\a 1=ptrTo A/\a 4=ptrTo D/\a 5=ptrTo P/\a 7=ptrTo F/\a 8=Y)
    (fun(i:Nat) a V=>i<=ms.length/\i<=3/\ ∃(Y:Value) (l:List Int) (G:List GL),St (· ∈[D,A]) hC0 V [(bt,.row [.int .i64 0] 1),(F,.row [ptrTo P,.pointer none,.pointer none,.pointer none] 1),(D,.row [.int .i64 u.nodes,vx,vy,va] 1),(A,.row [vB,vO,vM,.int .u8 (s:Nat),vN] 1)] G/\((G=[]/\Y=.slice (some ⟨bt,0,none⟩) 1 1/\l=[0])\/G=[(Y,1,ints l)])/\gm u.nodes l/\l[0]? =some 0/\l.length<=i+1/\a 1=ptrTo A/\a 4=ptrTo D/\a 5=ptrTo P/\a 7=ptrTo F/\a 8=Y/\a 9=.int .i64 i) (fun i=>ms.length-i) ?_ ?_ 0 ⟨Xm _,Xm _,_,[0],[],S,.inl ⟨rfl,rfl,rfl⟩,(mayL_nil _).push (by simp) (by decide) (by omega) (by simp),rfl,by simp,by simp [aa,ab],by simp [aa,ab],by simp [aa,ab],by simp [aa,ab],by simp [aa],by simp [aa]⟩
   . clear S
     intro i ih a V ⟨X,hi3,Y,l,G,S,hG,hl,hl0,hli,E,H,J,r7,r8,r9⟩
     have cl:=(hM.sl.gr a0).mo S.fr (fun c L=>nb c (c8 c L))
     have a1: ∀(n:Nat) (d:List Deferred) (rc:Option (Value×Bool)) (aL:Nat->Value),aL 1=ptrTo A->aL 4=ptrTo D->aL 5=ptrTo P->aL 7=ptrTo F->aL 8=Y->JP n d rc (fun a V=> ∃(Y:Value) (l:List Int) (G:List GL),St (· ∈[D,A]) hC0 V [(bt,.row [.int .i64 0] 1),(F,.row [ptrTo P,.pointer none,.pointer none,.pointer none] 1),(D,.row [.int .i64 u.nodes,vx,vy,va] 1),(A,.row [vB,vO,vM,.int .u8 (s:Nat),vN] 1)] G/\((G=[]/\Y=.slice (some ⟨bt,0,none⟩) 1 1/\l=[0])\/G=[(Y,1,ints l)])/\gm u.nodes l/\l[0]? =some 0/\l.length<=4/\a 1=ptrTo A/\a 4=ptrTo D/\a 5=ptrTo P/\a 7=ptrTo F/\a 8=Y) .normal (LL n aL d rc) V:=fun n d rc aL e1 e4 e5 e7 e8=>dR ⟨Y,l,G,S,hG,hl,hl0,by omega,e1,e4,e5,e7,e8⟩
     have sR:au V 1 (encI .i64) Y l:=by
      rcases hG with⟨_,rfl,rfl⟩|rfl
      . exact .inr ⟨bt,0,none,1,rfl,Xy _,S.lds (b:=bt) (o:=0) (n:=1*1) m0 (lbt rfl)⟩
      . exact(S.gown _ m0).1.sl rfl (fun _=>rfl) (by decide)
     by_cases hlt:i<ms.length
     . by_cases h3:i<3
       . have c3:(i:Int)<3:=by omega
         obtain⟨c,o,a5,bk⟩:=cl.ix (kd:=.i64) (aM .u8) hlt
         have hx:=cT _ (Xf hlt)
         obtain⟨x,ex⟩: ∃x:Nat,ms[i]=x:=⟨ms[i].toNat,by omega⟩
         rw [ex]at bk hx
         have nz:(u.nodes:Int)≠0:=by omega
         have wc:am .i64 (x:Int)=(x:Int):=by rw [wrap64]<;>omega
         have tm:(x:Int).tmod (u.nodes:Int)=((x%u.nodes:Nat):Int):=by rw [zB (by omega)];exact(zO _ _).symm
         have ai:x%u.nodes<u.nodes:=Xl _ (by omega)
         have w:am .i64 ((i:Int)+1)=((i+1:Nat):Int):=by rw [wrap64]<;>omega
         simp only [BS,LB,Nat.reduceLT,Nat.reduceEqDiff,F0,E,r9,hM.sl.lenq,aq,hlt,c3,S.ld (b:=A) (o:=2) m3 rfl]
         refine ar (ay rfl) (q:=0) (ps:=[]) (by kernel_rfl) ?_
         simp only [BS,LB,cE,aN,cM,cls,Nat.reduceLT,Nat.reduceEqDiff,Nat.reduceAdd,Nat.reducePow,Nat.reduceDiv,Nat.reduceMod,Nat.reduceLeDiff,F0,E,H,r9,a5,bk,encI,wc,eP nz,tm,S.ld (b:=D) (o:=0) m2 rfl,S.ld (b:=A) (o:=2) m3 rfl]
         generalize x%u.nodes=v at ai
         clear cl
         refine aD (fun(k:Nat) a N=>k<=l.length/\N=V/\a 1=ptrTo A/\a 4=ptrTo D/\a 5=ptrTo P/\a 7=ptrTo F/\a 8=Y/\a 9=.int .i64 i/\a 10=.int .i64 v/\a 11=.bool (decide ((v:Int)∈l.take k))/\a 12=.int .i64 k) (fun k=>l.length-k) ?_ 0 _ _ ⟨Xm _,rfl,by simp [aa,E,ab],by simp [aa,H,ab],by simp [aa,J,ab],by simp [aa,r7,ab],by simp [aa,r8],by simp [aa,r9],by simp [aa],by simp [aa],by simp [aa]⟩
         clear E H J r7 r8 r9
         rintro k cp a N ⟨hk,rfl,E,H,J,r7,r8,r9,bl,af,bn⟩
         have wk:am .i64 ((k:Int)+1)=((k+1:Nat):Int):=by rw [wrap64]<;>omega
         by_cases a3:k<l.length
         . have tk:l.take (k+1)=l.take k++[l[k]]:=List.take_succ_eq_append_getElem a3
           by_cases W:(v:Int)∈l.take k
           . rw [decide_eq_true W]at af
             have dd:(v:Int)∈l.take (k+1):=by rw [tk];exact List.mem_append_left _ W
             simp only [BS,LB,Nat.reduceLT,Nat.reduceEqDiff,F0,r8,af,bn,sR.lenq,aq,a3,wk]
             exact cp (k+1) _ _ (by omega) ⟨by omega,rfl,by simp [aa,E,ab],by simp [aa,H,ab],by simp [aa,J,ab],by simp [aa,r7,ab],by simp [aa,r8],by simp [aa,r9],by simp [aa,bl],by simp [aa,dd],by simp [aa]⟩
           . rw [decide_eq_false W]at af
             obtain⟨c1,o1,i1,y1⟩:=sR.ix (kd:=.i64) (aM .i64) a3
             have m2:decide (l[k]=(v:Int))=decide ((v:Int)∈l.take (k+1)):=decide_eq_decide.2 ⟨fun he=>by rw [tk,he];exact List.mem_append_right _ (List.mem_singleton.2 rfl),fun h=>by
              rw [tk]at h
              rcases List.mem_append.1 h with h|h
              . exact absurd h W
              . exact(List.mem_singleton.1 h).symm⟩
             simp only [BS,LB,Nat.reduceLT,Nat.reduceEqDiff,F0,r8,bl,af,bn,sR.lenq,aq,a3,wk,i1,y1,encI,m2]
             exact cp (k+1) _ _ (by omega) ⟨by omega,rfl,by simp [aa,E,ab],by simp [aa,H,ab],by simp [aa,J,ab],by simp [aa,r7,ab],by simp [aa,r8],by simp [aa,r9],by simp [aa,bl],by simp [aa],by simp [aa]⟩
         . have ek:k=l.length:=by omega
           subst ek
           rw [List.take_length]at af
           by_cases W:(v:Int)∈l
           . rw [decide_eq_true W]at af
             simp only [BS,LB,Nat.reduceLT,Nat.reduceEqDiff,F0,r8,r9,af,bn,sR.lenq,aq,a3,w]
             exact ih (i+1) _ _ (by omega) ⟨by omega,by omega,Y,l,G,S,hG,hl,hl0,by omega,by simp [aa,E,ab],by simp [aa,H,ab],by simp [aa,J,ab],by simp [aa,r7,ab],by simp [aa,r8],by simp [aa]⟩
           . rw [decide_eq_false W]at af
             simp only [BS,LB,Nat.reduceLT,Nat.reduceEqDiff,F0,r8,r9,bl,af,bn,sR.lenq,aq,a3]
             refine ag (bj (by exact Tryz.t42.1) (by exact Xv) (by decide) (by rfl)) S ?_;clear S;intro h bu S eC;simp only [LC,aR,bo,ah,Nat.reduceMul,Nat.reduceAdd,XA,Xj,Xh,XE]at S
             simp only [BS,LB,Nat.reduceLT,Nat.reduceEqDiff]
             have bA:aI h 1 (.slice (some ⟨bu,0,none⟩) 1 1)=some (1,ints [(v:Int)]):=by simp only [aI];rw [S.lds (b:=bu) (o:=0) (n:=1*1) m0 (lbt rfl)];rfl
             replace S:=S.drop1
             have cr: ∃h3 v',cS Xn h [42,42] Y (.slice (some ⟨bu,0,none⟩) 1 1)=some (h3,v')/\St (· ∈[D,A]) hC0 h3 [(bt,.row [.int .i64 0] 1),(F,.row [ptrTo P,.pointer none,.pointer none,.pointer none] 1),(D,.row [.int .i64 u.nodes,vx,vy,va] 1),(A,.row [vB,vO,vM,.int .u8 (s:Nat),vN] 1)] [(v',1,ints (l++[(v:Int)]))]:=by
              rcases hG with⟨rfl,rfl,rfl⟩|rfl
              . rw [ia]
                exact St.growB S (b:=bt) (len:=1) (m:=1) (new:=ints [(v:Int)]) (S.row m0) rfl Tryz.t42.1 Xv (by decide) Tryz.t42.2.2.2.2.2 bA rfl (by decide) (by decide) (by rw [bD];exact lbt rfl)
              . rw [ia]
                exact S.grow (j:=0) (m:=1) (new:=ints [(v:Int)]) rfl Tryz.t42.1 Xv (by decide) Tryz.t42.2.2.2.2.2 bA rfl (by decide) rfl (by rw [bD,bD];simp;omega)
             refine dX cr ?_
             clear S bA hG cr sR a1;rintro h de S
             simp only [BS,LB,Nat.reduceLT,Nat.reduceEqDiff,r9,w]
             exact ih (i+1) _ _ (by omega) ⟨by omega,by omega,de,l++[(v:Int)],_,S,.inr rfl,hl.push (by omega) (by omega) (by omega) W,by rw [List.getElem?_append_left (by have:=(List.getElem?_eq_some_iff.1 hl0).1;exact this)];exact hl0,by simp;omega,by simp [aa,E,ab],by simp [aa,H,ab],by simp [aa,J,ab],by simp [aa,r7,ab],by simp [aa],by simp [aa]⟩
       . have c3: ¬(i:Int)<3:=by omega
         simp only [BS,LB,Nat.reduceLT,Nat.reduceEqDiff,F0,E,r9,hM.sl.lenq,aq,hlt,c3,S.ld (b:=A) (o:=2) m3 rfl]
         exact a1 _ _ _ _ (by simp [aa,E,ab]) (by simp [aa,H,ab]) (by simp [aa,J,ab]) (by simp [aa,r7,ab]) (by simp [aa,r8])
     . simp only [BS,LB,Nat.reduceLT,Nat.reduceEqDiff,F0,E,r9,hM.sl.lenq,aq,hlt,S.ld (b:=A) (o:=2) m3 rfl]
       exact a1 _ _ _ _ (by simp [aa,E,ab]) (by simp [aa,H,ab]) (by simp [aa,J,ab]) (by simp [aa,r7,ab]) (by simp [aa,r8])
   clear S
   intro a V ⟨Y,l,G,S,hG,hl,hl0,hl4,E,H,J,r7,r8⟩
   have sR: ∀{x:Hp} {L':List (Nat×Ob)} {G':List GL},St (· ∈[D,A]) hC0 x L' G'->(bt,Ob.row [.int .i64 0] 1)∈L'->(∀p∈G,p∈G')->au x 1 (encI .i64) Y l:=fun {x L' G'} U hL dj=>by
    rcases hG with⟨_,rfl,rfl⟩|rfl
    . exact .inr ⟨bt,0,none,1,rfl,Xy _,U.lds (b:=bt) (o:=0) (n:=1*1) hL (lbt rfl)⟩
    . exact iq.sl (xs:=l) (enc:=encI .i64) (U.gown (Y,1,ints l) (dj _ m0)).1 rfl (fun _=>rfl) (by decide)
   have l1:1<=l.length:=(List.getElem?_eq_some_iff.1 hl0).1
   have fR:Fl Y:=(sR S m0 (fun p hp=>hp)).fl
   have k7: ∀{x:Hp} {L':List (Nat×Ob)} {G':List GL} {o:Ob},St (· ∈[D,A]) hC0 x L' G'->(F,o)∈L'->F<x.n:=fun U W=>(U.own _ W).2.lt U.ok
   have kb: ∀c,c∈[D,A]->c<=F:=fun c W=>by
    simp only [Xp,Xi,or_false]at W;omega
   simp only [BS,LB,Nat.reduceLT,Nat.reduceEqDiff,J,r7,r8]
   refine step_ret (tabOf_ok S.ok ad (bh S.fr) (sR S m0 (fun p hp=>hp)) (by omega)) ?_
   rintro pt h ⟨g,hT⟩
   replace hT:=(hT.resolve_left (fun h=>h.1 hl)).2
   have kn:=k7 S m1
   replace S:=S.call g
   have own: ∀i,i<l.length->eg u.nodes (toR u l i)/\eg u.nodes (frR u l i):=fun i X=>ownRows S.ok ad (bh S.fr) hl X
   have tY:TabY h F pt u.nodes (some (jM l (toR u l) (frR u l))):=⟨⟨_,kn,vp hT⟩,tabL_L hl (by omega) l1 (fun i X=>(own i X).1) (fun i X=>(own i X).2),hl0,hl4,hl⟩
   have bP:=tY.fl
   simp only [BS,LB,Nat.reduceLT,Nat.reduceEqDiff,F0]
   refine ax (av S (i:=1) rfl Tryz.t30.2.2.1 bP (zM (lbt rfl)) ono) ?_
   clear S hT;rintro h ⟨S,mo⟩
   simp only [LC,ah,lay,Xd,Xe,Nat.reduceAdd]at S
   replace tY:=tY.mo mo (fun b e=>Nat.le_of_eq e)
   have dn: ∃b,pt=ptrTo b:=by obtain⟨⟨m,_,x⟩,_⟩:=tY;obtain⟨b,_,_,_,e,_⟩:=x.ex;exact⟨b,e⟩
   obtain⟨bT,rfl⟩:=dn
   by_cases h4:s/4%2=1
   . have e4:decide (s/4%2=1)=true:=decide_eq_true h4
     simp only [BS,LB,Nat.reduceLT,Nat.reduceEqDiff,F0,E,r7,a4,d4,e4,S.ld (b:=A) (o:=3) m3 rfl,S.ld (b:=F) (o:=1) m1 rfl]
     obtain⟨⟨mT,_,tA⟩,tL,_,_,_⟩:=tY
     have eD: ∀i,i<l.length->eg u.nodes (toR u l i)/\eg u.nodes (frR u l i):=own
     replace tA:TabAt _ mT (ptrTo bT) u.nodes l (toR u l) (frR u l):=tA.congr (fun i X=>jO X) (fun i X=>jO X)
     obtain⟨nB,bX⟩: ∃n,n=h.n:=⟨_,rfl⟩
     have kS: ∀c∈keys [(bt,.row [.int .i64 0] 1),(F,.row [ptrTo P,ptrTo bT,.pointer none,.pointer none] 1),(D,.row [.int .i64 u.nodes,vx,vy,va] 1),(A,.row [vB,vO,vM,.int .u8 (s:Nat),vN] 1)] G,c<nB:=fun c L=>by rw [bX];exact S.key_lt L
     have gN:hC0.n<=nB:=by rw [bX];exact S.fr.n
     refine step_ret (qu S.ok tA (by omega) (fun i X=>by rw [(own i X).1.1];omega) (fun i X=>by rw [(own i X).2.1];omega)) ?_
     rintro _ h ⟨g,vT,vF,kk,rfl,DT,DF,y1,y2⟩
     rw [<-bX]at DT y1
     obtain⟨nE,ds⟩: ∃n,n=h.n:=⟨_,rfl⟩
     rw [<-ds]at DF y2
     replace S:=S.call g
     obtain⟨ta,tn,tc,eT⟩:=DT.form
     obtain⟨fa,fn,fc,eF⟩:=DF.form
     simp only [BS,LB,Nat.reduceLT,Nat.reduceEqDiff]
     refine aD (fun(i:Nat) a N=>i<=l.length/\ ∃(R Q:Nat->List Int),St (· ∈[D,A]) hC0 N [(bt,.row [.int .i64 0] 1),(F,.row [ptrTo P,ptrTo bT,.pointer none,.pointer none] 1),(D,.row [.int .i64 u.nodes,vx,vy,va] 1),(A,.row [vB,vO,vM,.int .u8 (s:Nat),vN] 1)] G/\LLD N nB kk vT l.length R/\LLD N kk nE vF l.length Q/\(∀i,i<l.length->eg u.nodes (R i)/\eg u.nodes (Q i))/\a 1=ptrTo A/\a 4=ptrTo D/\a 5=ptrTo P/\a 7=ptrTo F/\a 8=Y/\a 13=vT/\a 14=vF/\a 15=.int .i64 i) (fun i=>l.length-i) ?_ 0 _ _ ⟨Xm _,_,_,S,DT,DF,own,by simp [aa,E,ab],by simp [aa,H,ab],by simp [aa,J,ab],by simp [aa,r7,ab],by simp [aa,r8],by simp [aa],by simp [aa],by simp [aa]⟩
     clear S DT DF E H J r7 r8 g mo
     intro i ih a N ⟨X,R,Q,S,DT,DF,hRQ,E,H,J,r7,r8,r13,r14,r15⟩
     have w:am .i64 ((i:Int)+1)=((i+1:Nat):Int):=by rw [wrap64]<;>omega
     by_cases hlt:i<l.length
     . simp only [BS,LB,Nat.reduceLT,Nat.reduceEqDiff,F0,r8,r15,(sR S m0 (fun p hp=>hp)).lenq,aq,hlt]
       refine aD (fun(v:Nat) a N=>v<=u.nodes/\ ∃(R Q:Nat->List Int),St (· ∈[D,A]) hC0 N [(bt,.row [.int .i64 0] 1),(F,.row [ptrTo P,ptrTo bT,.pointer none,.pointer none] 1),(D,.row [.int .i64 u.nodes,vx,vy,va] 1),(A,.row [vB,vO,vM,.int .u8 (s:Nat),vN] 1)] G/\LLD N nB kk vT l.length R/\LLD N kk nE vF l.length Q/\(∀i,i<l.length->eg u.nodes (R i)/\eg u.nodes (Q i))/\a 1=ptrTo A/\a 4=ptrTo D/\a 5=ptrTo P/\a 7=ptrTo F/\a 8=Y/\a 13=vT/\a 14=vF/\a 15=.int .i64 i/\a 16=.int .i64 v) (fun v=>u.nodes-v) ?_ 0 _ _ ⟨Xm _,_,_,S,DT,DF,hRQ,by simp [aa,E,ab],by simp [aa,H,ab],by simp [aa,J,ab],by simp [aa,r7,ab],by simp [aa,r8],by simp [aa,r13],by simp [aa,r14],by simp [aa,r15],by simp [aa]⟩
       clear S DT DF hRQ E H J r7 r8 r13 r14 r15 R Q
       intro v bY a N ⟨hv,R,Q,S,DT,DF,hRQ,E,H,J,r7,r8,r13,r14,r15,r16⟩
       have wv:am .i64 ((v:Int)+1)=((v+1:Nat):Int):=by rw [wrap64]<;>omega
       by_cases bq:v<u.nodes
       . obtain⟨cm,om,b0,b2⟩:=(sR S m0 (fun p hp=>hp)).ix (kd:=.i64) (aM .i64) hlt
         have a6:=(hN.sl.gr a0).mo S.fr (fun c L=>nb c (bx c L))
         by_cases W:(v:Int)=l[i]
         . have dt:=W.symm
           simp only [BS,LB,Nat.reduceLT,Nat.reduceEqDiff,F0,H,r8,r15,r16,aq,bq,b0,b2,encI,dt,wv,S.ld (b:=D) (o:=0) m2 rfl]
           exact bY (v+1) _ _ (by omega) ⟨by omega,R,Q,S,DT,DF,hRQ,by simp [aa,E,ab],by simp [aa,H,ab],by simp [aa,J,ab],by simp [aa,r7,ab],by simp [aa,r8],by simp [aa,r13],by simp [aa,r14],by simp [aa,r15],by simp [aa]⟩
         by_cases hz:Z.length=0
         . have c0: ¬(0:Int)<(Z.length:Int):=by omega
           simp only [BS,LB,Nat.reduceLT,Nat.reduceEqDiff,F0,E,H,r8,r15,r16,aq,bq,b0,b2,encI,W,hN.sl.lenq,c0,wv,S.ld (b:=D) (o:=0) m2 rfl,S.ld (b:=A) (o:=4) m3 rfl]
           exact bY (v+1) _ _ (by omega) ⟨by omega,R,Q,S,DT,DF,hRQ,by simp [aa,E,ab],by simp [aa,H,ab],by simp [aa,J,ab],by simp [aa,r7,ab],by simp [aa,r8],by simp [aa,r13],by simp [aa,r14],by simp [aa,r15],by simp [aa]⟩
         . have c0:(0:Int)<(Z.length:Int):=by omega
           have cs:(Z.length:Int)≠0:=by omega
           have w1:am .i64 ((i:Int)+(v:Int))=((i+v:Nat):Int):=by rw [wrap64]<;>omega
           have w2:am .i64 (3*(i:Int))=((3*i:Nat):Int):=by rw [wrap64]<;>omega
           have w3:am .i64 (((3*i:Nat):Int)+(v:Int))=((3*i+v:Nat):Int):=by rw [wrap64]<;>omega
           have dv:((i+v:Nat):Int).tmod (Z.length:Int)=(((i+v)%Z.length:Nat):Int):=by rw [zB (Int.natCast_nonneg _)];exact(zO _ _).symm
           have dx:((3*i+v:Nat):Int).tmod (Z.length:Int)=(((3*i+v)%Z.length:Nat):Int):=by rw [zB (Int.natCast_nonneg _)];exact(zO _ _).symm
           simp only [BS,LB,Nat.reduceLT,Nat.reduceEqDiff,F0,E,H,r8,r15,r16,aq,bq,b0,b2,encI,W,hN.sl.lenq,c0,S.ld (b:=D) (o:=0) m2 rfl,S.ld (b:=A) (o:=4) m3 rfl]
           refine ar (ay rfl) (q:=0) (ps:=[]) (by kernel_rfl) ?_
           have b3:R i≠ []:=fun e=>by have:=(hRQ i hlt).1;rw [e]at this;have:=this.1;simp at this;omega
           obtain⟨c,⟨q,o,e1,e2⟩,a7,dA,dF,ba⟩:=DT.at hlt b3
           have bb:=(hRQ i hlt).1.1
           have iv:ig (some 1) (.slice (some ⟨c,0,some 1⟩) (R i).length (R i).length) (.int .i64 (v:Nat))=some (.pointer (some ⟨c,v,none⟩)):=by
            rw [iQ,fo (by omega),m8,Xj,Xh]
           obtain⟨cn,on,bc,ak⟩:=a6.ix (kd:=.i64) (aM .i64) (Xl (i+v) (show 0<Z.length by omega))
           generalize Z[(i+v)%Z.length]'(Xl (i+v) (by omega))=z at ak
           simp only [BS,LB,cls,Nat.reduceLT,Nat.reduceEqDiff,Nat.reduceAdd,Nat.reducePow,Nat.reduceDiv,Nat.reduceMod,Nat.reduceLeDiff,F0,E,r13,r15,r16,hN.sl.lenq,eP cs,w1,dv,e1,e2,bc,ak,encI,iv,S.ld (b:=A) (o:=4) m3 rfl]
           have T:=St.init1 S.ok (o:=.row (ints (R i)) 1) a7
           refine ep (av T (i:=0) rfl Tryz.t2.2.2.1 bZ (by rw [bD];omega) ono) ?_
           clear T;rintro h3 ⟨T,mo⟩
           simp only [Xs,ints_set]at T
           have kc: ∀b∈keys [(bt,.row [.int .i64 0] 1),(F,.row [ptrTo P,ptrTo bT,.pointer none,.pointer none] 1),(D,.row [.int .i64 u.nodes,vx,vy,va] 1),(A,.row [vB,vO,vM,.int .u8 (s:Nat),vN] 1)] G,b≠c:=fun b hb e=>by have:=kS b hb;omega
           replace S:=S.step mo (fun b e=>.inr (by have e:b=c:=e;omega)) (fun b hb e=>kc b hb e)
           have D1:=ba _ _ mo (Xb ..) (T.row m0)
           have D2:=DF.mo mo (fun b e=>by have e:b=c:=e;omega)
           have be:eg u.nodes ((R i).set v (min (max z 0) 72057594037927936)):=⟨by rw [Xb];exact bb,fun x hx=>by
            rcases Xg hx with h|h
            . exact(hRQ i hlt).1.2 x h
            . omega⟩
           clear DT DF T ba a7 e2
           simp only [BS,LB,Nat.reduceAdd]
           have d0:=be
           have a6:=(hN.sl.gr a0).mo S.fr (fun c L=>nb c (bx c L))
           refine ar (ay rfl) (q:=0) (ps:=[]) (by kernel_rfl) ?_
           have b3:Q i≠ []:=fun e=>by have:=(hRQ i hlt).2;rw [e]at this;have:=this.1;simp at this;omega
           obtain⟨c,⟨q,o,e1,e2⟩,a7,dA,dF,ba⟩:=D2.at hlt b3
           have bb:=(hRQ i hlt).2.1
           have iv:ig (some 1) (.slice (some ⟨c,0,some 1⟩) (Q i).length (Q i).length) (.int .i64 (v:Nat))=some (.pointer (some ⟨c,v,none⟩)):=by
            rw [iQ,fo (by omega),m8,Xj,Xh]
           obtain⟨cn,on,bc,ak⟩:=a6.ix (kd:=.i64) (aM .i64) (Xl (3*i+v) (show 0<Z.length by omega))
           generalize Z[(3*i+v)%Z.length]'(Xl (3*i+v) (by omega))=z at ak
           simp only [BS,LB,cls,Nat.reduceLT,Nat.reduceEqDiff,Nat.reduceAdd,Nat.reducePow,Nat.reduceDiv,Nat.reduceMod,Nat.reduceLeDiff,F0,E,r14,r15,r16,hN.sl.lenq,eP cs,w2,w3,dx,e1,e2,bc,ak,encI,iv,S.ld (b:=A) (o:=4) m3 rfl]
           have T:=St.init1 S.ok (o:=.row (ints (Q i)) 1) a7
           refine ep (av T (i:=0) rfl Tryz.t2.2.2.1 bZ (by rw [bD];omega) ono) ?_
           clear T;rintro h3 ⟨T,mo⟩
           simp only [Xs,ints_set]at T
           have kc: ∀b∈keys [(bt,.row [.int .i64 0] 1),(F,.row [ptrTo P,ptrTo bT,.pointer none,.pointer none] 1),(D,.row [.int .i64 u.nodes,vx,vy,va] 1),(A,.row [vB,vO,vM,.int .u8 (s:Nat),vN] 1)] G,b≠c:=fun b hb e=>by have:=kS b hb;omega
           replace S:=S.step mo (fun b e=>.inr (by have e:b=c:=e;omega)) (fun b hb e=>kc b hb e)
           have D3:=ba _ _ mo (Xb ..) (T.row m0)
           have D4:=D1.mo mo (fun b e=>by have e:b=c:=e;omega)
           have be:eg u.nodes ((Q i).set v (min (max z 0) 72057594037927936)):=⟨by rw [Xb];exact bb,fun x hx=>by
            rcases Xg hx with h|h
            . exact(hRQ i hlt).2.2 x h
            . omega⟩
           clear D2 D1 T ba a7 e2
           simp only [BS,LB,Nat.reduceLT,Nat.reduceEqDiff,Nat.reduceAdd,r16,wv]
           exact bY (v+1) _ _ (by omega) ⟨by omega,_,_,S,D4,D3,fun j hj=>⟨by
            by_cases ej:j=i
            . subst ej;simp only [if_true];exact d0
            . simp only [if_neg ej];exact(hRQ j hj).1,by
            by_cases ej:j=i
            . subst ej;simp only [if_true];exact be
            . simp only [if_neg ej];exact(hRQ j hj).2⟩,by simp [aa,E,ab],by simp [aa,H,ab],by simp [aa,J,ab],by simp [aa,r7,ab],by simp [aa,r8],by simp [aa,r13],by simp [aa,r14],by simp [aa,r15],by simp [aa]⟩
       . simp only [BS,LB,Nat.reduceLT,Nat.reduceEqDiff,F0,H,r7,r8,r13,r14,r15,r16,aq,bq,w,S.ld (b:=D) (o:=0) m2 rfl]
         exact ih (i+1) _ _ (by omega) ⟨by omega,R,Q,S,DT,DF,hRQ,by simp [aa,E,ab],by simp [aa,H,ab],by simp [aa,J,ab],by simp [aa,r7,ab],by simp [aa,r8],by simp [aa,r13],by simp [aa,r14],by simp [aa]⟩
     . simp only [BS,LB,Nat.reduceLT,Nat.reduceEqDiff,F0,H,r7,r8,r13,r14,r15,(sR S m0 (fun p hp=>hp)).lenq,aq,hlt,S.ld (b:=D) (o:=0) m2 rfl]
       refine step_ret (make_ok S.ok (sR S m0 (fun p hp=>hp)) DT.ll DF.ll (by omega) (by omega) hl (fun i X=>(hRQ i X).1) (fun i X=>(hRQ i X).2)) ?_
       rintro pt h ⟨g,hT⟩
       have kn:=k7 S m1
       replace S:=S.call g
       have tY:TabY h F pt u.nodes (some (jM l R Q)):=⟨⟨_,kn,vp hT⟩,tabL_L hl (by omega) l1 (fun i X=>(hRQ i X).1) (fun i X=>(hRQ i X).2),hl0,hl4,hl⟩
       have bP:=tY.fl
       simp only [BS,LB,Nat.reduceLT,Nat.reduceEqDiff,F0]
       refine ax (av S (i:=1) rfl Tryz.t30.2.2.1 bP (zM (lbt rfl)) ono) ?_
       clear S hT;rintro h ⟨S,mo⟩
       simp only [LC,ah,lay,Xd,Xe,Nat.reduceAdd]at S
       replace tY:=tY.mo mo (fun b e=>Nat.le_of_eq e)
       simp only [BS]
       refine dR ⟨_,_,(?_ :St (· ∈[D,A]) hC0 _ _ []),tY,?_,by simp [aa,E,ab],by simp [aa,H,ab],by simp [aa,J,ab],by simp [aa,r7,ab]⟩
       . exact S.sub (XF _ _) (XB _)
       . rw [bi];rfl
   . have e4:decide (s/4%2=1)=false:=decide_eq_false h4
     simp only [BS,LB,Nat.reduceLT,Nat.reduceEqDiff,F0,E,a4,d4,e4,S.ld (b:=A) (o:=3) m3 rfl]
     refine dR ⟨_,_,(?_ :St (· ∈[D,A]) hC0 _ _ []),tY,?_,by simp [aa,E,ab],by simp [aa,H,ab],by simp [aa,J,ab],by simp [aa,r7,ab]⟩
     . exact S.sub (XF _ _) (XB _)
     . rw [bi];rfl
 . intro bi
   simp only [BS]
   exact dR ⟨_,none,S,rfl,by rw [bi];rfl,by simp [aa,ab],by simp [aa,ab],by simp [aa,ab],by simp [aa,ab]⟩
 clear S
 intro a hA ⟨pt,T,S,tY,hTs,E,H,J,r7⟩
 simp only [BS,LB,Nat.reduceLT,Nat.reduceEqDiff,F0,E,a2,d2,S.ld (b:=A) (o:=3) m2 rfl]
 refine qz (fun a V=> ∃pc pf C,St (· ∈[D,A]) hC0 V [(F,.row [ptrTo P,pt,pc,pf] 1),(D,.row [.int .i64 u.nodes,vx,vy,va] 1),(A,.row [vB,vO,vM,.int .u8 (s:Nat),vN] 1)] []/\TabY V F pt u.nodes T/\CelX V pc pf u C/\C.isSome=decide (s/2%2=1)/\a 1=ptrTo A/\a 4=ptrTo D/\a 5=ptrTo P/\a 7=ptrTo F) ?_ ?_ ?_
 . intro br
   simp only [BS]
   have S9:=S
   replace S:=S.base
   simp only [LC,keys,Xu,Xw,Xk]at S
   have hq: ∀{N:Hp},Mo (· ∈[F,D,A]) hA N->Mo (· ∈[D,A]) hC0 N:=fun f=>S9.fr.trans f (fun c L=>by
    rcases List.mem_cons.1 L with rfl|L
    . exact .inr n7
    . exact .inl L)
   have kb: ∀c,c∈[F,D,A]->c<=F:=fun c W=>by
    simp only [Xp,Xi,or_false]at W;omega
   replace S:=S.nilG (k:=1)
   refine aD (fun(i:Nat) a h=>i<=u.nodes/\ ∃vQ,St (· ∈[F,D,A]) hA h [(F,.row [ptrTo P,pt,.pointer none,.pointer none] 1),(D,.row [.int .i64 u.nodes,vx,vy,va] 1),(A,.row [vB,vO,vM,.int .u8 (s:Nat),vN] 1)] [(vQ,1,ints ((List.range i).map (pY O)))]/\a 1=ptrTo A/\a 4=ptrTo D/\a 5=ptrTo P/\a 7=ptrTo F/\a 17=vQ/\a 18=.int .i64 i) (fun i=>u.nodes-i) ?_ 0 _ _ ⟨Xm _,_,S,by simp [aa,E,ab],by simp [aa,H,ab],by simp [aa,J,ab],by simp [aa,r7,ab],by simp [aa],by simp [aa]⟩
   clear S
   clear E H J r7
   intro i ih a h ⟨X,vQ,S,E,H,J,r7,r17,r18⟩
   have w:am .i64 ((i:Int)+1)=((i+1:Nat):Int):=by rw [wrap64]<;>omega
   have d3:=(hO.sl.gr a0).mo (hq S.fr) (fun c L=>nb c (db c L))
   by_cases hlt:i<u.nodes
   . by_cases cv:O.length=0
     . have c0: ¬(0:Int)<(O.length:Int):=by omega
       simp only [BS,LB,Nat.reduceLT,Nat.reduceEqDiff,F0,E,H,r17,r18,aq,hlt,hO.sl.lenq,c0,S.ld (b:=D) (o:=0) m1 rfl,S.ld (b:=A) (o:=1) m2 rfl]
       refine ag (bj (by exact Tryz.t42.1) (by exact Xv) (by decide) (by rfl)) S ?_;clear S;intro h bs S cx;simp only [LC,aR,bo,ah,Nat.reduceMul,Nat.reduceAdd,XA,Xj,Xh,XE]at S
       simp only [BS,LB,Nat.reduceLT,Nat.reduceEqDiff]
       refine dX (S.grow (j:=0) (m:=1) (new:=ints [(0:Int)]) rfl Tryz.t42.1 Xv (by decide) Tryz.t42.2.2.2.2.2 (by simp only [aI];rw [S.lds (b:=bs) (o:=0) (n:=1*1) m0 (lbt rfl)];rfl) rfl (by decide) rfl (by rw [bD,bD];simp;omega)) ?_
       clear S
       rintro h b5 S
       simp only [LC]at S
       replace S:=S.drop1
       rw [<-ia]at S
       simp only [BS,LB,Nat.reduceLT,Nat.reduceEqDiff,r18,w]
       refine ih (i+1) _ _ (by omega) ⟨by omega,b5,?_,by simp [aa,E,ab],by simp [aa,H,ab],by simp [aa,J,ab],by simp [aa,r7,ab],by simp [aa],by simp [aa]⟩
       rw [List.range_succ,List.map_append,List.map_singleton,show pY O i=(0:Int)from by unfold pY;rw [if_pos cv]]
       exact S
     . have c0:(0:Int)<(O.length:Int):=by omega
       have ai:i%O.length<O.length:=Xl _ (by omega)
       have tm:(i:Int).tmod (O.length:Int)=((i%O.length:Nat):Int):=by rw [zB (by omega)];exact(zO _ _).symm
       obtain⟨c,o,a5,bk⟩:=d3.ix (kd:=.i64) (aM _) ai
       have cz:(O.length:Int)≠0:=by omega
       have hx:=cO _ (Xf ai)
       have t4:(O[i%O.length]).tmod 5=O[i%O.length]%5:=zB hx.1
       have wc:am .i64 ((O[i%O.length]).tmod 5)=(O[i%O.length]).tmod 5:=by rw [wrap64]<;>omega
       simp only [BS,LB,Nat.reduceLT,Nat.reduceEqDiff,F0,E,H,r18,aq,hlt,hO.sl.lenq,c0,S.ld (b:=D) (o:=0) m1 rfl,S.ld (b:=A) (o:=1) m2 rfl]
       refine ar (ay rfl) (q:=0) (ps:=[]) (by kernel_rfl) ?_
       simp only [BS,LB,cE,aN,cM,cls,Nat.reduceLT,Nat.reduceEqDiff,Nat.reduceAdd,Nat.reducePow,Nat.reduceDiv,Nat.reduceMod,Nat.reduceLeDiff,F0,E,r17,r18,hO.sl.lenq,eP cz,tm,a5,bk,encI,eP (n:=5) (by decide),wc,S.ld (b:=A) (o:=1) m2 rfl]
       refine ag (bj (by exact Tryz.t42.1) (by exact Xv) (by decide) (by rfl)) S ?_;clear S;intro h bs S cx;simp only [LC,aR,bo,ah,Nat.reduceMul,Nat.reduceAdd,XA,Xj,Xh,XE]at S
       simp only [BS,LB,Nat.reduceLT,Nat.reduceEqDiff]
       refine dX (S.grow (j:=0) (m:=1) (new:=ints [(O[i%O.length]).tmod 5]) rfl Tryz.t42.1 Xv (by decide) Tryz.t42.2.2.2.2.2 (by simp only [aI];rw [S.lds (b:=bs) (o:=0) (n:=1*1) m0 (lbt rfl)];rfl) rfl (by decide) rfl (by rw [bD,bD];simp;omega)) ?_
       clear S
       rintro h b5 S
       simp only [LC]at S
       replace S:=S.drop1
       rw [<-ia]at S
       simp only [BS,LB,Nat.reduceLT,Nat.reduceEqDiff,r18,w]
       refine ih (i+1) _ _ (by omega) ⟨by omega,b5,?_,by simp [aa,E,ab],by simp [aa,H,ab],by simp [aa,J,ab],by simp [aa,r7,ab],by simp [aa],by simp [aa]⟩
       rw [List.range_succ,List.map_append,List.map_singleton,show pY O i=(O[i%O.length]).tmod 5 from by unfold pY;rw [if_neg cv];simp [Xa,ai]]
       exact S
   . have d5 :i=u.nodes:=by omega
     simp only [BS,LB,Nat.reduceLT,Nat.reduceEqDiff,F0,H,r7,r17,r18,aq,hlt,S.ld (b:=D) (o:=0) m1 rfl]
     generalize hL:(List.range i).map (pY O)=Ls at S
     have lL:Ls.length=u.nodes:=by rw [<-hL];simp [d5]
     have bL:=lmax_bd (K:=((0+Ls.length:Nat):Int)) (by omega) (norm_bd [] Ls)
     have nl:=yZ [] Ls
     have b6: ¬uu (norm [] Ls):=by
      rintro(h|h|h)
      . rw [h]at nl;simp at nl;omega
      . exact h (norm_idem [] Ls)
      . omega
     have sl:au h 1 (encI .i64) vQ Ls:=(S.gown _ m0).1.sl rfl (fun _=>rfl) (by decide)
     refine step_ret (AJ S.ok sl (by omega)) ?_
     rintro v1 hP ⟨g1,s1,q1⟩
     replace S:=S.call g1
     simp only [BS,LB,Nat.reduceLT,Nat.reduceEqDiff]
     have k7:=S.key_lt (b:=F) (by simp [keys])
     refine step_ret (Ak S.ok s1 (by omega) (by omega)) ?_
     rintro v2 hR ⟨g2,ea⟩
     obtain⟨_,bf⟩:=ea.resolve_left (fun h=>b6 h.1)
     replace S:=S.call g2
     obtain⟨cb,eb⟩: ∃b,v2=ptrTo b:=by obtain⟨b,_,e,_⟩:=bf;exact⟨b,e⟩
     subst eb
     have ed:=norm_bd [] Ls
     have lm:(norm [] Ls).length=u.nodes:=by omega
     have mz: ∀x∈norm [] Ls,0<=x/\x<256:=fun x hx=>by have:=ed x hx;simp only [List.length_nil]at this;omega
     generalize norm [] Ls=m at bf bL b6 lm mz
     have eh: ∃c:Nat->Nat,∀v,v<u.nodes->m.getD v 0=(c v:Int):=⟨fun v=>(m.getD v 0).toNat,fun v hv=>by
      have cA:v<m.length:=by omega
      have:=(mz _ (Xf cA)).1
      have e:m.getD v 0=m[v]:=by rw [Xa,Xc cA,Option.getD_some]
      show m.getD v 0=((m.getD v 0).toNat:Int)
      rw [e];omega⟩
     obtain⟨cf,ei⟩:=eh
     obtain⟨Mc,cI⟩: ∃M:Nat,gx m+1=(M:Int):=⟨(gx m+1).toNat,by omega⟩
     replace S:St (· ∈[F,D,A]) hA hR [(F,.row [ptrTo P,pt,.pointer none,.pointer none] 1),(D,.row [.int .i64 u.nodes,vx,vy,va] 1),(A,.row [vB,vO,vM,.int .u8 (s:Nat),vN] 1)] []:=S.sub (List.Sublist.refl _) (XB _)
     have S8:=S
     have kz:F<hR.n:=(S8.own _ m0).2.lt S8.ok
     replace S:=S.base
     simp only [LC,keys,Xu,Xw,Xk]at S
     have b8: ∀{N:Hp},Mo (· ∈[F,D,A]) hR N->Mo (· ∈[F,D,A]) hA N:=fun f=>S8.fr.trans f (fun c L=>.inl L)
     have bw: ∀{N:Hp},Mo (· ∈[F,D,A]) hR N->gG N _ (ptrTo cb) m:=fun f=>bf.mo f (fun c L=>by have:=kb c L;omega)
     simp only [BS,LB,Nat.reduceLT,Nat.reduceEqDiff,F0]
     refine ax (av S (i:=0) rfl Tryz.t31.2.2.1 dh (zM (lbt rfl)) ono) ?_
     clear S;rintro h ⟨S,_⟩
     simp only [LC,ah,lay,Xd,Xe,Nat.reduceAdd]at S
     simp only [BS,LB,Nat.reduceLT,Nat.reduceEqDiff,F0,J,r7,S.ld (b:=F) (o:=2) m0 rfl]
     have kh:=S.fr.n
     refine step_ret (ofB_ok S.ok ad (bh (hq (b8 S.fr))) ⟨bw S.fr,lm,ei⟩ cI (by omega)) ?_
     rintro _ h ⟨g6,fp,fb,Bt,rfl,nf,e0,cQ,BN,oB⟩
     replace S:=S.call g6
     have tz:Tz u.arcs.length ((u.arcs.length+7)/8) Bt:=fun r i h1 N=>by
      cases hb:bitB Bt ((u.arcs.length+7)/8) r i with
      |false=>rfl
      | true=>
        rcases(oB r i N).1 hb with⟨_,h⟩|⟨_,h⟩
        . have:=wz h;omega
        . simp at h
     simp only [BS,LB,Nat.reduceLT,Nat.reduceEqDiff,F0]
     refine ax (av S (i:=0) rfl Tryz.t32.2.2.1 dh (zM (lbt rfl)) ono) ?_
     clear S;rintro h ⟨S,mo⟩
     simp only [LC,ah,lay,Xd,Xe,Nat.reduceAdd]at S
     have bv:hU h fp fb Mc u.arcs.length ((u.arcs.length+7)/8) Bt:=⟨mo.has (o:=.row _ 1) BN.r (fun e=>by have e:fp=F:=e;omega),mo.has (o:=.row _ 1) BN.b (fun e=>by have e:fb=F:=e;omega),BN.lt⟩
     clear BN mo oB
     have a1: ∀{N:Hp} {B:Nat->Nat},Mo (· ∈[F,D,A]) hR N->hU N fp fb Mc u.arcs.length ((u.arcs.length+7)/8) B->Tz u.arcs.length ((u.arcs.length+7)/8) B->TabY N F pt u.nodes T/\CelX N (ptrTo cb) (ptrTo fp) u (some (m,byB (Mc*((u.arcs.length+7)/8)) B)):=fun f b z=>⟨tY.mo (b8 f) kb,_,fp,fb,Mc,_,_,bw f,lm,rfl,cI,b,rfl,mz,b6,rfl,z⟩
     by_cases h8:s/8%2=1
     . have e8:decide (s/8%2=1)=true:=decide_eq_true h8
       simp only [BS,LB,Nat.reduceLT,Nat.reduceEqDiff,F0,E,r7,a8,d8,e8,S.ld (b:=A) (o:=3) m2 rfl,S.ld (b:=F) (o:=3) m0 rfl]
       refine qB (fun a V=> ∃B,St (· ∈[F,D,A]) hR V [(F,.row [ptrTo P,pt,ptrTo cb,ptrTo fp] 1),(D,.row [.int .i64 u.nodes,vx,vy,va] 1),(A,.row [vB,vO,vM,.int .u8 (s:Nat),vN] 1)] []/\hU V fp fb Mc u.arcs.length ((u.arcs.length+7)/8) B/\Tz u.arcs.length ((u.arcs.length+7)/8) B/\a 1=ptrTo A/\a 4=ptrTo D/\a 5=ptrTo P/\a 7=ptrTo F)
        (fun(i:Nat) a V=>i<=Z.length/\i<=9/\ ∃B,St (· ∈[F,D,A]) hR V [(F,.row [ptrTo P,pt,ptrTo cb,ptrTo fp] 1),(D,.row [.int .i64 u.nodes,vx,vy,va] 1),(A,.row [vB,vO,vM,.int .u8 (s:Nat),vN] 1)] []/\hU V fp fb Mc u.arcs.length ((u.arcs.length+7)/8) B/\Tz u.arcs.length ((u.arcs.length+7)/8) B/\a 1=ptrTo A/\a 4=ptrTo D/\a 5=ptrTo P/\a 7=ptrTo F/\a 20=.int .i64 i) (fun i=>Z.length-i) ?_ ?_ 0 ⟨Xm _,Xm _,Bt,S,bv,tz,by simp [aa,E,ab],by simp [aa,H,ab],by simp [aa,J,ab],by simp [aa,r7,ab],by simp [aa]⟩
       . clear S bv tz ih E H J r7 r17 r18 w
         intro i ih a N ⟨X,hi9,B,S,bm,tz,E,H,J,r7,r20⟩
         have w:am .i64 ((i:Int)+1)=((i+1:Nat):Int):=by rw [wrap64]<;>omega
         by_cases hlt:i<Z.length
         . by_cases h9:i<9
           . have c9:(i:Int)<9:=by omega
             have a6:=(hN.sl.gr a0).mo (hq (b8 S.fr)) (fun c L=>nb c (bx c L))
             obtain⟨cn,on,bc,ak⟩:=a6.ix (kd:=.i64) (aM .i64) hlt
             generalize Z[i]=z at ak
             have w5:am .i64 ((u64 z%5:Nat):Int)=((u64 z%5:Nat):Int):=by rw [wrap64]<;>omega
             have m5:((u64 z:Nat):Int).tmod 5=((u64 z%5:Nat):Int):=by rw [zB (by omega)];exact(zO _ _).symm
             have q5:am .u64 (((u64 z:Nat):Int).tdiv 5)=((u64 z/5:Nat):Int):=by
              have:=u64_lt z
              rw [Xq (by omega),show((u64 z:Int)/5)=((u64 z/5:Nat):Int) by omega,cV rfl]
              simp only [pw];omega
             have em:((u64 z/5:Nat):Int).tmod 30=((u64 z/5%30:Nat):Int):=by rw [zB (by omega)];exact(zO _ _).symm
             have er:am .i64 ((u64 z/5%30:Nat):Int)=((u64 z/5%30:Nat):Int):=by rw [wrap64]<;>omega
             simp only [BS,LB,Nat.reduceLT,Nat.reduceEqDiff,F0,E,r20,hN.sl.lenq,aq,hlt,c9,S.ld (b:=A) (o:=4) m2 rfl]
             refine ar (ay rfl) (q:=0) (ps:=[]) (by kernel_rfl) ?_
             simp only [BS,LB,cE,aN,cM,cls,Nat.reduceLT,Nat.reduceEqDiff,Nat.reduceAdd,Nat.reducePow,Nat.reduceDiv,Nat.reduceMod,Nat.reduceLeDiff,F0,E,r7,r20,bc,ak,encI,wrap_u64,eP (n:=5) (by decide),jC (n:=5) (by decide),eP (n:=30) (by decide),eP (n:=2) (by decide),w5,m5,q5,em,er,S.ld (b:=A) (o:=4) m2 rfl,S.ld (b:=F) (o:=3) m0 rfl]
             refine c6 (bSetG_ok S.ok bm cQ (by omega) (by have:=ad.many;omega) rfl _) ?_
             rintro _ h3 ⟨mo,B',es,et⟩
             replace S:=S.step mo (fun b e=>.inr (by have e:b=fb:=e;omega)) (fun b hb e=>by
              have e:b=fb:=e
              simp only [keys,Xu,Xw,Xk,List.append_nil]at hb
              have:=kb b hb;omega)
             simp only [BS,LB,Nat.reduceLT,Nat.reduceEqDiff,Nat.reduceAdd,r20,w]
             exact ih (i+1) _ _ (by omega) ⟨by omega,by omega,B',S,es,et tz,by simp [aa,E,ab],by simp [aa,H,ab],by simp [aa,J,ab],by simp [aa,r7,ab],by simp [aa]⟩
           . have c9: ¬(i:Int)<9:=by omega
             simp only [BS,LB,Nat.reduceLT,Nat.reduceEqDiff,F0,E,r20,hN.sl.lenq,aq,hlt,c9,S.ld (b:=A) (o:=4) m2 rfl]
             exact dR ⟨B,S,bm,tz,by simp [aa,E,ab],by simp [aa,H,ab],by simp [aa,J,ab],by simp [aa,r7,ab]⟩
         . simp only [BS,LB,Nat.reduceLT,Nat.reduceEqDiff,F0,E,r20,hN.sl.lenq,aq,hlt,S.ld (b:=A) (o:=4) m2 rfl]
           exact dR ⟨B,S,bm,tz,by simp [aa,E,ab],by simp [aa,H,ab],by simp [aa,J,ab],by simp [aa,r7,ab]⟩
       . clear S bv tz E H J r7 r17 r18
         rintro a N ⟨B,S,bm,tz,E,H,J,r7⟩
         obtain⟨f1,f2⟩:=a1 S.fr bm tz
         simp only [BS]
         exact dR ⟨_,_,some _,S9.rebase (S8.rebase S),f1,f2,by rw [br];rfl,by simp [aa,E,ab],by simp [aa,H,ab],by simp [aa,J,ab],by simp [aa,r7,ab]⟩
     . have e8:decide (s/8%2=1)=false:=decide_eq_false h8
       obtain⟨f1,f2⟩:=a1 S.fr bv tz
       simp only [BS,LB,Nat.reduceLT,Nat.reduceEqDiff,F0,E,a8,d8,e8,S.ld (b:=A) (o:=3) m2 rfl]
       refine dR ⟨_,_,some _,S9.rebase (S8.rebase S),f1,f2,by rw [br];rfl,by simp [aa,E,ab],by simp [aa,H,ab],by simp [aa,J,ab],by simp [aa,r7,ab]⟩
 . intro br
   simp only [BS]
   exact dR ⟨_,_,none,S,tY,⟨rfl,rfl⟩,by rw [br];rfl,by simp [aa,E,ab],by simp [aa,H,ab],by simp [aa,J,ab],by simp [aa,r7,ab]⟩
 clear S tY E H J r7
 intro a hE ⟨pc,pf,C,S,tY,cX,hCs,E,H,J,r7⟩
 have hn:=bh S.fr
 have gZ:Gr h0 hE:=(a0.fr.trans S.fr (fun c L=>.inr (c7 c L)):Mo NoM h0 hE).gr
 simp only [BS,LB,ae,Nat.reduceLT,Nat.reduceEqDiff,r7]
 refine⟨gZ,F,⟨u,T,C⟩,rfl,⟨_,_,_,_,S.row m0,⟨_,hn⟩,ad.b,?_,cX⟩,ad,hTs,hCs,?_⟩
 . cases T with
   |none=>exact tY
   |some T=>obtain⟨⟨m,_,x⟩,y,_⟩:=tY;exact⟨⟨m,x⟩,y⟩
 . rintro T rfl
   obtain⟨_,_,x⟩:=tY
   exact x
structure ImL(I:Img):Prop where
 g:eE I.g
 t: ∀T,I.T=some T->TabL I.g.nodes T
 c: ∀m F,I.C=some (m,F)->m.length=I.g.nodes/\F.length<=12800/\(∀x∈m,0<=x/\x<256)
theorem ImC.l{h:Hp}{l n d f:Value}{I:Img}(i:ImC h l n d f I):ImL I:=by
 obtain⟨_,a,g,j⟩:=i
 refine⟨a,fun T e=>?_,fun m F e=>?_⟩
 . rw [e]at g;exact g.2
 . rw [e]at j
   obtain⟨k,r,s,b,c,B,_,o,_,t,_,rfl,p,q,u,_⟩:=(j:ib h d f I.g m F)
   have: ¬256<gx m+1:=fun h=>q (.inr (.inr h))
   have:=a.many
   refine⟨o,?_,p⟩
   have:b*c<=256*50:=Nat.mul_le_mul (by omega) (by omega)
   simpa [byB]using this
theorem iz.l{h:Hp}{b:Nat}{I:Img}(i:iz h b I):ImL I:=by obtain⟨_,_,_,_,_,c⟩:=i;exact c.l
theorem graB_len{a:Gra}(h:eE a):(ie a).length<=9608:=by
 have:=h.n2
 have:=h.many
 have b:(a.X.zip a.Y).length=a.nodes:=by rw [List.length_zip,h.lX,h.lY];omega
 unfold ie
 simp only [List.length_append,aF,dp oE,dp qj,b];omega
theorem jz{I:Img}(i:ImL I):((aU I).flatMap Prod.snd).length<=100000:=by
 have f:=graB_len i.g
 have g:=i.g.n2
 have d: ∀T,I.T=some T->(jN T).length<=76865:=fun T e=>by
  have a:=i.t T e
  rw [tabB_len a]
  have:=a.l2
  have:T.l.length*(4+16*I.g.nodes)<=16*4804:=Nat.mul_le_mul this (by omega)
  omega
 unfold aU
 cases a:I.T with
 | none=>
   cases b:I.C with
   |none=>simp;omega
   | some c=>
     obtain⟨m,F⟩:=c
     have:=i.c m F b
     simp [kL];omega
 | some T=>
   have:=d T a
   cases b:I.C with
   |none=>simp;omega
   | some c=>
     obtain⟨m,F⟩:=c
     have:=i.c m F b
     simp [kL];omega
theorem mem_flat{l:List Sec}{x:Sec}(h:x∈l):x.2.length<=(l.flatMap Prod.snd).length:=by
 induction l with
 |nil=>cases h
 | cons y l a=>
   rw [List.flatMap_cons,List.length_append]
   rcases List.mem_cons.1 h with rfl|h
   . omega
   . have:=a h;omega
theorem secs_ok{I:Img}(i:ImL I): ∀x∈aU I,secOk x:=fun x a=>⟨wL I x a,by have:=mem_flat a;have:=jz i;omega⟩
theorem uh{I J:Img}(i:ImL I)(j:ImL J)(h:aU I≠aU J):ki (aU I)≠ki (aU J):=fun e=>h (by
 have a:=xc (by have:=pM I;omega) (secs_ok i)
 have b:=xc (by have:=pM J;omega) (secs_ok j)
 rw [e,b]at a
 exact(Except.ok.inj a).symm)
theorem ne_T{I:Img}(h:I.T.isSome=true):aU I≠aU {I with T:=none}:=by
 cases a:I.T with
 |none=>rw [a]at h;cases h
 | some T=>
   intro e
   have:=congrArg List.length e
   unfold aU at this
   rw [a]at this
   cases b:I.C<;>simp [b]at this
theorem ne_C{I:Img}(h:I.C.isSome=true):aU I≠aU {I with C:=none}:=by
 cases a:I.C with
 |none=>rw [a]at h;cases h
 | some c=>
   intro e
   have:=congrArg List.length e
   unfold aU at this
   rw [a]at this
   cases b:I.T<;>simp [b]at this
theorem ne_Tab{I:Img}{T c:Tab}(f:I.T=some T)(a:TabL I.g.nodes T)(b:TabL I.g.nodes c)(h:T≠c):aU I≠aU {I with T:=some c}:=fun e=>h (by
 have:jN T=jN c:=by
  unfold aU at e
  rw [f]at e
  simp at e
  exact e
 have d:=(xf a).2
 rw [this,(xf b).2]at d
 exact d.symm)
theorem eE.r{a:Gra}(h:eE a):RightG a:=⟨h.n1,h.cX,h.cY,h.arcs⟩
theorem wW{a:Gra}(h:eE a):graG (ie a)=a:=(graG_graB h.lX h.lY h.r (by have:=h.n2;omega) (by have:=h.many;omega)).2
theorem ne_g{I:Img}{c:Gra}(a:eE I.g)(b:eE c)(h:I.g≠c):aU I≠aU {I with g:=c}:=fun e=>h (by
 have:ie I.g=ie c:=by
  unfold aU at e
  simp at e
  exact e
 have d:=wW a
 rw [this,wW b]at d
 exact d.symm)
theorem or3: ∀x:Nat,x<=255->(x|||3)<=255/\(x|||3)%2=1/\(x|||3)/2%2=1:=fun x a=>by
 have: ∀x:Fin 256,(x.1|||3)<=255/\(x.1|||3)%2=1/\(x.1|||3)/2%2=1:=by decide
 exact this ⟨x,by omega⟩
def Tryz.F8:=aj t1<|aj t2<|aj t3<|aj t4<|aj t5<|aj t6<|aj Z1<|aj Z4<|aj t9<|aj t10<|aj t11<|aj t12<|aj Z7<|aj Z13<|aj t15<|aj t16<|aj t17<|aj t18<|aj r18<|aj Z19<|aj t20<|aj t21<|aj t22<|aj t23<|aj t24<|aj r24<|aj t25<|aj r25<|aj t26<|aj t27<|aj t28<|aj t29<|aj t30<|aj t31<|aj t32<|aj Z12<|aj t35<|aj Z0<|aj t39<|aj t42<|aj Z3<|aj t48<|aj t51<|aj t76<|aj t92<|aj Z2<|aj Z8<|aj Z5<|aj t161<|aj Z6<|aj t248<|aj Z16<|aj t356<|aj t358<|aj t360<|aj t361<|aj t362<|aj t363<|Z15
theorem A5{a:Hp}(b:a.t.Sized a.n):bC Xn 8 [] a (.bool true):=ret_orc rfl ⟨rfl,Gr.refl b⟩
theorem b_or3{E:Env}{t:TypeId}{p q:Operand}{x:Nat}(h:x<=255):aO E .or t p q (.int .u8 (x:Int)) (.int .u8 3)=some (.int .u8 ((x|||3:Nat):Int)):=b_orN (k:=.u8) (y:=3) rfl (by simp only [pw];omega) (by decide)
theorem SlW.grU{h a:Hp}{kd:IntKind}{v:Value}{l:List Int}(s:SlW h kd v l)(g:Gr h a):SlW a kd v l:=s.imp (fun h=>h) (fun⟨b,o,c,e,d,f⟩=>⟨b,o,c,e,d,g.load f⟩)
theorem encA_set{l:List Arc}{k y:Nat}{e:Arc}(a:k<l.length)(b:e=l[k]):(l.flatMap cw).set (3*k+2) (.int .i64 (y:Nat))=(l.set k ⟨e.s,e.t,y⟩).flatMap cw:=by
 subst b
 induction l generalizing k with
 |nil=>simp at a
 | cons x l c=>
   cases k with
   |zero=>rfl
   | succ k=>
     have:=c (k:=k) (by simpa using a)
     simp only [List.flatMap_cons,List.set_cons_succ,List.getElem_cons_succ]at this⊢
     rw [<-this,show 3*(k+1)+2=(cw x).length+(3*k+2) by rw [dO];omega,List.set_append_right _ _ (by omega),Nat.add_sub_cancel_left]
theorem ib.congr{h:Hp}{d e:Value}{a b:Gra}{m:List Int}{F:Bs}(c:ib h d e a m F)(f:b.nodes=a.nodes)(g:b.arcs.length=a.arcs.length):ib h d e b m F:=by
 unfold ib at*
 rw [f,g];exact c
theorem St.fg{a h:Hp}{L:List (Nat×Ob)}{G:List GL}(S:St (· ∈([]:List Nat)) a h L G):Gr a h:=(S.fr.mono (fun _ h=>by cases h):Mo NoM a h).gr
theorem so{X:Hp}(ok:X.t.Sized X.n){vB vO vM vN:Value}{D Y:Int}{B O ms ns:List Int}(hB:SlW X .u8 vB B)(hO:SlW X .u8 vO O)(cO: ∀x∈O,0<=x/\x<=255)(hM:SlW X .u8 vM ms)(bi: ∀x∈ms,0<=x/\x<=255)(hN:SlW X .i64 vN ns)(cN: ∀x∈ns,-9223372036854775808<=x/\x<=9223372036854775807)(hh:0<=D/\D<=255)(ha:0<=Y/\Y<=255):
 bC Xn 3 [.agg ⟨[vB,vO,vM,.int .u8 D,vN]⟩,.int .u8 Y] X (.bool true):=by
 have S:=Si ok
 obtain⟨D,rfl⟩:=XC hh.1
 obtain⟨a,rfl⟩:=XC ha.1
 replace hh:D<=255:=by omega
 replace ha:a<=255:=by omega
 have fB:=hB.sl.fl
 have fO:=hO.sl.fl
 have fM:=hM.sl.fl
 have fN:=hN.sl.fl
 obtain⟨o1,o2,o3⟩:=or3 D hh
 refine ac (n:=159) (rs:=[.tmp 4]) rfl Tryz.e3 rfl rfl rfl (lbt rfl) ?_
 simp only [BS,Nat.reduceLT]
 refine ag (bR (by intro x e;cases e)) S ?_;clear S;intro h b2 S bx;simp only [ah]at S
 simp only [BS,LB]
 refine al (A5 S.ok) ?_;intro h g;replace S:=S.call g;clear g
 simp only [BS,LB,Nat.reduceLT,Nat.reduceEqDiff,F8,b_or3 hh,S.ld (b:=b2) (o:=3) m0 rfl]
 refine ax (av S (i:=0) rfl Tryz.t5.2.2.1 bZ (zM (lbt rfl)) ono) ?_
 clear S;rintro h ⟨S,_⟩
 simp only [LC,ah,lay,Xd,Xe,Nat.reduceAdd]at S
 simp only [BS,LB,Nat.reduceLT,Nat.reduceEqDiff,F8,Xt,Xr,Xx,S.lds (b:=b2) (o:=0) (n:=5) m0 (lbt rfl)]
 refine step_ret (made28_ok S.ok (hB.grU S.gr) (hO.grU S.gr) cO (hM.grU S.gr) bi (hN.grU S.gr) cN o1) ?_
 rintro _ Z ⟨g,b,I,rfl,j,mI⟩
 replace S:=S.call g
 have gh:=S.gr
 have E:=j.l
 have a3:=mI.g
 have n1:=a3.n1
 have n2:=a3.n2
 have tI:I.T.isSome=true:=by rw [mI.t,o2];rfl
 have cI:I.C.isSome=true:=by rw [mI.c,o3];rfl
 obtain⟨pn,pt,pc,pf,ri,⟨nb,hn⟩,d,tx,cx⟩:=j
 have j:iz Z b I:=⟨pn,pt,pc,pf,ri,⟨nb,hn⟩,d,tx,cx⟩
 obtain⟨bn,rfl⟩:=hn.ptr
 obtain⟨T,hT⟩: ∃T,I.T=some T:=by cases h:I.T with|none=>rw [h]at tI;cases tI|some T=>exact⟨T,rfl⟩
 obtain⟨mz,ml,mM⟩:=mI.z T hT
 rw [hT]at tx
 have tx:np Z pt I.g.nodes T:=tx
 obtain⟨bt,rfl⟩:=tx.ptr
 obtain⟨C,hC⟩: ∃C,I.C=some C:=by cases h:I.C with|none=>rw [h]at cI;cases cI|some T=>exact⟨T,rfl⟩
 obtain⟨m,FB⟩:=C
 rw [hC]at cx
 have cx:ib Z pc pf I.g m FB:=cx
 obtain⟨bc,bf,rfl,rfl⟩:=cx.ptr
 replace S:=S.drop1.base
 have i0:=ri.load1 (o:=0) rfl
 have i1:=ri.load1 (o:=1) rfl
 have i4:=ri.load (o:=0) (n:=4) (Xy 4)
 simp only [Xt,Xr,Xx]at i4
 have rm:((a:Nat):Int).tmod 4=((a%4:Nat):Int):=by rw [zB (by omega)];exact(zO _ _).symm
 simp only [BS,LB,Nat.reduceLT,Nat.reduceEqDiff,F8,i0]
 refine step_ret (wD S.ok d (hn.gr S.fg)) ?_
 rintro _ hr ⟨g,vx,vy,va,rfl,ga,hz,wa,hd⟩
 have fx:=ga.X.fl
 have fy:=ga.Y.fl
 have fa:=ga.A.fl
 have f:=S.fg.trans g
 have S0:=S.call g
 have bk:=j
 clear S
 have S:=St.init (M:=(· ∈([]:List Nat))) f.ok
 have j:=j.gr f
 simp only [BS,F8,fW]
 refine ag aw S ?_;clear S;intro h J S bB
 simp only [BS,LB,Nat.reduceLT,Nat.reduceEqDiff]
 refine ax (S.store (i:=0) rfl Tryz.t37.2.1 (by intro x e;cases e) rfl (by simp only [ah,List.all_cons,List.all_nil,fx.2.1,fy.2.1,fa.2.1,XH];rfl) (lbt rfl) ono) ?_
 clear S;rintro h ⟨S,_⟩
 simp only [LC,ah,lay,Xd,Xe,Nat.reduceAdd]at S
 simp only [BS,LB,Nat.reduceLT,Nat.reduceEqDiff,F8,S.fg.load (f.load i4)]
 refine ag aw S ?_;clear S;intro h K S bL
 simp only [BS,LB,Nat.reduceLT,Nat.reduceEqDiff]
 refine ax (S.store (i:=0) rfl ?_ ?_ rfl rfl ?_ ono) ?_
 . exact(by exact Tryz.t7.2.1)
 . exact(by intro x e;cases e)
 . exact lbt rfl
 clear S;rintro h ⟨S,L⟩;clear L;simp only [LC,ah,lay,Xd,Xe,Nat.reduceAdd]at S
 have a4: ∀{N:Hp},Gr Z N->CelX N (ptrTo bc) (ptrTo bf) I.g I.C:=fun g=>by rw [hC];exact ib.gr cx g
 have a5: ∀{N:Hp},Gr Z N->TabX N (ptrTo bt) I.g.nodes I.T:=fun g=>by rw [hT];exact np.gr tx g
 have c4:a%4=0\/a%4=1\/a%4=2\/a%4=3:=by omega
 rcases c4 with c4|c4|c4|c4
 . have R:(((a%4:Nat):Int)=0)=True:=eq_true (by omega)
   simp only [BS,LB,Nat.reduceLT,Nat.reduceEqDiff,F8,eP (n:=4) (by decide),rm,R]
   refine ax (av S (i:=0) rfl Tryz.t30.2.2.1 dh (zM (lbt rfl)) ono) ?_
   clear S;rintro h ⟨S,_⟩
   simp only [LC,ah,lay,Xd,Xe,Nat.reduceAdd]at S
   have s:iz h K {I with T:=none}:=⟨_,_,_,_,S.row m0,⟨nb,hn.gr (f.trans S.fg)⟩,d,rfl,a4 (f.trans S.fg)⟩
   have j:=j.gr S.fg
   have E:=j.l
   have G:=s.l
   have u:aU I≠aU {I with T:=none}:=ne_T tI
   have nf:decide (ki (aU I)=ki (aU {I with T:=none}))=false:=decide_eq_false (uh E G u)
   have s1:decide (aU I=aU {I with T:=none})=false:=decide_eq_false u
   have s2:decide (aU {I with T:=none}=aU I)=false:=decide_eq_false (fun e=>u e.symm)
   simp only [BS,LB,Nat.reduceLT,Nat.reduceEqDiff]
   have H:=S.fg
   clear S
   have S:=Si H.ok
   rename Hp=>hI2
   refine step_ret (fI S.ok j (jz E)) ?_
   rintro _ h ⟨g,rfl⟩
   replace S:=S.call g
   simp only [BS,LB,Nat.reduceLT,Nat.reduceEqDiff]
   refine step_ret (fI S.ok (s.gr S.gr) (jz G)) ?_
   rintro _ h ⟨g,rfl⟩
   replace S:=S.call g
   simp only [BS,LB,Nat.reduceLT,Nat.reduceEqDiff,qF,nf]
   refine al (kw S.ok (j.gr S.gr) (s.gr S.gr)) ?_
   intro h g
   replace S:=S.call g
   simp only [BS,LB,Nat.reduceLT,Nat.reduceEqDiff,s1]
   refine al (kw S.ok (s.gr S.gr) (j.gr S.gr)) ?_
   intro h g
   replace S:=S.call g
   simp only [BS,LB,ae,Nat.reduceLT,Nat.reduceEqDiff,s2]
   exact gh.trans ((f.trans H).trans S.gr)
 . have R:(((a%4:Nat):Int)=0)=False:=eq_false (by omega)
   have q1:(((a%4:Nat):Int)=1)=True:=eq_true (by omega)
   simp only [BS,LB,Nat.reduceLT,Nat.reduceEqDiff,F8,eP (n:=4) (by decide),rm,R,q1]
   refine ax (av S (i:=0) rfl Tryz.t31.2.2.1 dh (zM (lbt rfl)) ono) ?_
   clear S;rintro h ⟨S,_⟩
   simp only [LC,ah,lay,Xd,Xe,Nat.reduceAdd]at S
   simp only [BS,LB,Nat.reduceLT,Nat.reduceEqDiff,F8]
   refine ax (av S (i:=0) rfl Tryz.t32.2.2.1 dh (zM (lbt rfl)) ono) ?_
   clear S;rintro h ⟨S,_⟩
   simp only [LC,ah,lay,Xd,Xe,Nat.reduceAdd]at S
   have s:iz h K {I with C:=none}:=⟨_,_,_,_,S.row m0,⟨nb,hn.gr (f.trans S.fg)⟩,d,a5 (f.trans S.fg),rfl,rfl⟩
   have j:=j.gr S.fg
   have E:=j.l
   have G:=s.l
   have u:aU I≠aU {I with C:=none}:=ne_C cI
   have nf:decide (ki (aU I)=ki (aU {I with C:=none}))=false:=decide_eq_false (uh E G u)
   have s1:decide (aU I=aU {I with C:=none})=false:=decide_eq_false u
   have s2:decide (aU {I with C:=none}=aU I)=false:=decide_eq_false (fun e=>u e.symm)
   simp only [BS,LB,Nat.reduceLT,Nat.reduceEqDiff]
   have H:=S.fg
   clear S
   have S:=Si H.ok
   rename Hp=>hI2
   refine step_ret (fI S.ok j (jz E)) ?_
   rintro _ h ⟨g,rfl⟩
   replace S:=S.call g
   simp only [BS,LB,Nat.reduceLT,Nat.reduceEqDiff]
   refine step_ret (fI S.ok (s.gr S.gr) (jz G)) ?_
   rintro _ h ⟨g,rfl⟩
   replace S:=S.call g
   simp only [BS,LB,Nat.reduceLT,Nat.reduceEqDiff,qF,nf]
   refine al (kw S.ok (j.gr S.gr) (s.gr S.gr)) ?_
   intro h g
   replace S:=S.call g
   simp only [BS,LB,Nat.reduceLT,Nat.reduceEqDiff,s1]
   refine al (kw S.ok (s.gr S.gr) (j.gr S.gr)) ?_
   intro h g
   replace S:=S.call g
   simp only [BS,LB,ae,Nat.reduceLT,Nat.reduceEqDiff,s2]
   exact gh.trans ((f.trans H).trans S.gr)
 . have R:(((a%4:Nat):Int)=0)=False:=eq_false (by omega)
   have q1:(((a%4:Nat):Int)=1)=False:=eq_false (by omega)
   have q2:(((a%4:Nat):Int)=2)=True:=eq_true (by omega)
   obtain⟨⟨mt,tm⟩,tl⟩:=tx
   have t1:=tl.l1
   have t3:=tl.to
   have t4:=tl.fr
   have P: ∀{i:Nat},(h:i<T.l.length)->eg I.g.nodes (bI T.to i)/\eg I.g.nodes (bI T.fr i):=fun {i} h=>by
    have e1:bI T.to i=T.to[i]:=by unfold bI;simp [Xa,show i<T.to.length by omega]
    have e2:bI T.fr i=T.fr[i]:=by unfold bI;simp [Xa,show i<T.fr.length by omega]
    rw [e1,e2];exact⟨tl.rTo _ (Xf _),tl.rFr _ (Xf _)⟩
   simp only [BS,LB,Nat.reduceLT,Nat.reduceEqDiff,F8,eP (n:=4) (by decide),rm,R,q1,q2,S.fg.load (f.load i1)]
   refine step_ret (qu S.ok (tm.gr (f.trans S.fg)) (by omega) (fun i h=>by rw [(P h).1.1];omega) (fun i h=>by rw [(P h).2.1];omega)) ?_
   rintro _ bP ⟨g,vT,vF,kk,rfl,DT,DF,y1,y2⟩
   have kS: ∀c∈keys [(K,Ob.row [ptrTo bn,ptrTo bt,ptrTo bc,ptrTo bf] 1),(J,.row [.int .i64 I.g.nodes,vx,vy,va] 1)] [],c<_:=fun c hc=>S.key_lt hc
   have nS:=S.fr.n
   replace S:=S.call g
   have nz:(I.g.nodes:Int)≠0:=by omega
   have wq:am .u8 ((a:Int).tdiv 4)=((a/4:Nat):Int):=by
    rw [Xq (by omega),show((a:Int)/4)=((a/4:Nat):Int) by omega,cV rfl];simp only [pw];omega
   have wc:am .i64 ((a/4:Nat):Int)=((a/4:Nat):Int):=by rw [wrap64]<;>omega
   have ad:((a/4:Nat):Int).tmod (I.g.nodes:Int)=((a/4%I.g.nodes:Nat):Int):=by rw [zB (by omega)];exact(zO _ _).symm
   obtain⟨ta,tn,tc,eT⟩:=DT.form
   obtain⟨bT,fn,fc,eF⟩:=DF.form
   simp only [BS,LB,cE,aN,cM,Nat.reduceLT,Nat.reduceEqDiff,F8,jC (n:=4) (by decide),wq,wc,eP nz,ad,S.fg.load (f.load i1),S.ld (b:=J) (o:=0) m1 rfl]
   have bl:a/4%I.g.nodes<I.g.nodes:=Xl _ (by omega)
   generalize a/4%I.g.nodes=v at bl
   refine step_ret (jP S.ok (tm.gr (f.trans S.fg)) (by omega)) ?_
   rintro vM hq ⟨g,sM,hM⟩
   replace S:=S.call g
   replace DT:=DT.gr g
   replace DF:=DF.gr g
   have l0:T.l[0]=0:=(List.getElem?_eq_some_iff.1 mz).2
   obtain⟨cm,om,bm,af⟩:=sM.ix (kd:=.i64) (aM .i64) (i:=0) (by omega)
   rw [l0]at af
   have U:ig (some 1) vM (.int .i64 0)=_:=bm
   by_cases bp:v=0
   . subst bp
     simp only [BS,LB,ae,Nat.reduceLT,Nat.reduceEqDiff,Int.cast_ofNat_Int,F8,U,af,encI]
     exact gh.trans (f.trans S.fg)
   . have br:((v:Int)=0)=False:=eq_false (by omega)
     simp only [BS,LB,Nat.reduceLT,Nat.reduceEqDiff,F8,U,af,encI,br]
     have bs:bI T.to 0≠ []:=fun e=>by have:=(P t1).1.1;rw [e]at this;simp at this;omega
     have a6:=(P t1).1.1
     obtain⟨c,⟨q,o,e1,e2⟩,ai,bX,bY,a7⟩:=DT.at t1 bs
     have bu:ig (some 1) vT (.int .i64 0)=_:=e1
     have iv:ig (some 1) (.slice (some ⟨c,0,some 1⟩) (bI T.to 0).length (bI T.to 0).length) (.int .i64 (v:Nat))=some (.pointer (some ⟨c,v,none⟩)):=by
      rw [iQ,fo (by omega),m8,Xj,Xh]
     have Q:v<(bI T.to 0).length:=by omega
     obtain⟨z,ak⟩: ∃z,z=(bI T.to 0)[v]:=⟨_,rfl⟩
     have zr:=(P t1).1.2 z (by rw [ak];exact Xf Q)
     have lz:hq.load c v 1=some [.int .i64 z]:=ai.load1 (by rw [yo,Xz,Xc Q,ak];rfl)
     have w1:am .i64 (z+1)=z+1:=by rw [wrap64]<;>omega
     have tz:(z+1).tmod 72057594037927937=(z+1)%72057594037927937:=zB (by omega)
     obtain⟨y,hy⟩: ∃y,y=(z+1)%72057594037927937:=⟨_,rfl⟩
     have yr:0<=y/\y<=72057594037927936/\y≠z:=by omega
     rw [<-hy]at tz
     refine ar (ay rfl) (q:=0) (ps:=[]) (by kernel_rfl) ?_
     simp only [BS,LB,cls,Nat.reduceLT,Nat.reduceEqDiff,Nat.reduceAdd,Nat.reducePow,Nat.reduceDiv,Nat.reduceMod,Nat.reduceLeDiff,F8,bu,e2,iv,lz,w1,eP (n:=72057594037927937) (by decide),tz]
     have A:=St.init1 S.ok (o:=.row (ints (bI T.to 0)) 1) ai
     refine ep (av A (i:=0) rfl Tryz.t2.2.2.1 bZ (by rw [bD];omega) ono) ?_
     clear A;rintro h3 ⟨A,L⟩
     simp only [Xs,ints_set]at A
     have D1:=a7 _ _ L (Xb ..) (A.row m0)
     have D2:=DF.mo L (fun b e=>by have e:b=c:=e;omega)
     replace S:=S.step L (fun b e=>.inr (by have e:b=c:=e;omega)) (fun b hb e=>by have e:b=c:=e;have:=kS b hb;omega)
     clear DT DF A a7 ai e2 lz
     have a8: ∀i,i<T.l.length->eg I.g.nodes (if i=0 then(bI T.to 0).set v y else bI T.to i):=fun i hi=>by
      by_cases e:i=0
      . rw [if_pos e];exact⟨by rw [Xb];exact a6,fun x hx=>by
         rcases Xg hx with h|h
         . exact(P t1).1.2 x h
         . rw [h];exact⟨yr.1,yr.2.1⟩⟩
      . rw [if_neg e];exact(P hi).1
     simp only [BS,LB,Nat.reduceAdd]
     refine ar (ay rfl) (q:=0) (ps:=[(1,6)]) (by kernel_rfl) ?_
     have k7:=S.key_lt (b:=J) (by simp [keys])
     have kb:=(ri.gr (f.trans S.fg)).lt S.ok
     simp only [BS,LB,cls,Nat.reduceLT,Nat.reduceEqDiff,Nat.reduceAdd,Nat.reducePow,Nat.reduceDiv,Nat.reduceMod,Nat.reduceLeDiff,F8,S.fg.load (f.load i1),S.ld (b:=J) (o:=0) m1 rfl]
     refine c6 (jP S.ok (tm.gr (f.trans S.fg)) (by omega)) ?_
     rintro b0 h4 ⟨V,bv,_⟩
     have v1:=aK V k7
     have v2:=aK V kb
     have b1:=V.n
     replace S:=S.call V
     have k8:=S.key_lt (b:=K) (by simp [keys])
     simp only [BS,LB,cls,Nat.reduceLT,Nat.reduceEqDiff,Nat.reduceAdd,Nat.reducePow,Nat.reduceDiv,Nat.reduceMod,Nat.reduceLeDiff]
     refine c6 (make_ok S.ok bv (D1.gr V).ll (D2.gr V).ll (by omega) (by omega) mM a8 (fun i hi=>(P hi).2)) ?_
     rintro b3 h5 ⟨g5,ba⟩
     have v3:=aK g5 (show J<_ by omega)
     have v4:=aK g5 (show b<_ by omega)
     replace S:=S.call g5
     obtain⟨b4,_,_,_,rfl,_⟩:=ba.ex
     simp only [BS,LB,cls,Nat.reduceLT,Nat.reduceEqDiff,Nat.reduceAdd,Nat.reducePow,Nat.reduceDiv,Nat.reduceMod,Nat.reduceLeDiff,F8]
     refine ep (av S (i:=0) rfl Tryz.t30.2.2.1 dh (zM (lbt rfl)) ono) ?_
     clear S;rintro h6 ⟨S,aL⟩
     simp only [LC,ah,lay,Xd,Xe,Nat.reduceAdd]at S
     have bb:TabL I.g.nodes (jM T.l (fun i=>if i=0 then(bI T.to 0).set v y else bI T.to i) (bI T.fr)):=tabL_L mM (by omega) t1 a8 (fun i hi=>(P hi).2)
     have bd:T≠jM T.l (fun i=>if i=0 then(bI T.to 0).set v y else bI T.to i) (bI T.fr):=fun e=>by
      have e9:=congrArg (fun t:Tab=>(bI t.to 0).getD v 0) e
      simp only [jM]at e9
      rw [jO t1,if_pos rfl]at e9
      simp only [Xa,Xc Q,List.getElem?_set,if_pos rfl,if_pos Q,Option.getD_some]at e9
      exact yr.2.2 (by rw [ak];exact e9.symm)
     have s:iz h6 K {I with T:=some (jM T.l (fun i=>if i=0 then(bI T.to 0).set v y else bI T.to i) (bI T.fr))}:=⟨_,_,_,_,S.row m0,⟨nb,hn.gr (f.trans S.fg)⟩,d,⟨⟨_,(vp ba).mo aL (fun x e=>by have e:x=K:=e;have:=S.fr.n;omega)⟩,bb⟩,a4 (f.trans S.fg)⟩
     simp only [BS,LB,Nat.reduceLT,Nat.reduceEqDiff,Nat.reduceAdd]
     refine⟨by simp only [bQ,bW,bE,cd,bM,ne_eq,not_false_eq_true,ce,cB,bO,bN,cy,dr,bK,Nat.reduceLT,Nat.reduceEqDiff,reduceIte,XH,ab,cD,uP,bJ v1,aQ v1,bJ v2,aQ v2,bJ v3,aQ v3,bJ v4,aQ v4],?_⟩
     have j:=j.gr S.fg
     have E:=j.l
     have G:=s.l
     have u:aU I≠aU {I with T:=some (jM T.l (fun i=>if i=0 then(bI T.to 0).set v y else bI T.to i) (bI T.fr))}:=ne_Tab hT tl bb bd
     have nf:decide (ki (aU I)=ki (aU {I with T:=some (jM T.l (fun i=>if i=0 then(bI T.to 0).set v y else bI T.to i) (bI T.fr))}))=false:=decide_eq_false (uh E G u)
     have s1:decide (aU I=aU {I with T:=some (jM T.l (fun i=>if i=0 then(bI T.to 0).set v y else bI T.to i) (bI T.fr))})=false:=decide_eq_false u
     have s2:decide (aU {I with T:=some (jM T.l (fun i=>if i=0 then(bI T.to 0).set v y else bI T.to i) (bI T.fr))}=aU I)=false:=decide_eq_false (fun e=>u e.symm)
     have H:=S.fg
     clear S
     have S:=Si H.ok
     rename Hp=>hI2
     refine step_ret (fI S.ok j (jz E)) ?_
     rintro _ h ⟨g,rfl⟩
     replace S:=S.call g
     simp only [BS,LB,Nat.reduceLT,Nat.reduceEqDiff]
     refine step_ret (fI S.ok (s.gr S.gr) (jz G)) ?_
     rintro _ h ⟨g,rfl⟩
     replace S:=S.call g
     simp only [BS,LB,Nat.reduceLT,Nat.reduceEqDiff,qF,nf]
     refine al (kw S.ok (j.gr S.gr) (s.gr S.gr)) ?_
     intro h g
     replace S:=S.call g
     simp only [BS,LB,Nat.reduceLT,Nat.reduceEqDiff,s1]
     refine al (kw S.ok (s.gr S.gr) (j.gr S.gr)) ?_
     intro h g
     replace S:=S.call g
     simp only [BS,LB,ae,Nat.reduceLT,Nat.reduceEqDiff,s2]
     exact gh.trans ((f.trans H).trans S.gr)
 . have R:(((a%4:Nat):Int)=0)=False:=eq_false (by omega)
   have q1:(((a%4:Nat):Int)=1)=False:=eq_false (by omega)
   have q2:(((a%4:Nat):Int)=2)=False:=eq_false (by omega)
   have be:=d.many
   by_cases W:I.g.arcs.length=0
   . have a0:((I.g.arcs.length:Int)=0)=True:=eq_true (by omega)
     simp only [BS,LB,ae,Nat.reduceLT,Nat.reduceEqDiff,F8,eP (n:=4) (by decide),rm,R,q1,q2,ga.A.lenq,a0,S.ld (b:=J) (o:=3) m1 rfl]
     exact gh.trans (f.trans S.fg)
   . have a0:((I.g.arcs.length:Int)=0)=False:=eq_false (by omega)
     have nz:(I.g.arcs.length:Int)≠0:=by omega
     have wq:am .u8 ((a:Int).tdiv 4)=((a/4:Nat):Int):=by
      rw [Xq (by omega),show((a:Int)/4)=((a/4:Nat):Int) by omega,cV rfl];simp only [pw];omega
     have wc:am .i64 ((a/4:Nat):Int)=((a/4:Nat):Int):=by rw [wrap64]<;>omega
     have ad:((a/4:Nat):Int).tmod (I.g.arcs.length:Int)=((a/4%I.g.arcs.length:Nat):Int):=by rw [zB (by omega)];exact(zO _ _).symm
     have hk:a/4%I.g.arcs.length<I.g.arcs.length:=Xl _ (by omega)
     obtain⟨w,rfl,rA⟩:=wa (fun e=>by rw [e]at W;exact W rfl)
     simp only [BS,LB,cE,aN,cM,Nat.reduceLT,Nat.reduceEqDiff,F8,eP (n:=4) (by decide),rm,R,q1,q2,a0,jC (n:=4) (by decide),wq,wc,eP nz,ad,S.ld (b:=J) (o:=3) m1 rfl]
     generalize a/4%I.g.arcs.length=k at hk
     have a1:=d.arcs I.g.arcs[k] (Xf hk)
     obtain⟨e,he⟩: ∃e,e=I.g.arcs[k]:=⟨_,rfl⟩
     rw [<-he]at a1
     have lk:(I.g.arcs.flatMap cw)[3*k+2]? =some (.int .i64 (e.w:Nat)):=by
      have h1:=qJ dO I.g.arcs hk
      have N:=congrArg (fun l:List Value=>l[2]?) h1
      simp only [List.getElem?_take,List.getElem?_drop]at N
      rw [show 3*k+2=k*3+2 by omega]
      rw [if_pos (by decide)]at N
      rw [N,<-he];rfl
     have lx:=(rA.gr S.fg).load1 (o:=3*k+2) lk
     have iv:ig (some 3) (.slice (some ⟨w,0,some 3⟩) I.g.arcs.length I.g.arcs.length) (.int .i64 (k:Nat))=some (.pointer (some ⟨w,3*k,none⟩)):=by
      rw [iQ,fo hk,m8,Xj,XI]
     have w1:am .i64 ((e.w:Int)+1)=((e.w+1:Nat):Int):=by rw [wrap64]<;>omega
     have tz:((e.w+1:Nat):Int).tmod 2147483648=(((e.w+1)%2147483648:Nat):Int):=by rw [zB (by omega)];exact(zO _ _).symm
     obtain⟨y,hy⟩: ∃y,y=(e.w+1)%2147483648:=⟨_,rfl⟩
     have yr:y<=2147483647/\y≠e.w:=by omega
     rw [<-hy]at tz
     refine ar (ay rfl) (q:=0) (ps:=[]) (by kernel_rfl) ?_
     simp only [BS,LB,cls,Nat.reduceLT,Nat.reduceEqDiff,Nat.reduceAdd,Nat.reducePow,Nat.reduceDiv,Nat.reduceMod,Nat.reduceLeDiff,F8,iv,lx,w1,eP (n:=2147483648) (by decide),tz,S.ld (b:=J) (o:=3) m1 rfl]
     have b5:w<hr.n:=rA.lt S.fr.ok0
     have A:=St.init1 S.ok (o:=.row (I.g.arcs.flatMap cw) 1) (rA.gr S.fg)
     refine ep (av A (i:=0) rfl Tryz.t2.2.2.1 bZ (by rw [aW dO];omega) ono) ?_
     clear A;rintro h3 ⟨A,L⟩
     simp only [Xs]at A
     rw [encA_set hk he]at A
     obtain⟨F,r⟩: ∃F:Gra,F=⟨I.g.nodes,I.g.X,I.g.Y,I.g.arcs.set k ⟨e.s,e.t,y⟩⟩:=⟨_,rfl⟩
     have gX:=(ga.X.gr S.fg).mo L (fun c hc e9=>(hd w rfl).1 (by have e9:c=w:=e9;rw [<-e9];exact hc))
     have gY:=(ga.Y.gr S.fg).mo L (fun c hc e9=>(hd w rfl).2 (by have e9:c=w:=e9;rw [<-e9];exact hc))
     have gA:au h3 3 cw (.slice (some ⟨w,0,some 3⟩) I.g.arcs.length I.g.arcs.length) (I.g.arcs.set k ⟨e.s,e.t,y⟩):=.inr ⟨w,0,some 3,I.g.arcs.length,by rw [Xb],by rw [Xb];exact Xy _,by
      have:=(A.row m0).load (o:=0) (n:=(I.g.arcs.set k ⟨e.s,e.t,y⟩).length*3) (by rw [aW dO];omega)
      rw [Xt,List.take_of_length_le (by rw [aW dO];exact Xy _)]at this
      exact this⟩
     have bw:cJ h3 vx vy (.slice (some ⟨w,0,some 3⟩) I.g.arcs.length I.g.arcs.length) F:=by rw [r];exact⟨gX,gY,gA⟩
     have a2:eE F:=by
      rw [r]
      exact⟨d.n1,d.n2,d.lX,d.lY,d.cX,d.cY,by rw [Xb];exact be,fun x hx=>by
       rcases Xg hx with h|h
       . exact d.arcs x h
       . rw [h];exact⟨a1.1,a1.2.1,yr.1⟩⟩
     have bh:I.g≠F:=fun e9=>by
      rw [r]at e9
      have e8:I.g.arcs[k]? =(I.g.arcs.set k ⟨e.s,e.t,y⟩)[k]? :=congrArg (fun g:Gra=>g.arcs[k]?) e9
      rw [List.getElem?_set_self hk,Xc hk,<-he]at e8
      have e7:e.w=y:=congrArg Arc.w (Option.some.inj e8)
      exact yr.2 e7.symm
     have kS: ∀c∈keys [(K,Ob.row [ptrTo bn,ptrTo bt,ptrTo bc,ptrTo bf] 1),(J,.row [.int .i64 I.g.nodes,vx,vy,.slice (some ⟨w,0,some 3⟩) I.g.arcs.length I.g.arcs.length] 1)] [],c≠w:=fun c hc e9=>by
      rcases S.key_own hc with h|h
      . omega
      . cases h
     replace S:=(S0.rebase S).step L (fun b e9=>.inr (by have e9:b=w:=e9;rw [e9];exact hz w (.inr (.inr rfl)))) (fun b hb e9=>kS b hb e9)
     have f:Gr Z Z:=Gr.refl S.fr.ok0
     have j:=bk
     clear A gX gY gA L
     simp only [BS,LB,Nat.reduceLT,Nat.reduceEqDiff,Nat.reduceAdd,F8,Xt,Xr,Xx,S.lds (b:=J) (o:=0) (n:=4) m1 (lbt rfl)]
     have nn:Ret Xn 14 [fW F vx vy (.slice (some ⟨w,0,some 3⟩) I.g.arcs.length I.g.arcs.length)] h3 _:=wS S.ok a2 bw
     rw [r]at nn
     unfold fW at nn
     refine step_ret nn ?_
     rintro _ h4 ⟨p,rfl,V,hp⟩
     rw [<-r]at hp
     have k8:=S.key_lt (b:=K) (by simp [keys])
     replace S:=S.call V
     obtain⟨bq,rfl⟩:=hp.ptr
     simp only [BS,LB,Nat.reduceLT,Nat.reduceEqDiff,F8]
     refine ax (av S (i:=0) rfl Tryz.t29.2.2.1 dh (zM (lbt rfl)) ono) ?_
     clear S;rintro h6 ⟨S,aL⟩
     simp only [LC,ah,lay,Xd,Xe,Nat.reduceAdd]at S
     have s:iz h6 K {I with g:=F}:=⟨_,_,_,_,S.row m0,⟨_,hp.mo aL (fun x e9=>by have e9:x=K:=e9;omega)⟩,a2,by
      have:=a5 S.fg;rw [r];exact this,by
      have c9:=ib.gr cx S.fg
      show CelX h6 (ptrTo bc) (ptrTo bf) F I.C
      rw [hC]
      exact c9.congr (by rw [r]) (by rw [r];exact Xb ..)⟩
     have j:=j.gr S.fg
     have E:=j.l
     have G:=s.l
     have u:aU I≠aU {I with g:=F}:=ne_g d a2 bh
     have nf:decide (ki (aU I)=ki (aU {I with g:=F}))=false:=decide_eq_false (uh E G u)
     have s1:decide (aU I=aU {I with g:=F})=false:=decide_eq_false u
     have s2:decide (aU {I with g:=F}=aU I)=false:=decide_eq_false (fun e=>u e.symm)
     simp only [BS,LB,Nat.reduceLT,Nat.reduceEqDiff]
     have H:=S.fg
     clear S
     have S:=Si H.ok
     rename Hp=>hI2
     refine step_ret (fI S.ok j (jz E)) ?_
     rintro _ h ⟨g,rfl⟩
     replace S:=S.call g
     simp only [BS,LB,Nat.reduceLT,Nat.reduceEqDiff]
     refine step_ret (fI S.ok (s.gr S.gr) (jz G)) ?_
     rintro _ h ⟨g,rfl⟩
     replace S:=S.call g
     simp only [BS,LB,Nat.reduceLT,Nat.reduceEqDiff,qF,nf]
     refine al (kw S.ok (j.gr S.gr) (s.gr S.gr)) ?_
     intro h g
     replace S:=S.call g
     simp only [BS,LB,Nat.reduceLT,Nat.reduceEqDiff,s1]
     refine al (kw S.ok (s.gr S.gr) (j.gr S.gr)) ?_
     intro h g
     replace S:=S.call g
     simp only [BS,LB,ae,Nat.reduceLT,Nat.reduceEqDiff,s2]
     exact gh.trans ((f.trans H).trans S.gr)
end Go.Ab
end
section
namespace Go.Ab
open Go.ChangeShapes Go.WideShapes Go.RowKit
theorem rowAt_le{P:Program}{b:TypeId->Bool}{d:Nat}{e:TypeId}{a off n:Nat}(h:rowAt P b d e a off n=true):off<=a*P.cellsOf e:=by
 cases d with
 |zero=>cases h
 | succ d=>
   unfold rowAt at h
   simp only []at h
   split at h
   . cases h
   . rename_i i
     have c:0<P.cellsOf e:=by omega
     have f:=Nat.div_add_mod off (P.cellsOf e)
     simp only [Bool.or_eq_true,Bool.and_eq_true,beq_iff_eq,decide_eq_true_eq]at h
     rcases h with⟨⟨g,j⟩,_⟩|⟨g,_⟩
     . have:P.cellsOf e*(off/P.cellsOf e)<=P.cellsOf e*a:=Nat.mul_le_mul_left _ (by omega)
       rw [XI a];omega
     . have:P.cellsOf e*(off/P.cellsOf e+1)<=P.cellsOf e*a:=Nat.mul_le_mul_left _ (by omega)
       have hlt:=Xl off c
       rw [Nat.mul_add,Xh]at this
       rw [XI a];omega
theorem liesAt_le{P:Program}{d:Nat}: ∀{e:TypeId} {a off:Nat} {u:TypeId} {n:Nat},liesAt P d e a off u n=true->off<=a*P.cellsOf e:=by
 induction d with
 |zero=>intro e a off u n h;cases h
 | succ d b=>
   intro e a off u n h
   unfold liesAt at h
   rw [Bool.or_eq_true]at h
   rcases h with h|h
   . exact rowAt_le h
   . split at h
     . exact b h
     . cases h
theorem has_W{P:Program}{W:World}{r:_root_.Go.Reach}{base:Nat}{a:Addr}{e:TypeId}{n:Nat}(h:W.has P r base a e n):a.spot=none/\a.block<W.heap.size/\ ∃l,(hpW W).load (a.block+16) a.off 0=some l:=by
 obtain⟨_,f,i,c,b,k⟩:=h
 have hle:=liesAt_le k
 have d:a.off<=c:=Nat.le_trans hle (Nat.div_mul_le_self _ _)
 unfold World.shape? at b
 split at b
 next m el q g=>
  cases b
  have hlt:=(Array.getElem?_eq_some_iff.1 g).1
  have p:Row (hpW W) (a.block+16) (m.toList.map (iJ W.heap.size)) 0:=⟨_,_,by rw [rt,g];rfl,Tr.sized_ofList _,fun j=>Tr.get_ofList _ j⟩
  exact⟨f,hlt,_,p.load (o:=a.off) (n:=0) (by simpa using d)⟩
 . cases b
section
variable{H:Type}{enc:TypeId×Value->H}{P:Program}
theorem lc{W:World}{base n:Nat}{s e:TypeId}{k:IntKind}{c:Value}{C:Nat->Bool}{D:Bool}{x:DataW H×List MemPlace}(v:P.underlying s=some (.slice e))(E:P.underlying e=some (.int k))(F:P.cellsOf e=1)
 (b:Cell.okWide P W .any base s c) (h:DataW.trod enc P W 0 C D n s [c]=some x): ∃d:List Int,SlW (hpW W) k (iJ W.heap.size c) d/\(∀z∈d,(Lit.int k z).wf=true)/\d.length<=9223372036854775807:=by
 rcases Go.ChangeShapes.open_ints v E F h with⟨w,_⟩|⟨a,g,o,d,w,J,A,K,p,_,j,y⟩
 . cases w
   exact⟨[],.inl ⟨rfl,rfl⟩,fun z p=>(by cases p),by simp⟩
 . cases w
   unfold Cell.okWide at b
   rw [v]at b
   simp only [Cell.ok,v]at b
   obtain⟨B,q,r⟩:=b
   obtain⟨t,hlt,G⟩:=has_W r
   have m:g<=d.length:=by rw [p];split<;>omega
   refine⟨d.take g,.inr ⟨a.block+16,a.off,o,?_,?_,?_⟩,fun z p=>y z (List.mem_of_mem_take p),by
    have:(o:Int)<=9223372036854775807:=q
    rw [Xo];omega⟩
   . rw [Xo,XD m]
     simp only [iJ,if_pos A,if_pos (And.intro t hlt)]
   . rw [Xo,XD m];exact A
   . rw [Xo,XD m,Xh]
     rw [load_join (f:=fun i=>.int k (d.getD i 0)) G (fun i u=>load_W t (j i (by omega)))]
     congr 1
     have I: ∀l:List Int,l.flatMap (encI k)=l.map fun x=>.int k x:=fun l=>by
      rw [XG,List.map_eq_flatMap,XG];rfl
     rw [I]
     refine List.ext_getElem? fun i=>?_
     rw [Xz,Xz,List.getElem?_take]
     by_cases u:i<g
     . rw [if_pos u,List.getElem?_range u,Xc (show i<d.length by omega)]
       simp [Xa,show i<d.length by omega]
     . rw [if_neg u,List.getElem?_eq_none (by simpa using u)];rfl
theorem open_slV{W:World}{base:Nat}{s e:TypeId}{k:IntKind}{v:Value}{j:Nat->Bool}{m:Bool}{d:DataW H}{p:List MemPlace}(c:P.underlying s=some (.slice e))(n:P.underlying e=some (.int k))(o:P.cellsOf e=1)
 (a:Value.okWide P W .any base s v) (h:DataW.Trod enc P W 0 j m s v d p): ∃f:List Int,SlW (hpW W) k (absA W.heap.size v) f/\(∀z∈f,(Lit.int k z).wf=true)/\f.length<=9223372036854775807:=by
 unfold Value.okWide at a
 rw [c]at a
 obtain⟨i,h⟩:=h
 have b: ∀l:Array Value,v≠ .agg l:=by
  rintro l rfl
  simp only [Cell.okWide,c,Cell.ok]at a
 have g:v.cells.toList=[v]:=by cases v<;>first|rfl|exact absurd rfl (b _)
 rw [g]at h
 have q:absA W.heap.size v=iJ W.heap.size v:=by cases v<;>first|rfl|exact absurd rfl (b _)
 rw [q]
 exact lc c n o a h
theorem open_sl2{W:World}{base:Nat}{t s e:TypeId}{k:IntKind}{j m:Field}{v:Value}{C:Nat->Bool}{D:Bool}{d:DataW H}{p:List MemPlace}(r:P.underlying t=some (.struct #[j,m]))(E:j.offset=0)(o1:m.offset=1)(F:j.type=s)(t1:m.type=s)
 (u:P.underlying s=some (.slice e)) (w:P.underlying e=some (.int k)) (x:P.cellsOf e=1) (f:P.cellsOf s=1) (o:P.cellsOf t=2) (q:P.cellTypes P.depth t=some [s,s])
 (a:Value.okWide P W .any base t v) (h:DataW.Trod enc P W 0 C D t v d p):
 ∃(c0 g:Value) (xs ys:List Int),v=.agg #[c0,g]/\SlW (hpW W) k (iJ W.heap.size c0) xs/\SlW (hpW W) k (iJ W.heap.size g) ys/\(∀z∈xs,(Lit.int k z).wf=true)/\ ∀z∈ys,(Lit.int k z).wf=true:=by
 unfold Value.okWide at a
 rw [r]at a
 obtain⟨G,rfl,c,O,i,_,b⟩:=a
 rw [q]at i
 cases i
 rw [o]at c
 obtain⟨l⟩:=G
 simp only [List.size_toArray]at c
 obtain⟨c0,g,rfl⟩:=len2 c
 obtain⟨y,h⟩:=h
 obtain⟨Q,R,n,_,_,A,B⟩:=Go.ChangeShapes.trod_struct2 r h
 rw [E,F,f]at A
 rw [o1,t1,f]at B
 obtain⟨S,I,J⟩:=b 0 c0 rfl
 obtain⟨T,i,K⟩:=b 1 g rfl
 cases I
 cases i
 obtain⟨xs,L,M,_⟩:=lc u w x J A
 obtain⟨ys,N,wy,_⟩:=lc u w x K B
 exact⟨c0,g,xs,ys,rfl,L,N,M,wy⟩
end
end Go.Ab

end
section
namespace Go.Ab
open Go.ChangeShapes Go.WideShapes Go.RowKit
section
variable{H:Type}{enc:TypeId×Value->H}{P:Program}
theorem len5j{f:Type}{l:List f}(h:l.length=5): ∃a b c d e,l=[a,b,c,d,e]:=by
 match l,h with
 | [a,b,c,d,e],_=>exact⟨a,b,c,d,e,rfl⟩
theorem wf64{z:Int}(h:(Lit.int .i64 z).wf=true): -9223372036854775808<=z/\z<=9223372036854775807:=by
 unfold Lit.wf at h
 simp only [Bool.and_eq_true,decide_eq_true_eq]at h
 exact h
theorem open_d28{W:World}{base:Nat}{t f k D E m:TypeId}{s w y A C:Field}{v:Value}{sp:Nat->Bool}{hd:Bool}{d:DataW H}{p:List MemPlace}(R:P.underlying t=some (.struct #[s,w,y,A,C]))(o0:s.offset=0)(o1:w.offset=1)(o2:y.offset=2)(o3:A.offset=3)(o4:C.offset=4)
 (t0:s.type=f) (t1:w.type=f) (t2:y.type=f) (t3:A.type=m) (t4:C.type=k) (F:P.underlying f=some (.slice D)) (G:P.underlying m=some (.int .u8)) (I:P.underlying k=some (.slice E))
 (J:P.underlying D=some (.int .u8)) (g4:P.underlying E=some (.int .i64)) (c0:P.cellsOf D=1) (c4:P.cellsOf E=1) (K:P.cellsOf f=1) (d3:P.cellsOf m=1) (d4:P.cellsOf k=1) (L:P.cellsOf t=5) (Q:P.cellTypes P.depth t=some [f,f,f,m,k])
 (g:Value.okWide P W .any base t v) (h:DataW.Trod enc P W 0 sp hd t v d p):
 ∃ (a b c e:Value) (x:Int) (B O M N:List Int),v=.agg #[a,b,c,.int .u8 x,e]/\SlW (hpW W) .u8 (iJ W.heap.size a) B/\SlW (hpW W) .u8 (iJ W.heap.size b) O/\SlW (hpW W) .u8 (iJ W.heap.size c) M/\SlW (hpW W) .i64 (iJ W.heap.size e) N/\
   (∀z∈O,(Lit.int .u8 z).wf=true)/\(∀z∈M,(Lit.int .u8 z).wf=true)/\(∀z∈N,(Lit.int .i64 z).wf=true)/\(Lit.int .u8 x).wf=true:=by
 unfold Value.okWide at g
 rw [R]at g
 obtain⟨cs,rfl,i,ts,S,_,o⟩:=g
 rw [Q]at S
 cases S
 rw [L]at i
 obtain⟨l⟩:=cs
 simp only [List.size_toArray]at i
 obtain⟨a,b,c,x,e,rfl⟩:=len5j i
 obtain⟨T,h⟩:=h
 obtain⟨xs,n,_,_,hl,q,hf⟩:=DataW.trod_struct R h
 obtain⟨y0,y1,y2,y3,y4,rfl⟩:=len5j (by rw [q];rfl:xs.length=5)
 have U:=hf 0 s rfl
 have V:=hf 1 w rfl
 have X:=hf 2 y rfl
 have Y:=hf 3 A rfl
 have Z:=hf 4 C rfl
 rw [o0,t0,K]at U
 rw [o1,t1,K]at V
 rw [o2,t2,K]at X
 rw [o3,t3,d3]at Y
 rw [o4,t4,d4]at Z
 have r: ∀(j:Nat) t v,[f,f,f,m,k][j%5]? =some t->[a,b,c,x,e][j]? =some v->Cell.okWide P W .any base t v:=fun j t v h1 h2=>by
  obtain⟨u,G,I⟩:=o j v (by simpa using h2)
  obtain rfl:t=u:=Option.some.inj (h1.symm.trans G)
  exact I
 obtain⟨B,hB,_,_⟩:=lc F J c0 (r 0 f a rfl rfl) U
 obtain⟨O,hO,wO,_⟩:=lc F J c0 (r 1 f b rfl rfl) V
 obtain⟨M,hM,wM,_⟩:=lc F J c0 (r 2 f c rfl rfl) X
 obtain⟨N,hN,wN,_⟩:=lc I g4 c4 (r 4 k e rfl rfl) Z
 obtain⟨u,e2,_,wu⟩:=DataW.trod_int G Y
 cases e2
 exact⟨a,b,c,e,u,B,O,M,N,rfl,hB,hO,hM,hN,wO,wM,wN,wu⟩
end
end Go.Ab

end

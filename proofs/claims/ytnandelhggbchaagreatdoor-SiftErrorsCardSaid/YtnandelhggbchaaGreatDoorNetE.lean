/- Nets, cells, flags: what the functions do (part 5). -/
import Derived.Test.YtnandelhggbchaaGreatDoorNetD
import Derived.ChangeSlices
import Derived.ChangeArms
import Derived.ChangeSame
open Go.Ab.Tryz
open Go.Ab.Tryz renaming abEnv->zM,e3E->Xr
open Nat renaming lt_of_lt_of_le->zO,lt_of_succ_le->Xl,mul_one->Xn,zero_mul->Xt,zero_add->Xu,one_mul->Xx,zero_le->Xy,mod_lt->XH,min_eq_left->XS,le_refl->XT,ble_eq_true_of_le->XU
open Bool renaming and_true->Xa,false_ne_true->Xq,false_eq_true->XI,and_eq_true->XM,true_and->XY
open List renaming take->Xb,drop->Xc,getElem?_eq_getElem->Xd,not_mem_nil->Xe,range->Xg,mem_cons->Xh,all_cons->Xi,length_take->Xj,all_nil->Xk,getD_eq_getElem?_getD->Xm,take_succ_cons->Xo,getElem?_map->Xs,getElem_mem->Xw,drop_zero->XA,take_zero->XB,getElem?_cons_zero->XC,getElem?_cons_succ->XD,map_cons->XE,take_succ_eq_append_getElem->XF,map_nil->XG,size_toArray->XJ,take_length->XK,map_toArray->XL,range_succ->XP,map_append->XQ,length_map->XR,perm_append_comm->XV,flatMap_eq_foldl->XW,mem_cons_of_mem->XX,getElem?_range->XZ
open Int renaming tmod_eq_emod_of_nonneg->Xf,cast_ofNat_Int->Xp,natCast_emod->Xv,eq_ofNat_of_zero_le->XN,ofNat->X2
open Option renaming map_some->Xz,map_none->XO
set_option maxHeartbeats 4000000
set_option linter.defProp false
set_option linter.unusedVariables false
set_option linter.unusedSimpArgs false
section
namespace Go.Ab
open Go.Proofs
set_option maxRecDepth 10000
def Tryz.F7:=aj t1<|aj t2<|aj t3<|aj t4<|aj t5<|aj t6<|aj Z3<|aj Z4<|aj t9<|aj t10<|aj t11<|aj t12<|aj Z15<|aj Z22<|aj t15<|aj t16<|aj t17<|aj t18<|aj r18<|aj Z21<|aj t20<|aj t21<|aj t22<|aj t23<|aj t24<|aj t25<|aj r25<|aj t26<|aj r26<|aj t27<|aj r27<|aj Z9<|aj t29<|aj t30<|aj r30<|aj Z0<|aj t32<|aj t33<|aj t36<|aj t38<|aj r38<|aj t41<|aj t51<|aj t59<|aj t74<|aj t76<|aj r76<|aj t77<|aj t78<|aj Z11<|aj t82<|aj r82<|aj Z2<|aj Z5<|aj Z6<|aj t181<|aj t189<|aj Z1<|aj Z10<|aj t271<|aj t358<|aj Z19<|aj t372<|aj t374<|aj t376<|aj t377<|aj t378<|aj t379<|Z18
def sb(O:List Int)(i:Nat):Int:=if O.length=0 then 0 else(O.getD (i%O.length) 0).tmod 4
theorem made26_ok {h0:Hp} (ok:h0.t.Sized h0.n) {vB vO vM vF:Value} {f t:Nat} {xa:Int} {P:Bool} {B O ms:List Int} (hB:SlW h0 .u8 vB B) (hO:SlW h0 .u8 vO O) (cO: ∀x∈O,0<=x/\x<=255) (hM:SlW h0 .u8 vM ms) (b3: ∀x∈ms,0<=x/\x<=255) (fF:Fl vF) (hf:f<=255) (ht:t<=255):
 Ret zM 30 [.agg ⟨[vB,vO,vM,.int .u8 (f:Nat),.int .u8 (t:Nat),.int .i8 xa,.bool P,vF]⟩] h0 fun r L=>Gr h0 L/\ ∃a Z vy va bp nb bt nt l be m cf cb mb fp fb Mc Bt,
  r=.tuple #[.agg ⟨[.int .i64 a.nodes,Z,vy,va,ptrTo bp,ptrTo bt,be,ptrTo cb,ptrTo fp,.int .i64 (if P=true then 5 else 4),.int .i64 ((f%a.nodes:Nat):Int),.int .i64 ((t%a.nodes:Nat):Int),.int .i64 (an .i64 xa)]⟩,.bool true]/\Good a/\df L Z vy va a/\aV L nb (ptrTo bp) a/\
  TabAt L nt (ptrTo bt) a.nodes l (toR a l) (frR a l)/\gT a.nodes l/\1<=l.length/\l.length<=4/\Fl be/\eS L mb (ptrTo cb) a.nodes m cf/\fu m+1=((Mc:Nat):Int)/\Mc<=100/\gX L fp fb Mc a.arcs.length ((a.arcs.length+7)/8) Bt/\OkB a cf ((a.arcs.length+7)/8) Mc 0 Bt:=by
 have S:=Si ok
 have fB:=hB.sl.fl
 have fO:=hO.sl.fl
 have fM:=hM.sl.fl
 have mn:min (B.length:Int) 60=((min B.length 60:Nat):Int):=by omega
 obtain⟨bf,b4,sB,bB⟩:=hB.low (kd':=.i64) (n:=min B.length 60) Tryz.t22.1 Tryz.t5.2.2.1 (Nat.min_le_left _ _)
 have b6:=sB.fl
 refine ac (n:=154) (rs:=[.cell 2 82,.tmp 3]) rfl Tryz.e30 rfl rfl rfl (lbt rfl) ?_
 simp only [BS,Nat.reduceLT]
 refine ag (bg (by intro x e;cases e)) S ?_;clear S;intro h u S dm;simp only [ah]at S
 simp only [BS,F7]
 refine ag ax S ?_;clear S;intro h D S dn
 simp only [BS,LB,Nat.reduceLT,Nat.reduceEqDiff,Nat.reduceAdd,Xz,XO,F7,hB.sl.lenq,mn,b4,b6,S.ld (b:=u) (o:=0) m1 rfl]
 refine ag (bg (by intro x e;cases e)) S ?_;clear S;intro h bd S bh;simp only [ah]at S
 have b7:av h 1 (encI .u8) bf (B.take (min B.length 60)):=sB.gr S.gr
 have nB: ¬ar bf bd:=fun A=>by have:=sB.lt ok A;omega
 have b8:(B.take (min B.length 60)).length<1000000:=by rw [Xj];omega
 simp only [BS,LB,Nat.reduceLT,Nat.reduceEqDiff]
 have k0:=S.fr.n
 have ap:=S.apart
 simp only [keys,XE,XG,List.filterMap_nil,List.append_nil,List.nodup_cons,Xh,Xe,or_false,not_or]at ap
 have d0:=(S.row (b:=D) m1).lt S.ok
 have d1:=(S.row (b:=u) m2).lt S.ok
 refine step_ret (raw_ok S.ok (S.row m0) ⟨b7,nB,b8,by omega⟩) ?_
 rintro v h ⟨fr,a,Z,vy,va,rfl,R,ga,hz⟩
 have gz: ∀c,(ar Z c\/ar vy c\/ar va c)->c≠u/\c≠D/\c<h.n:=fun c A=>⟨by have:=hz c A;omega,by have:=hz c A;omega,A.elim (ga.X.blt fr.ok) (fun h=>h.elim (ga.Y.blt fr.ok) (ga.A.blt fr.ok))⟩
 replace S:=S.drop1.step fr (fun c A=>by subst A;exact .inr bh) (fun c A e=>by simp [keys]at A;omega)
 have fx:=ga.X.fl
 have fy:=ga.Y.fl
 have fa:=ga.A.fl
 have n1:=R.n1
 have n2:=R.n2
 have ds:=R.many
 have gS:=S.gr
 have S0:=S
 replace S:=S.base
 simp only [BS,F7,jL]
 refine ag ax S ?_;clear S;intro h z S dt
 simp only [BS,LB,Nat.reduceLT,Nat.reduceEqDiff]
 refine ay (S.store (i:=0) rfl Tryz.t31.2.1 (by intro x e;cases e) rfl (by simp only [ah,Xi,Xk,fx.2.1,fy.2.1,fa.2.1,Xa];rfl) (lbt rfl) ono) ?_
 clear S;rintro h ⟨S,mo⟩
 simp only [LC,ah,lay,Xb,Xc,Nat.reduceAdd]at S
 have ai:=ga.mo S.fr (fun c A N=>by have:=hz c A;simp [keys]at N;omega)
 simp only [BS,LB,Nat.reduceLT,Nat.reduceEqDiff,F7,XA,Xo,XB,S.lds (b:=z) (o:=0) (n:=4) m0 (lbt rfl)]
 have q5:=(S.row (b:=z) m0).lt S.ok
 have q2:=(S.row (b:=D) m1).lt S.ok
 have q1:=(S.row (b:=u) m2).lt S.ok
 refine step_ret (wN S.ok R ai) ?_
 rintro v h ⟨p,rfl,g,hp⟩
 replace S:=S.call g
 replace ai:=ai.gr g
 clear g
 obtain⟨bp,rfl⟩: ∃b,p=ptrTo b:=by obtain⟨b,_,_,_,_,_,e,_⟩:=hp.ex;exact⟨b,e⟩
 replace S:=S0.rebase S
 have a1:=S.gr
 have d2:=S.ok
 clear S0
 replace S:=S.base
 simp only [LC,keys,XE,XG,List.filterMap_nil]at S
 rename Hp=>hC0
 have b9:=(S.row (b:=D) m1).lt S.ok
 have cc:an .u8 ((f:Int).tdiv 16)=((f/16:Nat):Int):=by
  rw [Int.tdiv_eq_ediv_of_nonneg (by omega)]
  have:(f:Int)/16=((f/16:Nat):Int):=by omega
  rw [this]
  have e:an .u8 (X2 (f/16))=X2 (f/16):=by
   unfold an
   simp only [Go.Ab.hf,show Nat.blt (f/16) 256=true from XU (by omega),cond_true]
  exact e
 have ch:an .i64 ((f/16:Nat):Int)=((f/16:Nat):Int):=by rw [wrap64]<;>omega
 have nz:(a.nodes:Int)≠0:=by omega
 have bi:((f/16:Nat):Int).tmod (a.nodes:Int)=((f/16%a.nodes:Nat):Int):=by rw [Xf (by omega)];exact(Xv _ _).symm
 simp only [BS,LB,iN,cu,i9,Nat.reduceLT,Nat.reduceEqDiff,F7,lj (n:=16) (by decide),cc,ch,lc nz,bi,S.ld (b:=u) (o:=3) m2 rfl,S.ld (b:=z) (o:=0) m0 rfl]
 refine ag (bI (by exact Tryz.t33.1) (by exact Xr) (by decide) (by rfl)) S ?_;clear S;intro h bt S dv;simp only [LC,aT,bA,ah,Nat.reduceMul,Nat.reduceAdd,Xt,Xu,Xn,Xx]at S
 have d3:f/16%a.nodes<a.nodes:=XH _ (by omega)
 generalize d4:((f/16%a.nodes:Nat):Int)=Y at S
 have al:0<=Y/\Y<a.nodes:=by omega
 have cj: ∀c,ar vM c->c<h0.n:=fun c A=>hM.sl.lt ok A
 have ck: ∀c,ar vO c->c<h0.n:=fun c A=>hO.sl.lt ok A
 have nb: ∀c,c<h0.n-> ¬c∈[z,D,u]:=fun c A N=>by
  simp only [Xh,Xe,or_false]at N
  have:=gS.n
  omega
 have cl: ∀c,c∈[z,D,u]->h0.n<=c:=fun c N=>by
  simp only [Xh,Xe,or_false]at N
  have:=gS.n
  omega
 have bk: ∀c,(ar Z c\/ar vy c\/ar va c)-> ¬c∈[z,D,u]:=fun c A N=>by
  have:=gz c A
  simp only [Xh,Xe,or_false]at N
  omega
 simp only [BS,LB,Nat.reduceLT,Nat.reduceEqDiff]
 refine tq (fun s L=> ∃(F:Value) (l:List Int) (G:List GL),St (· ∈[z,D,u]) hC0 L [(bt,.row [.int .i64 Y] 1),(z,.row [.int .i64 a.nodes,Z,vy,va] 1),(D,.row [.int .i64 0,.slice none 0 0,.slice none 0 0,.slice none 0 0,.pointer none,.pointer none,.slice none 0 0,.pointer none,.pointer none,.int .i64 0,.int .i64 0,.int .i64 0,.int .i64 0] 1),(u,.row [vB,vO,vM,.int .u8 (f:Nat),.int .u8 (t:Nat),.int .i8 xa,.bool P,vF] 1)] G/\((G=[]/\F=.slice (some ⟨bt,0,none⟩) 1 1/\l=[Y])\/G=[(F,1,ints l)])/\gT a.nodes l/\1<=l.length/\l.length<=4/\s 1=ptrTo u/\s 2=ptrTo D/\s 5=ptrTo z/\s 6=ptrTo bp/\s 8=F)
  (fun(i:Nat) s L=>i<=ms.length/\i<=3/\ ∃(F:Value) (l:List Int) (G:List GL),St (· ∈[z,D,u]) hC0 L [(bt,.row [.int .i64 Y] 1),(z,.row [.int .i64 a.nodes,Z,vy,va] 1),(D,.row [.int .i64 0,.slice none 0 0,.slice none 0 0,.slice none 0 0,.pointer none,.pointer none,.slice none 0 0,.pointer none,.pointer none,.int .i64 0,.int .i64 0,.int .i64 0,.int .i64 0] 1),(u,.row [vB,vO,vM,.int .u8 (f:Nat),.int .u8 (t:Nat),.int .i8 xa,.bool P,vF] 1)] G/\((G=[]/\F=.slice (some ⟨bt,0,none⟩) 1 1/\l=[Y])\/G=[(F,1,ints l)])/\gT a.nodes l/\1<=l.length/\l.length<=i+1/\s 1=ptrTo u/\s 2=ptrTo D/\s 5=ptrTo z/\s 6=ptrTo bp/\s 8=F/\s 9=.int .i64 i) (fun i=>ms.length-i) ?_ ?_ 0 ?_
 . clear S
   intro i ih s L ⟨hi,hi3,F,l,G,S,hG,hl,hl1,hli,C,H,E,I,r8,V⟩
   have bl:=(hM.sl.gr a1).mo S.fr (fun c A=>nb c (cj c A))
   have a2: ∀(n:Nat) (d:List Deferred) (rc:Option (Value×Bool)) (y:Nat->Value),y 1=ptrTo u->y 2=ptrTo D->y 5=ptrTo z->y 6=ptrTo bp->y 8=F->JP n d rc (fun s L=> ∃(F:Value) (l:List Int) (G:List GL),St (· ∈[z,D,u]) hC0 L [(bt,.row [.int .i64 Y] 1),(z,.row [.int .i64 a.nodes,Z,vy,va] 1),(D,.row [.int .i64 0,.slice none 0 0,.slice none 0 0,.slice none 0 0,.pointer none,.pointer none,.slice none 0 0,.pointer none,.pointer none,.int .i64 0,.int .i64 0,.int .i64 0,.int .i64 0] 1),(u,.row [vB,vO,vM,.int .u8 (f:Nat),.int .u8 (t:Nat),.int .i8 xa,.bool P,vF] 1)] G/\((G=[]/\F=.slice (some ⟨bt,0,none⟩) 1 1/\l=[Y])\/G=[(F,1,ints l)])/\gT a.nodes l/\1<=l.length/\l.length<=4/\s 1=ptrTo u/\s 2=ptrTo D/\s 5=ptrTo z/\s 6=ptrTo bp/\s 8=F) .normal (LL n y d rc) L:=fun n d rc y e1 e2 e5 e6 e8=>iK ⟨F,l,G,S,hG,hl,hl1,by omega,e1,e2,e5,e6,e8⟩
   have sR:av L 1 (encI .i64) F l:=by
    rcases hG with⟨_,rfl,rfl⟩|rfl
    . exact .inr ⟨bt,0,none,1,rfl,XT _,S.lds (b:=bt) (o:=0) (n:=1*1) m0 (lbt rfl)⟩
    . exact(S.gown _ m0).1.sl rfl (fun _=>rfl) (by decide)
   by_cases hlt:i<ms.length
   . by_cases h3:i<3
     . have c3 :(i:Int)<3:=by omega
       obtain⟨c,o,ad,ak⟩:=bl.ix (kd:=.i64) (bK .u8) hlt
       have hx:=b3 _ (Xw hlt)
       obtain⟨x,ex⟩: ∃x:Nat,ms[i]=x:=⟨ms[i].toNat,by omega⟩
       rw [ex]at ak hx
       have wc:an .i64 (x:Int)=(x:Int):=by rw [wrap64]<;>omega
       have tm:(x:Int).tmod (a.nodes:Int)=((x%a.nodes:Nat):Int):=by rw [Xf (by omega)];exact(Xv _ _).symm
       have Q:x%a.nodes<a.nodes:=XH _ (by omega)
       have w:an .i64 ((i:Int)+1)=((i+1:Nat):Int):=by rw [wrap64]<;>omega
       simp only [BS,LB,Nat.reduceLT,Nat.reduceEqDiff,F7,C,V,hM.sl.lenq,aA,hlt,c3,S.ld (b:=u) (o:=2) m3 rfl]
       refine aw (aB rfl) (q:=0) (ps:=[]) (by kernel_rfl) ?_
       simp only [BS,LB,iN,cu,i9,cls,Nat.reduceLT,Nat.reduceEqDiff,Nat.reduceAdd,Nat.reducePow,Nat.reduceDiv,Nat.reduceMod,Nat.reduceLeDiff,F7,C,E,V,ad,ak,encI,wc,lc nz,tm,S.ld (b:=z) (o:=0) m1 rfl,S.ld (b:=u) (o:=2) m3 rfl]
       generalize x%a.nodes=v at Q
       clear bl
       refine aQ (fun(k:Nat) s h2=>k<=l.length/\h2=L/\s 1=ptrTo u/\s 2=ptrTo D/\s 5=ptrTo z/\s 6=ptrTo bp/\s 8=F/\s 9=.int .i64 i/\s 10=.int .i64 v/\s 11=.bool (decide ((v:Int)∈l.take k))/\s 12=.int .i64 k) (fun k=>l.length-k) ?_ 0 _ _ ?_
       . clear C H E I r8 V
         rintro k a3 s h2 ⟨hk,rfl,C,H,E,I,r8,V,W,J,af⟩
         have wk:an .i64 ((k:Int)+1)=((k+1:Nat):Int):=by rw [wrap64]<;>omega
         by_cases T:k<l.length
         . have tk:l.take (k+1)=l.take k++[l[k]]:=XF T
           by_cases N:(v:Int)∈l.take k
           . rw [decide_eq_true N]at J
             have a4:(v:Int)∈l.take (k+1):=by rw [tk];exact List.mem_append_left _ N
             simp only [BS,LB,Nat.reduceLT,Nat.reduceEqDiff,F7,r8,J,af,sR.lenq,aA,T,wk]
             exact a3 (k+1) _ _ (by omega) ⟨by omega,rfl,by simp [aa,C,ae],by simp [aa,H,ae],by simp [aa,E,ae],by simp [aa,I,ae],by simp [aa,r8],by simp [aa,V],by simp [aa,W],by simp [aa,a4],by simp [aa]⟩
           . rw [decide_eq_false N]at J
             obtain⟨c1,o1,i1,y1⟩:=sR.ix (kd:=.i64) (bK .i64) T
             by_cases he:l[k]=(v:Int)
             . have a4:(v:Int)∈l.take (k+1):=by rw [tk,he];exact List.mem_append_right _ (List.mem_singleton.2 rfl)
               simp only [BS,LB,Nat.reduceLT,Nat.reduceEqDiff,F7,r8,W,J,af,sR.lenq,aA,T,wk,i1,y1,encI,he]
               exact a3 (k+1) _ _ (by omega) ⟨by omega,rfl,by simp [aa,C,ae],by simp [aa,H,ae],by simp [aa,E,ae],by simp [aa,I,ae],by simp [aa,r8],by simp [aa,V],by simp [aa,W],by simp [aa,a4],by simp [aa]⟩
             . have cn: ¬(v:Int)∈l.take (k+1):=by
                rw [tk]
                intro h
                rcases List.mem_append.1 h with h|h
                . exact N h
                . exact he (List.mem_singleton.1 h).symm
               simp only [BS,LB,Nat.reduceLT,Nat.reduceEqDiff,F7,r8,W,J,af,sR.lenq,aA,T,wk,i1,y1,encI,he]
               exact a3 (k+1) _ _ (by omega) ⟨by omega,rfl,by simp [aa,C,ae],by simp [aa,H,ae],by simp [aa,E,ae],by simp [aa,I,ae],by simp [aa,r8],by simp [aa,V],by simp [aa,W],by simp [aa,cn],by simp [aa]⟩
         . have ek:k=l.length:=by omega
           subst ek
           rw [XK]at J
           by_cases N:(v:Int)∈l
           . rw [decide_eq_true N]at J
             simp only [BS,LB,Nat.reduceLT,Nat.reduceEqDiff,F7,r8,V,J,af,sR.lenq,aA,T,w]
             exact ih (i+1) _ _ (by omega) ⟨by omega,by omega,F,l,G,S,hG,hl,hl1,by omega,by simp [aa,C,ae],by simp [aa,H,ae],by simp [aa,E,ae],by simp [aa,I,ae],by simp [aa,r8],by simp [aa]⟩
           . rw [decide_eq_false N]at J
             simp only [BS,LB,Nat.reduceLT,Nat.reduceEqDiff,F7,r8,V,W,J,af,sR.lenq,aA,T]
             refine ag (bI (by exact Tryz.t33.1) (by exact Xr) (by decide) (by rfl)) S ?_;clear S;intro h bu S dx;simp only [LC,aT,bA,ah,Nat.reduceMul,Nat.reduceAdd,Xt,Xu,Xn,Xx]at S
             simp only [BS,LB,Nat.reduceLT,Nat.reduceEqDiff]
             have a5:aJ h 1 (.slice (some ⟨bu,0,none⟩) 1 1)=some (1,ints [(v:Int)]):=by simp only [aJ];rw [S.lds (b:=bu) (o:=0) (n:=1*1) m0 (lbt rfl)];rfl
             replace S:=S.drop1
             have bm: ∃h3 v',cU zM h [33,33] F (.slice (some ⟨bu,0,none⟩) 1 1)=some (h3,v')/\St (· ∈[z,D,u]) hC0 h3 [(bt,.row [.int .i64 Y] 1),(z,.row [.int .i64 a.nodes,Z,vy,va] 1),(D,.row [.int .i64 0,.slice none 0 0,.slice none 0 0,.slice none 0 0,.pointer none,.pointer none,.slice none 0 0,.pointer none,.pointer none,.int .i64 0,.int .i64 0,.int .i64 0,.int .i64 0] 1),(u,.row [vB,vO,vM,.int .u8 (f:Nat),.int .u8 (t:Nat),.int .i8 xa,.bool P,vF] 1)] [(v',1,ints (l++[(v:Int)]))]:=by
              rcases hG with⟨rfl,rfl,rfl⟩|rfl
              . rw [gy]
                exact St.growB S (b:=bt) (len:=1) (m:=1) (new:=ints [(v:Int)]) (S.row m0) rfl Tryz.t33.1 Xr (by decide) Tryz.t33.2.2.2.2.2 a5 rfl (by decide) (by decide) (by rw [cq];exact lbt rfl)
              . rw [gy]
                exact S.grow (j:=0) (m:=1) (new:=ints [(v:Int)]) rfl Tryz.t33.1 Xr (by decide) Tryz.t33.2.2.2.2.2 a5 rfl (by decide) rfl (by rw [cq,cq];simp;omega)
             refine dA bm ?_
             clear S a5 hG bm sR a2;rintro h cp S
             simp only [BS,LB,Nat.reduceLT,Nat.reduceEqDiff,V,w]
             exact ih (i+1) _ _ (by omega) ⟨by omega,by omega,cp,l++[(v:Int)],_,S,.inr rfl,hl.push (by omega) (by omega) (by omega) N,by simp,by simp;omega,by simp [aa,C,ae],by simp [aa,H,ae],by simp [aa,E,ae],by simp [aa,I,ae],by simp [aa],by simp [aa]⟩
       . exact⟨Xy _,rfl,by simp [aa,C,ae],by simp [aa,H,ae],by simp [aa,E,ae],by simp [aa,I,ae],by simp [aa,r8],by simp [aa,V],by simp [aa],by simp [aa],by simp [aa]⟩
     . have c3: ¬(i:Int)<3:=by omega
       simp only [BS,LB,Nat.reduceLT,Nat.reduceEqDiff,F7,C,V,hM.sl.lenq,aA,hlt,c3,S.ld (b:=u) (o:=2) m3 rfl]
       exact a2 _ _ _ _ (by simp [aa,C,ae]) (by simp [aa,H,ae]) (by simp [aa,E,ae]) (by simp [aa,I,ae]) (by simp [aa,r8])
   . simp only [BS,LB,Nat.reduceLT,Nat.reduceEqDiff,F7,C,V,hM.sl.lenq,aA,hlt,S.ld (b:=u) (o:=2) m3 rfl]
     exact a2 _ _ _ _ (by simp [aa,C,ae]) (by simp [aa,H,ae]) (by simp [aa,E,ae]) (by simp [aa,I,ae]) (by simp [aa,r8])
 . clear S
   intro s L ⟨F,l,G,S,hG,hl,hl1,hl4,C,H,E,I,r8⟩
   have cr: ∀{x:Hp} {L':List (Nat×Ob)} {G':List GL},St (· ∈[z,D,u]) hC0 x L' G'->(bt,Ob.row [.int .i64 Y] 1)∈L'->(∀p∈G,p∈G')->av x 1 (encI .i64) F l:=fun {x L' G'} U hL cs=>by
    rcases hG with⟨_,rfl,rfl⟩|rfl
    . exact .inr ⟨bt,0,none,1,rfl,XT _,U.lds (b:=bt) (o:=0) (n:=1*1) hL (lbt rfl)⟩
    . exact eZ.sl (xs:=l) (enc:=encI .i64) (U.gown (F,1,ints l) (cs _ m0)).1 rfl (fun _=>rfl) (by decide)
   simp only [BS]
   replace S:=S.nilG (k:=1)
   refine aQ (fun(i:Nat) s h=>i<=a.nodes/\ ∃vQ,St (· ∈[z,D,u]) hC0 h [(bt,.row [.int .i64 Y] 1),(z,.row [.int .i64 a.nodes,Z,vy,va] 1),(D,.row [.int .i64 0,.slice none 0 0,.slice none 0 0,.slice none 0 0,.pointer none,.pointer none,.slice none 0 0,.pointer none,.pointer none,.int .i64 0,.int .i64 0,.int .i64 0,.int .i64 0] 1),(u,.row [vB,vO,vM,.int .u8 (f:Nat),.int .u8 (t:Nat),.int .i8 xa,.bool P,vF] 1)] ((vQ,1,ints ((Xg i).map (sb O)))::G)/\s 1=ptrTo u/\s 2=ptrTo D/\s 5=ptrTo z/\s 6=ptrTo bp/\s 8=F/\s 13=vQ/\s 14=.int .i64 i) (fun i=>a.nodes-i) ?_ 0 _ _ ?_
   . clear S C H E I r8
     intro i ih s h ⟨hi,vQ,S,C,H,E,I,r8,r13,r14⟩
     have w:an .i64 ((i:Int)+1)=((i+1:Nat):Int):=by rw [wrap64]<;>omega
     have cv:=(hO.sl.gr a1).mo S.fr (fun c A=>nb c (ck c A))
     by_cases hlt:i<a.nodes
     . by_cases bo:O.length=0
       . have c0: ¬(0:Int)<(O.length:Int):=by omega
         simp only [BS,LB,Nat.reduceLT,Nat.reduceEqDiff,F7,C,E,r13,r14,aA,hlt,hO.sl.lenq,c0,S.ld (b:=z) (o:=0) m1 rfl,S.ld (b:=u) (o:=1) m3 rfl]
         refine ag (bI (by exact Tryz.t33.1) (by exact Xr) (by decide) (by rfl)) S ?_;clear S;intro h bs S bq;simp only [LC,aT,bA,ah,Nat.reduceMul,Nat.reduceAdd,Xt,Xu,Xn,Xx]at S
         simp only [BS,LB,Nat.reduceLT,Nat.reduceEqDiff]
         refine dA (S.grow (j:=0) (m:=1) (new:=ints [(0:Int)]) rfl Tryz.t33.1 Xr (by decide) Tryz.t33.2.2.2.2.2 (by simp only [aJ];rw [S.lds (b:=bs) (o:=0) (n:=1*1) m0 (lbt rfl)];rfl) rfl (by decide) rfl (by rw [cq,cq];simp;omega)) ?_
         clear S
         rintro h a6 S
         simp only [LC]at S
         replace S:=S.drop1
         rw [<-gy]at S
         simp only [BS,LB,Nat.reduceLT,Nat.reduceEqDiff,r14,w]
         refine ih (i+1) _ _ (by omega) ⟨by omega,a6,?_,by simp [aa,C,ae],by simp [aa,H,ae],by simp [aa,E,ae],by simp [aa,I,ae],by simp [aa,r8],by simp [aa],by simp [aa]⟩
         rw [XP,XQ,List.map_singleton,show sb O i=(0:Int)from by unfold sb;rw [if_pos bo]]
         exact S
       . have c0:(0:Int)<(O.length:Int):=by omega
         have Q:i%O.length<O.length:=XH _ (by omega)
         have tm:(i:Int).tmod (O.length:Int)=((i%O.length:Nat):Int):=by rw [Xf (by omega)];exact(Xv _ _).symm
         obtain⟨c,o,ad,ak⟩:=cv.ix (kd:=.i64) (bK _) Q
         have cz:(O.length:Int)≠0:=by omega
         have hx:=cO _ (Xw Q)
         have t4:(O[i%O.length]).tmod 4=O[i%O.length]%4:=Xf hx.1
         have wc:an .i64 ((O[i%O.length]).tmod 4)=(O[i%O.length]).tmod 4:=by rw [wrap64]<;>omega
         simp only [BS,LB,Nat.reduceLT,Nat.reduceEqDiff,F7,C,E,r14,aA,hlt,hO.sl.lenq,c0,S.ld (b:=z) (o:=0) m1 rfl,S.ld (b:=u) (o:=1) m3 rfl]
         refine aw (aB rfl) (q:=0) (ps:=[]) (by kernel_rfl) ?_
         simp only [BS,LB,iN,cu,i9,cls,Nat.reduceLT,Nat.reduceEqDiff,Nat.reduceAdd,Nat.reducePow,Nat.reduceDiv,Nat.reduceMod,Nat.reduceLeDiff,F7,C,r13,r14,hO.sl.lenq,lc cz,tm,ad,ak,encI,lc (n:=4) (by decide),wc,S.ld (b:=u) (o:=1) m3 rfl]
         refine ag (bI (by exact Tryz.t33.1) (by exact Xr) (by decide) (by rfl)) S ?_;clear S;intro h bs S bq;simp only [LC,aT,bA,ah,Nat.reduceMul,Nat.reduceAdd,Xt,Xu,Xn,Xx]at S
         simp only [BS,LB,Nat.reduceLT,Nat.reduceEqDiff]
         refine dA (S.grow (j:=0) (m:=1) (new:=ints [(O[i%O.length]).tmod 4]) rfl Tryz.t33.1 Xr (by decide) Tryz.t33.2.2.2.2.2 (by simp only [aJ];rw [S.lds (b:=bs) (o:=0) (n:=1*1) m0 (lbt rfl)];rfl) rfl (by decide) rfl (by rw [cq,cq];simp;omega)) ?_
         clear S
         rintro h a6 S
         simp only [LC]at S
         replace S:=S.drop1
         rw [<-gy]at S
         simp only [BS,LB,Nat.reduceLT,Nat.reduceEqDiff,r14,w]
         refine ih (i+1) _ _ (by omega) ⟨by omega,a6,?_,by simp [aa,C,ae],by simp [aa,H,ae],by simp [aa,E,ae],by simp [aa,I,ae],by simp [aa,r8],by simp [aa],by simp [aa]⟩
         rw [XP,XQ,List.map_singleton,show sb O i=(O[i%O.length]).tmod 4 from by unfold sb;rw [if_neg bo];simp [Xm,Q]]
         exact S
     . have cx:i=a.nodes:=by omega
       simp only [BS,LB,Nat.reduceLT,Nat.reduceEqDiff,F7,E,r13,r14,aA,hlt,S.ld (b:=z) (o:=0) m1 rfl]
       generalize hL:(Xg i).map (sb O)=Ls at S
       have lL:Ls.length=a.nodes:=by rw [<-hL];simp [cx]
       have bL:=lmax_bd (K:=((0+Ls.length:Nat):Int)) (by omega) (norm_bd [] Ls)
       have nl:=xX [] Ls
       have cA: ¬cellNo (norm [] Ls):=by
        rintro(h|h|h)
        . rw [h]at nl;simp at nl;omega
        . exact h (norm_idem [] Ls)
        . omega
       have sl:av h 1 (encI .i64) vQ Ls:=(S.gown _ m0).1.sl rfl (fun _=>rfl) (by decide)
       have d5:=S.fr.n
       refine step_ret (Bn S.ok sl (by omega)) ?_
       rintro v1 hA ⟨g1,s1,q1⟩
       replace S:=S.call g1
       have d6:=g1.n
       simp only [BS,LB,Nat.reduceLT,Nat.reduceEqDiff]
       refine step_ret (AM S.ok s1 (by omega) (by omega)) ?_
       rintro v2 br ⟨g2,cT⟩
       obtain⟨_,aL⟩:=cT.resolve_left (fun h=>cA h.1)
       replace S:=S.call g2
       obtain⟨cb,cW⟩: ∃b,v2=ptrTo b:=by obtain⟨b,_,e,_⟩:=aL;exact⟨b,e⟩
       subst cW
       have mz: ∀x∈norm [] Ls,0<=x:=fun x hx=>(norm_bd [] Ls x hx).1
       have lm:(norm [] Ls).length=a.nodes:=by omega
       obtain⟨cf,bv⟩: ∃c:Nat->Nat,∀v,v<a.nodes->(norm [] Ls).getD v 0=(c v:Int):=⟨fun v=>((norm [] Ls).getD v 0).toNat,fun v hv=>by
        have bx:v<(norm [] Ls).length:=by omega
        have:=mz _ (Xw bx)
        have e:(norm [] Ls).getD v 0=(norm [] Ls)[v]:=by rw [Xm,Xd bx,Option.getD_some]
        show(norm [] Ls).getD v 0=(((norm [] Ls).getD v 0).toNat:Int)
        rw [e];omega⟩
       have bE:eS br _ (ptrTo cb) a.nodes (norm [] Ls) cf:=⟨aL,lm,bv⟩
       obtain⟨Mc,bH⟩: ∃M:Nat,fu (norm [] Ls)+1=(M:Int):=⟨(fu (norm [] Ls)+1).toNat,by omega⟩
       have a7:=s1.fl
       have d8:=s1.gr g2
       have ea: ∀c,ar v1 c->hC0.n<=c:=fun c A=>by have:=q1 c A;omega
       have bP:=cr S m0 (fun p hp=>XX _ hp)
       have eb:=bP.fl
       have ba:=hp.mo S.fr (fun c N=>by simp only [Xh,Xe,or_false]at N;omega)
       have cX:=ai.mo S.fr (fun c A N=>bk c A N)
       simp only [BS,LB,Nat.reduceLT,Nat.reduceEqDiff,F7,C,S.ld (b:=u) (o:=6) m3 rfl]
       refine us (fun y L=>L=br/\y 1=ptrTo u/\y 2=ptrTo D/\y 5=ptrTo z/\y 6=ptrTo bp/\y 8=F/\y 13=v1/\y 16=ptrTo cb/\y 17=.int .i64 (if P=true then 5 else 4)) ?_ ?_ ?_
       . rintro rfl
         simp only [BS,LB]
         exact iK ⟨rfl,by simp [aa,C,ae],by simp [aa,H,ae],by simp [aa,E,ae],by simp [aa,I,ae],by simp [aa,r8],by simp [aa],by simp [aa,ae],by simp [aa]⟩
       . rintro rfl
         simp only [BS,if_false,XI]
         exact iK ⟨rfl,by simp [aa,C,ae],by simp [aa,H,ae],by simp [aa,E,ae],by simp [aa,I,ae],by simp [aa,r8],by simp [aa],by simp [aa,ae],by simp [aa]⟩
       . clear C H E I r8 r13 r14
         rintro y L ⟨rfl,C,H,E,I,r8,r13,bb,bX⟩
         have wf:an .i64 (f:Int)=(f:Int):=by rw [wrap64]<;>omega
         have wt:an .i64 (t:Int)=(t:Int):=by rw [wrap64]<;>omega
         have cY:(f:Int).tmod (a.nodes:Int)=((f%a.nodes:Nat):Int):=by rw [Xf (by omega)];exact(Xv _ _).symm
         have c2:(t:Int).tmod (a.nodes:Int)=((t%a.nodes:Nat):Int):=by rw [Xf (by omega)];exact(Xv _ _).symm
         have bY:=S.ok
         have R1:=S.row (b:=u) m3
         have R5:=S.row (b:=z) m1
         have c4:=R1.load1 (o:=3) rfl
         have c5:=R1.load1 (o:=4) rfl
         have c7:=R1.load1 (o:=5) rfl
         have db:=R5.load1 (o:=0) rfl
         have b0:=R5.load (o:=0) (n:=4) (XT 4)
         simp only [Xc,Xb]at b0
         have z5:=R5.lt bY
         have S0:=S
         clear S
         have S:=Si bY
         simp only [BS]
         refine aw (mY (ord:=[17,0,1,2,3,4,5,6,7,8,9,10,11,12,13,14,15,16,18]) rfl rfl (by simp only [dM,ns,ep,XC,XD,XL,XE,XG,Nat.reduceBEq,cond_true,cond_false];exact rfl)) (q:=1) (ps:=[]) (by kernel_rfl) ?_
         simp only [BS,LB,cls,Nat.reducePow,Nat.reduceDiv,Nat.reduceMod,Nat.reduceLeDiff,F7]
         refine dK ax S ?_;clear S;intro h bc S dc dd
         have gB:=S.gr
         have ec:=gB.n
         simp only [BS,LB,iN,cu,i9,cls,Nat.reduceLT,Nat.reduceEqDiff,Nat.reduceAdd,Nat.reducePow,Nat.reduceDiv,Nat.reduceMod,Nat.reduceLeDiff,F7,C,E,bX,wf,wt,lc nz,cY,c2,gB.load c4,gB.load c5,gB.load c7,gB.load db]
         refine dw (S.store (i:=0) rfl Tryz.t28.2.1 (by intro x e;cases e) rfl rfl (lbt rfl) ono) ?_
         clear S;rintro hQ ⟨S,ed⟩
         simp only [LC,ah,lay,Xb,Xc,Nat.reduceAdd]at S
         simp only [BS,LB,Nat.reduceAdd]
         have de:=(S.row (b:=bc) m0).lt S.ok
         have nQ:=S.fr.n
         refine aw (aB rfl) (q:=0) (ps:=[(9,11),(4,11),(0,9),(0,4)]) (by kernel_rfl) ?_
         simp only [BS,LB,cls,Nat.reduceLT,Nat.reduceEqDiff,Nat.reduceAdd,Nat.reducePow,Nat.reduceDiv,Nat.reduceMod,Nat.reduceLeDiff,F7,E,I,r8,S.gr.load b0]
         refine da (zk S.ok R (ba.gr S.gr) (bP.gr S.gr) (by omega)) ?_
         rintro pt h ⟨g5,hT⟩
         replace hT:=(hT.resolve_left (fun h=>h.1 hl)).2
         obtain⟨dj,et⟩: ∃b,pt=ptrTo b:=by obtain⟨b,_,_,_,e,_⟩:=hT.ex;exact⟨b,e⟩
         subst et
         have e1:=aq g5 (show z<_ by omega)
         have e2:=aq g5 de
         have ei:=g5.n
         replace S:=S.call g5
         simp only [BS,LB,cls,Nat.reduceLT,Nat.reduceEqDiff,Nat.reduceAdd,Nat.reducePow,Nat.reduceDiv,Nat.reduceMod,Nat.reduceLeDiff,I,r13,bb]
         refine da (ofB_ok S.ok R (ba.gr S.gr) (bE.gr S.gr) bH (by omega)) ?_
         rintro r h ⟨g6,fp,fb,Bt,rfl,nf,ej,dF,BN,oB⟩
         have e3:=aq g6 (show z<_ by omega)
         have e4:=aq g6 (show bc<_ by omega)
         replace S:=S.call g6
         have a0:=S.lds (b:=bc) (o:=0) (n:=4) m0 (lbt rfl)
         simp only [Xc,Xb]at a0
         have gH:=S.gr
         have dO:D<hC0.n:=b9
         simp only [BS,LB,cls,Nat.reduceLT,Nat.reduceEqDiff,Nat.reduceAdd,Nat.reducePow,Nat.reduceDiv,Nat.reduceMod,Nat.reduceLeDiff,F7,H,bb,a0,a7]
         have S1:=S0.call gH
         refine dw (S1.store (i:=2) rfl Tryz.t82.2.1 (by intro x e;cases e) rfl (by simp only [ah,Xi,Xk,fx.2.1,fy.2.1,fa.2.1,a7.2.1,Xa];rfl) (lbt rfl) ono) ?_
         clear S S1;rintro h9 ⟨S,X⟩
         simp only [LC,ah,lay,Xb,Xc,Nat.reduceAdd]at S
         simp only [BS,LB,cls,ab,Nat.reduceLT,Nat.reduceEqDiff,Nat.reduceAdd,Nat.reducePow,Nat.reduceDiv,Nat.reduceMod,Nat.reduceLeDiff]
         refine⟨by simp only [bz,bG,aW,bM,a8,ne_eq,not_false_eq_true,bS,cD,bD,bw,ca,c9,aO,Nat.reduceLT,Nat.reduceEqDiff,reduceIte,Xa,C,H,E,I,r8,r13,bb,bX,ae,jU,aI e1,aE e1,aI e2,aE e2,aI e3,aE e3,aI e4,aE e4],?_⟩
         refine(dg (by decide) (by simp only [aO,H,ae,Nat.reduceEqDiff,reduceIte];exact cQ Tryz.t82.1 Tryz.t82.2.1 (S.lds (b:=D) (o:=0) (n:=13) m2 (lbt rfl)))).2 ((kM (by decide)).2 (dV.2 ?_))
         have gZ:Gr h0 h9:=(a1.fr.trans S.fr (fun c A=>.inr (cl c A)):Mo NoM h0 h9).gr
         have nC:=S0.fr.n
         exact⟨gZ,a,Z,vy,va,bp,_,dj,_,l,v1,norm [] Ls,cf,cb,_,fp,fb,Mc,Bt,rfl,R,(cX.gr gH).mo X (fun c A e=>bk c A (by simp [e])),(ba.gr gH).mo X (fun c e=>by subst e;omega),(hT.gr g6).mo X (fun c e=>by subst e;omega),hl,hl1,hl4,a7,⟨(bE.gr gH).at0.mo X (fun c e=>by subst e;omega),lm,bv⟩,bH,by omega,⟨X.has (o:=.row _ 1) BN.r (fun e=>by omega),X.has (o:=.row _ 1) BN.b (fun e=>by omega),BN.lt⟩,oB⟩
   . exact⟨Xy _,_,S,by simp [aa,C,ae],by simp [aa,H,ae],by simp [aa,E,ae],by simp [aa,I,ae],by simp [aa,r8],by simp [aa],by simp [aa]⟩
 . refine⟨Xy _,Xy _,_,[Y],[],S,.inl ⟨rfl,rfl,rfl⟩,(xw _).push (by simp) al.1 al.2 (by simp),by simp,by simp,by simp [aa,ae],by simp [aa,ae],by simp [aa,ae],by simp [aa,ae],by simp [aa],by simp [aa]⟩
def Tryz.F0L:=aj t1<|aj t2<|aj t3<|aj t33<|aj t51<|aj t59<|Z5
def Tryz.F1o:=aj t1<|aj t2<|aj t3<|aj t4<|t33
def Tryz.F1p:=aj t3<|aj t33<|t161
def Tryz.F1q:=aj t1<|aj t2<|aj t3<|aj t33<|t161
def Tryz.F0M:=aj t1<|aj t2<|aj t3<|aj t4<|aj t5<|aj t6<|aj Z3<|aj t33<|aj t51<|aj t59<|aj Z5<|t161
def keyB(N n:Nat)(R Q:Nat->List Int)(s w:Int)(i:Nat):Int:=mP N n R Q i s w
def ng(N n:Nat)(R Q:Nat->List Int)(s w a:Int):List Nat:=(iF (keyB N n R Q s w) (n-1) (Xg n)).take (min (max a 1).toNat n)
theorem Ar{hq:Hp}{m N:Nat}{p:Value}{l:List Int}{R Q:Nat->List Int}(t:TabAt hq m p N l R Q)(f: ∀i,i<l.length->(R i).length=N)(k: ∀i,i<l.length->(Q i).length=N)(o:l.length<1000){s w:Int}{b4 b5 b6:Nat}(c:hq.load b4 0 1=some [p])(d:hq.load b5 0 1=some [.int .i64 s])(e:hq.load b6 0 1=some [.int .i64 w]):
 CmpF zM hq 83 [ptrTo b4,ptrTo b5,ptrTo b6] l.length (keyB N l.length R Q s w):=by
 intro h g i j C D
 have E:Fl p:=by obtain⟨b,_,_,_,rfl,_⟩:=t.ex;exact ct
 have S:=Si g.ok
 have r:=bJ g.ok (g.load c)
 have u:=bJ g.ok (g.load d)
 have v:=bJ g.ok (g.load e)
 refine ac (n:=19) (rs:=[.tmp 7]) rfl Tryz.e83 rfl rfl rfl (lbt rfl) ?_
 simp only [BS,LB]
 refine aw (aB rfl) (q:=0) (ps:=[(4,8),(4,7),(4,5)]) (by kernel_rfl) ?_
 simp only [BS,LB,cls,Nat.reduceLT,Nat.reduceEqDiff,Nat.reduceAdd,Nat.reducePow,Nat.reduceDiv,Nat.reduceMod,Nat.reduceLeDiff,F0L,g.load c,g.load d,g.load e]
 refine bZ (vV S.ok ((t.gr g).gr S.gr) f k o) ?_
 intro F a
 have x:=aq a r
 have y:=aq a u
 have z:=aq a v
 replace S:=S.call a
 simp only [BS,LB,cls,Nat.reduceLT,Nat.reduceEqDiff,Nat.reduceAdd,Nat.reducePow,Nat.reduceDiv,Nat.reduceMod,Nat.reduceLeDiff,F0L,a.load (g.load c),a.load (g.load d),a.load (g.load e)]
 refine bZ (vV S.ok ((t.gr g).gr S.gr) f k o) ?_
 intro G A
 replace S:=S.call A
 simp only [BS,LB,cls,Nat.reduceLT,Nat.reduceEqDiff,Nat.reduceAdd,Nat.reducePow,Nat.reduceDiv,Nat.reduceMod,Nat.reduceLeDiff]
 refine bZ (xy S.ok) ?_
 intro H B
 replace S:=S.call B
 simp only [BS,LB,cls,ab,Nat.reduceLT,Nat.reduceEqDiff,Nat.reduceAdd,Nat.reducePow,Nat.reduceDiv,Nat.reduceMod,Nat.reduceLeDiff]
 refine⟨by simp only [bz,bG,aW,bM,a8,ne_eq,not_false_eq_true,bS,cD,bD,bw,ca,c9,aO,Nat.reduceLT,Nat.reduceEqDiff,reduceIte,Xa,ae,bV,aI x,aI y,aI z],?_⟩
 exact⟨rfl,S.gr⟩
theorem insNil_ok{h0:Hp}(a:h0.t.Sized h0.n){v:Value}:aK zM 255 [.slice none 0 0,.int .i64 0,.int .i64 0,v] h0 (.tuple #[]):=by
 have S:=Si a
 have b:an .i64 1=1:=rfl
 have c: ¬(1:Int)<0:=by decide
 refine ac (n:=53) (rs:=[]) rfl Tryz.e255 rfl rfl rfl (lbt rfl) ?_
 simp only [BS,LB,Nat.reduceLT,Nat.reduceEqDiff,Int.reduceAdd,b]
 rw [cd]
 simp only [BS,LB,ab,Nat.reduceLT,Nat.reduceEqDiff,c]
 exact S.gr
theorem zK{h0:Hp}(c:h0.t.Sized h0.n){m:Nat}{g:FuncId}{post:Array Value}:aK zM 82 [.slice none 0 0,.int .i64 (m:Nat),.func (.func g) #[] post] h0 (.slice none 0 0):=by
 have S:=Si c
 have d:aK zM 55 [.slice none 0 0] h0 (.slice none 0 0):=by
  refine ac (n:=8) (rs:=[.tmp 2]) rfl Tryz.e55 rfl rfl rfl (lbt rfl) ?_
  simp only [BS,LB,ab,Nat.reduceLT,Nat.reduceEqDiff,F1o]
  exact S.gr
 have e:min (m:Int) 0=0:=by omega
 have f: ¬(20:Int)<=0:=by decide
 have i: ¬(20:Int)<0:=by decide
 have j: ∀{h:Hp},h.t.Sized h.n->aK zM 158 [.slice none 0 0,.func (.func g) #[] post] h (.tuple #[]):=fun {h} a=>by
  have S:=Si a
  have k:aK zM 222 [.slice none 0 0,.int .i64 0,.func (.func g) #[] post] h (.tuple #[]):=by
   refine ac (n:=63) (rs:=[]) rfl Tryz.e222 rfl rfl rfl (lbt rfl) ?_
   simp only [BS,LB,Nat.reduceLT,Nat.reduceEqDiff]
   rw [cd]
   simp only [BS,LB,Nat.reduceLT,Nat.reduceEqDiff,f]
   refine am (insNil_ok S.ok) ?_;intro h g;replace S:=S.call g;clear g
   simp only [BS]
   rw [cd]
   simp only [BS,LB,ab,Nat.reduceLT,Nat.reduceEqDiff,i]
   exact S.gr
  refine ac (n:=9) (rs:=[]) rfl Tryz.e158 rfl rfl rfl (lbt rfl) ?_
  simp only [BS,LB,Nat.reduceLT,Nat.reduceEqDiff,Xp,F1p]
  refine am k ?_;intro p l;replace S:=S.call l
  simp only [BS,LB,ab]
  exact S.gr
 have o:eW zM 33 (.slice none 0 0) none (some (.int .i64 0)) none=some (.slice none 0 0):=by
  simp only [eW,Tryz.t33.1,Tryz.t3.2.2.1,eI,eC]
  rfl
 refine ac (n:=18) (rs:=[.tmp 6]) rfl Tryz.e82 rfl rfl rfl (lbt rfl) ?_
 simp only [BS,LB,Nat.reduceLT,Nat.reduceEqDiff]
 refine am d ?_;intro h b;replace S:=S.call b
 simp only [BS,LB,Nat.reduceLT,Nat.reduceEqDiff]
 refine am (j S.ok) ?_;intro h b;replace S:=S.call b
 simp only [BS,LB,ab,Nat.reduceLT,Nat.reduceEqDiff,Xp,Xz,XO,F1q,e,o]
 exact S.gr
theorem Bm{h0:Hp}(K:h0.t.Sized h0.n){m N:Nat}{p:Value}{l:List Int}{R Q:Nat->List Int}(t:TabAt h0 m p N l R Q)(L: ∀i,i<l.length->(R i).length=N)(M: ∀i,i<l.length->(Q i).length=N)(Z:l.length<=16){s w a:Int}:
 Ret zM 29 [p,.int .i64 s,.int .i64 w,.int .i64 a] h0 fun r z=>Gr h0 z/\av z 1 ce r (ng N l.length R Q s w a)/\ ∀c,ar r c->h0.n<=c:=by
 have S:=Si K
 have fp:Fl p:=by obtain⟨b,_,_,_,rfl,_⟩:=t.ex;exact ct
 obtain⟨mk,f⟩: ∃k:Nat,max a 1=(k:Int):=⟨(max a 1).toNat,by omega⟩
 have q:(max a 1).toNat=mk:=by omega
 refine ac (n:=27) (rs:=[.tmp 8]) rfl Tryz.e29 rfl rfl rfl (lbt rfl) ?_
 simp only [BS,Nat.reduceLT]
 refine ag (bN (by assumption)) S ?_;clear S;intro h b4 S E
 simp only [BS,Nat.reduceLT,Nat.reduceEqDiff,if_false]
 refine ag (bN (by exact bU)) S ?_;clear S;intro h b5 S F
 simp only [BS,Nat.reduceLT,Nat.reduceEqDiff,if_false]
 refine ag (bN (by exact bU)) S ?_;clear S;intro h b6 S G
 simp only [BS,LB,Nat.reduceLT,Nat.reduceEqDiff,F0M,S.ld (b:=b4) (o:=0) m2 rfl]
 have k0:=S.fr.n
 refine step_ret (mE S.ok (t.gr S.gr) (by omega)) ?_
 rintro r h ⟨g,O,A⟩
 replace S:=S.call g
 simp only [BS,LB,Nat.reduceLT,Nat.reduceEqDiff,F0M,O.lenq]
 replace S:=S.nilG (k:=1)
 refine aQ (fun(i:Nat) d h=>i<=l.length/\ ∃u,St NoM h0 h [(b6,.row [.int .i64 w] 1),(b5,.row [.int .i64 s] 1),(b4,.row [p] 1)] [(u,1,eA (Xg i))]/\(i=0->u=.slice none 0 0)/\d 3=.int .i64 a/\d 4=ptrTo b4/\d 5=ptrTo b5/\d 6=ptrTo b6/\d 9=u/\d 13=.int .i64 (l.length:Nat)/\d 14=.int .i64 i) (fun i=>l.length-i) ?_ 0 _ _ ?_
 . clear S
   intro i P d h ⟨hi,u,S,hv,r3,r4,r5,r6,r9,r13,r14⟩
   have T:an .i64 ((i:Int)+1)=((i+1:Nat):Int):=by rw [wrap64]<;>omega
   by_cases hlt:i<l.length
   . simp only [BS,LB,Nat.reduceLT,Nat.reduceEqDiff,r9,r13,r14,aA,hlt]
     refine ag (bI (by exact Tryz.t33.1) (by exact Xr) (by decide) (by rfl)) S ?_;clear S;intro h H S I;simp only [LC,aT,bA,ah,Nat.reduceMul,Nat.reduceAdd,Xt,Xu,Xn,Xx]at S
     simp only [BS,LB,Nat.reduceLT,Nat.reduceEqDiff]
     have v:aJ h 1 (.slice (some ⟨H,0,none⟩) 1 1)=some (1,[.int .i64 (i:Nat)]):=by simp only [aJ];rw [S.lds (b:=H) (o:=0) (n:=1*1) m0 (lbt rfl)];rfl
     replace S:=S.drop1
     refine dA (S.grow (j:=0) (m:=1) (new:=[.int .i64 (i:Nat)]) rfl Tryz.t33.1 Xr (by decide) Tryz.t33.2.2.2.2.2 v rfl (by decide) rfl (by rw [mi];simp;omega)) ?_
     clear S v;rintro h B S
     simp only [LC]at S
     have e:eA (Xg i)++[.int .i64 (i:Nat)]=eA (Xg (i+1)):=by unfold eA;rw [XP,XQ];rfl
     rw [e]at S
     simp only [BS,LB,Nat.reduceLT,Nat.reduceEqDiff,r14,T]
     exact P (i+1) _ _ (by omega) ⟨by omega,B,S,fun h=>(by omega),by simp [aa,r3],by simp [aa,r4,ae],by simp [aa,r5,ae],by simp [aa,r6,ae],by simp [aa],by simp [aa,r13],by simp [aa]⟩
   . have U:i=l.length:=by omega
     subst U
     simp only [BS,LB,Nat.reduceLT,Nat.reduceEqDiff,r3,r4,r5,r6,r9,r13,r14,aA,hlt]
     by_cases C:l.length=0
     . have V:=hv C
       subst V
       have J:=S.fr.n
       rw [f]
       refine am (zK S.ok) ?_
       intro z g
       replace S:=S.call g
       simp only [BS,LB,ab,Nat.reduceLT,Nat.reduceEqDiff]
       refine⟨S.gr,.inl ⟨rfl,?_⟩,fun c A=>A.elim⟩
       unfold ng
       rw [C];simp
     . have W:av h 1 ce u (Xg l.length):=(S.gown _ m0).1.sl (rU _).symm dG (by decide)
       have J:=S.fr.n
       have X:=Ar (t.gr S.gr) L M (by omega) (s:=s) (w:=w) (b4:=b4) (b5:=b5) (b6:=b6) (S.ld m2 rfl) (S.ld m1 rfl) (S.ld m0 rfl)
       rw [f]
       refine step_ret (first_ok (N:=l.length) (m:=mk) (Gr.refl S.ok) W (by intro e;have:=congrArg List.length e;rw [List.length_range]at this;exact C this) (by simp;omega) (fun x Y=>List.mem_range.1 Y) X (by omega)) ?_
       rintro r z ⟨g,y,D⟩
       replace S:=S.call g
       simp only [BS,LB,ab,Nat.reduceLT,Nat.reduceEqDiff]
       rw [List.length_range]at y
       exact⟨S.gr,by unfold ng;rw [q];exact y,fun c A=>Nat.le_trans J (D c A)⟩
 . exact⟨Xy _,_,S,fun _=>rfl,by simp [aa,bV],by simp [aa,ae],by simp [aa,ae],by simp [aa,ae],by simp [aa],by simp [aa],by simp [aa]⟩
theorem pair_none{x:Option Tch}:jd none x=true:=by cases x<;>rfl
structure TabO(E:Env)(h0:Hp)(pt:Value)(nd mk:Nat)(gM gN:FuncId):Prop where
 fl:Fl pt
 marks: ∀h,Gr h0 h->Ret E gM [pt] h fun r h'=>Gr h h'/\ ∃l:List Int,av h' 1 (encI .i64) r l/\l.length=mk
 nodes: ∀h,Gr h0 h->aK E gN [pt] h (.int .i64 (nd:Nat))
def Tryz.F0N:=aj t1<|aj t2<|aj t3<|aj t4<|aj t33<|aj t51<|aj t59<|aj Z5<|aj t137<|t217
def Tryz.F1r:=aj t1<|aj t2<|aj t3<|aj t33<|aj t51<|aj t59<|Z5
def Tryz.FH:=aj t1<|aj t2<|aj t3<|aj t4<|aj t5<|aj t6<|aj t9<|aj t15<|aj t17<|aj t24<|aj t33<|aj t51<|aj t59<|aj Z5<|aj t213<|aj t217<|Z19
theorem gp.keep{h e:Hp}{m n:Nat}{v:Value}{R:Nat->List Int}(f:h.t.Sized h.n)(g:dT h e)(r:gp h m v n R):gp e m v n R:=by
 obtain⟨k,a,b,c,d⟩:=r
 exact⟨k,a.keep f g,b,c,fun i w j=>⟨(d i w j).1.keep f g,(d i w j).2⟩⟩
theorem TabAt.keep{h c:Hp}{m N:Nat}{p:Value}{l:List Int}{R Q:Nat->List Int}(a:h.t.Sized h.n)(g:dT h c)(t:TabAt h m p N l R Q):TabAt c m p N l R Q:=by
 obtain⟨b,d,f,i,e,j,k,n,o,q,r⟩:=t.ex
 exact⟨b,d,f,i,e,g.row a j,k.keep a g,n.keep a g,o.keep a g,q,r⟩
theorem bEach_ok{h0:Hp}(f:h0.t.Sized h0.n){c d:Value}(g:Fl c)(i:Fl d):Ret zM 126 [c,d] h0 fun v e=>Gr h0 e/\ ∃b1 b2,v=.func (.func 206) #[] #[ptrTo b1,ptrTo b2]/\h0.n<=b1/\h0.n<=b2/\e.load b1 0 1=some [c]/\e.load b2 0 1=some [d]:=by
 have S:=Si f
 refine ac (n:=6) (rs:=[.tmp 4]) rfl Tryz.e126 rfl rfl rfl (lbt rfl) ?_
 simp only [BS,Nat.reduceLT]
 refine ag (bN (by assumption)) S ?_;clear S;intro h b1 S a
 simp only [BS,Nat.reduceLT,Nat.reduceEqDiff,if_false]
 refine ag (bN (by assumption)) S ?_;clear S;intro h b2 S b
 simp only [BS,LB,ab,Nat.reduceLT,Nat.reduceEqDiff]
 exact⟨S.gr,b1,b2,rfl,a,b,S.ld m1 rfl,S.ld m0 rfl⟩
def TellF(E:Env)(hq:Hp)(g:FuncId)(post:List Value)(N:Nat)(f:Nat->Int):Prop:= ∀h,h.t.Sized h.n->dT hq h-> ∀v,v<N->aK E g ([.int .i64 (v:Nat)]++post) h (.int .i64 (f v))
theorem bEach_it{hq h0:Hp}(k:hq.t.Sized hq.n)(e:h0.t.Sized h0.n)(u:dT hq h0)(x:hq.n<=h0.n){m N:Nat}{o:Value}{l:List Int}{R Q:Nat->List Int}(t:TabAt hq m o N l R Q)(O:N<=1000){b1 b2:Nat}{g:FuncId}{post:Array Value}{f:Nat->Int}(hf:TellF zM hq g post.toList N f)
 (C:h0.load b1 0 1=some [o]) (D:h0.load b2 0 1=some [.func (.func g) #[] post]):
 kU zM 206 [] [ptrTo b1,ptrTo b2] h0 (fun c=>c=b1\/c=b2\/c<hq.n) ((Xg N).map fun(v:Nat)=>[.int .i64 (f v)]):=by
 intro E J Z G Y h F s j
 have y:=s.load e C (.inl rfl)
 have P:Fl o:=by obtain⟨b,_,_,_,rfl,_⟩:=t.ex;exact ct
 refine enter (n:=17) (rs:=[]) rfl Tryz.e206 rfl rfl rfl (lbt rfl) ?_
 simp only [BS,LB,Nat.reduceLT,F0N,y]
 refine am (pO s.ok (t.keep k (s.keep u x (fun c p=>.inr (.inr p))))) ?_
 intro S q
 have z:=s.gr q
 have A:=Y.gr _ _ _ _ j q
 simp only [BS]
 refine aQ (fun(i:Nat) d h=>i<=N/\ ∃F,ItS h0 (fun c=>c=b1\/c=b2\/c<hq.n) h F/\J i h F/\d 0=.func (.yield E) #[] #[]/\d 1=ptrTo b1/\d 2=ptrTo b2/\d 6=.int .i64 (N:Nat)/\d 7=.int .i64 i) (fun i=>N-i) ?_ 0 _ _ ?_
 . clear y s j z A F q h
   intro i H d h ⟨hi,F,s,j,r0,r1,r2,r6,r7⟩
   have w:an .i64 ((i:Int)+1)=((i+1:Nat):Int):=by rw [wrap64]<;>omega
   by_cases hlt:i<N
   . have I:=s.load e D (.inr (.inl rfl))
     have K:((Xg N).map fun(v:Nat)=>[Value.int .i64 (f v)])[i]? =some [.int .i64 (f i)]:=by rw [Xs,XZ hlt];rfl
     simp only [BS,LB,Nat.reduceLT,Nat.reduceEqDiff,F0N,r0,r2,r6,r7,aA,hlt,I]
     refine am (hf _ s.ok (s.keep u x (fun c p=>.inr (.inr p))) i hlt) ?_
     intro T B
     simp only [BS,LB,Nat.reduceLT,Nat.reduceEqDiff]
     refine cH Y (s.gr B) (Y.gr _ _ _ _ j B) (i:=i) K ?_ ?_ ?_
     . intro r L a M _ _
       simp only [BS,LB,Nat.reduceLT,Nat.reduceEqDiff,r7,w]
       exact H (i+1) _ _ (by omega) ⟨by omega,L,M,a,by simp [aa,r0],by simp [aa,r1,ae],by simp [aa,r2,ae],by simp [aa,r6],by simp [aa]⟩
     . intro r a _
       simp only [BS,LB,Nat.reduceLT,Nat.reduceEqDiff]
       exact fm rfl ⟨rfl,.inr (.inl ⟨_,rfl,a⟩)⟩
     . intro v r a
       exact absurd a (G v r)
   . simp only [BS,LB,Nat.reduceLT,r6,r7,aA,hlt]
     have:i=N:=by omega
     subst this
     exact bT (cG ⟨rfl,_,rfl,rfl,.inl ⟨_,F,rfl,by simpa using j⟩⟩)
 . exact⟨Xy _,F,z,A,by simp [aa,bV],by simp [aa,bV,ae],by simp [aa,bV,ae],by simp [aa],by simp [aa]⟩
theorem pi1_ok{hq:Hp}{m N:Nat}{p:Value}{l:List Int}{R Q:Nat->List Int}(a:hq.t.Sized hq.n)(t:TabAt hq m p N l R Q)(g: ∀i,i<l.length->(R i).length=N)(j: ∀i,i<l.length->(Q i).length=N)(o:l.length<1000){e:Value}{c:List Int}(f:av hq 1 (encI .i64) e c)(d:c.length<1000){w:Int}{b3 b4 b5:Nat}(q:hq.load b3 0 1=some [p])(r:hq.load b4 0 1=some [e])(s:hq.load b5 0 1=some [.int .i64 w]):
 TellF zM hq 153 [ptrTo b3,ptrTo b4,ptrTo b5] N (fun v=>nZ N l.length R Q v w c):=by
 intro h u k v y
 have z:Fl p:=by obtain⟨b,_,_,_,rfl,_⟩:=t.ex;exact ct
 have A:=f.fl
 have S:=Si u
 refine ac (n:=11) (rs:=[.tmp 5]) rfl Tryz.e153 rfl rfl rfl (lbt rfl) ?_
 simp only [BS,LB,Nat.reduceLT,Nat.reduceEqDiff,F1r,k.load a q,k.load a r,k.load a s]
 refine am (bBest_ok S.ok (t.keep a k) g j o (f.keep a k) d) ?_
 intro B x
 replace S:=S.call x
 simp only [BS,LB,ab,Nat.reduceLT,Nat.reduceEqDiff]
 exact S.gr
theorem bPi_ok{h0:Hp}(ok:h0.t.Sized h0.n){m N:Nat}{p:Value}{l:List Int}{R Q:Nat->List Int}(t:TabAt h0 m p N l R Q)(Z: ∀i,i<l.length->(R i).length=N)(hQ: ∀i,i<l.length->(Q i).length=N)(hl:l.length<1000)(hN:N<=1000){va:Value}{f:List Int}(ha:av h0 1 (encI .i64) va f)(I:f.length<1000){w:Nat}(hw:w<N):
 Ret zM 73 [p,va,.int .i64 (w:Nat)] h0 fun r z=>Gr h0 z/\av z 1 (encI .i64) r ((Xg N).map fun(v:Nat)=>nZ N l.length R Q v w f)/\ ∀c,ar r c->h0.n<=c:=by
 have fp:Fl p:=by obtain⟨b,_,_,_,rfl,_⟩:=t.ex;exact ct
 have fa:=ha.fl
 have S:=Si ok
 have c0:0<=(w:Int)/\(w:Int)<(N:Int):=by omega
 refine ac (n:=21) (rs:=[.cell 6 24]) rfl Tryz.e73 rfl rfl rfl (lbt rfl) ?_
 simp only [BS,Nat.reduceLT]
 refine ag (bN (by assumption)) S ?_;clear S;intro h b3 S ad
 simp only [BS,Nat.reduceLT,Nat.reduceEqDiff,if_false]
 refine ag (bN (by assumption)) S ?_;clear S;intro h b4 S af
 simp only [BS,Nat.reduceLT,Nat.reduceEqDiff,if_false]
 refine ag (bN (by exact bU)) S ?_;clear S;intro h b5 S ai
 have A:=S.gr
 have J:=S.ld (b:=b3) (o:=0) m2 rfl
 have l4:=S.ld (b:=b4) (o:=0) m1 rfl
 have l5:=S.ld (b:=b5) (o:=0) m0 rfl
 have q:=S.ok
 clear S
 rename Hp=>hq
 have S:=Si q
 simp only [BS,FH]
 refine ag ax S ?_;clear S;intro h d S ak
 simp only [BS,LB,Nat.reduceLT,Nat.reduceEqDiff,FH,S.old J (fun h=>h),S.old l5 (fun h=>h)]
 refine am (ij S.ok ((t.gr A).gr S.gr)) ?_
 intro h g;replace S:=S.call g;clear g
 have dc:decide (0<=(w:Int)/\(w:Int)<(N:Int))=true:=decide_eq_true c0
 simp only [BS,LB,Nat.reduceLT,Nat.reduceEqDiff,FH,dc,S.old J (fun h=>h)]
 have tf:=pi1_ok q (t.gr A) Z hQ hl (ha.gr A) I J l4 l5
 have aL:=(S.row (b:=d) m0).lt S.ok
 refine step_ret (bEach_ok S.ok fp gY) ?_
 rintro r h ⟨g,K,M,rfl,n1,n2,y1,y2⟩
 replace S:=S.call g;clear g
 have O:=bEach_it q S.ok S.gr.keep S.fr.n (t.gr A) hN tf y1 y2
 have kn:=S.fr.n
 have kG:=A.n
 have z1:=bJ S.ok y1
 have z2:=bJ S.ok y2
 rename Hp=>hE
 have S1:=S
 have P:=S.ok
 have l6:=(S.row (b:=d) m0).lt P
 simp only [BS]
 replace S:=S.base
 replace S:=S.nilG (k:=1)
 generalize B:((Xg N).map fun(v:Nat)=>nZ N l.length R Q v w f)=xs
 have a0:xs.length=N:=by rw [<-B];simp
 replace O:kU zM 206 [] [ptrTo K,ptrTo M] hE (fun c=>c=K\/c=M\/c<hq.n) (xs.map fun x=>[.int .i64 x]):=by rw [<-B,List.map_map];exact O
 refine fT S (g:=206) (a:=#[]) (b:=#[ptrTo K,ptrTo M]) (by simp [ca,aa,ae]) rfl rfl ?_
 intro h2 H C s a1 a2 g2
 obtain⟨X,hX,s⟩: ∃X:ez,X=_/\St (· ∈[d]) hE h2 [(C,.loop X),(H,.dfr),(d,.row [.slice none 0 0] 1)] [(.slice none 0 0,1,[])]:=⟨_,rfl,s⟩
 have hJ:Yld zM C (fun k z F=> ∃(e:Value),St (· ∈[d]) hE z [(C,.loop X),(H,.dfr),(d,.row [e] 1)] [(e,1,ints (xs.take k))]/\k<=xs.length/\F=keys [(C,.loop X),(H,.dfr),(d,.row [e] 1)] [(e,1,ints (xs.take k))]) (fun _ _=>False) (xs.map fun x=>[.int .i64 x]):=by
  refine⟨?_,?_,fun _ _ h=>h.elim,?_⟩
  . rintro i h F ⟨e,S,_,rfl⟩;exact⟨S.ok,fun b u=>S.key_lt u⟩
  . rintro i h F z ⟨e,S,a,rfl⟩ gg;exact⟨e,S.call gg,a,rfl⟩
  . rintro i x Z F U ⟨e,S,a,rfl⟩
    have D:i<xs.length:=by
     have:=(List.getElem?_eq_some_iff.1 U).1
     simpa using this
    rw [Xs,Xd D]at U
    cases U
    have tk:ints (xs.take (i+1))=ints (xs.take i)++[.int .i64 xs[i]]:=by rw [List.take_add_one,Xd D];exact gy _ _
    have tl:(xs.take i).length<=i:=by rw [Xj];omega
    subst hX
    refine fS (S.get m0) (by rw [Tryz.e73];rfl) rfl ?_
    have S0:=S
    replace S:=S.base
    simp only [BS,LB,Nat.reduceLT,Nat.reduceEqDiff]
    refine eX S (i:=0) rfl rfl rfl rfl rfl ?_
    clear S;intro h S
    simp only [LC]at S
    simp only [BS,LB,Nat.reduceLT,Nat.reduceEqDiff,FH,S.ld (b:=d) (o:=0) m2 rfl]
    refine ag (bI (by exact Tryz.t24.1) (by exact Tryz.e2E) (by decide) (by rfl)) S ?_;clear S;intro h bs S al;simp only [LC,aT,bA,ah,Nat.reduceMul,Nat.reduceAdd,Xt,Xu,Xn,Xx]at S
    simp only [BS,LB,Nat.reduceLT,Nat.reduceEqDiff]
    have E:aJ h 1 (.slice (some ⟨bs,0,none⟩) 1 1)=some (1,[.int .i64 xs[i]]):=by simp only [aJ];rw [S.lds (b:=bs) (o:=0) (n:=1*1) m0 (lbt rfl)];rfl
    replace S:=S.drop1
    refine dA (S.grow (j:=0) (m:=1) (new:=[.int .i64 xs[i]]) rfl Tryz.t24.1 Tryz.e2E (by decide) Tryz.t24.2.2.2.2.2 E rfl (by decide) rfl (by rw [cq];simp;omega)) ?_
    clear S E;rintro h G S
    simp only [LC]at S
    have V:Fl G:=(S.gown _ m0).1.fl
    simp only [BS,LB,Nat.reduceLT,Nat.reduceEqDiff]
    refine ay (az S (i:=2) rfl Tryz.t24.2.2.1 V (Xl (lbt rfl)) ono) ?_
    clear S;rintro h ⟨S,_⟩
    simp only [LC]at S
    simp only [BS]
    refine dE S (i:=0) rfl ?_
    clear S;intro h S
    simp only [LC]at S
    rw [<-tk]at S
    exact .inl ⟨rfl,_,⟨G,S0.rebase S,by omega,rfl⟩,S.fr,fun c W=>(S.key_own W).symm⟩
 refine eB (O C _ _ (fun _ _ h=>h) hJ h2 _ ?_ ⟨_,s,Xy _,rfl⟩) fun o rc z y=>iI y ?_
 . refine⟨s.ok,s.fr.n,fun b u hd=>g2.get b u,fun b u h=>?_,fun b u=>s.key_lt u⟩
   rcases s.key_own u with h1|h1
   . omega
   . have:=List.mem_singleton.1 h1
     omega
 . rintro F ⟨e,T,b,rfl⟩
   rw [XR,XK]at T
   subst hX
   refine⟨_,T.get m0,Nat.zero_ne_one,?_⟩
   replace T:=T.dead
   have S:=T
   show Run _ _ _ _ _ _ _ _
   simp only [BS,LB,Nat.reduceLT,Nat.reduceEqDiff,FH,S.ld (b:=d) (o:=0) m1 rfl]
   have V:Fl e:=(T.gown _ m0).1.fl
   clear S
   refine ay (az T (i:=1) rfl Tryz.t24.2.2.1 V (Xl (lbt rfl)) ono) ?_
   clear T;rintro h3 ⟨T,_⟩
   simp only [List.set_cons_zero,List.set_cons_succ]at T
   simp only [BS]
   refine dC (fi [H] _ (L:=[(d,_)]) T.base fun h4 Y=>?_)
   refine⟨rfl,(dg (by decide) (by simp only [aO,ae,Nat.reduceEqDiff,reduceIte];exact iM Tryz.t24.2.1 (Y.ld (b:=d) (o:=0) m0 rfl))).2 (dV.2 ⟨A.trans ((S1.rebase T).rebase Y).gr,(Y.gown _ m0).1.sl rfl (fun _=>rfl) (by decide),fun c W=>?_⟩)⟩
   rcases(T.gblk m0 W).1 with h|h
   . omega
   . have:=List.mem_singleton.1 h
     omega
def Tryz.F1s:=aj t1<|aj t2<|aj t3<|aj t4<|aj t24<|aj t33<|aj t51<|aj t59<|Z5
def Tryz.F1t:=aj t1<|aj t2<|aj t3<|aj t4<|aj t24<|aj t33<|aj t51<|aj t59<|Z5
theorem Ai{h0:Hp}(b:h0.t.Sized h0.n):Ret zM 81 [.pointer none] h0 fun r a=>Gr h0 a/\ ∃l:List Int,av a 1 (encI .i64) r l/\l.length=0:=by
 have S:=Si b
 refine ac (n:=10) (rs:=[.tmp 2]) rfl Tryz.e81 rfl rfl rfl (lbt rfl) ?_
 simp only [BS,LB,ab,Nat.reduceLT,Nat.reduceEqDiff,F1s]
 exact⟨S.gr,[],.inl ⟨rfl,rfl⟩,rfl⟩
theorem zY{h0:Hp}(a:h0.t.Sized h0.n):aK zM 112 [.pointer none] h0 (.int .i64 ((0:Nat):Int)):=by
 have S:=Si a
 refine ac (n:=9) (rs:=[.tmp 2]) rfl Tryz.e112 rfl rfl rfl (lbt rfl) ?_
 simp only [BS,LB,ab,Nat.reduceLT,Nat.reduceEqDiff,Xp,F1t]
 exact S.gr
def TabQ(h:Hp)(b:Value)(a:Nat)(l:List Int)(R Q:Nat->List Int):Prop:=(∃m,TabAt h m b a l R Q/\(∀i,i<l.length->(R i).length=a)/\ ∀i,i<l.length->(Q i).length=a)\/(b=.pointer none/\a=0/\l=[])
theorem TabQ.gr{h c:Hp}{d:Value}{e:Nat}{l:List Int}{R Q:Nat->List Int}(t:TabQ h d e l R Q)(g:Gr h c):TabQ c d e l R Q:=t.imp (fun⟨m,a,b⟩=>⟨m,a.gr g,b⟩) (fun h=>h)
theorem TabQ.tabO{h:Hp}{d:Value}{e:Nat}{l:List Int}{R Q:Nat->List Int}(t:TabQ h d e l R Q)(f:l.length<1000):TabO zM h d e l.length 81 112:=by
 rcases t with⟨m,t,_,_⟩|⟨rfl,rfl,rfl⟩
 . refine⟨by obtain⟨b,_,_,_,rfl,_⟩:=t.ex;exact ct,fun x k=>(mE k.ok (t.gr k) f).mono fun r g ⟨a,b,c⟩=>⟨a,l,b,rfl⟩,fun x k=>pO k.ok (t.gr k)⟩
 . exact⟨ct,fun x k=>Ai k.ok,fun x k=>zY k.ok⟩
def ansV(c:Int)(d:Int)(vA a:Value):Value:=.agg ⟨[.int .i64 c,.int .i64 d,vA,a]⟩
end Go.Ab
end
section
namespace Go.Ab
open Go.Proofs
set_option maxRecDepth 10000
def Tryz.F1u:=aj t1<|aj t3<|aj t4<|aj Z9<|aj Z0<|aj t32<|aj t51<|aj t77<|aj t78<|aj Z11<|aj Z5<|aj t164<|aj Z12<|aj t189<|Z1
def Tryz.F06:=aj t1<|aj t3<|aj t4<|aj Z9<|aj t32<|aj t51<|aj t77<|aj t78<|aj Z11<|aj Z5<|aj t164<|aj Z12<|Z1
def Tryz.F1v:=aj t1<|aj t3<|aj t4<|aj Z9<|aj Z0<|aj t32<|aj t51<|aj t77<|aj t78<|aj Z11<|aj Z5<|aj t164<|aj Z12<|aj t189<|Z1
def Tryz.F1w:=aj t1<|aj t3<|aj t4<|aj Z9<|aj t32<|aj t51<|aj t77<|aj t78<|aj Z11<|aj Z5<|aj t164<|aj Z12<|Z1
def Tryz.F1x:=aj t1<|aj t2<|aj t3<|aj t4<|aj Z9<|aj t32<|aj t51<|aj t77<|aj t78<|aj Z11<|aj Z5<|aj t164<|aj Z12<|Z1
def Tryz.FT:=aj t1<|aj t2<|aj t3<|aj t4<|aj Z9<|aj Z0<|aj t32<|aj t33<|aj t51<|aj t59<|aj t77<|aj t78<|aj Z11<|aj Z5<|aj t164<|aj Z12<|aj t189<|Z1
def Tryz.F07:=aj t1<|aj t3<|aj t4<|aj t22<|aj Z9<|aj Z0<|aj t32<|aj t33<|aj t51<|aj t77<|aj t78<|aj Z11<|aj Z5<|aj t164<|aj Z12<|aj Z6<|aj t189<|aj Z1<|Z10
def sfC(b c d e:Value)(way f t a:Int):List Value:=[b,c,d,e,.int .i64 way,.int .i64 f,.int .i64 t,.int .i64 a]
section
variable{hq:Hp}{bq bp nb nd mk:Nat}{γ:Gra}{pc pf pt:Value}{way f t a:Int}{fitB:Bool}
theorem sfNet_ok(R:Row hq bq (sfC pc pf (ptrTo bp) pt way f t a) 1){b1:Nat}(b:hq.load b1 0 1=some [ptrTo bq]): ∀h,Gr hq h->aK zM 171 [ptrTo b1] h (.bool true):=by
 intro h g
 have S:=Si g.ok
 have c:=(R.gr g).load1 (o:=2) rfl
 refine ac (n:=7) (rs:=[.tmp 1]) rfl Tryz.e171 rfl rfl rfl (lbt rfl) ?_
 simp only [BS,LB,ab,Nat.reduceLT,Nat.reduceEqDiff,F1u,g.load b,c]
 exact S.gr
theorem sfWay_ok(R:Row hq bq (sfC pc pf (ptrTo bp) pt way f t a) 1){b1:Nat}(c:hq.load b1 0 1=some [ptrTo bq]): ∀h,Gr hq h->aK zM 172 [ptrTo b1] h (.bool (decide (way=4\/way=5))):=by
 intro h g
 have S:=Si g.ok
 have d:=(R.gr g).load1 (o:=4) rfl
 refine ac (n:=16) (rs:=[.tmp 1]) rfl Tryz.e172 rfl rfl rfl (lbt rfl) ?_
 by_cases b:way=4
 . simp only [BS,LB,ab,Nat.reduceLT,Nat.reduceEqDiff,F06,g.load c,d,b]
   exact⟨by simp [b],S.gr⟩
 . by_cases e:way=5
   . subst e
     simp only [BS,LB,ab,Nat.reduceLT,Nat.reduceEqDiff,F06,g.load c,d,(by decide: ¬(5:Int)=4)]
     exact⟨by simp,S.gr⟩
   . simp only [BS,LB,ab,Nat.reduceLT,Nat.reduceEqDiff,F06,g.load c,d,b,e]
     exact⟨by simp [b,e],S.gr⟩
theorem ui(c:aV hq nb (ptrTo bp) γ)(R:Row hq bq (sfC pc pf (ptrTo bp) pt way f t a) 1){v:Int}: ∀h,Gr hq h->aK zM 174 [ptrTo bq,.int .i64 v] h (.bool (decide (0<=v/\v<γ.nodes))):=by
 intro h g
 have S:=Si g.ok
 have d:=(R.gr g).load1 (o:=2) rfl
 refine ac (n:=16) (rs:=[.tmp 4]) rfl Tryz.e174 rfl rfl rfl (lbt rfl) ?_
 by_cases b:0<=v
 . simp only [BS,LB,Nat.reduceLT,Nat.reduceEqDiff,F1v,d,b]
   refine am (cC S.ok ((c.gr g).gr S.gr)) ?_;intro h g;replace S:=S.call g;clear g
   simp only [BS,LB,ab,Nat.reduceLT,Nat.reduceEqDiff]
   exact S.gr
 . simp only [BS,LB,ab,Nat.reduceLT,Nat.reduceEqDiff,b]
   exact⟨by simp [b],S.gr⟩
theorem sfFrom_ok(b:aV hq nb (ptrTo bp) γ)(R:Row hq bq (sfC pc pf (ptrTo bp) pt way f t a) 1){b1:Nat}(c:hq.load b1 0 1=some [ptrTo bq]): ∀h,Gr hq h->aK zM 173 [ptrTo b1] h (.bool (decide (0<=f/\f<γ.nodes))):=by
 intro h g
 have S:=Si g.ok
 have d:=(R.gr g).load1 (o:=5) rfl
 refine ac (n:=9) (rs:=[.tmp 1]) rfl Tryz.e173 rfl rfl rfl (lbt rfl) ?_
 simp only [BS]
 refine aw (aB rfl) (q:=0) (ps:=[]) (by kernel_rfl) ?_
 simp only [BS,LB,cls,Nat.reduceLT,Nat.reduceEqDiff,Nat.reduceAdd,Nat.reducePow,Nat.reduceDiv,Nat.reduceMod,Nat.reduceLeDiff,F1w,g.load c,d]
 refine bZ (ui b R _ (g.trans S.gr)) ?_
 intro i e
 replace S:=S.call e
 simp only [BS,LB,cls,ab,Nat.reduceLT,Nat.reduceEqDiff,Nat.reduceAdd,Nat.reducePow,Nat.reduceDiv,Nat.reduceMod,Nat.reduceLeDiff]
 exact S.gr
theorem sfTo_ok(b:aV hq nb (ptrTo bp) γ)(R:Row hq bq (sfC pc pf (ptrTo bp) pt way f t a) 1){b1:Nat}(c:hq.load b1 0 1=some [ptrTo bq]): ∀h,Gr hq h->aK zM 175 [ptrTo b1] h (.bool (decide (0<=t/\t<γ.nodes))):=by
 intro h g
 have S:=Si g.ok
 have d:=(R.gr g).load1 (o:=6) rfl
 refine ac (n:=9) (rs:=[.tmp 1]) rfl Tryz.e175 rfl rfl rfl (lbt rfl) ?_
 simp only [BS]
 refine aw (aB rfl) (q:=0) (ps:=[]) (by kernel_rfl) ?_
 simp only [BS,LB,cls,Nat.reduceLT,Nat.reduceEqDiff,Nat.reduceAdd,Nat.reducePow,Nat.reduceDiv,Nat.reduceMod,Nat.reduceLeDiff,F1x,g.load c,d]
 refine bZ (ui b R _ (g.trans S.gr)) ?_
 intro i e
 replace S:=S.call e
 simp only [BS,LB,cls,ab,Nat.reduceLT,Nat.reduceEqDiff,Nat.reduceAdd,Nat.reducePow,Nat.reduceDiv,Nat.reduceMod,Nat.reduceLeDiff]
 exact S.gr
theorem Ao(u:aV hq nb (ptrTo bp) γ)(T:TabO zM hq pt nd mk 81 112)(R:Row hq bq (sfC pc pf (ptrTo bp) pt way f t a) 1): ∀h,Gr hq h->aK zM 237 [ptrTo bq] h (.bool (decide (0<mk/\nd=γ.nodes))):=by
 intro h g
 have w:=T.fl
 have S:=Si g.ok
 have z:=(R.gr g).lt g.ok
 have e:=(R.gr g).load1 (o:=3) rfl
 have v:=(R.gr g).load1 (o:=2) rfl
 refine ac (n:=23) (rs:=[.tmp 2]) rfl Tryz.e237 rfl rfl rfl (lbt rfl) ?_
 simp only [BS]
 refine aw (aB rfl) (q:=0) (ps:=[(12,16)]) (by kernel_rfl) ?_
 simp only [BS,LB,cls,Nat.reduceLT,Nat.reduceEqDiff,Nat.reduceAdd,Nat.reducePow,Nat.reduceDiv,Nat.reduceMod,Nat.reduceLeDiff,FT,e]
 refine da (T.marks _ (g.trans S.gr)) ?_
 rintro r x ⟨b,l,i,el⟩
 replace S:=S.call b
 have j:=aq b z
 by_cases k:0<mk
 . have d:(0:Int)<(l.length:Int):=by omega
   simp only [BS,LB,cls,Nat.reduceLT,Nat.reduceEqDiff,Nat.reduceAdd,Nat.reducePow,Nat.reduceDiv,Nat.reduceMod,Nat.reduceLeDiff,FT,i.lenq,d,b.load e]
   refine bZ (T.nodes _ (g.trans S.gr)) ?_
   intro y c
   have m:=aq c (zO z b.n)
   replace S:=S.call c
   simp only [BS,LB,cls,Nat.reduceLT,Nat.reduceEqDiff,Nat.reduceAdd,Nat.reducePow,Nat.reduceDiv,Nat.reduceMod,Nat.reduceLeDiff,FT,c.load (b.load v)]
   refine bZ (cC S.ok ((u.gr g).gr S.gr)) ?_
   intro A p
   have s:=aq p (zO z (b.trans c).n)
   replace S:=S.call p
   simp only [BS,LB,cls,ab,Nat.reduceLT,Nat.reduceEqDiff,Nat.reduceAdd,Nat.reducePow,Nat.reduceDiv,Nat.reduceMod,Nat.reduceLeDiff]
   refine⟨by simp only [bz,bG,aW,bM,a8,ne_eq,not_false_eq_true,bS,cD,bD,bw,ca,c9,aO,Nat.reduceLT,Nat.reduceEqDiff,reduceIte,Xa,ae,bV,aE j,aI j,aE m,aI m,aE s,aI s],?_⟩
   exact⟨by simp [k,Int.ofNat_inj],S.gr⟩
 . have d: ¬(0:Int)<(l.length:Int):=by omega
   simp only [BS,LB,cls,ab,Nat.reduceLT,Nat.reduceEqDiff,Nat.reduceAdd,Nat.reducePow,Nat.reduceDiv,Nat.reduceMod,Nat.reduceLeDiff,FT,i.lenq,d]
   exact⟨by simp only [bz,bG,aW,bM,a8,ne_eq,not_false_eq_true,Nat.reduceEqDiff,rE,pair_none,Xa],by simp [k],S.gr⟩
def iV(fitB:Bool)(way:Int)(mk nd N:Nat):Bool:=fitB&&(decide (way≠5)||decide (0<mk/\nd=N))
theorem sfFits_ok(i:aV hq nb (ptrTo bp) γ)(T:TabO zM hq pt nd mk 81 112)(R:Row hq bq (sfC pc pf (ptrTo bp) pt way f t a) 1)(m:Fl pc)(p:Fl pf)(F: ∀h,Gr hq h->aK zM 236 [ptrTo bp,pc,pf] h (.bool fitB)):
 ∀h,Gr hq h->aK zM 176 [ptrTo bq] h (.bool (iV fitB way mk nd γ.nodes)):=by
 intro h g
 have S:=Si g.ok
 have z:=(R.gr g).lt g.ok
 have j:=(R.gr g).load1 (o:=0) rfl
 have k:=(R.gr g).load1 (o:=1) rfl
 have l:=(R.gr g).load1 (o:=2) rfl
 have d:=(R.gr g).load1 (o:=4) rfl
 refine ac (n:=30) (rs:=[.tmp 2]) rfl Tryz.e176 rfl rfl rfl (lbt rfl) ?_
 simp only [BS]
 refine aw (aB rfl) (q:=0) (ps:=[]) (by kernel_rfl) ?_
 simp only [BS,LB,cls,Nat.reduceLT,Nat.reduceEqDiff,Nat.reduceAdd,Nat.reducePow,Nat.reduceDiv,Nat.reduceMod,Nat.reduceLeDiff,F07,j,k,l]
 refine bZ (F _ (g.trans S.gr)) ?_
 intro r b
 have s:=aq b z
 replace S:=S.call b
 cases fitB with
 | false=>
   simp only [BS,LB,cls,ab,Nat.reduceLT,Nat.reduceEqDiff,Nat.reduceAdd,Nat.reducePow,Nat.reduceDiv,Nat.reduceMod,Nat.reduceLeDiff]
   exact⟨by simp [iV],S.gr⟩
 | true=>
   by_cases c:way=5
   . simp only [BS,LB,cls,Nat.reduceLT,Nat.reduceEqDiff,Nat.reduceAdd,Nat.reducePow,Nat.reduceDiv,Nat.reduceMod,Nat.reduceLeDiff,F07,b.load d,c]
     refine bZ (Ao i T R _ (g.trans S.gr)) ?_
     intro u e
     have v:=aq e (zO z b.n)
     replace S:=S.call e
     simp only [BS,LB,cls,ab,Nat.reduceLT,Nat.reduceEqDiff,Nat.reduceAdd,Nat.reducePow,Nat.reduceDiv,Nat.reduceMod,Nat.reduceLeDiff]
     exact⟨by simp [iV],S.gr⟩
   . simp only [BS,LB,cls,ab,Nat.reduceLT,Nat.reduceEqDiff,Nat.reduceAdd,Nat.reducePow,Nat.reduceDiv,Nat.reduceMod,Nat.reduceLeDiff,F07,b.load d,c]
     exact⟨by simp [iV,c],S.gr⟩
end
end Go.Ab

end
section
namespace Go.Ab
open Go.Proofs
set_option maxRecDepth 10000
def Tryz.F1y:=aj t4<|aj Z9<|aj t32<|aj t45<|aj t51<|aj t54<|aj Z11<|aj t164<|aj Z12<|t252
structure Rs where
 g:FuncId
 pre:Array Value
 post:Array Value
 ok:Bool
 code:Int
def argS(r:Rs):List Value:=[.int .i64 r.code,.func (.func r.g) r.pre r.post]
def oN:List Rs->Int
 | []=>0
 |r::a=>if r.ok=true then oN a else r.code
theorem firstS_at{rs:List Rs}{i:Nat}{r:Rs}(h:rs[i]? =some r)(a: ∀q∈rs.take i,q.ok=true)(b:r.ok≠true):oN rs=r.code:=by
 induction rs generalizing i with
 |nil=>cases h
 | cons q rs c=>
   cases i with
   |zero=>cases h;unfold oN;rw [if_neg b]
   | succ i=>
     rw [oN,if_pos (a q (by simp))]
     exact c (by simpa using h) (fun x d=>a x (by simp [d]))
theorem AO{rs:List Rs}(h: ∀q∈rs,q.ok=true):oN rs=0:=by
 induction rs with
 |nil=>rfl
 |cons q rs a=>rw [oN,if_pos (h q (by simp))];exact a (fun x b=>h x (by simp [b]))
def sfRs(b1 bq:Nat)(okW okF okT okX:Bool):List Rs:=[⟨171,#[],#[ptrTo b1],true,1⟩,⟨172,#[],#[ptrTo b1],okW,16⟩,⟨173,#[],#[ptrTo b1],okF,17⟩,⟨175,#[],#[ptrTo b1],okT,18⟩,⟨176,#[ptrTo bq],#[],okX,19⟩]
theorem looks_ok{h0:Hp}(c:h0.t.Sized h0.n){bq:Nat}:Ret zM 89 [ptrTo bq] h0 fun v b=>Gr h0 b/\ ∃b1,v=.func (.func 170) #[] #[ptrTo b1]/\h0.n<=b1/\b.load b1 0 1=some [ptrTo bq]:=by
 have S:=Si c
 refine ac (n:=4) (rs:=[.tmp 2]) rfl Tryz.e89 rfl rfl rfl (lbt rfl) ?_
 simp only [BS,Nat.reduceLT]
 refine ag (bN (by exact ct)) S ?_;clear S;intro h b1 S a
 simp only [BS,LB,ab,Nat.reduceLT,Nat.reduceEqDiff]
 exact⟨S.gr,b1,rfl,a,S.ld m0 rfl⟩
theorem looks1_it{h0:Hp}(f:h0.t.Sized h0.n){b1 bq:Nat}(g:h0.load b1 0 1=some [ptrTo bq]){okW okF okT okX:Bool}:kU zM 170 [] [ptrTo b1] h0 (fun c=>c=b1) ((sfRs b1 bq okW okF okT okX).map argS):=by
 intro l J Z e Y h F s b
 have S:=Si s.ok
 refine enter (n:=27) (rs:=[]) rfl Tryz.e170 rfl rfl rfl (lbt rfl) ?_
 simp only [BS,LB,Nat.reduceLT,Nat.reduceEqDiff]
 refine cH Y s b (i:=0) rfl ?_ ?_ (fun v d a=>absurd a (e v d))
 rotate_left
 . intro d a _
   simp only [BS,LB,Nat.reduceLT,Nat.reduceEqDiff]
   exact bT (cG ⟨rfl,_,rfl,rfl,.inr (.inl ⟨_,rfl,a⟩)⟩)
 clear b s;intro m o b s _ _
 simp only [BS,LB,Nat.reduceLT,Nat.reduceEqDiff]
 refine cH Y s b (i:=1) rfl ?_ ?_ (fun v d a=>absurd a (e v d))
 rotate_left
 . intro d a _
   simp only [BS,LB,Nat.reduceLT,Nat.reduceEqDiff]
   exact bT (cG ⟨rfl,_,rfl,rfl,.inr (.inl ⟨_,rfl,a⟩)⟩)
 clear b s;intro p q b s _ _
 simp only [BS,LB,Nat.reduceLT,Nat.reduceEqDiff]
 refine cH Y s b (i:=2) rfl ?_ ?_ (fun v d a=>absurd a (e v d))
 rotate_left
 . intro d a _
   simp only [BS,LB,Nat.reduceLT,Nat.reduceEqDiff]
   exact bT (cG ⟨rfl,_,rfl,rfl,.inr (.inl ⟨_,rfl,a⟩)⟩)
 clear b s;intro d r b s _ _
 simp only [BS,LB,Nat.reduceLT,Nat.reduceEqDiff]
 refine cH Y s b (i:=3) rfl ?_ ?_ (fun v d a=>absurd a (e v d))
 rotate_left
 . intro d a _
   simp only [BS,LB,Nat.reduceLT,Nat.reduceEqDiff]
   exact bT (cG ⟨rfl,_,rfl,rfl,.inr (.inl ⟨_,rfl,a⟩)⟩)
 clear b s;intro t u b s _ _
 have j:=s.load f g rfl
 simp only [BS,LB,Nat.reduceLT,Nat.reduceEqDiff,F1y,j]
 refine cH Y s b (i:=4) rfl ?_ ?_ (fun v d a=>absurd a (e v d))
 rotate_left
 . intro d a _
   simp only [BS,LB,Nat.reduceLT,Nat.reduceEqDiff]
   exact bT (cG ⟨rfl,_,rfl,rfl,.inr (.inl ⟨_,rfl,a⟩)⟩)
 clear b s;intro w k b s _ _
 simp only [BS,LB,Nat.reduceLT,Nat.reduceEqDiff]
 exact bT (cG ⟨rfl,_,rfl,rfl,.inl ⟨_,k,rfl,b⟩⟩)
def Tryz.F0O:=aj t1<|aj t2<|aj t3<|aj t24<|aj Z9<|aj t32<|aj t33<|aj t51<|aj t59<|aj t77<|aj t78<|aj Z11<|aj Z5<|aj t164<|aj Z12<|Z1
def Tryz.Fb:=aj t1<|aj t2<|aj t3<|aj t4<|aj t5<|aj t6<|aj Z3<|aj Z4<|aj t9<|aj t10<|aj t11<|aj t12<|aj Z15<|aj t22<|aj t23<|aj t24<|aj t25<|aj r25<|aj t26<|aj r26<|aj Z9<|aj Z0<|aj t32<|aj t33<|aj t45<|aj t47<|aj r47<|aj t48<|aj t51<|aj t54<|aj t59<|aj t74<|aj t77<|aj t78<|aj Z11<|aj Z14<|aj t114<|aj r114<|aj Z23<|aj Z5<|aj t164<|aj Z12<|aj t168<|aj t171<|aj t172<|aj Z6<|aj t189<|aj Z1<|Z10
theorem yd{E:Env}{ρ:Operand->Value}{h:Hp}{t:TypeId}{m k v:Operand}:aop E ρ h (.insert t m k v)=ef (du E h t (ρ m) (ρ k) (ρ v)):=rfl
def ku(okW okF okT okX:Bool):Int:=if okW=true then(if okF=true then(if okT=true then(if okX=true then 0 else 19)else 18)else 17)else 16
theorem firstS_sf{b1 bq:Nat}{okW okF okT okX:Bool}:oN (sfRs b1 bq okW okF okT okX)=ku okW okF okT okX:=by
 cases okW<;>cases okF<;>cases okT<;>cases okX<;>rfl
def sfP(N:Nat)(l:List Int)(R Q:Nat->List Int)(a:List Int)(way:Int)(w:Nat):List Int:=if way=5 then(Xg N).map (fun(v:Nat)=>nZ N l.length R Q v w a)else []
theorem Bj{okW okF okT okX:Bool}(h:ku okW okF okT okX=0):okW=true/\okF=true/\okT=true/\okX=true:=by
 cases okW<;>cases okF<;>cases okT<;>cases okX<;>first|exact⟨rfl,rfl,rfl,rfl⟩|(exact absurd h (by decide))
theorem AX{h0:Hp}(a:h0.t.Sized h0.n){bq:Nat}:aK zM 90 [ptrTo bq] h0 (.tuple #[.slice none 0 0,.slice none 0 0]):=by
 have S:=Si a
 refine ac (n:=4) (rs:=[.tmp 2,.tmp 3]) rfl Tryz.e90 rfl rfl rfl (lbt rfl) ?_
 simp only [BS,LB,ab,Nat.reduceLT,Nat.reduceEqDiff]
 exact S.gr
theorem Av{h0:Hp}(C:h0.t.Sized h0.n){bq m N:Nat}{D E F j:Value}{way a:Int}{s w:Nat}{l:List Int}{R Q:Nat->List Int}(d:Row h0 bq (sfC D E F j way s w a) 1)(t:TabAt h0 m j N l R Q)(p: ∀i,i<l.length->(R i).length=N)(u: ∀i,i<l.length->(Q i).length=N)(G:l.length<=16)(P:N<=100)(T:s<N)(H:w<N):
 Ret zM 91 [ptrTo bq] h0 fun r k=>Gr h0 k/\ ∃e f,r=.tuple #[e,f]/\av k 1 ce e (ng N l.length R Q s w a)/\av k 1 (encI .i64) f ((Xg N).map fun(v:Nat)=>nZ N l.length R Q v w ((ng N l.length R Q s w a).map fun(x:Nat)=>(x:Int)))/\ ∀c,(ar e c\/ar f c)->h0.n<=c:=by
 have S:=Si C
 have U:Fl j:=by obtain⟨b,_,_,_,rfl,_⟩:=t.ex;exact ct
 have y:=d.load1 (o:=3) rfl
 have I:=d.load1 (o:=5) rfl
 have z:=d.load1 (o:=6) rfl
 have J:=d.load1 (o:=7) rfl
 refine ac (n:=36) (rs:=[.tmp 2,.tmp 3]) rfl Tryz.e91 rfl rfl rfl (lbt rfl) ?_
 simp only [BS]
 refine aw (aB rfl) (q:=0) (ps:=[]) (by kernel_rfl) ?_
 simp only [BS,LB,cls,Nat.reduceLT,Nat.reduceEqDiff,Nat.reduceAdd,Nat.reducePow,Nat.reduceDiv,Nat.reduceMod,Nat.reduceLeDiff,F0O,y,I,z,J]
 refine da (Bm S.ok t p u G) ?_
 rintro e h ⟨g,A,K⟩
 replace S:=S.call g
 have V:(ng N l.length R Q s w a).length<=16:=by unfold ng;rw [Xj];omega
 have W:=g.n
 simp only [BS,LB,cls,Nat.reduceLT,Nat.reduceEqDiff,Nat.reduceAdd,Nat.reducePow,Nat.reduceDiv,Nat.reduceMod,Nat.reduceLeDiff]
 refine aw (aB rfl) (q:=0) (ps:=[]) (by kernel_rfl) ?_
 simp only [BS,LB,cls,Nat.reduceLT,Nat.reduceEqDiff,Nat.reduceAdd,Nat.reducePow,Nat.reduceDiv,Nat.reduceMod,Nat.reduceLeDiff,F0O,g.load y,g.load z]
 refine da (bPi_ok S.ok (t.gr g) p u (by omega) (by omega) (sl_nat A) (by rw [XR];omega) H) ?_
 rintro f X ⟨B,L,M⟩
 replace S:=S.call B
 simp only [BS,LB,cls,ab,Nat.reduceLT,Nat.reduceEqDiff,Nat.reduceAdd,Nat.reducePow,Nat.reduceDiv,Nat.reduceMod,Nat.reduceLeDiff]
 exact⟨S.gr,_,_,rfl,A.gr B,L,fun c O=>O.elim (K c) (fun h=>by have:=M c h;omega)⟩
theorem AA {h0:Hp} (ok:h0.t.Sized h0.n) {bp nb nd:Nat} {j:Gra} (ai:Good j) (hn:aV h0 nb (ptrTo bp) j) {pt pc pf:Value} {l:List Int} {R Q:Nat->List Int} (T:TabQ h0 pt nd l R Q) (hl:l.length<=16) (fc:Fl pc) (ff:Fl pf) {A:Bool} (F: ∀h,Gr h0 h->aK zM 236 [ptrTo bp,pc,pf] h (.bool A))
 {mb fp fb rows long:Nat} {m:List Int} {cf:Nat->Nat} {Bt:Nat->Nat} (P:A=true->eS h0 mb pc j.nodes m cf/\pf=ptrTo fp/\gX h0 fp fb rows j.arcs.length long Bt/\rows<=100/\long=(j.arcs.length+7)/8/\ ∀v,v<j.nodes->cf v<rows) {way f t a:Int}:
 Ret zM 31 [ptrTo bp,pt,.agg ⟨[pc,pf]⟩,.agg ⟨[.int .i64 way,.int .i64 f,.int .i64 t,.int .i64 a]⟩] h0 fun r J=>Gr h0 J/\ ∃c d vA vB vE,r=.tuple #[ansV c d vA vB,vE]/\(∀x,(ar vA x\/ar vB x\/ar vE x)->h0.n<=x)/\
  (((ku (decide (way=4\/way=5)) (decide (0<=f/\f<j.nodes)) (decide (0<=t/\t<j.nodes)) (iV A way l.length nd j.nodes)≠0\/f=t)/\c=ku (decide (way=4\/way=5)) (decide (0<=f/\f<j.nodes)) (decide (0<=t/\t<j.nodes)) (iV A way l.length nd j.nodes)/\d=0/\vA=.slice none 0 0/\vB=.slice none 0 0/\vE=.slice none 0 0)\/
   (ku (decide (way=4\/way=5)) (decide (0<=f/\f<j.nodes)) (decide (0<=t/\t<j.nodes)) (iV A way l.length nd j.nodes)=0/\ ∃(s w:Nat) (O:Fd),f=s/\t=w/\s≠w/\s<j.nodes/\w<j.nodes/\
     Ends j.arcs (alF ((Xg j.arcs.length).map (fJ Bt long (cf w)))) (piF (sfP j.nodes l R Q ((ng j.nodes l.length R Q f t a).map fun(x:Nat)=>(x:Int)) way w)) w (nH (piF (sfP j.nodes l R Q ((ng j.nodes l.length R Q f t a).map fun(x:Nat)=>(x:Int)) way w)) s) O/\
     av J 4 jx vE O.ev/\
     ((FAR<=O.dist/\c=20/\d=0/\vA=.slice none 0 0/\vB=.slice none 0 0)\/
      (O.dist<FAR/\c=0/\d=(O.dist:Nat)/\av J 1 ce vA O.arcs/\av J 1 ce vB (if way=5 then ng j.nodes l.length R Q f t a else []))))):=by
 have S:=Si ok
 have dO:=mR
 have To:=T.tabO (by omega)
 have ft:Fl pt:=To.fl
 have n1:=ai.n1
 have n2:=ai.n2
 have dj:=ai.many
 obtain⟨cc,V⟩: ∃cc,ku (decide (way=4\/way=5)) (decide (0<=f/\f<j.nodes)) (decide (0<=t/\t<j.nodes)) (iV A way l.length nd j.nodes)=cc:=⟨_,rfl⟩
 refine ac (n:=84) (rs:=[.cell 8 47,.cell 9 48]) rfl Tryz.e31 rfl rfl rfl (lbt rfl) ?_
 simp only [BS,Nat.reduceLT]
 refine ag (bg (by intro x e;cases e)) S ?_;clear S;intro h b6 S dm;simp only [ah]at S
 simp only [BS,Nat.reduceLT,Nat.reduceEqDiff,if_false]
 refine ag (bg (by intro x e;cases e)) S ?_;clear S;intro h b7 S dn;simp only [ah]at S
 simp only [BS,Fb]
 refine ag ax S ?_;clear S;intro h B S ds
 simp only [BS,Fb]
 refine ag ax S ?_;clear S;intro h C S dt
 simp only [BS,LB,Nat.reduceLT,Nat.reduceEqDiff,Nat.reduceAdd,Nat.reduceLeDiff,Fb,ft,XA,Xo,XB,S.lds (b:=b6) (o:=0) (n:=2) m3 (lbt rfl),S.lds (b:=b7) (o:=0) (n:=4) m2 (lbt rfl)]
 refine ag (bg (by intro x e;cases e)) S ?_;clear S;intro h G S cb;simp only [ah]at S
 have Rq:Row h G (sfC pc pf (ptrTo bp) pt way f t a) 1:=S.row (b:=G) m0
 have gq:=S.gr
 have d0:=S.ok
 have R6:=S.row (b:=b6) m4
 have R7:=S.row (b:=b7) m3
 have R8:=S.row (b:=B) m2
 have R9:=S.row (b:=C) m1
 have ch:C≠B/\(b7≠B/\b7≠C)/\(b6≠B/\b6≠C)/\G≠B/\G≠C:=by
  have ap:=S.apart
  simp [keys]at ap
  omega
 obtain⟨E,n7,n6,nq⟩:=ch
 rename Hp=>hq
 simp only [BS,LB,Nat.reduceLT,Nat.reduceEqDiff]
 refine step_ret (looks_ok S.ok) ?_
 rintro r W ⟨g,b1,rfl,d3,y1⟩
 have gA:=gq.trans g
 replace Rq:=Rq.gr g
 replace R6:=R6.gr g
 replace R7:=R7.gr g
 replace R8:=R8.gr g
 replace R9:=R9.gr g
 have ak:=gA.ok
 clear S
 have S:=Si ak
 have a6:=hn.gr gA
 have cj:=(T.gr gA).tabO (show l.length<1000 by omega)
 have FA: ∀h,Gr W h->aK zM 236 [ptrTo bp,pc,pf] h (.bool A):=fun h g=>F h (gA.trans g)
 have s1:=sfNet_ok Rq y1
 have s2:=sfWay_ok Rq y1
 have s3:=sfFrom_ok a6 Rq y1
 have s4:=sfTo_ok a6 Rq y1
 have s5:=sfFits_ok a6 cj Rq fc ff FA
 have it:=looks1_it ak y1 (okW:=decide (way=4\/way=5)) (okF:=decide (0<=f/\f<j.nodes)) (okT:=decide (0<=t/\t<j.nodes)) (okX:=iV A way l.length nd j.nodes)
 have e0:=firstS_sf (b1:=b1) (bq:=G) (okW:=decide (way=4\/way=5)) (okF:=decide (0<=f/\f<j.nodes)) (okT:=decide (0<=t/\t<j.nodes)) (okX:=iV A way l.length nd j.nodes)
 have bX: ∀r∈sfRs b1 G (decide (way=4\/way=5)) (decide (0<=f/\f<j.nodes)) (decide (0<=t/\t<j.nodes)) (iV A way l.length nd j.nodes),∀h,Gr W h->aK zM r.g (r.pre.toList++r.post.toList) h (.bool r.ok):=by
  intro r hr
  simp only [sfRs,Xh,Xe,or_false]at hr
  rcases hr with rfl|rfl|rfl|rfl|rfl
  . exact s1
  . exact s2
  . exact s3
  . exact s4
  . exact s5
 clear s1 s2 s3 s4 s5
 generalize ck:sfRs b1 G (decide (way=4\/way=5)) (decide (0<=f/\f<j.nodes)) (decide (0<=t/\t<j.nodes)) (iV A way l.length nd j.nodes)=rs at it e0 bX
 rw [V]at e0
 have k8:=R8.lt ak
 have k9:=R9.lt ak
 simp only [BS]
 refine fT S (g:=170) (a:=#[]) (b:=#[ptrTo b1]) (by simp [ca,aa,ae]) rfl rfl ?_
 intro h2 H lb S' d4 d5 g2
 obtain⟨X,hX,S'⟩: ∃X:ez,X=_/\St NoM W h2 [(lb,.loop X),(H,.dfr)] []:=⟨_,rfl,S'⟩
 have hJ :Yld zM lb (fun k J F=>St NoM W J [(lb,.loop X),(H,.dfr)] []/\(∀q∈rs.take k,q.ok=true)/\F=keys [(lb,Ob.loop X),(H,.dfr)] [])
  (fun o J=>o=.ret (.bool false)/\ ∃(Y:ez),cc≠0/\Y.st=2/\Y.pending=some .ret/\St (· ∈[C,B]) W J [(lb,.loop Y),(H,.dfr),(C,.row [.slice none 0 0] 1),(B,.row [.int .i64 cc,.int .i64 0,.slice none 0 0,.slice none 0 0] 1)] []) (rs.map argS):=by
  refine⟨?_,?_,?_,?_⟩
  . rintro i h F ⟨S,_,rfl⟩;exact⟨S.ok,fun b K=>S.key_lt K⟩
  . rintro i h F J ⟨S,a,rfl⟩ gg;exact⟨S.call gg,a,rfl⟩
  . rintro h J ⟨a,Y,e1,e2,e3,S⟩ gg;exact⟨a,Y,e1,e2,e3,S.call gg⟩
  . rintro i x hR F hx ⟨S,ha,rfl⟩
    have al:i<rs.length:=by
     have:=(List.getElem?_eq_some_iff.1 hx).1
     simpa using this
    rw [Xs,Xd al]at hx
    cases hx
    have a7:=bX _ (Xw al)
    have tk:rs.take (i+1)=rs.take i++[rs[i]]:=XF al
    have ba:rs[i]? =some rs[i]:=Xd al
    generalize rs[i]=r at a7 tk ba
    obtain⟨rg,dv,cl,cn,bb⟩:=r
    simp only []at a7
    subst hX
    refine fS (S.get m0) (by rw [Tryz.e31];rfl) rfl ?_
    have S0:=S
    replace S:=S.base
    simp only [BS,LB,Nat.reduceLT,Nat.reduceEqDiff]
    refine eX S (i:=0) rfl rfl rfl rfl rfl ?_
    clear S;intro h S
    simp only [LC]at S
    simp only [BS,LB,Nat.reduceLT,Nat.reduceEqDiff]
    have cp:Gr W h:=(S0.rebase S).gr
    refine am (a7 _ cp) ?_
    intro h3 g3
    replace S:=S.call g3
    cases cn with
    | true=>
      simp only [BS,LB,Nat.reduceLT,Nat.reduceEqDiff]
      refine dE S (i:=0) rfl ?_
      clear S;intro h S
      simp only [LC]at S
      refine .inl ⟨rfl,_,⟨S0.rebase S,?_,rfl⟩,S.fr,S.key_new⟩
      intro q hq
      rw [tk]at hq
      rcases List.mem_append.1 hq with hq|hq
      . exact ha q hq
      . rw [List.mem_singleton.1 hq]
    | false=>
      have ec:cc=bb:=by rw [<-e0];exact firstS_at ba ha Xq
      have Z:cc≠0:=by
       rw [ec]
       have hm:=List.mem_of_getElem? ba
       rw [<-ck]at hm
       simp only [sfRs,Xh,Xe,or_false,Rs.mk.injEq]at hm
       rcases hm with⟨_,_,_,_,rfl⟩|⟨_,_,_,_,rfl⟩|⟨_,_,_,_,rfl⟩|⟨_,_,_,_,rfl⟩|⟨_,_,_,_,rfl⟩<;>decide
      have U:=S0.rebase S
      have gU:=U.gr
      have bc:=R8.gr gU
      have bd:=R9.gr gU
      have ks: ∀c∈keys [(lb,Ob.loop _),(H,Ob.dfr)] [],W.n<=c:=fun c p=>(U.key_own p).elim (fun h=>h) (fun h=>h.elim)
      have U2:=((U.mono (M':=(· ∈[C,B])) (fun _ h=>h.elim)).push (b:=B) (o:=.row _ 1) (.inr (by simp)) bc (fun h=>by have:=ks _ h;omega)).push (b:=C) (o:=.row _ 1) (.inr (by simp)) bd (fun h=>by
       rcases List.mem_cons.1 h with h|h
       . have ap:C≠B:=E
         exact ap h
       . have:=ks _ h;omega)
      clear S U
      have S:=U2
      clear U2
      rw [<-ec]
      simp only [BS,LB,Nat.reduceLT,Nat.reduceEqDiff,Nat.reduceAdd,Fb]
      refine ay (S.store (i:=1) rfl Tryz.t47.2.1 (by intro x e;cases e) rfl rfl (lbt rfl) ono) ?_
      clear S;rintro h ⟨S,_⟩
      simp only [LC,ah,lay,Xb,Xc,Nat.reduceAdd]at S
      simp only [BS,LB,Nat.reduceLT,Nat.reduceEqDiff]
      refine ay (az S (i:=0) rfl Tryz.t48.2.2.1 bj (Xl (lbt rfl)) ono) ?_
      clear S;rintro h ⟨S,_⟩
      simp only [LC]at S
      simp only [BS]
      refine round_ret S (i:=2) rfl ?_
      clear S;intro h S
      simp only [LC]at S
      exact .inr (.inl ⟨rfl,⟨rfl,_,Z,rfl,rfl,S.permL (XV (l₁:=[_,_]) (l₂:=[_,_]))⟩,S.ok⟩)
 have bY: ∀(b:Nat),b∈keys [(lb,Ob.loop X),(H,.dfr)] []-> ¬(b<W.n/\b=b1):=fun b K h=>(S'.key_own K).elim (fun h1=>by omega) (fun h=>h.elim)
 refine eB (it lb _ _ (fun v h hz=>by cases hz.1) hJ h2 _ ?_ ⟨S',by simp,rfl⟩) fun o rc J y=>?_
 . exact⟨S'.ok,S'.fr.n,fun b K hd=>g2.get b K,bY,fun b K=>S'.key_lt K⟩
 . obtain ⟨_,⟨u,F',rfl,U,ha,rfl⟩|⟨u,rfl,hz,Y,Z,st,pe,U⟩|⟨w,rfl,hz,_⟩⟩:=y
   . rw [XR,XK]at ha
     have be:cc=0:=by rw [<-e0];exact AO ha
     subst hX
     refine⟨_,U.get m0,Nat.zero_ne_one,?_⟩
     replace U:=U.dead
     show Run _ _ _ _ _ _ _ _
     have gU:=U.gr
     have bc:=R8.gr gU
     have bd:=R9.gr gU
     have ks: ∀c∈keys [(H,Ob.dfr)] [],W.n<=c:=fun c p=>(U.key_own p).elim (fun h=>h) (fun h=>h.elim)
     have U2:=((U.mono (M':=(· ∈[C,B])) (fun _ h=>h.elim)).push (b:=B) (o:=.row _ 1) (.inr (by simp)) bc (fun h=>by have:=ks _ h;omega)).push (b:=C) (o:=.row _ 1) (.inr (by simp)) bd (fun h=>by
      rcases List.mem_cons.1 h with h|h
      . exact E h
      . have:=ks _ h;omega)
     have S:=U2.permL (L':=[(H,.dfr),(C,_),(B,_)]) (XV (l₁:=[_]) (l₂:=[_,_]))
     clear U U2 R8 R9 hJ it bY
     have aL: ∀{x:Hp},Mo (· ∈[C,B]) W x->Gr h0 x:=fun f=>(gA.fr.trans f (fun c p=>.inr (by simp only [Xh,Xe,or_false]at p;omega)):Mo NoM h0 _).gr
     have a0: ∀{x:Hp} {b:Nat} {l:List Value},Mo (· ∈[C,B]) W x->Row W b l 1->b≠B/\b≠C->Row x b l 1:=fun {x b l} f r e=>f.has (b:=b) (o:=.row l 1) r (by simp [e.1,e.2])
     have a1:=(R7.gr gU).load1 (o:=1) rfl
     have a2:=(R7.gr gU).load1 (o:=2) rfl
     by_cases bf:f=t
     . subst bf
       simp only [BS,LB,Nat.reduceLT,Nat.reduceEqDiff,Fb,a1,a2]
       refine ay (S.store (i:=2) rfl Tryz.t47.2.1 (by intro x e;cases e) rfl rfl (lbt rfl) ono) ?_
       clear S;rintro h3 ⟨S,_⟩
       simp only [LC,ah,lay,Xb,Xc,Nat.reduceAdd]at S
       simp only [BS,LB,Nat.reduceLT,Nat.reduceEqDiff]
       refine ay (az S (i:=1) rfl Tryz.t48.2.2.1 bj (Xl (lbt rfl)) ono) ?_
       clear S;rintro h4 ⟨S,_⟩
       simp only [LC]at S
       simp only [BS]
       refine dC (fi [H] _ (L:=[(C,_),(B,_)]) S.base fun h5 I=>?_)
       refine⟨rfl,(dg (by decide) (by simp only [aO,ae,Nat.reduceEqDiff,reduceIte];exact cQ Tryz.t47.1 Tryz.t47.2.1 (I.lds (b:=B) (o:=0) (n:=4) m1 (lbt rfl)))).2 ((dg (by decide) (by simp only [aO,ae,Nat.reduceEqDiff,reduceIte];exact iM Tryz.t48.2.1 (I.ld (b:=C) (o:=0) m0 rfl))).2 (dV.2 ?_))⟩
       have gZ:Gr h0 h5:=(gA.fr.trans (S.rebase I).fr (fun c p=>.inr (by simp only [Xh,Xe,or_false]at p;omega)):Mo NoM h0 h5).gr
       exact⟨gZ,_,_,_,_,_,rfl,fun x hx=>(by rcases hx with h|h|h<;>exact h.elim),.inl ⟨.inr trivial,by rw [V,be],rfl,rfl,rfl,rfl⟩⟩
     . obtain⟨w1,w2,w3,w4⟩:=Bj (V.trans be)
       have w1:=of_decide_eq_true w1
       have w2:=of_decide_eq_true w2
       have w3:=of_decide_eq_true w3
       obtain⟨s,rfl⟩:=XN w2.1
       obtain⟨w,rfl⟩:=XN w3.1
       have hs:s<j.nodes:=by omega
       have hw:w<j.nodes:=by omega
       have bh:s≠w:=fun e=>bf (by rw [e])
       unfold iV at w4
       rw [XM]at w4
       obtain⟨cr,cs,bm,bi,bk,cv⟩:=P w4.1
       subst cs
       simp only [BS,LB,Nat.reduceLT,Nat.reduceEqDiff,Fb,a1,a2,bf]
       refine ag pT S ?_;clear S;intro h mm S dx
       simp only [BS,LB,Nat.reduceLT,Nat.reduceEqDiff,yd]
       refine ay (S.mputI (i:=0) rfl Tryz.t172.1 Tryz.t3.1 qE _) ?_
       clear S;rintro h3 ⟨b0,d6,c1,M1,S⟩
       simp only [LC]at S
       simp only [BS,LB,Nat.reduceLT,Nat.reduceEqDiff,yd]
       refine ay (S.mputI (i:=0) rfl Tryz.t172.1 Tryz.t3.1 M1 _) ?_
       clear S b0;rintro h3 ⟨b0,cx,c2,M2,S⟩
       simp only [LC]at S
       have cz:h3.get mm=some (.map cx c2):=(S.own _ m0).2
       have cA:=(a0 S.fr R7 n7).load1 (o:=0) rfl
       have lk:=pZ (x:=way) Tryz.t172.1 Tryz.t3.1 (z:=.nilFunc) (by kernel_rfl) cz M2
       replace S:=S.drop1
       have cO:=aL S.fr
       have d8:=S.fr.n
       have dF:H<h3.n:=S.key_lt (b:=H) (by simp [keys])
       have b2:=S.ok
       have cT:=a0 S.fr Rq nq
       have M: ∃gq:FuncId,cZ zM h3 172 (.map (some mm)) (.int .i64 way) false=some (.func (.func gq) #[ptrTo G] #[])/\Ret zM gq [ptrTo G] h3 fun r J=>Gr h3 J/\ ∃vB vP,r=.tuple #[vB,vP]/\av J 1 ce vB (if way=5 then ng j.nodes l.length R Q s w a else [])/\av J 1 (encI .i64) vP (sfP j.nodes l R Q ((ng j.nodes l.length R Q s w a).map fun(x:Nat)=>(x:Int)) way w)/\ ∀c,(ar vB c\/ar vP c)->h3.n<=c:=by
        rcases w1 with rfl|rfl
        . refine⟨_,lk,(AX b2).mono fun r J ⟨e,g⟩=>⟨g,_,_,e,.inl ⟨rfl,rfl⟩,.inl ⟨rfl,rfl⟩,fun c p=>p.elim (fun h=>h.elim) (fun h=>h.elim)⟩⟩
        . have w5:=w4.2
          simp only [ne_eq,not_true_eq_false,decide_false,Bool.false_or,decide_eq_true_eq]at w5
          obtain⟨cW,cX⟩:=w5
          subst cX
          obtain⟨m',t',lR,lQ⟩: ∃m',TabAt h0 m' pt j.nodes l R Q/\(∀i,i<l.length->(R i).length=j.nodes)/\ ∀i,i<l.length->(Q i).length=j.nodes:=by
           rcases T with h|⟨_,_,rfl⟩
           . exact h
           . simp at cW
          exact⟨_,lk,Av b2 cT (t'.gr cO) lR lQ hl (by omega) hs hw⟩
       obtain⟨gq,cY,M⟩:=M
       simp only [BS,LB,Nat.reduceLT,Nat.reduceEqDiff,Fb,cA,cY]
       refine step_ret M ?_
       rintro r h4 ⟨g4,vB,vP,rfl,sB,sP,b3⟩
       replace S:=S.call g4
       have ea:=g4.n
       have c0:=S.fr.n
       simp only [BS,LB,Nat.reduceLT,Nat.reduceEqDiff]
       have bo:=aL S.fr
       have br:=S.ok
       have bs:=a0 S.fr R7 n7
       have bt:=a0 S.fr R6 n6
       have p7:=bs.lt br
       have p6:=bt.lt br
       have a1:=bs.load1 (o:=1) rfl
       have a2:=bs.load1 (o:=2) rfl
       have c3:=bt.load1 (o:=0) rfl
       have c4:=bt.load1 (o:=1) rfl
       have S0:=S
       clear S
       have S:=Si br
       rename Hp=>hR
       refine aw (mY (ord:=[19,0,1,2,3,4,5,6,7,8,9,10,11,12,13,14,15,16,17,18,20,21]) rfl rfl (by simp only [dM,ns,ep,XC,XD,XL,XE,XG,Nat.reduceBEq,cond_true,cond_false];exact rfl)) (q:=1) (ps:=[(0,16),(5,13),(3,13),(0,13),(7,12),(5,12),(3,12),(0,12)]) (by kernel_rfl) ?_
       simp only [BS,LB,cls,Nat.reducePow,Nat.reduceDiv,Nat.reduceMod,Nat.reduceLeDiff,Fb]
       refine dK ax S ?_;clear S;intro h N S c5 bu
       have c7:=(S.row (b:=N) m0).lt S.ok
       have gB:=S.gr
       have nB:=gB.n
       simp only [BS,LB,cls,Nat.reduceLT,Nat.reduceEqDiff,Nat.reduceAdd,Nat.reducePow,Nat.reduceDiv,Nat.reduceMod,Nat.reduceLeDiff,Fb,gB.load a1,gB.load a2,gB.load c3,gB.load c4]
       refine bZ (rM S.ok ((cr.gr bo).gr gB) hw) ?_
       intro h g
       have e1:=aq g (show b6<_ by omega)
       have e2:=aq g (show b7<_ by omega)
       have e3:=aq g c7
       have eb:=g.n
       replace S:=S.call g
       simp only [BS,LB,cls,Nat.reduceLT,Nat.reduceEqDiff,Nat.reduceAdd,Nat.reducePow,Nat.reduceDiv,Nat.reduceMod,Nat.reduceLeDiff]
       refine da (allowF_ok S.ok ((bm.gr bo).gr S.gr) (cv w hw) bi (by omega) bk) ?_
       rintro r h ⟨ad,bl,rfl,RA,nA⟩
       have e4:=aq ad (show b6<_ by omega)
       have e5:=aq ad (show b7<_ by omega)
       have e6:=aq ad (show N<_ by omega)
       have ed:=ad.n
       replace S:=S.call ad
       have dc:=slB_of RA
       simp only [BS,LB,cls,Nat.reduceLT,Nat.reduceEqDiff,Nat.reduceAdd,Nat.reducePow,Nat.reduceDiv,Nat.reduceMod,Nat.reduceLeDiff,Fb,sP.fl]
       refine da (AV S.ok ai ((hn.gr bo).gr S.gr) hs hw dc (.inr (by simp)) (sP.gr S.gr) (by unfold sfP;split;exact .inr (by simp);exact .inl rfl)) ?_
       rintro r h ⟨a3,v,O,rfl,⟨xA,xE,rfl,G1,G2,d1,d2⟩,he⟩
       have e7:=aq a3 (show b6<_ by omega)
       have e8:=aq a3 (show b7<_ by omega)
       have e9:=aq a3 (show N<_ by omega)
       have bv:Fl xA:=G1.fl
       have bx:Fl xE:=G2.fl
       replace S:=S.call a3
       simp only [BS,LB,cls,Nat.reduceLT,Nat.reduceEqDiff,Nat.reduceAdd,Nat.reducePow,Nat.reduceDiv,Nat.reduceMod,Nat.reduceLeDiff]
       refine dw (S.store (i:=0) rfl Tryz.t114.2.1 (by intro x e;cases e) rfl (by simp only [ah,Xi,Xk,bv.2.1,bx.2.1,Xa];rfl) (lbt rfl) ono) ?_
       have a5: ∀c,ar xA c\/ar xE c->c≠N:=fun c p e=>by
        have h1:_<=c:=p.elim (fun h=>(d1 c h).1) (fun h=>d2 c h)
        omega
       clear S;rintro a4 ⟨S,mo⟩
       simp only [LC,ah,lay,Xb,Xc,Nat.reduceAdd]at S
       simp only [BS,LB,cls,Nat.reduceLT,Nat.reduceEqDiff,Nat.reduceAdd,Nat.reducePow,Nat.reduceDiv,Nat.reduceMod,Nat.reduceLeDiff,Fb]
       refine⟨by simp only [bz,bG,aW,bM,a8,ne_eq,not_false_eq_true,bS,cD,bD,bw,ca,c9,aO,Nat.reduceLT,Nat.reduceEqDiff,reduceIte,Xa,ae,jU,aI e1,aE e1,aI e2,aE e2,aI e3,aE e3,aI e4,aE e4,aI e5,aE e5,aI e6,aE e6,aI e7,aE e7,aI e8,aE e8,aI e9,aE e9,<-bu],?_⟩
       have bB:=S.row (b:=N) m0
       have dd:av a4 1 ce xA O.arcs:=(G1.sl rfl dG (by decide)).mo mo (fun c p e=>a5 c (.inl p) e)
       have b4:av a4 4 jx xE O.ev:=(G2.sl rfl tS (by decide)).mo mo (fun c p e=>a5 c (.inr p) e)
       have de:=sB.gr S.gr
       have j0:=bB.load1 (o:=0) rfl
       have j1:=bB.load1 (o:=1) rfl
       have j2:=bB.load1 (o:=2) rfl
       have S1:=S0.call S.gr
       have D:N≠B/\N≠C:=⟨fun e=>by omega,fun e=>by omega⟩
       clear S
       have S:=S1
       clear S1
       have ei:H<hR.n:=S0.key_lt (b:=H) (by simp [keys])
       have ej:W.n<=hR.n:=S0.fr.n
       have ek:=gA.n
       have b5:=(he.resolve_left (fun h=>bh h.1)).2
       have Z:=V.trans be
       by_cases hd:O.dist<FAR
       . have bH: ¬(72057594037927936:Int)<=(O.dist:Int):=by omega
         simp only [BS,LB,Nat.reduceLT,Nat.reduceEqDiff,j0,bH]
         refine aw (aB rfl) (q:=0) (ps:=[(7,8)]) (by kernel_rfl) ?_
         simp only [BS,LB,cls,Nat.reduceLT,Nat.reduceEqDiff,Nat.reduceAdd,Nat.reducePow,Nat.reduceDiv,Nat.reduceMod,Nat.reduceLeDiff,Fb,j0,j1,j2,bv,sB.fl]
         refine dw (S.store (i:=2) rfl Tryz.t47.2.1 (by intro x e;cases e) rfl (by simp only [ah,Xi,Xk,bv.2.1,sB.fl.2.1,Xa];rfl) (lbt rfl) ono) ?_
         clear S;rintro h5 ⟨S,bL⟩
         simp only [LC,ah,lay,Xb,Xc,Nat.reduceAdd]at S
         simp only [BS,LB,cls,Nat.reduceLT,Nat.reduceEqDiff,Nat.reduceAdd,Nat.reducePow,Nat.reduceDiv,Nat.reduceMod,Nat.reduceLeDiff]
         refine dw (az S (i:=1) rfl Tryz.t48.2.2.1 bx (Xl (lbt rfl)) ono) ?_
         clear S;rintro h6 ⟨S,bP⟩
         simp only [LC]at S
         simp only [BS,Nat.reduceAdd]
         refine⟨by simp only [bz,bG,aW,bM,a8,ne_eq,not_false_eq_true,bS,cD,bD,bw,ca,c9,aO,Nat.reduceLT,Nat.reduceEqDiff,reduceIte,Xa,ae,jU,dW D.1,dW D.1.symm,dW D.2,dW D.2.symm,dW E,dW E.symm],?_⟩
         refine dC (fi [H] _ (L:=[(C,_),(B,_)]) S.base fun h7 I=>?_)
         refine⟨rfl,(dg (by decide) (by simp only [aO,ae,Nat.reduceEqDiff,reduceIte];exact cQ Tryz.t47.1 Tryz.t47.2.1 (I.lds (b:=B) (o:=0) (n:=4) m1 (lbt rfl)))).2 ((dg (by decide) (by simp only [aO,ae,Nat.reduceEqDiff,reduceIte];exact iM Tryz.t48.2.1 (I.ld (b:=C) (o:=0) m0 rfl))).2 (dV.2 ?_))⟩
         have gZ:=aL (S.rebase I).fr
         have bE: ∀{α:Type} {k:Nat} {af:α->List Value} {u:Value} {xs:List α},av a4 k af u xs->(∀c,ar u c->c≠B/\c≠C/\c≠H)->av h7 k af u xs:=fun s K=>((s.mo bL (fun c p e=>(K c p).1 e)).mo bP (fun c p e=>(K c p).2.1 e)).mo I.fr (fun c p hm=>by
          have:=K c p
          simp [keys]at hm
          omega)
         have zE:=bE b4 (fun c p=>by have:=d2 c p;exact⟨by omega,by omega,by omega⟩)
         have zA:=bE dd (fun c p=>by have:=(d1 c p).1;exact⟨by omega,by omega,by omega⟩)
         have zB:=bE de (fun c p=>by have:=b3 c (.inl p);have:=c0;exact⟨by omega,by omega,fun e=>by omega⟩)
         exact⟨gZ,_,_,_,_,_,rfl,fun x hx=>(by rcases hx with h|h|h;(have:=(d1 x h).1;omega);(have:=b3 x (.inl h);omega);(have:=d2 x h;omega)),.inr ⟨Z,s,w,O,rfl,rfl,bh,hs,hw,b5,zE,.inr ⟨hd,rfl,rfl,zA,zB⟩⟩⟩
       . have bH:(72057594037927936:Int)<=(O.dist:Int):=by omega
         simp only [BS,LB,Nat.reduceLT,Nat.reduceEqDiff,j0,bH]
         refine aw (aB rfl) (q:=0) (ps:=[(2,3)]) (by kernel_rfl) ?_
         simp only [BS,LB,cls,Nat.reduceLT,Nat.reduceEqDiff,Nat.reduceAdd,Nat.reducePow,Nat.reduceDiv,Nat.reduceMod,Nat.reduceLeDiff,Fb,j2]
         refine dw (S.store (i:=2) rfl Tryz.t47.2.1 (by intro x e;cases e) rfl (rfl) (lbt rfl) ono) ?_
         clear S;rintro h5 ⟨S,bL⟩
         simp only [LC,ah,lay,Xb,Xc,Nat.reduceAdd]at S
         simp only [BS,LB,cls,Nat.reduceLT,Nat.reduceEqDiff,Nat.reduceAdd,Nat.reducePow,Nat.reduceDiv,Nat.reduceMod,Nat.reduceLeDiff]
         refine dw (az S (i:=1) rfl Tryz.t48.2.2.1 bx (Xl (lbt rfl)) ono) ?_
         clear S;rintro h6 ⟨S,bP⟩
         simp only [LC]at S
         simp only [BS,Nat.reduceAdd]
         refine⟨by simp only [bz,bG,aW,bM,a8,ne_eq,not_false_eq_true,bS,cD,bD,bw,ca,c9,aO,Nat.reduceLT,Nat.reduceEqDiff,reduceIte,Xa,ae,jU,dW D.1,dW D.1.symm,dW D.2,dW D.2.symm,dW E,dW E.symm],?_⟩
         refine dC (fi [H] _ (L:=[(C,_),(B,_)]) S.base fun h7 I=>?_)
         refine⟨rfl,(dg (by decide) (by simp only [aO,ae,Nat.reduceEqDiff,reduceIte];exact cQ Tryz.t47.1 Tryz.t47.2.1 (I.lds (b:=B) (o:=0) (n:=4) m1 (lbt rfl)))).2 ((dg (by decide) (by simp only [aO,ae,Nat.reduceEqDiff,reduceIte];exact iM Tryz.t48.2.1 (I.ld (b:=C) (o:=0) m0 rfl))).2 (dV.2 ?_))⟩
         have gZ:=aL (S.rebase I).fr
         have bE: ∀{α:Type} {k:Nat} {af:α->List Value} {u:Value} {xs:List α},av a4 k af u xs->(∀c,ar u c->c≠B/\c≠C/\c≠H)->av h7 k af u xs:=fun s K=>((s.mo bL (fun c p e=>(K c p).1 e)).mo bP (fun c p e=>(K c p).2.1 e)).mo I.fr (fun c p hm=>by
          have:=K c p
          simp [keys]at hm
          omega)
         have zE:=bE b4 (fun c p=>by have:=d2 c p;exact⟨by omega,by omega,by omega⟩)
         exact⟨gZ,_,_,_,_,_,rfl,fun x hx=>(by rcases hx with h|h|h;exact h.elim;exact h.elim;(have:=d2 x h;omega)),.inr ⟨Z,s,w,O,rfl,rfl,bh,hs,hw,b5,zE,.inl ⟨by omega,rfl,rfl,rfl,rfl⟩⟩⟩
   . refine⟨Y,U.get m0,by rw [st];decide,?_⟩
     rw [pe]
     replace U:=U.dead
     show Run _ _ _ _ _ _ _ _
     simp only [BS]
     refine dC (fi [H] _ (L:=[(C,_),(B,_)]) U.base fun h5 I=>?_)
     refine⟨rfl,(dg (by decide) (by simp only [aO,ae,Nat.reduceEqDiff,reduceIte];exact cQ Tryz.t47.1 Tryz.t47.2.1 (I.lds (b:=B) (o:=0) (n:=4) m1 (lbt rfl)))).2 ((dg (by decide) (by simp only [aO,ae,Nat.reduceEqDiff,reduceIte];exact iM Tryz.t48.2.1 (I.ld (b:=C) (o:=0) m0 rfl))).2 (dV.2 ?_))⟩
     have gZ:Gr h0 h5:=(gA.fr.trans (U.rebase I).fr (fun c p=>.inr (by simp only [Xh,Xe,or_false]at p;omega)):Mo NoM h0 h5).gr
     exact⟨gZ,_,_,_,_,_,rfl,fun x hx=>(by rcases hx with h|h|h<;>exact h.elim),.inl ⟨.inl (by rw [V];exact Z),by rw [V],rfl,rfl,rfl,rfl⟩⟩
   . cases hz
end Go.Ab
end
section
namespace Go.Ab
end Go.Ab

end
section
namespace Go.Ab
open Go.Proofs
set_option maxRecDepth 10000


end Go.Ab
end
section
namespace Go.Ab
open Go.Proofs
set_option maxRecDepth 10000
def mG(l:List Ev):List Nat:=l.filterMap fun e=>if e.kind=0 then some e.id else none
def NearE(A:List Arc)(a:Nat->Nat->Prop)(l:List Ev):Prop:= ∀(i:Nat) (h:i<l.length),(l[i].kind=1/\l[i].id<A.length/\(A.getD l[i].id default).s∈mG (l.take i))\/(l[i].kind=0/\l[i].id∉mG (l.take i)/\a l[i].id l[i].lab)
theorem NearE.snoc{A:List Arc}{a:Nat->Nat->Prop}{l:List Ev}{e:Ev}(h:NearE A a l)(c:(e.kind=1/\e.id<A.length/\(A.getD e.id default).s∈mG l)\/(e.kind=0/\e.id∉mG l/\a e.id e.lab)):NearE A a (l++[e]):=by
 intro i d
 by_cases b:i<l.length
 . rw [List.getElem_append_left b,List.take_append_of_le_length (by omega)]
   exact h i b
 . have:i=l.length:=by simp at d;omega
   subst this
   rw [List.getElem_concat_length rfl,List.take_left]
   exact c
theorem uu(l:List Ev)(e:Ev):mG (l++[e])=mG l++if e.kind=0 then [e.id]else []:=by
 unfold mG
 rw [List.filterMap_append]
 by_cases h:e.kind=0<;>simp [h]
theorem pd{pi:Nat->Int}{σ:SS}{v lab:Nat}{p:List Nat}:(d7 pi σ v lab p).ev=σ.ev/\(d7 pi σ v lab p).O=σ.O:=by
 unfold d7
 split<;>exact⟨rfl,rfl⟩
section
variable{A:List Arc}{N s:Nat}{al:Nat->Bool}{pi:Nat->Int}{ok:Nat->Nat->Prop}
def EvI(A:List Arc)(ok:Nat->Nat->Prop)(σ:SS):Prop:=NearE A ok σ.ev/\mG σ.ev=σ.O
theorem EvI.scan1{σ:SS}(h:EvI A ok σ){v a:Nat}(b:v∈σ.O)(c:a<A.length)(d:(A.getD a default).s=v):EvI A ok (scan1 A al pi v σ a)/\(scan1 A al pi v σ a).O=σ.O:=by
 unfold Ab.scan1
 split
 . refine⟨⟨?_,?_⟩,pd.2⟩
   . rw [pd.1]
     exact h.1.snoc (.inl ⟨rfl,c,by rw [h.2];show(A.getD a default).s∈_;rw [d];exact b⟩)
   . rw [pd.1,pd.2]
     show mG (σ.ev++[_])=σ.O
     rw [uu,h.2]
     simp
 . exact⟨h,rfl⟩
theorem EvI.scanL{v:Nat}: ∀(l:List Nat) {σ:SS},EvI A ok σ->v∈σ.O->(∀a∈l,a<A.length/\(A.getD a default).s=v)->EvI A ok (l.foldl (Ab.scan1 A al pi v) σ)
 | [],_,h,_,_=>h
 | a::l,σ,h,d,c=>by
   have e:=h.scan1 (al:=al) (pi:=pi) d (c a List.mem_cons_self).1 (c a List.mem_cons_self).2
   exact EvI.scanL l e.1 (by rw [e.2];exact d) (fun b f=>c b (XX _ f))
theorem EvI.close{σ:SS}(h:EvI A ok σ){v:Nat}(a:v∉σ.O)(b:ok v (σ.L v)):EvI A ok (dl σ v):=by
 refine⟨h.1.snoc (.inr ⟨rfl,by rw [h.2];exact a,b⟩),?_⟩
 show mG (σ.ev++[_])=σ.O++[v]
 rw [uu,h.2]
 simp
end
end Go.Ab

end
section
namespace Go.Ab
open Go.Proofs
set_option maxRecDepth 10000

theorem Aw{h0:Hp}(a:h0.t.Sized h0.n):aK zM 34 [] h0 (.bool true):=ret_orc rfl ⟨rfl,Gr.refl a⟩
theorem toR_len{a:Gra}{l:List Int}{i:Nat}:(toR a l i).length=a.nodes:=by unfold toR;exact yh _ _ _
theorem frR_len{a:Gra}{l:List Int}{i:Nat}:(frR a l i).length=a.nodes:=by unfold frR;exact yh _ _ _
theorem qN{h0:Hp}{c:Gra}{i j mb d fp fb e long:Nat}{m:List Int}{cf Bt:Nat->Nat}(a:Good c)(k:aV h0 j (ptrTo i) c)(b:eS h0 mb (ptrTo d) c.nodes m cf)(f:fu m+1=((e:Nat):Int))(l:gX h0 fp fb e c.arcs.length long Bt): ∀h,Gr h0 h->aK zM 236 [ptrTo i,ptrTo d,ptrTo fp] h (.bool true):=by
 intro h g
 have o:=a.n2
 have n:=b.len
 have:=sQ g.ok (k.gr g) (.inr ⟨⟨_,b.at0.gr g⟩,f.symm⟩:ji h (ptrTo d) m (e:Int)) (l.gr g).bits a.n1 (by omega)
 rw [n]at this
 simpa using this
def Tryz.Fa:=aj t1<|aj t2<|aj t3<|aj t4<|aj t5<|aj t6<|aj Z3<|aj Z4<|aj t9<|aj t24<|aj Z9<|aj t29<|aj Z0<|aj t45<|Z2
def Tryz.F08:=aj t1<|aj t2<|aj t3<|aj t4<|aj t33<|aj t45<|aj t47<|r47
def jE(N:Nat)(w f t:Int)(fits tab:Bool):Int:=ku (decide (w=4\/w=5)) (decide (0<=f/\f<N)) (decide (0<=t/\t<N)) (fits&&(decide (w≠5)||tab))
theorem errC_pos{N:Nat}{w f t:Int}{fits tab:Bool}(a:w=4\/w=5)(b:0<=f/\f<N)(h3:0<=t/\t<N):jE N w f t fits tab=if(fits&&(decide (w≠5)||tab))=true then 0 else 19:=by
 unfold jE ku
 rw [decide_eq_true a,decide_eq_true b,decide_eq_true h3,if_pos rfl,if_pos rfl,if_pos rfl]
theorem errC_t{N:Nat}{w f t:Int}{fits tab:Bool}(a:w=4\/w=5)(b:0<=f/\f<N)(h3: ¬(0<=t/\t<N)):jE N w f t fits tab=18:=by
 unfold jE ku
 rw [decide_eq_true a,decide_eq_true b,decide_eq_false h3,if_pos rfl,if_pos rfl,if_neg Xq]
theorem errC_f{N:Nat}{w f t:Int}{fits tab:Bool}(a:w=4\/w=5)(b: ¬(0<=f/\f<N)):jE N w f t fits tab=17:=by
 unfold jE ku
 rw [decide_eq_true a,decide_eq_false b,if_pos rfl,if_neg Xq]
theorem errC_w{N:Nat}{w f t:Int}{fits tab:Bool}(a: ¬(w=4\/w=5)):jE N w f t fits tab=16:=by
 unfold jE ku
 rw [decide_eq_false a,if_neg Xq]
theorem qH {h0 : Hp} (s:h0.t.Sized h0.n) {N:Nat} {l m p:Value} (y:Fl l) (z:Fl m) (A:Fl p) {w f t a:Int} {fits tab:Bool}:
 aK zM 32 [.agg ⟨[.int .i64 N,l,m,p]⟩,.agg ⟨[.int .i64 w,.int .i64 f,.int .i64 t,.int .i64 a]⟩,.bool fits,.bool tab] h0 (.int .i64 (jE N w f t fits tab)):=by
 have S:=Si s
 refine ac (n:=48) (rs:=[.tmp 8]) rfl Tryz.e32 rfl rfl rfl (lbt rfl) ?_
 simp only [BS,Nat.reduceLT]
 refine ag (bg (by intro x e;cases e)) S ?_;clear S;intro h i S q;simp only [ah]at S
 simp only [BS,Nat.reduceLT,Nat.reduceEqDiff,if_false]
 refine ag (bg (by intro x e;cases e)) S ?_;clear S;intro h c S r;simp only [ah]at S
 by_cases d:w=4\/w=5
 . by_cases g : f<0
   . rw [errC_f d (by omega)]
     rcases d with rfl|rfl
     . simp only [BS,LB,ab,Nat.reduceLT,Nat.reduceEqDiff,Fa,g,S.ld (b:=c) (o:=0) m0 rfl,S.ld (b:=c) (o:=1) m0 rfl]
       exact S.gr
     . simp only [BS,LB,ab,Nat.reduceLT,Nat.reduceEqDiff,Fa,g,(by decide: ¬(5:Int)=4),S.ld (b:=c) (o:=0) m0 rfl,S.ld (b:=c) (o:=1) m0 rfl]
       exact S.gr
   . by_cases j :(N:Int)<=f
     . rw [errC_f d (by omega)]
       rcases d with rfl|rfl
       . simp only [BS,LB,ab,Nat.reduceLT,Nat.reduceEqDiff,Fa,g,j,S.ld (b:=c) (o:=0) m0 rfl,S.ld (b:=c) (o:=1) m0 rfl,S.ld (b:=i) (o:=0) m1 rfl]
         exact S.gr
       . simp only [BS,LB,ab,Nat.reduceLT,Nat.reduceEqDiff,Fa,g,j,(by decide: ¬(5:Int)=4),S.ld (b:=c) (o:=0) m0 rfl,S.ld (b:=c) (o:=1) m0 rfl,S.ld (b:=i) (o:=0) m1 rfl]
         exact S.gr
     . by_cases k:t<0
       . rw [errC_t d (by omega) (by omega)]
         rcases d with rfl|rfl
         . simp only [BS,LB,ab,Nat.reduceLT,Nat.reduceEqDiff,Fa,g,j,k,S.ld (b:=c) (o:=0) m0 rfl,S.ld (b:=c) (o:=1) m0 rfl,S.ld (b:=c) (o:=2) m0 rfl,S.ld (b:=i) (o:=0) m1 rfl]
           exact S.gr
         . simp only [BS,LB,ab,Nat.reduceLT,Nat.reduceEqDiff,Fa,g,j,k,(by decide: ¬(5:Int)=4),S.ld (b:=c) (o:=0) m0 rfl,S.ld (b:=c) (o:=1) m0 rfl,S.ld (b:=c) (o:=2) m0 rfl,S.ld (b:=i) (o:=0) m1 rfl]
           exact S.gr
       . by_cases t1:(N:Int)<=t
         . rw [errC_t d (by omega) (by omega)]
           rcases d with rfl|rfl
           . simp only [BS,LB,ab,Nat.reduceLT,Nat.reduceEqDiff,Fa,g,j,k,t1,S.ld (b:=c) (o:=0) m0 rfl,S.ld (b:=c) (o:=1) m0 rfl,S.ld (b:=c) (o:=2) m0 rfl,S.ld (b:=i) (o:=0) m1 rfl]
             exact S.gr
           . simp only [BS,LB,ab,Nat.reduceLT,Nat.reduceEqDiff,Fa,g,j,k,t1,(by decide: ¬(5:Int)=4),S.ld (b:=c) (o:=0) m0 rfl,S.ld (b:=c) (o:=1) m0 rfl,S.ld (b:=c) (o:=2) m0 rfl,S.ld (b:=i) (o:=0) m1 rfl]
             exact S.gr
         . rw [errC_pos d (by omega) (by omega)]
           rcases d with rfl|rfl
           . cases fits
             . simp only [BS,LB,ab,Nat.reduceLT,Nat.reduceEqDiff,Bool.false_and,XI,Fa,g,j,k,t1,S.ld (b:=c) (o:=0) m0 rfl,S.ld (b:=c) (o:=1) m0 rfl,S.ld (b:=c) (o:=2) m0 rfl,S.ld (b:=i) (o:=0) m1 rfl]
               exact S.gr
             . simp only [BS,LB,ab,Nat.reduceLT,Nat.reduceEqDiff,XY,Fa,g,j,k,t1,(by decide: ¬(4:Int)=5),S.ld (b:=c) (o:=0) m0 rfl,S.ld (b:=c) (o:=1) m0 rfl,S.ld (b:=c) (o:=2) m0 rfl,S.ld (b:=i) (o:=0) m1 rfl]
               exact⟨rfl,S.gr⟩
           . cases fits
             . simp only [BS,LB,ab,Nat.reduceLT,Nat.reduceEqDiff,Bool.false_and,XI,Fa,g,j,k,t1,(by decide: ¬(5:Int)=4),S.ld (b:=c) (o:=0) m0 rfl,S.ld (b:=c) (o:=1) m0 rfl,S.ld (b:=c) (o:=2) m0 rfl,S.ld (b:=i) (o:=0) m1 rfl]
               exact S.gr
             . cases tab
               . simp only [BS,LB,ab,Nat.reduceLT,Nat.reduceEqDiff,XY,Fa,g,j,k,t1,(by decide: ¬(5:Int)=4),S.ld (b:=c) (o:=0) m0 rfl,S.ld (b:=c) (o:=1) m0 rfl,S.ld (b:=c) (o:=2) m0 rfl,S.ld (b:=i) (o:=0) m1 rfl]
                 exact⟨rfl,S.gr⟩
               . simp only [BS,LB,ab,Nat.reduceLT,Nat.reduceEqDiff,XY,Fa,g,j,k,t1,(by decide: ¬(5:Int)=4),S.ld (b:=c) (o:=0) m0 rfl,S.ld (b:=c) (o:=1) m0 rfl,S.ld (b:=c) (o:=2) m0 rfl,S.ld (b:=i) (o:=0) m1 rfl]
                 exact⟨rfl,S.gr⟩
 . rw [errC_w d]
   have u: ¬w=4:=fun h=>d (.inl h)
   have v: ¬w=5:=fun h=>d (.inr h)
   simp only [BS,LB,ab,Nat.reduceLT,Nat.reduceEqDiff,Fa,u,v,S.ld (b:=c) (o:=0) m0 rfl,S.ld (b:=c) (o:=1) m0 rfl,S.ld (b:=c) (o:=2) m0 rfl,S.ld (b:=i) (o:=0) m1 rfl]
   exact S.gr
theorem py{h0:Hp}(i:h0.t.Sized h0.n){c d e:Int}{vA f:Value}(l:Fl vA)(m:Fl f)(j:(e≠0/\c=e/\d=0/\vA=.slice none 0 0/\f=.slice none 0 0)\/(e=0/\(c=0\/c=20))):
 aK zM 33 [ansV c d vA f,.int .i64 e] h0 (.bool true):=by
 have S:=Si i
 unfold ansV
 refine ac (n:=36) (rs:=[.tmp 4]) rfl Tryz.e33 rfl rfl rfl (lbt rfl) ?_
 simp only [BS,Nat.reduceLT]
 refine ag (bg (by intro x e;cases e)) S ?_;clear S;intro h a S g;simp only [ah]at S
 rcases j with⟨k,rfl,rfl,rfl,rfl⟩|⟨rfl,rfl|rfl⟩
 . simp only [BS,LB,ab,Nat.reduceLT,Nat.reduceEqDiff,Xp,F08,k,S.ld (b:=a) (o:=0) m0 rfl,S.ld (b:=a) (o:=1) m0 rfl,S.ld (b:=a) (o:=2) m0 rfl,S.ld (b:=a) (o:=3) m0 rfl]
   exact S.gr
 . simp only [BS,LB,ab,Nat.reduceLT,Nat.reduceEqDiff,F08,S.ld (b:=a) (o:=0) m0 rfl,S.ld (b:=a) (o:=1) m0 rfl,S.ld (b:=a) (o:=2) m0 rfl,S.ld (b:=a) (o:=3) m0 rfl]
   exact S.gr
 . simp only [BS,LB,ab,Nat.reduceLT,Nat.reduceEqDiff,F08,(by decide: ¬(20:Int)=0),S.ld (b:=a) (o:=0) m0 rfl,S.ld (b:=a) (o:=1) m0 rfl,S.ld (b:=a) (o:=2) m0 rfl,S.ld (b:=a) (o:=3) m0 rfl]
   exact S.gr
theorem threeQ_at{a0 a1 a2 a3 b0 b1 b2 b3 c0 c1 c2 c3:Value}{i:Nat}(a:i<3):m9 zM 85 (.agg ⟨[a0,a1,a2,a3,b0,b1,b2,b3,c0,c1,c2,c3]⟩) (.int .i64 (i:Nat))=some (.agg ⟨if i=0 then [a0,a1,a2,a3]else if i=1 then [b0,b1,b2,b3]else [c0,c1,c2,c3]⟩):=by
 rcases(by omega:i=0\/i=1\/i=2)with rfl|rfl|rfl<;>rfl
theorem threeQ_of{a0 a1 a2 a3 b0 b1 b2 b3 c0 c1 c2 c3:Value}:kY zM 85 [(0,.agg ⟨[a0,a1,a2,a3]⟩),(1,.agg ⟨[b0,b1,b2,b3]⟩),(2,.agg ⟨[c0,c1,c2,c3]⟩)]=some (.agg ⟨[a0,a1,a2,a3,b0,b1,b2,b3,c0,c1,c2,c3]⟩):=rfl
theorem and_one{x:Int}(e: -9223372036854775808<=x)(c:x<9223372036854775808): ∃z:Int,∀(E:Env) (t:TypeId) (a b:Operand),a9 E .and t a b (.int .i64 x) (.int .i64 1)=some (.int .i64 z):=by
 rcases x with n|n
 . refine⟨an .i64 (.ofNat (Nat.land n 1)),fun E t a b=>?_⟩
   have d:Nat.blt n (pw .i64)=true:=XU (by show n+1<=18446744073709551616;have:(n:Int)<9223372036854775808:=c;omega)
   simp only [a9,eh,cond_true,fg,show(1:Int)=X2 1 from rfl,iP,d,show Nat.blt 1 (pw .i64)=true from rfl,Xa,Xz]
 . exact⟨.ofNat ((n+1)%2),fun E t a b=>by simp only [a9,eh,cond_true,fg,show(1:Int)=X2 1 from rfl,iP,Nat.beq_refl,Xz]⟩
theorem Br{h0:Hp}{j:Nat}{f:Nat}{c:Gra}(a:Good c)(k:aV h0 j (ptrTo f) c){mb d:Nat}{m:List Int}{cf:Nat->Nat}(b:eS h0 mb (ptrTo d) c.nodes m cf){i:Nat}(e:fu m+1=((i:Nat):Int)):
 ∀h,Gr h0 h->aK zM 236 [ptrTo f,ptrTo d,.pointer none] h (.bool false):=by
 intro h g
 have l:=a.n2
 have n:=b.len
 have:=sQ g.ok (k.gr g) (.inr ⟨⟨_,b.at0.gr g⟩,e.symm⟩:ji h (ptrTo d) m (i:Int)) (.inl ⟨rfl,rfl,rfl,rfl⟩:mT h (.pointer none) 0 0 false) a.n1 (by omega)
 simpa using this
theorem nK{h0:Hp}(D:h0.t.Sized h0.n){o E p:Nat}{i:Gra}(q:Good i)(G:aV h0 E (ptrTo o) i){z k n:Value}{l:List Int}{R Q:Nat->List Int}(T:TabQ h0 z p l R Q)(H:l.length<=16)(I:Fl k)(J:Fl n){b:Bool}(F: ∀h,Gr h0 h->aK zM 236 [ptrTo o,k,n] h (.bool b))
 {mb fp fb rows long:Nat} {m:List Int} {cf:Nat->Nat} {Bt:Nat->Nat} (P:b=true->eS h0 mb k i.nodes m cf/\n=ptrTo fp/\gX h0 fp fb rows i.arcs.length long Bt/\rows<=100/\long=(i.arcs.length+7)/8/\ ∀v,v<i.nodes->cf v<rows) {way f t a:Int} {tb:Bool} (u:decide (0<l.length/\p=i.nodes)=tb):
 Ret zM 31 [ptrTo o,z,.agg ⟨[k,n]⟩,.agg ⟨[.int .i64 way,.int .i64 f,.int .i64 t,.int .i64 a]⟩] h0 fun r A=>Gr h0 A/\ ∃c d vA j vE,r=.tuple #[ansV c d vA j,vE]/\Fl vA/\Fl j/\Fl vE/\
  ((jE i.nodes way f t b tb≠0/\c=jE i.nodes way f t b tb/\d=0/\vA=.slice none 0 0/\j=.slice none 0 0)\/(jE i.nodes way f t b tb=0/\(c=0\/c=20)))/\(f=t->jE i.nodes way f t b tb=0->c=0/\d=0/\vA=.slice none 0 0/\j=.slice none 0 0):=by
 refine(AA D q G T H I J F P (way:=way) (f:=f) (t:=t) (a:=a)).mono ?_
 rintro r A ⟨g,c,d,vA,j,vE,rfl,N,B⟩
 have e:ku (decide (way=4\/way=5)) (decide (0<=f/\f<(i.nodes:Int))) (decide (0<=t/\t<(i.nodes:Int))) (iV b way l.length p i.nodes)=jE i.nodes way f t b tb:=by
  unfold jE iV
  rw [u]
 rw [e]at B
 refine⟨g,c,d,vA,j,vE,rfl,?_⟩
 rcases B with⟨h,rfl,rfl,rfl,rfl,rfl⟩|⟨h,s,w,O,S,U,K,_,_,_,C,⟨_,rfl,rfl,rfl,rfl⟩|⟨_,rfl,rfl,L,M⟩⟩
 . refine⟨bj,bj,bj,?_,fun _ h=>⟨h,rfl,rfl,rfl⟩⟩
   by_cases x:jE i.nodes way f t b tb=0
   . exact .inr ⟨x,.inl x⟩
   . exact .inl ⟨x,rfl,rfl,rfl,rfl⟩
 . exact⟨bj,bj,C.fl,.inr ⟨h,.inr rfl⟩,fun y=>absurd y (by omega)⟩
 . exact⟨L.fl,M.fl,C.fl,.inr ⟨h,.inl rfl⟩,fun y=>absurd y (by omega)⟩
def Tryz.F5:=aj t1<|aj t2<|aj t3<|aj t4<|aj t5<|aj t6<|aj Z3<|aj Z4<|aj t9<|aj t10<|aj t11<|aj t12<|aj Z15<|aj Z22<|aj t15<|aj t16<|aj t17<|aj t18<|aj r18<|aj Z21<|aj t20<|aj t21<|aj t22<|aj t23<|aj t24<|aj Z9<|aj t29<|aj Z0<|aj t32<|aj t33<|aj t36<|aj t38<|aj r38<|aj t41<|aj t45<|aj t47<|aj r47<|aj t48<|aj t51<|aj t59<|aj t74<|aj t76<|aj r76<|aj t77<|aj t78<|aj Z11<|aj t82<|aj r82<|aj t85<|aj Z14<|aj Z2<|aj Z5<|aj Z6<|aj t181<|aj t189<|aj Z1<|aj Z10<|aj t271<|aj t358<|aj Z19<|aj t372<|aj t374<|aj t376<|aj t377<|aj t378<|aj t379<|Z18
theorem SlW.grX{h a:Hp}{kd:IntKind}{v:Value}{xs:List Int}(s:SlW h kd v xs)(g:Gr h a):SlW a kd v xs:=s.imp (fun h=>h) (fun⟨b,o,c,d,e,f⟩=>⟨b,o,c,d,e,g.load f⟩)
theorem tu{h0:Hp}(ok:h0.t.Sized h0.n){vB vO vM vF vH:Value}{f t:Nat}{xa:Int}{cc:Bool}{B O ms H:List Int}(hB:SlW h0 .u8 vB B)(hO:SlW h0 .u8 vO O)(cO: ∀x∈O,0<=x/\x<=255)(hM:SlW h0 .u8 vM ms)(ea: ∀x∈ms,0<=x/\x<=255)(fF:Fl vF)(hf:f<=255)(ht:t<=255){q0 qf qt qa:Int}(eb: -9223372036854775808<=qf)(ec:qf<9223372036854775808)(hH:SlW h0 .u8 vH H):
 aK zM 6 [.agg ⟨[vB,vO,vM,.int .u8 (f:Nat),.int .u8 (t:Nat),.int .i8 xa,.bool cc,vF]⟩,.agg ⟨[.int .i64 q0,.int .i64 qf,.int .i64 qt,.int .i64 qa]⟩,vH] h0 (.bool true):=by
 have S:=Si ok
 have fB:=hB.sl.fl
 have fO:=hO.sl.fl
 have fM:=hM.sl.fl
 have fH:=hH.sl.fl
 have f0:=mR
 refine ac (n:=197) (rs:=[.tmp 6]) rfl Tryz.e6 rfl rfl rfl (lbt rfl) ?_
 simp only [BS,Nat.reduceLT]
 refine ag (bg (by intro x e;cases e)) S ?_;clear S;intro h b3 S fL;simp only [ah]at S
 simp only [BS,Nat.reduceLT,Nat.reduceEqDiff,if_false]
 refine ag (bg (by intro x e;cases e)) S ?_;clear S;intro h b4 S fP;simp only [ah]at S
 simp only [BS,LB,Nat.reduceLT,Nat.reduceEqDiff,F5,XA,Xo,XB,S.lds (b:=b3) (o:=0) (n:=8) m1 (lbt rfl)]
 refine step_ret (made26_ok S.ok (hB.grX S.gr) (hO.grX S.gr) cO (hM.grX S.gr) ea fF hf ht) ?_
 rintro r h ⟨g,E,vx,vy,va,bp,nb,bt,nt,l,f1,m,cf,cb,mb,fp,fb,Mc,Bt,rfl,y,ga,hn,hT,hl,f2,f3,ed,bi,bc,J,bm,oB⟩
 replace S:=S.call g
 have V:=S.row (b:=b4) m0
 have fx:=ga.X.fl
 have fy:=ga.Y.fl
 have fa:=ga.A.fl
 have n1:=y.n1
 have n2:=y.n2
 have g0:=S.gr
 have ei:=S.ok
 rename Hp=>hA
 clear S
 have S:=Si ei
 have hs:f%E.nodes<E.nodes:=XH _ (by omega)
 have hw:t%E.nodes<E.nodes:=XH _ (by omega)
 generalize f%E.nodes=s at hs
 generalize t%E.nodes=w at hw
 generalize an .i64 xa=a'
 obtain⟨way,ch⟩: ∃way:Int,(if cc=true then 5 else 4)=way:=⟨_,rfl⟩
 rw [ch]
 clear ch
 simp only [BS,LB,Nat.reduceLT,Nat.reduceEqDiff,F5]
 refine ag ax S ?_;clear S;intro h b7 S fR
 simp only [BS,LB,Nat.reduceLT,Nat.reduceEqDiff]
 refine ay (S.store (i:=0) rfl Tryz.t82.2.1 (by intro x e;cases e) rfl (by simp only [ah,Xi,Xk,fx.2.1,fy.2.1,fa.2.1,ed.2.1,Xa];rfl) (lbt rfl) ono) ?_
 clear S;rintro h ⟨S,K⟩;clear K
 simp only [LC,ah,lay,Xb,Xc,Nat.reduceAdd]at S
 have M:=S.row (b:=b7) m0
 have gB:=S.gr
 replace V:=V.gr gB
 have ej:=S.ok
 clear S
 rename Hp=>hB'
 have S:=Si ej
 have mn:min (H.length:Int) 40=((min H.length 40:Nat):Int):=by omega
 obtain⟨cj,ek,sH,bH⟩:=hH.low (kd':=.i64) (n:=min H.length 40) Tryz.t22.1 Tryz.t5.2.2.1 (Nat.min_le_left _ _)
 have em:=sH.fl
 simp only [BS,LB,Nat.reduceLT,Nat.reduceEqDiff,Nat.reduceAdd,Xz,XO,F5,hH.sl.lenq,mn,ek,em]
 refine ag (bg (by intro x e;cases e)) S ?_;clear S;intro h bd S ck;simp only [ah]at S
 have en:av h 1 (encI .u8) cj (H.take (min H.length 40)):=sH.gr (g0.trans (gB.trans S.gr))
 have nB: ¬ar cj bd:=fun hc=>by
  have:=sH.lt ok hc
  have:=g0.n
  have:=gB.n
  omega
 have er:(H.take (min H.length 40)).length<1000000:=by rw [Xj];omega
 simp only [BS,LB,Nat.reduceLT,Nat.reduceEqDiff]
 refine step_ret (raw_ok S.ok (S.row m0) ⟨en,nB,er,by omega⟩) ?_
 rintro v h ⟨fr,δ,wx,wy,wa,rfl,be,gb,hz⟩
 replace S:=S.drop1.step fr (fun c hc=>by subst hc;exact .inr ck) (fun c hc e=>by simp [keys]at hc)
 have es:=gb.X.fl
 have ev:=gb.Y.fl
 have ew:=gb.A.fl
 have d1:=be.n1
 have d2:=be.n2
 have gC:=gB.trans S.gr
 replace V:=V.gr S.gr
 replace M:=M.gr S.gr
 have ex:=S.ok
 clear S
 rename Hp=>hC
 have S:=Si ex
 simp only [BS,F5,jL]
 refine ag ax S ?_;clear S;intro h bl S eD
 simp only [BS,LB,Nat.reduceLT,Nat.reduceEqDiff]
 refine ay (S.store (i:=0) rfl Tryz.t31.2.1 (by intro x e;cases e) rfl (by simp only [ah,Xi,Xk,es.2.1,ev.2.1,ew.2.1,Xa];rfl) (lbt rfl) ono) ?_
 clear S;rintro h ⟨S,K⟩;clear K
 simp only [LC,ah,lay,Xb,Xc,Nat.reduceAdd]at S
 simp only [BS,LB,Nat.reduceLT,Nat.reduceEqDiff,F5,XA,Xo,XB,S.lds (b:=bl) (o:=0) (n:=4) m0 (lbt rfl)]
 refine step_ret (wN S.ok be (gb.gr S.gr)) ?_
 rintro v h ⟨p,rfl,g,hk⟩
 obtain⟨bk,rfl⟩: ∃b,p=ptrTo b:=by obtain⟨b,_,_,_,_,_,e,_⟩:=hk.ex;exact⟨b,e⟩
 replace S:=S.call g
 clear g
 have bf:=S.row (b:=bl) m0
 have gD:=gC.trans S.gr
 replace V:=V.gr S.gr
 replace M:=M.gr S.gr
 have eE:=S.ok
 clear S
 rename Hp=>hD
 have S:=Si eE
 have bo:=M.load (o:=9) (n:=4) (lbt rfl)
 have bq:=V.load (o:=0) (n:=4) (lbt rfl)
 have cl:=V.load1 (o:=0) rfl
 have cn:=V.load1 (o:=1) rfl
 have cp:=V.load1 (o:=2) rfl
 simp only [Xc,Xb]at bo bq
 simp only [BS,LB,Nat.reduceLT,Nat.reduceEqDiff,F5,bo]
 refine ag ax S ?_;clear S;intro h eK S eL
 simp only [BS,LB,Nat.reduceLT,Nat.reduceEqDiff]
 refine ay (S.store (i:=0) rfl Tryz.t28.2.1 (by intro x e;cases e) rfl rfl (lbt rfl) ono) ?_
 clear S;rintro h ⟨S,K⟩;clear K
 simp only [LC,ah,lay,Xb,Xc,Nat.reduceAdd]at S
 have cr:=S.gr.load cl
 simp only [BS,LB,Nat.reduceLT,Nat.reduceEqDiff,F5,cr]
 refine ay (az S (i:=0) rfl Tryz.t3.2.2.1 bU (Xl (lbt rfl)) ono) ?_
 clear S;rintro h ⟨S,K⟩;clear K
 simp only [LC]at S
 have cs:=S.gr.load bq
 have cv:=S.gr.load cn
 have cx:=S.gr.load cp
 obtain⟨z,eM⟩:=and_one eb ec
 simp only [BS,LB,Nat.reduceLT,Nat.reduceEqDiff,Nat.reduceAdd,F5,cs,cv,cx,eM,lc (n:=16) (by decide),XA,Xo,XB,threeQ_of,S.lds (b:=eK) (o:=0) (n:=4) m0 (lbt rfl)]
 generalize an .i64 (4+z)=w3
 generalize qt.tmod 16=t3
 have gL:=gD.trans S.gr
 replace M:=M.gr S.gr
 replace bf:=bf.gr S.gr
 replace hk:=hk.gr S.gr
 have br:=S.ok
 clear S bo bq cl cn cp cr cv cx cs V
 rename Hp=>hL
 have W:=M.load1 (o:=4) rfl
 have cz:=M.load1 (o:=5) rfl
 have bh:=M.load (o:=7) (n:=2) (lbt rfl)
 have cA:=M.load1 (o:=7) rfl
 have X:=M.load (o:=0) (n:=4) (lbt rfl)
 have P:=M.load1 (o:=0) rfl
 have Q:=bf.load1 (o:=0) rfl
 simp only [Xc,Xb]at bh X
 have z7:=M.lt br
 have eN:=bf.lt br
 have bs: ∀v,v<E.nodes->cf v<Mc:=fun v hv=>by
  have h1:=bi.val v hv
  have lm:=bi.len
  have cT:v<m.length:=by omega
  have e:m.getD v 0=m[v]:=by rw [Xm,Xd cT,Option.getD_some]
  have:=lmax_ge (Xw cT)
  omega
 have fW:=y.many
 have G:=hn.gr gL
 have A:=bi.gr gL
 have R:=bm.gr gL
 have eO:=hT.gr gL
 refine aQ (fun(j:Nat) ρ h'=>j<=3/\Gr hL h'/\ρ 7=ptrTo b7/\ρ 10=ptrTo bl/\ρ 11=ptrTo bk/\ρ 69=.agg ⟨[.int .i64 q0,.int .i64 qf,.int .i64 qt,.int .i64 qa,.int .i64 q0,.int .i64 s,.int .i64 w,.int .i64 a',.int .i64 w3,.int .i64 t3,.int .i64 t3,.int .i64 0]⟩/\ρ 70=.int .i64 j) (fun j=>3-j) ?_ 0 _ _ ?_
 . intro j ih ρ h ⟨hj,gj,r7,r10,r11,r69,r70⟩
   have wj:an .i64 ((j:Int)+1)=((j+1:Nat):Int):=by rw [wrap64]<;>omega
   by_cases eP:j<3
   . have c3:(j:Int)<3:=by omega
     have cW:=threeQ_at (a0:=.int .i64 q0) (a1:=.int .i64 qf) (a2:=.int .i64 qt) (a3:=.int .i64 qa) (b0:=.int .i64 q0) (b1:=.int .i64 s) (b2:=.int .i64 w) (b3:=.int .i64 a') (c0:=.int .i64 w3) (c1:=.int .i64 t3) (c2:=.int .i64 t3) (c3:=.int .i64 0) eP
     obtain⟨Y,T,Z,ya,ey⟩: ∃Y T Z ya:Int,(if j=0 then [Value.int .i64 q0,.int .i64 qf,.int .i64 qt,.int .i64 qa]else if j=1 then [.int .i64 q0,.int .i64 s,.int .i64 w,.int .i64 a']else [.int .i64 w3,.int .i64 t3,.int .i64 t3,.int .i64 0])=[.int .i64 Y,.int .i64 T,.int .i64 Z,.int .i64 ya]:=by split;exact⟨_,_,_,_,rfl⟩;split<;>exact⟨_,_,_,_,rfl⟩
     rw [ey]at cW
     clear ey
     have eT:=gj.ok
     have S:=Si eT
     simp only [BS,LB,Nat.reduceLT,Nat.reduceEqDiff,F5,r69,r70,c3,cW]
     refine ag ax S ?_;clear S;intro h eU S eV
     simp only [BS,LB,Nat.reduceLT,Nat.reduceEqDiff]
     refine ay (S.store (i:=0) rfl Tryz.t28.2.1 (by intro x e;cases e) rfl rfl (lbt rfl) ono) ?_
     clear S;rintro h ⟨S,K⟩;clear K
     simp only [LC,ah,lay,Xb,Xc,Nat.reduceAdd]at S
     have d:=S.row (b:=eU) m0
     have U:=gj.trans S.gr
     have cX:=S.ok
     clear S
     have S:=Si cX
     rename Hp=>hK
     have k:=d.load (o:=0) (n:=4) (lbt rfl)
     have C:=d.load1 (o:=1) rfl
     have D:=d.load1 (o:=2) rfl
     simp only [Xc,Xb]at k
     have f4:=d.lt cX
     simp only [BS,LB,Nat.reduceLT,Nat.reduceEqDiff,F5,r7,U.load W,U.load cz,U.load bh,k]
     have TQ:TabQ hK (ptrTo bt) E.nodes l (toR E l) (frR E l):=.inl ⟨_,eO.gr U,fun i _=>toR_len,fun i _=>frR_len⟩
     refine step_ret (nK S.ok y (G.gr U) TQ (by omega) ct ct (qN y (G.gr U) (A.gr U) bc (R.gr U)) (fun _=>⟨A.gr U,rfl,R.gr U,J,rfl,bs⟩) (way:=Y) (f:=T) (t:=Z) (a:=ya) (tb:=true) (decide_eq_true ⟨by omega,rfl⟩)) ?_
     rintro r h ⟨g,c1,e1,f5,f6,f7,rfl,cY,c7,f8,p1,e0⟩
     replace S:=S.call g;clear g
     simp only [BS,LB,Nat.reduceLT,Nat.reduceEqDiff,F5,ansV]
     refine ag ax S ?_;clear S;intro h e3 S e7
     simp only [BS,LB,Nat.reduceLT,Nat.reduceEqDiff]
     refine ay (S.store (i:=0) rfl Tryz.t47.2.1 (by intro x e;cases e) rfl (by simp only [ah,Xi,Xk,cY.2.1,c7.2.1,Xa];rfl) (lbt rfl) ono) ?_
     clear S;rintro h ⟨S,K⟩;clear K
     simp only [LC,ah,lay,Xb,Xc,Nat.reduceAdd]at S
     have u:=U.trans S.gr
     simp only [BS,LB,Nat.reduceLT,Nat.reduceEqDiff,Nat.reduceAdd,F5,r7,u.load W,u.load cz,u.load cA,S.gr.load k]
     refine step_ret (nK S.ok y (G.gr u) (TQ.gr S.gr) (by omega) ct ct (Br y (G.gr u) (A.gr u) bc) (fun h=>absurd h Xq) (fp:=0) (fb:=0) (rows:=0) (long:=0) (m:=m) (cf:=cf) (Bt:=Bt) (mb:=0) (way:=Y) (f:=T) (t:=Z) (a:=ya) (tb:=true) (decide_eq_true ⟨by omega,rfl⟩)) ?_
     rintro r h ⟨g,c2,e2,f9,gd,gg,rfl,db,dc,gh,p2,fc⟩
     replace S:=S.call g;clear g u fc
     simp only [BS,LB,Nat.reduceLT,Nat.reduceEqDiff,F5,ansV]
     refine ag ax S ?_;clear S;intro h fd S fe
     simp only [BS,LB,Nat.reduceLT,Nat.reduceEqDiff]
     refine ay (S.store (i:=0) rfl Tryz.t47.2.1 (by intro x e;cases e) rfl (by simp only [ah,Xi,Xk,db.2.1,dc.2.1,Xa];rfl) (lbt rfl) ono) ?_
     clear S;rintro h ⟨S,K⟩;clear K
     simp only [LC,ah,lay,Xb,Xc,Nat.reduceAdd]at S
     have u:=U.trans S.gr
     have TN:TabQ h (.pointer none) 0 [] (toR E []) (frR E []):=.inr ⟨rfl,rfl,rfl⟩
     simp only [BS,LB,Nat.reduceLT,Nat.reduceEqDiff,F5,r7,u.load W,u.load bh,S.gr.load k]
     refine step_ret (nK S.ok y (G.gr u) TN (by simp) ct ct (qN y (G.gr u) (A.gr u) bc (R.gr u)) (fun _=>⟨A.gr u,rfl,R.gr u,J,rfl,bs⟩) (way:=Y) (f:=T) (t:=Z) (a:=ya) (tb:=false) (decide_eq_false (fun h=>absurd h.1 (Nat.lt_irrefl 0)))) ?_
     rintro r h ⟨g,c4,e4,gi,gl,gn,rfl,dd,de,gq,p3,ff⟩
     replace S:=S.call g;clear g u ff TN
     simp only [BS,LB,Nat.reduceLT,Nat.reduceEqDiff,F5,ansV]
     refine ag ax S ?_;clear S;intro h fl S fs
     simp only [BS,LB,Nat.reduceLT,Nat.reduceEqDiff]
     refine ay (S.store (i:=0) rfl Tryz.t47.2.1 (by intro x e;cases e) rfl (by simp only [ah,Xi,Xk,dd.2.1,de.2.1,Xa];rfl) (lbt rfl) ono) ?_
     clear S;rintro h ⟨S,K⟩;clear K
     simp only [LC,ah,lay,Xb,Xc,Nat.reduceAdd]at S
     have F:=S.row (b:=e3) m2
     have ad:=S.row (b:=fd) m1
     have af:=S.row (b:=fl) m0
     have gM:=U.trans S.gr
     replace d:=d.gr S.gr
     have dj:=S.ok
     clear S TQ k C D
     rename Hp=>hM'
     have S:=Si dj
     have k:=d.load (o:=0) (n:=4) (lbt rfl)
     simp only [Xc,Xb]at k
     have y7:=zO z7 gM.n
     have I:=d.lt dj
     simp only [BS,LB,Nat.reduceLT,Nat.reduceEqDiff]
     refine aw (mY (ord:=[12,0,1,2,3,4,5,6,7,8,9,10,11,13,14]) rfl rfl (by simp only [dM,ns,ep,XC,XD,XL,XE,XG,Nat.reduceBEq,cond_true,cond_false];exact rfl)) (q:=17) (ps:=[(0,9),(5,8),(5,7),(2,5),(0,5)]) (by kernel_rfl) ?_
     simp only [BS,LB,cls,Nat.reducePow,Nat.reduceDiv,Nat.reduceMod,Nat.reduceLeDiff,F5]
     refine dK ax S ?_;clear S;intro h bv S ft bB
     have fv:=(S.row (b:=bv) m0).lt S.ok
     have g7:=gM.trans S.gr
     simp only [BS,LB,cls,Nat.reduceLT,Nat.reduceEqDiff,Nat.reduceAdd,Nat.reducePow,Nat.reduceDiv,Nat.reduceMod,Nat.reduceLeDiff,F5,r7,r11,g7.load W]
     refine dK (bI (by exact Tryz.t33.1) (by exact Xr) (by decide) (by rfl)) S ?_;clear S;intro h bx S fX fY;simp only [LC,aT,bA,ah,Nat.reduceMul,Nat.reduceAdd,Xt,Xu,Xn,Xx]at S
     have s1:av h 1 (encI .i64) (.slice (some ⟨bx,0,none⟩) 1 1) [(0:Int)]:=.inr ⟨bx,0,none,1,rfl,XT _,S.lds (b:=bx) (o:=0) (n:=1*1) m0 (lbt rfl)⟩
     have fw:gT δ.nodes [(0:Int)]:=(xw δ.nodes).push (by simp) (by omega) (by omega) (by simp)
     have bE:=(S.row (b:=bv) m1).lt S.ok
     have x7:=zO y7 S.gr.n
     have dm:=zO I S.gr.n
     simp only [BS,LB,cls,Nat.reduceLT,Nat.reduceEqDiff,Nat.reduceAdd,Nat.reducePow,Nat.reduceDiv,Nat.reduceMod,Nat.reduceLeDiff]
     refine da (zk S.ok be (hk.gr (gM.trans S.gr)) s1 (by simp)) ?_
     rintro pu h ⟨g,hU⟩
     replace hU:=(hU.resolve_left (fun h=>h.1 fw)).2
     obtain⟨bu,et⟩: ∃b,pu=ptrTo b:=by obtain⟨b,_,_,_,e,_⟩:=hU.ex;exact⟨b,e⟩
     subst et
     have bL:=aq g bE
     have a7:=aq g x7
     have bP:=aq g dm
     have dn:=zO bE g.n
     replace S:=S.call g;clear g
     have u:=gM.trans S.gr
     have TU:TabQ h (ptrTo bu) δ.nodes [(0:Int)] (toR δ [0]) (frR δ [0]):=.inl ⟨_,hU,fun i _=>toR_len,fun i _=>frR_len⟩
     simp only [BS,LB,cls,Nat.reduceLT,Nat.reduceEqDiff,Nat.reduceAdd,Nat.reducePow,Nat.reduceDiv,Nat.reduceMod,Nat.reduceLeDiff,F5,r7,u.load W,u.load bh,S.gr.load k]
     refine da (nK S.ok y (G.gr u) TU (by simp) ct ct (qN y (G.gr u) (A.gr u) bc (R.gr u)) (fun _=>⟨A.gr u,rfl,R.gr u,J,rfl,bs⟩) (way:=Y) (f:=T) (t:=Z) (a:=ya) (tb:=decide ((δ.nodes:Int)=(E.nodes:Int))) (decide_eq_decide.2 (by simp only [List.length_cons,List.length_nil];omega))) ?_
     rintro r h ⟨g,c5,e5,gr,gs,gx,rfl,ds,dt,gz,p4,fz⟩
     have bX:=aq g dn
     replace S:=S.call g;clear g u fz TU hU
     simp only [BS,LB,cls,Nat.reduceLT,Nat.reduceEqDiff,Nat.reduceAdd,Nat.reducePow,Nat.reduceDiv,Nat.reduceMod,Nat.reduceLeDiff,ansV]
     refine dw (S.store (i:=1) rfl Tryz.t47.2.1 (by intro x e;cases e) rfl (by simp only [ah,Xi,Xk,ds.2.1,dt.2.1,Xa];rfl) (lbt rfl) ono) ?_
     clear S;rintro h ⟨S,_⟩
     simp only [LC,ah,lay,Xb,Xc,Nat.reduceAdd]at S
     simp only [BS,LB,cls,Nat.reduceLT,Nat.reduceEqDiff,Nat.reduceAdd,Nat.reducePow,Nat.reduceDiv,Nat.reduceMod,Nat.reduceLeDiff]
     refine⟨by simp only [bz,bG,aW,bM,a8,ne_eq,not_false_eq_true,bS,cD,bD,bw,ca,c9,aO,Nat.reduceLT,Nat.reduceEqDiff,reduceIte,Xa,r7,r10,r11,r69,r70,ae,jU,<-bB,aI bL,aE bL,aI a7,aE a7,aI bP,aE bP,aI bX,aE bX],?_⟩
     have bY:=S.row (b:=bv) m1
     have L:=gM.trans S.gr
     replace d:=d.gr S.gr
     replace F:=F.gr S.gr
     replace ad:=ad.gr S.gr
     replace af:=af.gr S.gr
     have dv:=S.ok
     clear S bL a7 bP bX bE x7 dm dn fv g7 k s1 y7 I
     rename Hp=>hN
     have S:=Si dv
     have k:=d.load (o:=0) (n:=4) (lbt rfl)
     have C:=d.load1 (o:=1) rfl
     have D:=d.load1 (o:=2) rfl
     simp only [Xc,Xb]at k
     have y7:=zO z7 L.n
     have ai:=zO eN L.n
     have I:=d.lt dv
     refine aw (aB rfl) (q:=0) (ps:=[(11,19),(7,19),(3,19),(11,16),(7,16),(3,16),(11,14),(7,14),(3,14),(11,13),(7,13),(3,13),(7,10),(3,10),(7,9),(3,9),(3,6),(3,5)]) (by kernel_rfl) ?_
     simp only [BS,LB,cls,Nat.reduceLT,Nat.reduceEqDiff,Nat.reduceAdd,Nat.reducePow,Nat.reduceDiv,Nat.reduceMod,Nat.reduceLeDiff,F5,r7,L.load X,L.load P,L.load Q,k]
     refine bZ (qH S.ok fx fy fa (N:=E.nodes) (w:=Y) (f:=T) (t:=Z) (a:=ya) (fits:=true) (tab:=true)) ?_
     intro h g
     have b5:=aq g (zO y7 S.gr.n)
     have ak:=aq g (zO ai S.gr.n)
     have al:=aq g (zO I S.gr.n)
     replace S:=S.call g;clear g
     simp only [BS,LB,cls,Nat.reduceLT,Nat.reduceEqDiff,Nat.reduceAdd,Nat.reducePow,Nat.reduceDiv,Nat.reduceMod,Nat.reduceLeDiff,F5,r7,(L.trans S.gr).load X,(L.trans S.gr).load P,(L.trans S.gr).load Q,S.gr.load k]
     refine bZ (qH S.ok fx fy fa (N:=E.nodes) (w:=Y) (f:=T) (t:=Z) (a:=ya) (fits:=false) (tab:=true)) ?_
     intro h g
     have b6:=aq g (zO y7 S.gr.n)
     have aL:=aq g (zO ai S.gr.n)
     have a4:=aq g (zO I S.gr.n)
     replace S:=S.call g;clear g
     simp only [BS,LB,cls,Nat.reduceLT,Nat.reduceEqDiff,Nat.reduceAdd,Nat.reducePow,Nat.reduceDiv,Nat.reduceMod,Nat.reduceLeDiff,F5,r7,(L.trans S.gr).load X,(L.trans S.gr).load P,(L.trans S.gr).load Q,S.gr.load k]
     refine bZ (qH S.ok fx fy fa (N:=E.nodes) (w:=Y) (f:=T) (t:=Z) (a:=ya) (fits:=true) (tab:=false)) ?_
     intro h g
     have b8:=aq g (zO y7 S.gr.n)
     have a5:=aq g (zO ai S.gr.n)
     have a6:=aq g (zO I S.gr.n)
     replace S:=S.call g;clear g
     simp only [BS,LB,cls,Nat.reduceLT,Nat.reduceEqDiff,Nat.reduceAdd,Nat.reducePow,Nat.reduceDiv,Nat.reduceMod,Nat.reduceLeDiff,F5,r7,r10,(L.trans S.gr).load X,(L.trans S.gr).load P,(L.trans S.gr).load Q,S.gr.load k]
     refine bZ (qH S.ok fx fy fa (N:=E.nodes) (w:=Y) (f:=T) (t:=Z) (a:=ya) (fits:=true) (tab:=(decide ((δ.nodes:Int)=(E.nodes:Int))))) ?_
     intro h g
     have b9:=aq g (zO y7 S.gr.n)
     have ba:=aq g (zO ai S.gr.n)
     have bb:=aq g (zO I S.gr.n)
     replace S:=S.call g;clear g
     simp only [BS,LB,cls,Nat.reduceLT,Nat.reduceEqDiff,Nat.reduceAdd,Nat.reducePow,Nat.reduceDiv,Nat.reduceMod,Nat.reduceLeDiff,F5]
     refine⟨by simp only [bz,bG,aW,bM,a8,ne_eq,not_false_eq_true,bS,cD,bD,bw,ca,c9,aO,Nat.reduceLT,Nat.reduceEqDiff,reduceIte,Xa,r7,r10,r11,r69,r70,ae,aI b5,aE b5,aI ak,aE ak,aI al,aE al,aI b6,aE b6,aI aL,aE aL,aI a4,aE a4,aI b8,aE b8,aI a5,aE a5,aI a6,aE a6,aI b9,aE b9,aI ba,aE ba,aI bb,aE bb],?_⟩
     clear b5 ak al b6 aL a4 b8 a5 a6 b9 ba bb
     have gP:=L.trans S.gr
     replace d:=d.gr S.gr
     replace F:=F.gr S.gr
     replace ad:=ad.gr S.gr
     replace af:=af.gr S.gr
     replace bY:=bY.gr S.gr
     have fA:=S.ok
     clear S k C D y7 ai I
     rename Hp=>hP
     have S:=Si fA
     have C:=d.load1 (o:=1) rfl
     have D:=d.load1 (o:=2) rfl
     have dx:=F.load (o:=0) (n:=4) (lbt rfl)
     have dF:=ad.load (o:=0) (n:=4) (lbt rfl)
     have dO:=af.load (o:=0) (n:=4) (lbt rfl)
     have d0:=bY.load (o:=0) (n:=4) (lbt rfl)
     have d3:=F.load1 (o:=0) rfl
     have d4:=F.load1 (o:=1) rfl
     have d5:=F.load1 (o:=2) rfl
     have d6:=F.load1 (o:=3) rfl
     simp only [Xc,Xb]at dx dF dO d0
     simp only [BS,LB,Nat.reduceLT,Nat.reduceEqDiff,dx]
     refine am (py S.ok cY c7 p1) ?_
     intro h g
     replace S:=S.call g;clear g
     simp only [BS,LB,Nat.reduceLT,Nat.reduceEqDiff,F5,S.gr.load dF]
     refine am (py S.ok db dc p2) ?_
     intro h g
     replace S:=S.call g;clear g
     simp only [BS,LB,Nat.reduceLT,Nat.reduceEqDiff,F5,S.gr.load dO]
     refine am (py S.ok dd de p3) ?_
     intro h g
     replace S:=S.call g;clear g
     simp only [BS,LB,Nat.reduceLT,Nat.reduceEqDiff,F5,S.gr.load d0]
     refine am (py S.ok ds dt p4) ?_
     intro h g
     replace S:=S.call g;clear g
     have gZ:=gP.trans S.gr
     by_cases d8:T=Z
     . subst d8
       by_cases he:jE E.nodes Y T T true true=0
       . obtain⟨rfl,rfl,rfl,rfl⟩:=e0 rfl he
         simp only [BS,LB,Nat.reduceLT,Nat.reduceEqDiff,Int.reduceLT,Xp,F5,r70,S.gr.load C,S.gr.load D,S.gr.load d3,S.gr.load d4,S.gr.load d5,S.gr.load d6,he,wj]
         exact ih (j+1) _ _ (by omega) ⟨by omega,gZ,by simp [aa,r7,ae],by simp [aa,r10,ae],by simp [aa,r11,ae],by simp [aa,r69],by simp [aa]⟩
       . simp only [BS,LB,Nat.reduceLT,Nat.reduceEqDiff,F5,r70,S.gr.load C,S.gr.load D,he,wj]
         exact ih (j+1) _ _ (by omega) ⟨by omega,gZ,by simp [aa,r7,ae],by simp [aa,r10,ae],by simp [aa,r11,ae],by simp [aa,r69],by simp [aa]⟩
     . simp only [BS,LB,Nat.reduceLT,Nat.reduceEqDiff,F5,r70,S.gr.load C,S.gr.load D,d8,wj]
       exact ih (j+1) _ _ (by omega) ⟨by omega,gZ,by simp [aa,r7,ae],by simp [aa,r10,ae],by simp [aa,r11,ae],by simp [aa,r69],by simp [aa]⟩
   . have c3: ¬(j:Int)<3:=by omega
     simp only [BS,LB,Nat.reduceLT,r70,c3]
     refine am (Aw gj.ok) ?_
     intro h g
     simp only [BS,LB,ab,Nat.reduceLT,Nat.reduceEqDiff]
     exact(g0.trans gL).trans (gj.trans g)
 . exact⟨by omega,Gr.refl br,by simp [aa,ae],by simp [aa,ae],by simp [aa,ae],by simp [aa],by simp [aa]⟩
end Go.Ab
end
section
namespace Go.Ab
open Go.ChangeShapes Go.WideShapes Go.RowKit
theorem rowAt_le{P:Program}{fits:TypeId->Bool}{d:Nat}{e:TypeId}{a off n:Nat}(h:rowAt P fits d e a off n=true):off<=a*P.cellsOf e:=by
 cases d with
 |zero=>cases h
 | succ d=>
   unfold rowAt at h
   simp only []at h
   split at h
   . cases h
   . rename_i g
     have b:0<P.cellsOf e:=by omega
     have c:=Nat.div_add_mod off (P.cellsOf e)
     simp only [Bool.or_eq_true,XM,beq_iff_eq,decide_eq_true_eq]at h
     rcases h with⟨⟨f,i⟩,_⟩|⟨f,_⟩
     . have:P.cellsOf e*(off/P.cellsOf e)<=P.cellsOf e*a:=Nat.mul_le_mul_left _ (by omega)
       rw [Nat.mul_comm a];omega
     . have:P.cellsOf e*(off/P.cellsOf e+1)<=P.cellsOf e*a:=Nat.mul_le_mul_left _ (by omega)
       have hlt:=XH off b
       rw [Nat.mul_add,Xn]at this
       rw [Nat.mul_comm a];omega
theorem liesAt_le{P:Program}{d:Nat}: ∀{e:TypeId} {a off:Nat} {u:TypeId} {n:Nat},liesAt P d e a off u n=true->off<=a*P.cellsOf e:=by
 induction d with
 |zero=>intro e a off u n h;cases h
 | succ d b=>
   intro e a off u n h
   unfold liesAt at h
   rw [Bool.or_eq_true]at h
   rcases h with h|h
   . exact rowAt_le h
   . split at h
     . exact b h
     . cases h
theorem has_W{P:Program}{W:World}{r:_root_.Go.Reach}{base:Nat}{a:Addr}{e:TypeId}{n:Nat}(h:W.has P r base a e n):a.spot=none/\a.block<W.heap.size/\ ∃l,(hpW W).load (a.block+16) a.off 0=some l:=by
 obtain⟨_,f,i,c,b,k⟩:=h
 have hle:=liesAt_le k
 have d:a.off<=c:=Nat.le_trans hle (Nat.div_mul_le_self _ _)
 unfold World.shape? at b
 split at b
 next m el q g=>
  cases b
  have hlt:=(Array.getElem?_eq_some_iff.1 g).1
  have p:Row (hpW W) (a.block+16) (m.toList.map (gQ W.heap.size)) 0:=⟨_,_,by rw [re,g];rfl,Tr.sized_ofList _,fun j=>Tr.get_ofList _ j⟩
  exact⟨f,hlt,_,p.load (o:=a.off) (n:=0) (by simpa using d)⟩
 . cases b
section
variable{H:Type}{enc:TypeId×Value->H}{P:Program}
theorem ow{W:World}{base n:Nat}{s e:TypeId}{k:IntKind}{c:Value}{C:Nat->Bool}{D:Bool}{x:DataW H×List MemPlace}(v:P.underlying s=some (.slice e))(E:P.underlying e=some (.int k))(F:P.cellsOf e=1)
 (b:Cell.okWide P W .any base s c) (h:DataW.trod enc P W 0 C D n s [c]=some x): ∃d:List Int,SlW (hpW W) k (gQ W.heap.size c) d/\(∀z∈d,(Lit.int k z).wf=true)/\d.length<=9223372036854775807:=by
 rcases Go.ChangeShapes.open_ints v E F h with⟨w,_⟩|⟨a,g,o,d,w,J,A,K,p,_,j,y⟩
 . cases w
   exact⟨[],.inl ⟨rfl,rfl⟩,fun z p=>(by cases p),by simp⟩
 . cases w
   unfold Cell.okWide at b
   rw [v]at b
   simp only [Cell.ok,v]at b
   obtain⟨B,q,r⟩:=b
   obtain⟨t,hlt,G⟩:=has_W r
   have m:g<=d.length:=by rw [p];split<;>omega
   refine⟨d.take g,.inr ⟨a.block+16,a.off,o,?_,?_,?_⟩,fun z p=>y z (List.mem_of_mem_take p),by
    have:(o:Int)<=9223372036854775807:=q
    rw [Xj];omega⟩
   . rw [Xj,XS m]
     simp only [gQ,if_pos A,if_pos (And.intro t hlt)]
   . rw [Xj,XS m];exact A
   . rw [Xj,XS m,Xn]
     rw [load_join (f:=fun i=>.int k (d.getD i 0)) G (fun i u=>load_W t (j i (by omega)))]
     congr 1
     have I: ∀l:List Int,l.flatMap (encI k)=l.map fun x=>.int k x:=fun l=>by
      rw [XW,List.map_eq_flatMap,XW];rfl
     rw [I]
     refine List.ext_getElem? fun i=>?_
     rw [Xs,Xs,List.getElem?_take]
     by_cases u:i<g
     . rw [if_pos u,XZ u,Xd (show i<d.length by omega)]
       simp [Xm,show i<d.length by omega]
     . rw [if_neg u,List.getElem?_eq_none (by simpa using u)];rfl
theorem open_slV{W:World}{base:Nat}{s e:TypeId}{k:IntKind}{v:Value}{j:Nat->Bool}{m:Bool}{d:DataW H}{p:List MemPlace}(c:P.underlying s=some (.slice e))(n:P.underlying e=some (.int k))(o:P.cellsOf e=1)
 (a:Value.okWide P W .any base s v) (h:DataW.Trod enc P W 0 j m s v d p): ∃f:List Int,SlW (hpW W) k (absA W.heap.size v) f/\(∀z∈f,(Lit.int k z).wf=true)/\f.length<=9223372036854775807:=by
 unfold Value.okWide at a
 rw [c]at a
 obtain⟨i,h⟩:=h
 have b: ∀l:Array Value,v≠ .agg l:=by
  rintro l rfl
  simp only [Cell.okWide,c,Cell.ok]at a
 have g:v.cells.toList=[v]:=by cases v<;>first|rfl|exact absurd rfl (b _)
 rw [g]at h
 have q:absA W.heap.size v=gQ W.heap.size v:=by cases v<;>first|rfl|exact absurd rfl (b _)
 rw [q]
 exact ow c n o a h
theorem open_sl2{W:World}{base:Nat}{t s e:TypeId}{k:IntKind}{i j:Field}{v:Value}{B:Nat->Bool}{C:Bool}{d:DataW H}{p:List MemPlace}(q:P.underlying t=some (.struct #[i,j]))(D:i.offset=0)(o1:j.offset=1)(E:i.type=s)(t1:j.type=s)
 (r:P.underlying s=some (.slice e)) (u:P.underlying e=some (.int k)) (w:P.cellsOf e=1) (f:P.cellsOf s=1) (m:P.cellsOf t=2) (o:P.cellTypes P.depth t=some [s,s])
 (a:Value.okWide P W .any base t v) (h:DataW.Trod enc P W 0 B C t v d p):
 ∃(c0 c1:Value) (xs ys:List Int),v=.agg #[c0,c1]/\SlW (hpW W) k (gQ W.heap.size c0) xs/\SlW (hpW W) k (gQ W.heap.size c1) ys/\(∀z∈xs,(Lit.int k z).wf=true)/\ ∀z∈ys,(Lit.int k z).wf=true:=by
 unfold Value.okWide at a
 rw [q]at a
 obtain⟨F,rfl,c,N,g,_,b⟩:=a
 rw [o]at g
 cases g
 rw [m]at c
 obtain⟨l⟩:=F
 simp only [XJ]at c
 obtain⟨c0,c1,rfl⟩:=len2 c
 obtain⟨x,h⟩:=h
 obtain⟨O,Q,n,_,_,y,A⟩:=Go.ChangeShapes.trod_struct2 q h
 rw [D,E,f]at y
 rw [o1,t1,f]at A
 obtain⟨R,G,I⟩:=b 0 c0 rfl
 obtain⟨S,g,J⟩:=b 1 c1 rfl
 cases G
 cases g
 obtain⟨xs,K,L,_⟩:=ow r u w I y
 obtain⟨ys,M,wy,_⟩:=ow r u w J A
 exact⟨c0,c1,xs,ys,rfl,K,M,L,wy⟩
end
end Go.Ab

end
section
namespace Go.Ab
open Go.ChangeShapes Go.WideShapes Go.RowKit
section
variable{H:Type}{enc:TypeId×Value->H}{P:Program}
theorem fl_slW{W:World}{base n:Nat}{s e:TypeId}{c:Value}(d:P.underlying s=some (.slice e))(b:Cell.okWide P W .any base s c):Fl (gQ n c):=by
 unfold Cell.okWide at b
 rw [d]at b
 cases c with
 | slice a f g=>
   cases a with
   | none=>
     simp only [Cell.ok,d]at b
     cases f with
     | zero=>cases g with
       |zero=>exact bj
       |succ k=>exact b.elim
     |succ k=>exact b.elim
   | some a=>
     simp only [Cell.ok,d]at b
     obtain⟨h,_⟩:=b
     simp only [gQ,if_pos h]
     split<;>exact bj
 |_=>simp [Cell.ok,d]at b
theorem len8{α:Type}{l:List α}(h:l.length=8): ∃a b c d e f g i,l=[a,b,c,d,e,f,g,i]:=by
 match l,h with
 | [a,b,c,d,e,f,g,i],_=>exact⟨a,b,c,d,e,f,g,i,rfl⟩
theorem open_d26{W:World}{base:Nat}{t f D N e7 i o s:TypeId}{E F G I J K L f7:Field}{v:Value}{sp:Nat->Bool}{hd:Bool}{d:DataW H}{p:List MemPlace}(U:P.underlying t=some (.struct #[E,F,G,I,J,K,L,f7]))(o0:E.offset=0)(o1:F.offset=1)(o2:G.offset=2)(o3:I.offset=3)(o4:J.offset=4)(o5:K.offset=5)(o6:L.offset=6)
 (t0:E.type=f) (t1:F.type=f) (t2:G.type=f) (t3:I.type=i) (t4:J.type=i) (t5:K.type=o) (t6:L.type=s) (h0:P.underlying f=some (.slice N)) (h3:P.underlying i=some (.int .u8)) (h5:P.underlying o=some (.int .i8)) (h6:P.underlying s=some .bool) (h7:P.underlying D=some (.slice e7))
 (Q:P.underlying N=some (.int .u8)) (c0:P.cellsOf N=1) (R:P.cellsOf f=1) (V:P.cellsOf i=1) (d5:P.cellsOf o=1) (d6:P.cellsOf s=1) (S:P.cellsOf t=8) (T:P.cellTypes P.depth t=some [f,f,f,i,i,o,s,D])
 (g:Value.okWide P W .any base t v) (h:DataW.Trod enc P W 0 sp hd t v d p):
 ∃ (a b c e:Value) (x y z:Int) (q:Bool) (B O M:List Int),v=.agg #[a,b,c,.int .u8 x,.int .u8 y,.int .i8 z,.bool q,e]/\SlW (hpW W) .u8 (gQ W.heap.size a) B/\SlW (hpW W) .u8 (gQ W.heap.size b) O/\SlW (hpW W) .u8 (gQ W.heap.size c) M/\Fl (gQ W.heap.size e)/\
   (∀z∈O,(Lit.int .u8 z).wf=true)/\(∀z∈M,(Lit.int .u8 z).wf=true)/\(Lit.int .u8 x).wf=true/\(Lit.int .u8 y).wf=true:=by
 unfold Value.okWide at g
 rw [U]at g
 obtain⟨cs,rfl,m,ts,X,_,A⟩:=g
 rw [T]at X
 cases X
 rw [S]at m
 obtain⟨l⟩:=cs
 simp only [XJ]at m
 obtain⟨a,b,c,x,y,z,q,e,rfl⟩:=len8 m
 obtain⟨Y,h⟩:=h
 obtain⟨xs,n,_,_,hl,C,hf⟩:=DataW.trod_struct U h
 obtain⟨y0,y1,y2,y3,y4,y5,y6,y7,rfl⟩:=len8 (by rw [C];rfl:xs.length=8)
 have Z:=hf 0 E rfl
 have q1:=hf 1 F rfl
 have q2:=hf 2 G rfl
 have q3:=hf 3 I rfl
 have q4:=hf 4 J rfl
 have q5:=hf 5 K rfl
 have q6:=hf 6 L rfl
 rw [o0,t0,R]at Z
 rw [o1,t1,R]at q1
 rw [o2,t2,R]at q2
 rw [o3,t3,V]at q3
 rw [o4,t4,V]at q4
 rw [o5,t5,d5]at q5
 rw [o6,t6,d6]at q6
 have r: ∀(j:Nat) t v,[f,f,f,i,i,o,s,D][j%8]? =some t->[a,b,c,x,y,z,q,e][j]? =some v->Cell.okWide P W .any base t v:=fun j t v h1 h2=>by
  obtain⟨u,h3,h4⟩:=A j v (by simpa using h2)
  obtain rfl:t=u:=Option.some.inj (h1.symm.trans h3)
  exact h4
 obtain⟨B,hB,_,_⟩:=ow h0 Q c0 (r 0 f a rfl rfl) Z
 obtain⟨O,hO,wO,_⟩:=ow h0 Q c0 (r 1 f b rfl rfl) q1
 obtain⟨M,hM,wM,_⟩:=ow h0 Q c0 (r 2 f c rfl rfl) q2
 have hF:Fl (gQ W.heap.size e):=fl_slW h7 (r 7 D e rfl rfl)
 obtain⟨u,e2,_,wu⟩:=DataW.trod_int h3 q3
 obtain⟨v,e3,_,wv⟩:=DataW.trod_int h3 q4
 obtain⟨w,e4,_,ww⟩:=DataW.trod_int h5 q5
 obtain⟨k,e5,_⟩:=DataW.trod_bool h6 q6
 cases e2
 cases e3
 cases e4
 cases e5
 exact⟨a,b,c,e,u,v,w,k,B,O,M,rfl,hB,hO,hM,hF,wO,wM,wu,wv⟩
end
end Go.Ab

end
section
namespace Go.Ab
open Go.ChangeShapes Go.WideShapes Go.RowKit
section
variable{H:Type}{enc:TypeId×Value->H}{P:Program}
theorem len4q{α:Type}{l:List α}(h:l.length=4): ∃a b c d,l=[a,b,c,d]:=by
 match l,h with
 | [a,b,c,d],_=>exact⟨a,b,c,d,rfl⟩
theorem open_q4{W:World}{base:Nat}{t i:TypeId}{m o q r:Field}{v:Value}{F:Nat->Bool}{G:Bool}{d:DataW H}{p:List MemPlace}(y:P.underlying t=some (.struct #[m,o,q,r]))(I:m.offset=0)(o1:o.offset=1)(o2:q.offset=2)(o3:r.offset=3)
 (J:m.type=i) (t1:o.type=i) (t2:q.type=i) (t3:r.type=i) (h3:P.underlying i=some (.int .i64)) (s:P.cellsOf i=1) (x:P.cellsOf t=4) (K:P.cellTypes P.depth t=some [i,i,i,i])
 (f:Value.okWide P W .any base t v) (h:DataW.Trod enc P W 0 F G t v d p):
 ∃(a b c e:Int),v=.agg #[.int .i64 a,.int .i64 b,.int .i64 c,.int .i64 e]/\(Lit.int .i64 a).wf=true/\(Lit.int .i64 b).wf=true/\(Lit.int .i64 c).wf=true/\(Lit.int .i64 e).wf=true:=by
 unfold Value.okWide at f
 rw [y]at f
 obtain⟨L,rfl,g,X,Y,_,z⟩:=f
 rw [x]at g
 obtain⟨l⟩:=L
 simp only [XJ]at g
 obtain⟨a,b,c,e,rfl⟩:=len4q g
 obtain⟨A,h⟩:=h
 obtain⟨M,n,_,_,Z,j,hf⟩:=DataW.trod_struct y h
 obtain⟨y0,y1,y2,y3,rfl⟩:=len4q (by rw [j];rfl:M.length=4)
 have B:=hf 0 m rfl
 have C:=hf 1 o rfl
 have D:=hf 2 q rfl
 have E:=hf 3 r rfl
 rw [I,J,s]at B
 rw [o1,t1,s]at C
 rw [o2,t2,s]at D
 rw [o3,t3,s]at E
 obtain⟨u,N,_,O⟩:=DataW.trod_int h3 B
 obtain⟨v,Q,_,R⟩:=DataW.trod_int h3 C
 obtain⟨w,S,_,T⟩:=DataW.trod_int h3 D
 obtain⟨k,U,_,V⟩:=DataW.trod_int h3 E
 cases N
 cases Q
 cases S
 cases U
 exact⟨u,v,w,k,rfl,O,R,T,V⟩
theorem wf64{z:Int}(h:(Lit.int .i64 z).wf=true): -9223372036854775808<=z/\z<9223372036854775808:=by
 unfold Lit.wf at h
 simp only [XM,decide_eq_true_eq]at h
 have a:(-9223372036854775808:Int)<=z:=h.1
 have b:z<=(9223372036854775807:Int):=h.2
 omega
end
end Go.Ab

end

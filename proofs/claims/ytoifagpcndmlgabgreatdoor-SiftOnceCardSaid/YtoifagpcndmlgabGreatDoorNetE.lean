/- Nets, cells, flags: what the functions do (part 5). -/
import Derived.Test.YtoifagpcndmlgabGreatDoorNetD
open Go.Ab.Tryz
open Go.Ab.Tryz renaming abEnv->zL,e3E->Xt
open Int renaming cast_ofNat_Int->zM,tmod_eq_emod_of_nonneg->Xi,natCast_emod->Xx,eq_ofNat_of_zero_le->XS,ofNat->X5
open List renaming getElem?_eq_getElem->zO,getD_eq_getElem?_getD->Xc,mem_cons_of_mem->Xd,not_mem_nil->Xe,take->Xf,drop->Xg,range->Xh,mem_cons_self->Xj,mem_cons->Xk,getElem_mem->Xl,take_succ_eq_append_getElem->Xm,length_map->Xr,map_cons->Xs,length_take->Xw,map_append->XA,map_nil->XB,getElem?_cons_zero->XC,getElem?_cons_succ->XD,foldl_append->XE,range_succ->XF,take_append_of_le_length->XH,filterMap_nil->XI,set_cons_zero->XJ,set_cons_succ->XK,all_cons->XL,getElem?_map->XM,all_nil->XN,take_length->XO,map_toArray->XP,getElem_append_left->XQ,length_cons->XR,filter_cons_of_neg->XT,filter_cons_of_pos->XU,foldl_cons->XX,drop_zero->XY,perm_append_comm->XZ,mem_of_getElem?->X2,take_succ_cons->X4
open Nat renaming lt_of_succ_le->Xa,zero_le->Xo,zero_add->Xp,lt_of_lt_of_le->Xq,mul_one->Xu,zero_mul->Xv,one_mul->Xy,le_refl->Xz,le_trans->XG,mul_le_mul_right->X3
open Bool renaming and_true->Xb,false_eq_true->Xn
open Option renaming map_some->XV,map_none->XW
set_option maxHeartbeats 4000000
set_option linter.defProp false
set_option linter.unusedVariables false
set_option linter.unusedSimpArgs false
section
namespace Go.Ab
open Go.Proofs
set_option maxRecDepth 10000
def Tryz.F7:=aj t1<|aj t2<|aj t3<|aj t4<|aj t5<|aj t6<|aj Z3<|aj Z4<|aj t9<|aj t10<|aj t11<|aj t12<|aj Z15<|aj Z22<|aj t15<|aj t16<|aj t17<|aj t18<|aj r18<|aj Z21<|aj t20<|aj t21<|aj t22<|aj t23<|aj t24<|aj t25<|aj r25<|aj Z23<|aj t27<|aj t28<|aj t29<|aj t30<|aj r30<|aj Z0<|aj t32<|aj t33<|aj t34<|aj t35<|aj t36<|aj Z12<|aj Z10<|aj t42<|aj r42<|aj t65<|aj t67<|aj r67<|aj t70<|aj Z6<|aj t100<|aj Z2<|aj t110<|aj Z5<|aj Z8<|aj t164<|aj Z1<|aj t242<|aj t288<|aj Z19<|aj t300<|aj t302<|aj t304<|aj t305<|aj t306<|aj t307<|Z18
def tI(O:List Int)(i:Nat):Int:=if O.length=0 then 0 else(O.getD (i%O.length) 0).tmod 4
theorem made26_ok {h0:Hp} (ok:h0.t.Sized h0.n) {vB vO vM vF:Value} {f t:Nat} {xa:Int} {alt:Bool} {B O ms:List Int} (hB:SlW h0 .u8 vB B) (hO:SlW h0 .u8 vO O) (cO: ∀x∈O,0<=x/\x<=255) (hM:SlW h0 .u8 vM ms) (b3: ∀x∈ms,0<=x/\x<=255) (fF:Fl vF) (hf:f<=255) (ht:t<=255):
 Ret zL 5 [.agg ⟨[vB,vO,vM,.int .u8 (f:Nat),.int .u8 (t:Nat),.int .i8 xa,.bool alt,vF]⟩] h0 fun r L=>Gr h0 L/\ ∃a Y Z va bp nb bt nt l bc m cf cb mb fp fb Mc Bt,
  r=.tuple #[.agg ⟨[.int .i64 a.nodes,Y,Z,va,ptrTo bp,ptrTo bt,bc,ptrTo cb,ptrTo fp,.int .i64 (if alt=true then 5 else 4),.int .i64 ((f%a.nodes:Nat):Int),.int .i64 ((t%a.nodes:Nat):Int),.int .i64 (an .i64 xa)]⟩,.bool true]/\Good a/\di L Y Z va a/\aS L nb (ptrTo bp) a/\
  TabAt L nt (ptrTo bt) a.nodes l (toR a l) (frR a l)/\jz a.nodes l/\1<=l.length/\l.length<=4/\Fl bc/\eG L mb (ptrTo cb) a.nodes m cf/\fh m+1=((Mc:Nat):Int)/\Mc<=100/\ey L fp fb Mc a.arcs.length ((a.arcs.length+7)/8) Bt/\OkB a cf ((a.arcs.length+7)/8) Mc 0 Bt:=by
 have S:=Si ok
 have fB:=hB.sl.fl
 have fO:=hO.sl.fl
 have fM:=hM.sl.fl
 have mn:min (B.length:Int) 60=((min B.length 60:Nat):Int):=by omega
 obtain⟨be,b4,sB,bB⟩:=hB.low (kd':=.i64) (n:=min B.length 60) Tryz.t22.1 Tryz.t5.2.2.1 (Nat.min_le_left _ _)
 have b6:=sB.fl
 refine ab (n:=154) (rs:=[.cell 2 42,.tmp 3]) rfl Tryz.e5 rfl rfl rfl (lbt rfl) ?_
 simp only [BS,Nat.reduceLT]
 refine ag (aZ (by intro x e;cases e)) S ?_;clear S;intro h u S de;simp only [ah]at S
 simp only [BS,F7]
 refine ag aw S ?_;clear S;intro h D S dj
 simp only [BS,LB,Nat.reduceLT,Nat.reduceEqDiff,Nat.reduceAdd,XV,XW,F7,hB.sl.lenq,mn,b4,b6,S.ld (b:=u) (o:=0) m1 rfl]
 refine ag (aZ (by intro x e;cases e)) S ?_;clear S;intro h bd S bf;simp only [ah]at S
 have b7:ar h 1 (encI .u8) be (B.take (min B.length 60)):=sB.gr S.gr
 have nB: ¬aq be bd:=fun A=>by have:=sB.lt ok A;omega
 have b8:(B.take (min B.length 60)).length<1000000:=by rw [Xw];omega
 simp only [BS,LB,Nat.reduceLT,Nat.reduceEqDiff]
 have k0:=S.fr.n
 have ap:=S.apart
 simp only [keys,Xs,XB,XI,List.append_nil,List.nodup_cons,Xk,Xe,or_false,not_or]at ap
 have dx:=(S.row (b:=D) m1).lt S.ok
 have dF:=(S.row (b:=u) m2).lt S.ok
 refine step_ret (raw_ok S.ok (S.row m0) ⟨b7,nB,b8,by omega⟩) ?_
 rintro v h ⟨fr,a,Y,Z,va,rfl,Q,ga,hz⟩
 have gz: ∀c,(aq Y c\/aq Z c\/aq va c)->c≠u/\c≠D/\c<h.n:=fun c A=>⟨by have:=hz c A;omega,by have:=hz c A;omega,A.elim (ga.X.blt fr.ok) (fun h=>h.elim (ga.Y.blt fr.ok) (ga.A.blt fr.ok))⟩
 replace S:=S.drop1.step fr (fun c A=>by subst A;exact .inr bf) (fun c A e=>by simp [keys]at A;omega)
 have fx:=ga.X.fl
 have fy:=ga.Y.fl
 have fa:=ga.A.fl
 have n1:=Q.n1
 have n2:=Q.n2
 have dm:=Q.many
 have gS:=S.gr
 have S0:=S
 replace S:=S.base
 simp only [BS,F7,kB]
 refine ag aw S ?_;clear S;intro h z S dn
 simp only [BS,LB,Nat.reduceLT,Nat.reduceEqDiff]
 refine az (S.store (i:=0) rfl Tryz.t31.2.1 (by intro x e;cases e) rfl (by simp only [ah,XL,XN,fx.2.1,fy.2.1,fa.2.1,Xb];rfl) (lbt rfl) ono) ?_
 clear S;rintro h ⟨S,mo⟩
 simp only [LC,ah,lay,Xf,Xg,Nat.reduceAdd]at S
 have ai:=ga.mo S.fr (fun c A N=>by have:=hz c A;simp [keys]at N;omega)
 simp only [BS,LB,Nat.reduceLT,Nat.reduceEqDiff,F7,XY,X4,List.take_zero,S.lds (b:=z) (o:=0) (n:=4) m0 (lbt rfl)]
 have q5:=(S.row (b:=z) m0).lt S.ok
 have q2:=(S.row (b:=D) m1).lt S.ok
 have q1:=(S.row (b:=u) m2).lt S.ok
 refine step_ret (netNew_ok S.ok Q.b ai) ?_
 rintro v h ⟨p,rfl,g,hp⟩
 replace S:=S.call g
 replace ai:=ai.gr g
 clear g
 obtain⟨bp,rfl⟩: ∃b,p=ptrTo b:=by obtain⟨b,_,_,_,_,_,e,_⟩:=hp.ex;exact⟨b,e⟩
 replace S:=S0.rebase S
 have a0:=S.gr
 have dO:=S.ok
 clear S0
 replace S:=S.base
 simp only [LC,keys,Xs,XB,XI]at S
 rename Hp=>hC0
 have b9:=(S.row (b:=D) m1).lt S.ok
 have e16:an .u8 ((f:Int).tdiv 16)=((f/16:Nat):Int):=by
  rw [Int.tdiv_eq_ediv_of_nonneg (by omega)]
  have:(f:Int)/16=((f/16:Nat):Int):=by omega
  rw [this]
  have e:an .u8 (X5 (f/16))=X5 (f/16):=by
   unfold an
   simp only [Go.Ab.hf,show Nat.blt (f/16) 256=true from Nat.ble_eq_true_of_le (by omega),cond_true]
  exact e
 have cc:an .i64 ((f/16:Nat):Int)=((f/16:Nat):Int):=by rw [wrap64]<;>omega
 have nz:(a.nodes:Int)≠0:=by omega
 have bh:((f/16:Nat):Int).tmod (a.nodes:Int)=((f/16%a.nodes:Nat):Int):=by rw [Xi (by omega)];exact(Xx _ _).symm
 simp only [BS,LB,ja,cE,i9,Nat.reduceLT,Nat.reduceEqDiff,F7,kJ (n:=16) (by decide),e16,cc,kK nz,bh,S.ld (b:=u) (o:=3) m2 rfl,S.ld (b:=z) (o:=0) m0 rfl]
 refine ag (bR (by exact Tryz.t34.1) (by exact Xt) (by decide) (by rfl)) S ?_;clear S;intro h bt S dq;simp only [LC,aV,bK,ah,Nat.reduceMul,Nat.reduceAdd,Xv,Xp,Xu,Xy]at S
 have d0:f/16%a.nodes<a.nodes:=Nat.mod_lt _ (by omega)
 generalize d1:((f/16%a.nodes:Nat):Int)=X at S
 have al:0<=X/\X<a.nodes:=by omega
 have ch: ∀c,aq vM c->c<h0.n:=fun c A=>hM.sl.lt ok A
 have cj: ∀c,aq vO c->c<h0.n:=fun c A=>hO.sl.lt ok A
 have nb: ∀c,c<h0.n-> ¬c∈[z,D,u]:=fun c A N=>by
  simp only [Xk,Xe,or_false]at N
  have:=gS.n
  omega
 have ck: ∀c,c∈[z,D,u]->h0.n<=c:=fun c N=>by
  simp only [Xk,Xe,or_false]at N
  have:=gS.n
  omega
 have bi: ∀c,(aq Y c\/aq Z c\/aq va c)-> ¬c∈[z,D,u]:=fun c A N=>by
  have:=gz c A
  simp only [Xk,Xe,or_false]at N
  omega
 simp only [BS,LB,Nat.reduceLT,Nat.reduceEqDiff]
 refine mS (fun s L=> ∃(F:Value) (l:List Int) (G:List GL),St (· ∈[z,D,u]) hC0 L [(bt,.row [.int .i64 X] 1),(z,.row [.int .i64 a.nodes,Y,Z,va] 1),(D,.row [.int .i64 0,.slice none 0 0,.slice none 0 0,.slice none 0 0,.pointer none,.pointer none,.slice none 0 0,.pointer none,.pointer none,.int .i64 0,.int .i64 0,.int .i64 0,.int .i64 0] 1),(u,.row [vB,vO,vM,.int .u8 (f:Nat),.int .u8 (t:Nat),.int .i8 xa,.bool alt,vF] 1)] G/\((G=[]/\F=.slice (some ⟨bt,0,none⟩) 1 1/\l=[X])\/G=[(F,1,ints l)])/\jz a.nodes l/\1<=l.length/\l.length<=4/\s 1=ptrTo u/\s 2=ptrTo D/\s 5=ptrTo z/\s 6=ptrTo bp/\s 8=F)
  (fun(i:Nat) s L=>i<=ms.length/\i<=3/\ ∃(F:Value) (l:List Int) (G:List GL),St (· ∈[z,D,u]) hC0 L [(bt,.row [.int .i64 X] 1),(z,.row [.int .i64 a.nodes,Y,Z,va] 1),(D,.row [.int .i64 0,.slice none 0 0,.slice none 0 0,.slice none 0 0,.pointer none,.pointer none,.slice none 0 0,.pointer none,.pointer none,.int .i64 0,.int .i64 0,.int .i64 0,.int .i64 0] 1),(u,.row [vB,vO,vM,.int .u8 (f:Nat),.int .u8 (t:Nat),.int .i8 xa,.bool alt,vF] 1)] G/\((G=[]/\F=.slice (some ⟨bt,0,none⟩) 1 1/\l=[X])\/G=[(F,1,ints l)])/\jz a.nodes l/\1<=l.length/\l.length<=i+1/\s 1=ptrTo u/\s 2=ptrTo D/\s 5=ptrTo z/\s 6=ptrTo bp/\s 8=F/\s 9=.int .i64 i) (fun i=>ms.length-i) ?_ ?_ 0 ?_
 . clear S
   intro i ih s L ⟨hi,hi3,F,l,G,S,hG,hl,hl1,hli,C,H,E,I,r8,T⟩
   have bk:=(hM.sl.gr a0).mo S.fr (fun c A=>nb c (ch c A))
   have a1: ∀(n:Nat) (d:List Deferred) (rc:Option (Value×Bool)) (y:Nat->Value),y 1=ptrTo u->y 2=ptrTo D->y 5=ptrTo z->y 6=ptrTo bp->y 8=F->JP n d rc (fun s L=> ∃(F:Value) (l:List Int) (G:List GL),St (· ∈[z,D,u]) hC0 L [(bt,.row [.int .i64 X] 1),(z,.row [.int .i64 a.nodes,Y,Z,va] 1),(D,.row [.int .i64 0,.slice none 0 0,.slice none 0 0,.slice none 0 0,.pointer none,.pointer none,.slice none 0 0,.pointer none,.pointer none,.int .i64 0,.int .i64 0,.int .i64 0,.int .i64 0] 1),(u,.row [vB,vO,vM,.int .u8 (f:Nat),.int .u8 (t:Nat),.int .i8 xa,.bool alt,vF] 1)] G/\((G=[]/\F=.slice (some ⟨bt,0,none⟩) 1 1/\l=[X])\/G=[(F,1,ints l)])/\jz a.nodes l/\1<=l.length/\l.length<=4/\s 1=ptrTo u/\s 2=ptrTo D/\s 5=ptrTo z/\s 6=ptrTo bp/\s 8=F) .normal (LL n y d rc) L:=fun n d rc y e1 e2 e5 e6 e8=>eC ⟨F,l,G,S,hG,hl,hl1,by omega,e1,e2,e5,e6,e8⟩
   have sR:ar L 1 (encI .i64) F l:=by
    rcases hG with⟨_,rfl,rfl⟩|rfl
    . exact .inr ⟨bt,0,none,1,rfl,Xz _,S.lds (b:=bt) (o:=0) (n:=1*1) m0 (lbt rfl)⟩
    . exact(S.gown _ m0).1.sl rfl (fun _=>rfl) (by decide)
   by_cases hlt:i<ms.length
   . by_cases h3:i<3
     . have c3 :(i:Int)<3:=by omega
       obtain⟨c,o,ad,ak⟩:=bk.ix (kd:=.i64) (bO .u8) hlt
       have hx:=b3 _ (Xl hlt)
       obtain⟨x,ex⟩: ∃x:Nat,ms[i]=x:=⟨ms[i].toNat,by omega⟩
       rw [ex]at ak hx
       have wc:an .i64 (x:Int)=(x:Int):=by rw [wrap64]<;>omega
       have tm:(x:Int).tmod (a.nodes:Int)=((x%a.nodes:Nat):Int):=by rw [Xi (by omega)];exact(Xx _ _).symm
       have P:x%a.nodes<a.nodes:=Nat.mod_lt _ (by omega)
       have w:an .i64 ((i:Int)+1)=((i+1:Nat):Int):=by rw [wrap64]<;>omega
       simp only [BS,LB,Nat.reduceLT,Nat.reduceEqDiff,F7,C,T,hM.sl.lenq,aB,hlt,c3,S.ld (b:=u) (o:=2) m3 rfl]
       refine au (aC rfl) (q:=0) (ps:=[]) (by kernel_rfl) ?_
       simp only [BS,LB,ja,cE,i9,cls,Nat.reduceLT,Nat.reduceEqDiff,Nat.reduceAdd,Nat.reducePow,Nat.reduceDiv,Nat.reduceMod,Nat.reduceLeDiff,F7,C,E,T,ad,ak,encI,wc,kK nz,tm,S.ld (b:=z) (o:=0) m1 rfl,S.ld (b:=u) (o:=2) m3 rfl]
       generalize x%a.nodes=v at P
       clear bk
       refine aO (fun(k:Nat) s h2=>k<=l.length/\h2=L/\s 1=ptrTo u/\s 2=ptrTo D/\s 5=ptrTo z/\s 6=ptrTo bp/\s 8=F/\s 9=.int .i64 i/\s 10=.int .i64 v/\s 11=.bool (decide ((v:Int)∈l.take k))/\s 12=.int .i64 k) (fun k=>l.length-k) ?_ 0 _ _ ?_
       . clear C H E I r8 T
         rintro k a2 s h2 ⟨hk,rfl,C,H,E,I,r8,T,V,J,af⟩
         have wk:an .i64 ((k:Int)+1)=((k+1:Nat):Int):=by rw [wrap64]<;>omega
         by_cases R:k<l.length
         . have tk:l.take (k+1)=l.take k++[l[k]]:=Xm R
           by_cases N:(v:Int)∈l.take k
           . rw [decide_eq_true N]at J
             have a3:(v:Int)∈l.take (k+1):=by rw [tk];exact List.mem_append_left _ N
             simp only [BS,LB,Nat.reduceLT,Nat.reduceEqDiff,F7,r8,J,af,sR.lenq,aB,R,wk]
             exact a2 (k+1) _ _ (by omega) ⟨by omega,rfl,by simp [aa,C,ac],by simp [aa,H,ac],by simp [aa,E,ac],by simp [aa,I,ac],by simp [aa,r8],by simp [aa,T],by simp [aa,V],by simp [aa,a3],by simp [aa]⟩
           . rw [decide_eq_false N]at J
             obtain⟨c1,o1,i1,y1⟩:=sR.ix (kd:=.i64) (bO .i64) R
             by_cases he:l[k]=(v:Int)
             . have a3:(v:Int)∈l.take (k+1):=by rw [tk,he];exact List.mem_append_right _ (List.mem_singleton.2 rfl)
               simp only [BS,LB,Nat.reduceLT,Nat.reduceEqDiff,F7,r8,V,J,af,sR.lenq,aB,R,wk,i1,y1,encI,he]
               exact a2 (k+1) _ _ (by omega) ⟨by omega,rfl,by simp [aa,C,ac],by simp [aa,H,ac],by simp [aa,E,ac],by simp [aa,I,ac],by simp [aa,r8],by simp [aa,T],by simp [aa,V],by simp [aa,a3],by simp [aa]⟩
             . have cl: ¬(v:Int)∈l.take (k+1):=by
                rw [tk]
                intro h
                rcases List.mem_append.1 h with h|h
                . exact N h
                . exact he (List.mem_singleton.1 h).symm
               simp only [BS,LB,Nat.reduceLT,Nat.reduceEqDiff,F7,r8,V,J,af,sR.lenq,aB,R,wk,i1,y1,encI,he]
               exact a2 (k+1) _ _ (by omega) ⟨by omega,rfl,by simp [aa,C,ac],by simp [aa,H,ac],by simp [aa,E,ac],by simp [aa,I,ac],by simp [aa,r8],by simp [aa,T],by simp [aa,V],by simp [aa,cl],by simp [aa]⟩
         . have ek:k=l.length:=by omega
           subst ek
           rw [XO]at J
           by_cases N:(v:Int)∈l
           . rw [decide_eq_true N]at J
             simp only [BS,LB,Nat.reduceLT,Nat.reduceEqDiff,F7,r8,T,J,af,sR.lenq,aB,R,w]
             exact ih (i+1) _ _ (by omega) ⟨by omega,by omega,F,l,G,S,hG,hl,hl1,by omega,by simp [aa,C,ac],by simp [aa,H,ac],by simp [aa,E,ac],by simp [aa,I,ac],by simp [aa,r8],by simp [aa]⟩
           . rw [decide_eq_false N]at J
             simp only [BS,LB,Nat.reduceLT,Nat.reduceEqDiff,F7,r8,T,V,J,af,sR.lenq,aB,R]
             refine ag (bR (by exact Tryz.t34.1) (by exact Xt) (by decide) (by rfl)) S ?_;clear S;intro h bu S ds;simp only [LC,aV,bK,ah,Nat.reduceMul,Nat.reduceAdd,Xv,Xp,Xu,Xy]at S
             simp only [BS,LB,Nat.reduceLT,Nat.reduceEqDiff]
             have a4:aJ h 1 (.slice (some ⟨bu,0,none⟩) 1 1)=some (1,ints [(v:Int)]):=by simp only [aJ];rw [S.lds (b:=bu) (o:=0) (n:=1*1) m0 (lbt rfl)];rfl
             replace S:=S.drop1
             have bl: ∃h3 v',dg zL h [34,34] F (.slice (some ⟨bu,0,none⟩) 1 1)=some (h3,v')/\St (· ∈[z,D,u]) hC0 h3 [(bt,.row [.int .i64 X] 1),(z,.row [.int .i64 a.nodes,Y,Z,va] 1),(D,.row [.int .i64 0,.slice none 0 0,.slice none 0 0,.slice none 0 0,.pointer none,.pointer none,.slice none 0 0,.pointer none,.pointer none,.int .i64 0,.int .i64 0,.int .i64 0,.int .i64 0] 1),(u,.row [vB,vO,vM,.int .u8 (f:Nat),.int .u8 (t:Nat),.int .i8 xa,.bool alt,vF] 1)] [(v',1,ints (l++[(v:Int)]))]:=by
              rcases hG with⟨rfl,rfl,rfl⟩|rfl
              . rw [ib]
                exact St.growB S (b:=bt) (len:=1) (m:=1) (new:=ints [(v:Int)]) (S.row m0) rfl Tryz.t34.1 Xt (by decide) Tryz.t34.2.2.2.2.2 a4 rfl (by decide) (by decide) (by rw [cu];exact lbt rfl)
              . rw [ib]
                exact S.grow (j:=0) (m:=1) (new:=ints [(v:Int)]) rfl Tryz.t34.1 Xt (by decide) Tryz.t34.2.2.2.2.2 a4 rfl (by decide) rfl (by rw [cu,cu];simp;omega)
             refine dM bl ?_
             clear S a4 hG bl sR a1;rintro h cn S
             simp only [BS,LB,Nat.reduceLT,Nat.reduceEqDiff,T,w]
             exact ih (i+1) _ _ (by omega) ⟨by omega,by omega,cn,l++[(v:Int)],_,S,.inr rfl,hl.push (by omega) (by omega) (by omega) N,by simp,by simp;omega,by simp [aa,C,ac],by simp [aa,H,ac],by simp [aa,E,ac],by simp [aa,I,ac],by simp [aa],by simp [aa]⟩
       . exact⟨Xo _,rfl,by simp [aa,C,ac],by simp [aa,H,ac],by simp [aa,E,ac],by simp [aa,I,ac],by simp [aa,r8],by simp [aa,T],by simp [aa],by simp [aa],by simp [aa]⟩
     . have c3: ¬(i:Int)<3:=by omega
       simp only [BS,LB,Nat.reduceLT,Nat.reduceEqDiff,F7,C,T,hM.sl.lenq,aB,hlt,c3,S.ld (b:=u) (o:=2) m3 rfl]
       exact a1 _ _ _ _ (by simp [aa,C,ac]) (by simp [aa,H,ac]) (by simp [aa,E,ac]) (by simp [aa,I,ac]) (by simp [aa,r8])
   . simp only [BS,LB,Nat.reduceLT,Nat.reduceEqDiff,F7,C,T,hM.sl.lenq,aB,hlt,S.ld (b:=u) (o:=2) m3 rfl]
     exact a1 _ _ _ _ (by simp [aa,C,ac]) (by simp [aa,H,ac]) (by simp [aa,E,ac]) (by simp [aa,I,ac]) (by simp [aa,r8])
 . clear S
   intro s L ⟨F,l,G,S,hG,hl,hl1,hl4,C,H,E,I,r8⟩
   have cp: ∀{x:Hp} {L':List (Nat×Ob)} {G':List GL},St (· ∈[z,D,u]) hC0 x L' G'->(bt,Ob.row [.int .i64 X] 1)∈L'->(∀p∈G,p∈G')->ar x 1 (encI .i64) F l:=fun {x L' G'} U hL cr=>by
    rcases hG with⟨_,rfl,rfl⟩|rfl
    . exact .inr ⟨bt,0,none,1,rfl,Xz _,U.lds (b:=bt) (o:=0) (n:=1*1) hL (lbt rfl)⟩
    . exact fJ.sl (xs:=l) (enc:=encI .i64) (U.gown (F,1,ints l) (cr _ m0)).1 rfl (fun _=>rfl) (by decide)
   simp only [BS]
   replace S:=S.nilG (k:=1)
   refine aO (fun(i:Nat) s h=>i<=a.nodes/\ ∃vQ,St (· ∈[z,D,u]) hC0 h [(bt,.row [.int .i64 X] 1),(z,.row [.int .i64 a.nodes,Y,Z,va] 1),(D,.row [.int .i64 0,.slice none 0 0,.slice none 0 0,.slice none 0 0,.pointer none,.pointer none,.slice none 0 0,.pointer none,.pointer none,.int .i64 0,.int .i64 0,.int .i64 0,.int .i64 0] 1),(u,.row [vB,vO,vM,.int .u8 (f:Nat),.int .u8 (t:Nat),.int .i8 xa,.bool alt,vF] 1)] ((vQ,1,ints ((Xh i).map (tI O)))::G)/\s 1=ptrTo u/\s 2=ptrTo D/\s 5=ptrTo z/\s 6=ptrTo bp/\s 8=F/\s 13=vQ/\s 14=.int .i64 i) (fun i=>a.nodes-i) ?_ 0 _ _ ?_
   . clear S C H E I r8
     intro i ih s h ⟨hi,vQ,S,C,H,E,I,r8,r13,r14⟩
     have w:an .i64 ((i:Int)+1)=((i+1:Nat):Int):=by rw [wrap64]<;>omega
     have cs:=(hO.sl.gr a0).mo S.fr (fun c A=>nb c (cj c A))
     by_cases hlt:i<a.nodes
     . by_cases bm:O.length=0
       . have c0: ¬(0:Int)<(O.length:Int):=by omega
         simp only [BS,LB,Nat.reduceLT,Nat.reduceEqDiff,F7,C,E,r13,r14,aB,hlt,hO.sl.lenq,c0,S.ld (b:=z) (o:=0) m1 rfl,S.ld (b:=u) (o:=1) m3 rfl]
         refine ag (bR (by exact Tryz.t34.1) (by exact Xt) (by decide) (by rfl)) S ?_;clear S;intro h bs S bo;simp only [LC,aV,bK,ah,Nat.reduceMul,Nat.reduceAdd,Xv,Xp,Xu,Xy]at S
         simp only [BS,LB,Nat.reduceLT,Nat.reduceEqDiff]
         refine dM (S.grow (j:=0) (m:=1) (new:=ints [(0:Int)]) rfl Tryz.t34.1 Xt (by decide) Tryz.t34.2.2.2.2.2 (by simp only [aJ];rw [S.lds (b:=bs) (o:=0) (n:=1*1) m0 (lbt rfl)];rfl) rfl (by decide) rfl (by rw [cu,cu];simp;omega)) ?_
         clear S
         rintro h a5 S
         simp only [LC]at S
         replace S:=S.drop1
         rw [<-ib]at S
         simp only [BS,LB,Nat.reduceLT,Nat.reduceEqDiff,r14,w]
         refine ih (i+1) _ _ (by omega) ⟨by omega,a5,?_,by simp [aa,C,ac],by simp [aa,H,ac],by simp [aa,E,ac],by simp [aa,I,ac],by simp [aa,r8],by simp [aa],by simp [aa]⟩
         rw [XF,XA,List.map_singleton,show tI O i=(0:Int)from by unfold tI;rw [if_pos bm]]
         exact S
       . have c0:(0:Int)<(O.length:Int):=by omega
         have P:i%O.length<O.length:=Nat.mod_lt _ (by omega)
         have tm:(i:Int).tmod (O.length:Int)=((i%O.length:Nat):Int):=by rw [Xi (by omega)];exact(Xx _ _).symm
         obtain⟨c,o,ad,ak⟩:=cs.ix (kd:=.i64) (bO _) P
         have cz:(O.length:Int)≠0:=by omega
         have hx:=cO _ (Xl P)
         have t4:(O[i%O.length]).tmod 4=O[i%O.length]%4:=Xi hx.1
         have wc:an .i64 ((O[i%O.length]).tmod 4)=(O[i%O.length]).tmod 4:=by rw [wrap64]<;>omega
         simp only [BS,LB,Nat.reduceLT,Nat.reduceEqDiff,F7,C,E,r14,aB,hlt,hO.sl.lenq,c0,S.ld (b:=z) (o:=0) m1 rfl,S.ld (b:=u) (o:=1) m3 rfl]
         refine au (aC rfl) (q:=0) (ps:=[]) (by kernel_rfl) ?_
         simp only [BS,LB,ja,cE,i9,cls,Nat.reduceLT,Nat.reduceEqDiff,Nat.reduceAdd,Nat.reducePow,Nat.reduceDiv,Nat.reduceMod,Nat.reduceLeDiff,F7,C,r13,r14,hO.sl.lenq,kK cz,tm,ad,ak,encI,kK (n:=4) (by decide),wc,S.ld (b:=u) (o:=1) m3 rfl]
         refine ag (bR (by exact Tryz.t34.1) (by exact Xt) (by decide) (by rfl)) S ?_;clear S;intro h bs S bo;simp only [LC,aV,bK,ah,Nat.reduceMul,Nat.reduceAdd,Xv,Xp,Xu,Xy]at S
         simp only [BS,LB,Nat.reduceLT,Nat.reduceEqDiff]
         refine dM (S.grow (j:=0) (m:=1) (new:=ints [(O[i%O.length]).tmod 4]) rfl Tryz.t34.1 Xt (by decide) Tryz.t34.2.2.2.2.2 (by simp only [aJ];rw [S.lds (b:=bs) (o:=0) (n:=1*1) m0 (lbt rfl)];rfl) rfl (by decide) rfl (by rw [cu,cu];simp;omega)) ?_
         clear S
         rintro h a5 S
         simp only [LC]at S
         replace S:=S.drop1
         rw [<-ib]at S
         simp only [BS,LB,Nat.reduceLT,Nat.reduceEqDiff,r14,w]
         refine ih (i+1) _ _ (by omega) ⟨by omega,a5,?_,by simp [aa,C,ac],by simp [aa,H,ac],by simp [aa,E,ac],by simp [aa,I,ac],by simp [aa,r8],by simp [aa],by simp [aa]⟩
         rw [XF,XA,List.map_singleton,show tI O i=(O[i%O.length]).tmod 4 from by unfold tI;rw [if_neg bm];simp [Xc,P]]
         exact S
     . have cv:i=a.nodes:=by omega
       simp only [BS,LB,Nat.reduceLT,Nat.reduceEqDiff,F7,E,r13,r14,aB,hlt,S.ld (b:=z) (o:=0) m1 rfl]
       generalize hL:(Xh i).map (tI O)=Ls at S
       have lL:Ls.length=a.nodes:=by rw [<-hL];simp [cv]
       have bL:=lmax_bd (K:=((0+Ls.length:Nat):Int)) (by omega) (norm_bd [] Ls)
       have nl:=zo [] Ls
       have cw: ¬cellNo (norm [] Ls):=by
        rintro(h|h|h)
        . rw [h]at nl;simp at nl;omega
        . exact h (norm_idem [] Ls)
        . omega
       have sl:ar h 1 (encI .i64) vQ Ls:=(S.gown _ m0).1.sl rfl (fun _=>rfl) (by decide)
       have d2:=S.fr.n
       refine step_ret (BP S.ok sl (by omega)) ?_
       rintro v1 hA ⟨g1,s1,q1⟩
       replace S:=S.call g1
       have d3:=g1.n
       simp only [BS,LB,Nat.reduceLT,Nat.reduceEqDiff]
       refine step_ret (Bh S.ok s1 (by omega) (by omega)) ?_
       rintro v2 bq ⟨g2,cx⟩
       obtain⟨_,ax⟩:=cx.resolve_left (fun h=>cw h.1)
       replace S:=S.call g2
       obtain⟨cb,cA⟩: ∃b,v2=ptrTo b:=by obtain⟨b,_,e,_⟩:=ax;exact⟨b,e⟩
       subst cA
       have mz: ∀x∈norm [] Ls,0<=x:=fun x hx=>(norm_bd [] Ls x hx).1
       have lm:(norm [] Ls).length=a.nodes:=by omega
       obtain⟨cf,br⟩: ∃c:Nat->Nat,∀v,v<a.nodes->(norm [] Ls).getD v 0=(c v:Int):=⟨fun v=>((norm [] Ls).getD v 0).toNat,fun v hv=>by
        have bv:v<(norm [] Ls).length:=by omega
        have:=mz _ (Xl bv)
        have e:(norm [] Ls).getD v 0=(norm [] Ls)[v]:=by rw [Xc,zO bv,Option.getD_some]
        show(norm [] Ls).getD v 0=(((norm [] Ls).getD v 0).toNat:Int)
        rw [e];omega⟩
       have bx:eG bq _ (ptrTo cb) a.nodes (norm [] Ls) cf:=⟨ax,lm,br⟩
       obtain⟨Mc,bE⟩: ∃M:Nat,fh (norm [] Ls)+1=(M:Int):=⟨(fh (norm [] Ls)+1).toNat,by omega⟩
       have a6:=s1.fl
       have d4:=s1.gr g2
       have d5: ∀c,aq v1 c->hC0.n<=c:=fun c A=>by have:=q1 c A;omega
       have bP:=cp S m0 (fun p hp=>Xd _ hp)
       have d6:=bP.fl
       have a7:=hp.mo S.fr (fun c N=>by simp only [Xk,Xe,or_false]at N;omega)
       have cN:=ai.mo S.fr (fun c A N=>bi c A N)
       simp only [BS,LB,Nat.reduceLT,Nat.reduceEqDiff,F7,C,S.ld (b:=u) (o:=6) m3 rfl]
       refine uE (fun y L=>L=bq/\y 1=ptrTo u/\y 2=ptrTo D/\y 5=ptrTo z/\y 6=ptrTo bp/\y 8=F/\y 13=v1/\y 16=ptrTo cb/\y 17=.int .i64 (if alt=true then 5 else 4)) ?_ ?_ ?_
       . rintro rfl
         simp only [BS,LB]
         exact eC ⟨rfl,by simp [aa,C,ac],by simp [aa,H,ac],by simp [aa,E,ac],by simp [aa,I,ac],by simp [aa,r8],by simp [aa],by simp [aa,ac],by simp [aa]⟩
       . rintro rfl
         simp only [BS,if_false,Xn]
         exact eC ⟨rfl,by simp [aa,C,ac],by simp [aa,H,ac],by simp [aa,E,ac],by simp [aa,I,ac],by simp [aa,r8],by simp [aa],by simp [aa,ac],by simp [aa]⟩
       . clear C H E I r8 r13 r14
         rintro y L ⟨rfl,C,H,E,I,r8,r13,ba,bX⟩
         have wf:an .i64 (f:Int)=(f:Int):=by rw [wrap64]<;>omega
         have wt:an .i64 (t:Int)=(t:Int):=by rw [wrap64]<;>omega
         have cT:(f:Int).tmod (a.nodes:Int)=((f%a.nodes:Nat):Int):=by rw [Xi (by omega)];exact(Xx _ _).symm
         have cW:(t:Int).tmod (a.nodes:Int)=((t%a.nodes:Nat):Int):=by rw [Xi (by omega)];exact(Xx _ _).symm
         have bY:=S.ok
         have R1:=S.row (b:=u) m3
         have R5:=S.row (b:=z) m1
         have cX:=R1.load1 (o:=3) rfl
         have cY:=R1.load1 (o:=4) rfl
         have c2:=R1.load1 (o:=5) rfl
         have c4:=R5.load1 (o:=0) rfl
         have b0:=R5.load (o:=0) (n:=4) (Xz 4)
         simp only [Xg,Xf]at b0
         have z5:=R5.lt bY
         have S0:=S
         clear S
         have S:=Si bY
         simp only [BS]
         refine au (lj (ord:=[17,0,1,2,3,4,5,6,7,8,9,10,11,12,13,14,15,16,18]) rfl rfl (by simp only [dI,oE,eo,XC,XD,XP,Xs,XB,Nat.reduceBEq,cond_true,cond_false];exact rfl)) (q:=1) (ps:=[]) (by kernel_rfl) ?_
         simp only [BS,LB,cls,Nat.reducePow,Nat.reduceDiv,Nat.reduceMod,Nat.reduceLeDiff,F7]
         refine dS aw S ?_;clear S;intro h bb S c7 db
         have gB:=S.gr
         have d7:=gB.n
         simp only [BS,LB,ja,cE,i9,cls,Nat.reduceLT,Nat.reduceEqDiff,Nat.reduceAdd,Nat.reducePow,Nat.reduceDiv,Nat.reduceMod,Nat.reduceLeDiff,F7,C,E,bX,wf,wt,kK nz,cT,cW,gB.load cX,gB.load cY,gB.load c2,gB.load c4]
         refine dw (S.store (i:=0) rfl Tryz.t40.2.1 (by intro x e;cases e) rfl rfl (lbt rfl) ono) ?_
         clear S;rintro hQ ⟨S,d8⟩
         simp only [LC,ah,lay,Xf,Xg,Nat.reduceAdd]at S
         simp only [BS,LB,Nat.reduceAdd]
         have dc:=(S.row (b:=bb) m0).lt S.ok
         have nQ:=S.fr.n
         refine au (aC rfl) (q:=0) (ps:=[(9,11),(4,11),(0,9),(0,4)]) (by kernel_rfl) ?_
         simp only [BS,LB,cls,Nat.reduceLT,Nat.reduceEqDiff,Nat.reduceAdd,Nat.reducePow,Nat.reduceDiv,Nat.reduceMod,Nat.reduceLeDiff,F7,E,I,r8,S.gr.load b0]
         refine cM (tabOf_ok S.ok Q (a7.gr S.gr) (bP.gr S.gr) (by omega)) ?_
         rintro pt h ⟨g5,hT⟩
         replace hT:=(hT.resolve_left (fun h=>h.1 hl)).2
         obtain⟨dd,et⟩: ∃b,pt=ptrTo b:=by obtain⟨b,_,_,_,e,_⟩:=hT.ex;exact⟨b,e⟩
         subst et
         have e1:=av g5 (show z<_ by omega)
         have e2:=av g5 dc
         have ea:=g5.n
         replace S:=S.call g5
         simp only [BS,LB,cls,Nat.reduceLT,Nat.reduceEqDiff,Nat.reduceAdd,Nat.reducePow,Nat.reduceDiv,Nat.reduceMod,Nat.reduceLeDiff,I,r13,ba]
         refine cM (ofB_ok S.ok Q (a7.gr S.gr) (bx.gr S.gr) bE (by omega)) ?_
         rintro r h ⟨g6,fp,fb,Bt,rfl,nf,eb,dt,BN,oB⟩
         have e3:=av g6 (show z<_ by omega)
         have e4:=av g6 (show bb<_ by omega)
         replace S:=S.call g6
         have aL:=S.lds (b:=bb) (o:=0) (n:=4) m0 (lbt rfl)
         simp only [Xg,Xf]at aL
         have gH:=S.gr
         have dv:D<hC0.n:=b9
         simp only [BS,LB,cls,Nat.reduceLT,Nat.reduceEqDiff,Nat.reduceAdd,Nat.reducePow,Nat.reduceDiv,Nat.reduceMod,Nat.reduceLeDiff,F7,H,ba,aL,a6]
         have S1:=S0.call gH
         refine dw (S1.store (i:=2) rfl Tryz.t42.2.1 (by intro x e;cases e) rfl (by simp only [ah,XL,XN,fx.2.1,fy.2.1,fa.2.1,a6.2.1,Xb];rfl) (lbt rfl) ono) ?_
         clear S S1;rintro h9 ⟨S,W⟩
         simp only [LC,ah,lay,Xf,Xg,Nat.reduceAdd]at S
         simp only [BS,LB,cls,ae,Nat.reduceLT,Nat.reduceEqDiff,Nat.reduceAdd,Nat.reducePow,Nat.reduceDiv,Nat.reduceMod,Nat.reduceLeDiff]
         refine⟨by simp only [bg,bF,aW,bI,a9,ne_eq,not_false_eq_true,bN,ce,bA,bn,bQ,c8,aK,Nat.reduceLT,Nat.reduceEqDiff,reduceIte,Xb,C,H,E,I,r8,r13,ba,bX,ac,jY,aN e1,aI e1,aN e2,aI e2,aN e3,aI e3,aN e4,aI e4],?_⟩
         refine(cU (by decide) (by simp only [aK,H,ac,Nat.reduceEqDiff,reduceIte];exact c9 Tryz.t42.1 Tryz.t42.2.1 (S.lds (b:=D) (o:=0) (n:=13) m2 (lbt rfl)))).2 ((jw (by decide)).2 (dH.2 ?_))
         have gZ:Gr h0 h9:=(a0.fr.trans S.fr (fun c A=>.inr (ck c A)):Mo NoM h0 h9).gr
         have nC:=S0.fr.n
         exact⟨gZ,a,Y,Z,va,bp,_,dd,_,l,v1,norm [] Ls,cf,cb,_,fp,fb,Mc,Bt,rfl,Q,(cN.gr gH).mo W (fun c A e=>bi c A (by simp [e])),(a7.gr gH).mo W (fun c e=>by subst e;omega),(hT.gr g6).mo W (fun c e=>by subst e;omega),hl,hl1,hl4,a6,⟨(bx.gr gH).at0.mo W (fun c e=>by subst e;omega),lm,br⟩,bE,by omega,⟨W.has (o:=.row _ 1) BN.r (fun e=>by omega),W.has (o:=.row _ 1) BN.b (fun e=>by omega),BN.lt⟩,oB⟩
   . exact⟨Xo _,_,S,by simp [aa,C,ac],by simp [aa,H,ac],by simp [aa,E,ac],by simp [aa,I,ac],by simp [aa,r8],by simp [aa],by simp [aa]⟩
 . refine⟨Xo _,Xo _,_,[X],[],S,.inl ⟨rfl,rfl,rfl⟩,(mayL_nil _).push (by simp) al.1 al.2 (by simp),by simp,by simp,by simp [aa,ac],by simp [aa,ac],by simp [aa,ac],by simp [aa,ac],by simp [aa],by simp [aa]⟩
end Go.Ab
end
section
namespace Go.Ab
def swJ(l:List Nat)(j:Nat):List Nat:=(l.set j (l.getD (j-1) 0)).set (j-1) (l.getD j 0)
def bub(key:Nat->Int):Nat->List Nat->List Nat
 |0,l=>l
 |j+1,l=>if key (l.getD j 0)<key (l.getD (j+1) 0)then bub key j (swJ l (j+1))else l
def iO(key:Nat->Int)(k:Nat)(l:List Nat):List Nat:=(Xh k).foldl (fun l i=>bub key (i+1) l) l
theorem qs(key:Nat->Int)(k:Nat)(l:List Nat):iO key (k+1) l=bub key (k+1) (iO key k l):=by
 unfold iO;rw [XF,XE];rfl
theorem swJ_len(l:List Nat)(j:Nat):(swJ l j).length=l.length:=by simp [swJ]
theorem yO{l:List Nat}{j:Nat}(h:j<l.length):(swJ l j).Perm l:=by
 have:((l.set j l[j-1]).set (j-1) l[j]).Perm l:=List.set_set_perm h (by omega)
 unfold swJ
 rwa [show l.getD (j-1) 0=l[j-1] by simp [Xc,show j-1<l.length by omega],show l.getD j 0=l[j] by simp [Xc,h]]
theorem yB{key:Nat->Int}: ∀(j:Nat) {l:List Nat},j<l.length->(bub key j l).Perm l
 |0,l,_=>.refl _
 | j+1,l,h=>by
   unfold bub
   split
   . exact(yB j (by rw [swJ_len];omega)).trans (yO h)
   . exact .refl _
theorem qr{key:Nat->Int}{l:List Nat}: ∀(k:Nat),k<l.length\/k=0->(iO key k l).Perm l
 |0,_=>.refl _
 | k+1,h=>by
   have a:=qr (key:=key) (l:=l) k (by omega)
   rw [qs]
   exact(yB (k+1) (by rw [a.length_eq];omega)).trans a
end Go.Ab

end
section
namespace Go.Ab
open Go.Proofs
set_option maxRecDepth 10000
def Tryz.F05:=aj t1<|aj t2<|aj t3<|aj t4<|aj t5<|aj t6<|aj t34<|t106
def Tryz.F19:=aj t3<|aj t34<|t106
def Tryz.F1a:=aj t1<|aj t2<|aj t3<|aj t4<|t34
def Tryz.F1b:=aj t1<|aj t2<|aj t3<|aj t34<|t106
theorem Am{a b:Int}:kV a b<0↔a<b:=by
 unfold kV
 split
 . omega
 . split<;>omega
def CmpF(E:Env)(hq:Hp)(g:FuncId)(post:List Value)(N:Nat)(key:Nat->Int):Prop:= ∀h,Gr hq h-> ∀i j,i<N->j<N->aM E g ([.int .i64 (i:Nat),.int .i64 (j:Nat)]++post) h (.int .i64 (kV (key j) (key i)))
theorem Bp {hq h0:Hp} (z:Gr hq h0) {b N:Nat} {xs:List Nat} {g:FuncId} {post:Array Value} {key:Nat->Int} (p:Row h0 b (eJ xs) 1) (R:hq.n<=b) (T:xs.length<=20) (A: ∀x∈xs,x<N) (G:CmpF zL hq g post.toList N key):
 Ret zL 180 [.slice (some ⟨b,0,some 1⟩) xs.length xs.length,.int .i64 0,.int .i64 (xs.length:Nat),.func (.func g) #[] post] h0 fun _ B=>Mo (· =b) h0 B/\Row B b (eJ (iO key (xs.length-1) xs)) 1:=by
 have H:=z.ok
 have S:=St.init1 H (o:=.row _ 1) p
 have U:an .i64 (0+1)=((0+1:Nat):Int):=rfl
 refine ab (n:=53) (rs:=[]) rfl Tryz.e180 rfl rfl rfl (lbt rfl) ?_
 simp only [BS,LB,Nat.reduceLT,Nat.reduceEqDiff,Int.reduceAdd]
 refine aO (fun(i:Nat) a h=>i<=xs.length-1/\St (· =b) h0 h [(b,.row (eJ (iO key i xs)) 1)] []/\a 0=.slice (some ⟨b,0,some 1⟩) xs.length xs.length/\a 1=.int .i64 0/\a 2=.int .i64 (xs.length:Nat)/\a 3=.func (.func g) #[] post/\a 8=.int .i64 ((i+1:Nat):Int)) (fun i=>xs.length-i) ?_ 0 _ _ ?_
 . clear S
   intro i C a h ⟨hi,S,r0,r1,r2,r3,r8⟩
   by_cases hlt:i+1<xs.length
   . simp only [BS,LB,Nat.reduceLT,Nat.reduceEqDiff,r2,r8,aB,hlt]
     have r:=qr (key:=key) (l:=xs) i (.inl (by omega))
     refine aO (fun(j:Nat) a h=>j<=i+1/\ ∃l,l.Perm xs/\bub key j l=bub key (i+1) (iO key i xs)/\St (· =b) h0 h [(b,.row (eJ l) 1)] []/\a 0=.slice (some ⟨b,0,some 1⟩) xs.length xs.length/\a 1=.int .i64 0/\a 2=.int .i64 (xs.length:Nat)/\a 3=.func (.func g) #[] post/\a 8=.int .i64 ((i+1:Nat):Int)/\a 9=.int .i64 (j:Nat)) (fun j=>j) ?_ (i+1) _ _ ?_
     . clear S r0 r1 r2 r3 r8
       intro j s a h ⟨hj,l,pm,hbub,S,r0,r1,r2,r3,r8,r9⟩
       have V:=pm.length_eq
       have D:an .i64 (((i+1:Nat):Int)+1)=((i+1+1:Nat):Int):=by rw [wrap64]<;>omega
       by_cases I:0<j
       . obtain⟨k,rfl⟩: ∃k,j=k+1:=⟨j-1,by omega⟩
         have E:(0:Int)<((k+1:Nat):Int):=by omega
         have t:an .i64 (((k+1:Nat):Int)-1)=(k:Int):=by rw [wrap64]<;>omega
         have F:k+1<xs.length:=by omega
         have u:k<xs.length:=by omega
         have d:=(S.row (b:=b) m0).load1 (natM_at (i:=k+1) (by omega))
         have f:=(S.row (b:=b) m0).load1 (natM_at (i:=k) (by omega))
         have J:l.getD (k+1) 0<N:=by
          refine A _ (pm.mem_iff.1 ?_)
          rw [Xc,zO (by omega)];exact Xl _
         have K:l.getD k 0<N:=by
          refine A _ (pm.mem_iff.1 ?_)
          rw [Xc,zO (by omega)];exact Xl _
         simp only [BS]
         refine au (aC rfl) (q:=0) (ps:=[]) (by kernel_rfl) ?_
         simp only [BS,LB,cls,Nat.reduceLT,Nat.reduceEqDiff,Nat.reduceAdd,Nat.reducePow,Nat.reduceDiv,Nat.reduceMod,Nat.reduceLeDiff,F05,r0,r1,r3,r9,E,t,F,u,d,f]
         refine cy (G _ (((z.fr (M:=NoM)).trans S.fr (fun c e=>.inr (by omega))).gr) _ _ J K) ?_
         intro h v
         replace S:=S.call v
         by_cases m:key (l.getD k 0)<key (l.getD (k+1) 0)
         . have w:kV (key (l.getD k 0)) (key (l.getD (k+1) 0))<0:=Am.2 m
           replace d:=v.load d
           replace f:=v.load f
           simp only [BS,LB,cls,Nat.reduceLT,Nat.reduceEqDiff,Nat.reduceAdd,Nat.reducePow,Nat.reduceDiv,Nat.reduceMod,Nat.reduceLeDiff,w]
           refine au (aC rfl) (q:=0) (ps:=[]) (by kernel_rfl) ?_
           simp only [BS,LB,cls,Nat.reduceLT,Nat.reduceEqDiff,Nat.reduceAdd,Nat.reducePow,Nat.reduceDiv,Nat.reduceMod,Nat.reduceLeDiff,F05,r0,r9,t,F,u,d,f]
           refine dw (ay S (i:=0) rfl Tryz.t3.2.2.1 aX (by rw [mF];omega) ono) ?_
           clear S;rintro W ⟨S,L⟩
           simp only [LC]at S
           simp only [BS,LB,cls,Nat.reduceLT,Nat.reduceEqDiff,Nat.reduceAdd,Nat.reducePow,Nat.reduceDiv,Nat.reduceMod,Nat.reduceLeDiff,F05,u]
           refine dw (ay S (i:=0) rfl Tryz.t3.2.2.1 aX (by rw [List.length_set,mF];omega) ono) ?_
           clear S;rintro X ⟨S,O⟩
           simp only [LC]at S
           rw [z7,z7]at S
           simp only [BS,LB,Nat.reduceLT,Nat.reduceEqDiff,Nat.reduceAdd,r9,t]
           have e:bub key (k+1) l=bub key k (swJ l (k+1)):=by
            show(if _ then _ else _)=_
            rw [if_pos m]
           exact s k _ _ (by omega) ⟨by omega,swJ l (k+1),(yO (by omega)).trans pm,by rw [<-e];exact hbub,S,by simp [aa,r0],by simp [aa,r1],by simp [aa,r2],by simp [aa,r3],by simp [aa,r8],by simp [aa]⟩
         . have w: ¬kV (key (l.getD k 0)) (key (l.getD (k+1) 0))<0:=fun h=>m (Am.1 h)
           have e:bub key (k+1) l=l:=by
            show(if _ then _ else _)=_
            rw [if_neg m]
           rw [e]at hbub
           simp only [BS,LB,cls,Nat.reduceLT,Nat.reduceEqDiff,Nat.reduceAdd,Nat.reducePow,Nat.reduceDiv,Nat.reduceMod,Nat.reduceLeDiff,r8,w,D]
           exact C (i+1) _ _ (by omega) ⟨by omega,by rw [qs,<-hbub];exact S,by simp [aa,r0],by simp [aa,r1],by simp [aa,r2],by simp [aa,r3],by simp [aa]⟩
       . have P:j=0:=by omega
         subst P
         have y:l=bub key (i+1) (iO key i xs):=hbub
         have E: ¬(0:Int)<((0:Nat):Int):=by omega
         simp only [BS]
         refine au (aC rfl) (q:=0) (ps:=[]) (by kernel_rfl) ?_
         simp only [BS,LB,cls,Nat.reduceLT,Nat.reduceEqDiff,Nat.reduceAdd,Nat.reducePow,Nat.reduceDiv,Nat.reduceMod,Nat.reduceLeDiff,Int.reduceLT,zM,r1,r8,r9,D]
         exact C (i+1) _ _ (by omega) ⟨by omega,by rw [qs,<-y];exact S,by simp [aa,r0],by simp [aa,r1],by simp [aa,r2],by simp [aa,r3],by simp [aa]⟩
     . exact⟨Xz _,_,r,rfl,S,by simp [aa,r0],by simp [aa,r1],by simp [aa,r2],by simp [aa,r3],by simp [aa,r8],by simp [aa]⟩
   . simp only [BS,LB,Nat.reduceLT,Nat.reduceEqDiff,r2,r8,aB,hlt]
     have Q:i=xs.length-1:=by omega
     subst Q
     exact⟨S.fr,S.row m0⟩
 . exact⟨Xo _,S,by simp [aa,bJ],by simp [aa,bJ],by simp [aa,bJ],by simp [aa,bJ],by simp [aa];rfl⟩
theorem stable_ok{hq h0:Hp}(c:Gr hq h0){b N:Nat}{xs:List Nat}{g:FuncId}{post:Array Value}{key:Nat->Int}(a:Row h0 b (eJ xs) 1)(e:hq.n<=b)(o:xs.length<20)(i: ∀x∈xs,x<N)(j:CmpF zL hq g post.toList N key):
 Ret zL 137 [.slice (some ⟨b,0,some 1⟩) xs.length xs.length,.int .i64 (xs.length:Nat),.func (.func g) #[] post] h0 fun _ d=>Mo (· =b) h0 d/\Row d b (eJ (iO key (xs.length-1) xs)) 1:=by
 have k:=c.ok
 have l: ¬(20:Int)<=(xs.length:Int):=by omega
 have m: ¬(20:Int)<(xs.length:Int):=by omega
 have S:=Si k
 refine ab (n:=63) (rs:=[]) rfl Tryz.e137 rfl rfl rfl (lbt rfl) ?_
 simp only [BS,LB,Nat.reduceLT,Nat.reduceEqDiff]
 rw [ct]
 simp only [BS,LB,Nat.reduceLT,Nat.reduceEqDiff,l]
 refine step_ret (Bp c a e (by omega) i j) ?_
 rintro r h ⟨f,R⟩
 simp only [BS]
 rw [ct]
 simp only [BS,LB,Nat.reduceLT,Nat.reduceEqDiff,m]
 exact⟨f,R⟩
theorem yl{hq h0:Hp}(d:Gr hq h0){b N:Nat}{xs:List Nat}{g:FuncId}{post:Array Value}{key:Nat->Int}(a:Row h0 b (eJ xs) 1)(e:hq.n<=b)(f:xs.length<20)(i: ∀x∈xs,x<N)(j:CmpF zL hq g post.toList N key):
 Ret zL 82 [.slice (some ⟨b,0,some 1⟩) xs.length xs.length,.func (.func g) #[] post] h0 fun _ c=>Mo (· =b) h0 c/\Row c b (eJ (iO key (xs.length-1) xs)) 1:=by
 refine ab (n:=9) (rs:=[]) rfl Tryz.e82 rfl rfl rfl (lbt rfl) ?_
 simp only [BS,LB,Nat.reduceLT,Nat.reduceEqDiff,F19]
 refine step_ret (stable_ok d a e f i j) ?_
 rintro r h q
 simp only [BS]
 exact q
theorem yA{h0:Hp}(k:h0.t.Sized h0.n){v:Value}{xs:List Nat}(l:ar h0 1 bM v xs)(x:xs.length<1000000)(f:xs≠ []):Ret zL 41 [v] h0 fun r d=>Gr h0 d/\ ∃b,r=.slice (some ⟨b,0,some 1⟩) xs.length xs.length/\Row d b (eJ xs) 1/\h0.n<=b:=by
 have S:=Si k
 rcases l with⟨_,rfl⟩|⟨b,o,s,c,rfl,m,p⟩
 . exact absurd rfl f
 . refine ab (n:=8) (rs:=[.tmp 2]) rfl Tryz.e41 rfl rfl rfl (lbt rfl) ?_
   simp only [BS,LB,Nat.reduceLT,Nat.reduceEqDiff,F1a]
   refine ag (bR (by exact Tryz.t34.1) (by exact Xt) (by decide) (by rfl)) S ?_;clear S;intro h y S i;simp only [LC,aV,bK,ah,Nat.reduceMul,Nat.reduceAdd,Xv,Xp,Xu,Xy]at S
   simp only [BS,LB,Nat.reduceLT,Nat.reduceEqDiff]
   have q:=S.fr.n
   refine dM (S.cloneW (enc:=bM) (ys:=xs) Tryz.t34.1 Xt (by decide) Tryz.t34.2.2.2.2.2 (.inr ⟨b,o,s,c,rfl,m,S.old p (fun h=>h)⟩) cZ (by decide) (by omega) (S.row m0)) ?_
   rintro d v ⟨t,g,z,u,w⟩
   obtain⟨j,rfl,a⟩:=w f
   simp only [BS,LB,ae,Nat.reduceLT,Nat.reduceEqDiff]
   rw [sZ]at a
   exact⟨t.gr,j,rfl,a,(u j rfl).elim (fun e=>by omega) (fun e=>XG q e)⟩
theorem first_ok{hq h0:Hp}(j:Gr hq h0){N:Nat}{v:Value}{xs:List Nat}{g:FuncId}{post:Array Value}{key:Nat->Int}(u:ar h0 1 bM v xs)(d:xs≠ [])(w:xs.length<20)(y: ∀x∈xs,x<N)(i:CmpF zL hq g post.toList N key){m:Nat}(D:1<=m):
 Ret zL 35 [v,.int .i64 (m:Nat),.func (.func g) #[] post] h0 fun r q=>Gr h0 q/\ar q 1 bM r ((iO key (xs.length-1) xs).take (min m xs.length))/\ ∀c,aq r c->h0.n<=c:=by
 have z:=j.ok
 have A:min (m:Int) (xs.length:Int)=((min m xs.length:Nat):Int):=by omega
 have s:=qr (key:=key) (l:=xs) (xs.length-1) (by cases xs with|nil=>exact absurd rfl d|cons a l=>simp)
 have S:=Si z
 refine ab (n:=18) (rs:=[.tmp 6]) rfl Tryz.e35 rfl rfl rfl (lbt rfl) ?_
 simp only [BS,LB,Nat.reduceLT,Nat.reduceEqDiff]
 refine step_ret (yA S.ok u (by omega) d) ?_
 rintro r h ⟨t,b,rfl,k,B⟩
 have o:hq.n<=b:=XG j.n B
 simp only [BS,LB,Nat.reduceLT,Nat.reduceEqDiff]
 refine step_ret (yl (j.trans t) k o w y i) ?_
 rintro r E ⟨f,R⟩
 have C:=An (kd:=.i64) (b:=b) (len:=xs.length) (n:=min m xs.length) Tryz.t34.1 Tryz.t3.2.2.1 (cap:=xs.length) (Nat.min_le_right _ _)
 simp only [BS,LB,ae,Nat.reduceLT,Nat.reduceEqDiff,XV,XW,F1b,A,C]
 refine⟨((t.fr (M:=NoM)).trans f (fun c e=>.inr (by omega))).gr,?_,fun c i=>by have i:b=c:=i;omega⟩
 have p:((iO key (xs.length-1) xs).take (min m xs.length)).length=min m xs.length:=by rw [Xw,s.length_eq];omega
 refine .inr ⟨b,0,some 1,xs.length,by rw [p],by rw [p];exact Nat.min_le_right _ _,?_⟩
 rw [p,R.load (by rw [mF,s.length_eq];omega),sZ,XY,Xu]
 unfold eJ
 rw [List.map_take]
def Tryz.F0w:=aj t1<|aj t2<|aj t3<|aj t33<|aj t34<|aj t110<|Z5
def Tryz.F1c:=aj t1<|aj t2<|aj t3<|aj t4<|t34
def Tryz.F1d:=aj t3<|aj t34<|t106
def Tryz.F1e:=aj t1<|aj t2<|aj t3<|aj t34<|t106
def Tryz.F0x:=aj t1<|aj t2<|aj t3<|aj t4<|aj t5<|aj t6<|aj Z3<|aj t33<|aj t34<|aj t106<|aj t110<|Z5
def keyB(N n:Nat)(R Q:Nat->List Int)(s w:Int)(i:Nat):Int:=oe N n R Q i s w
def jB(N n:Nat)(R Q:Nat->List Int)(s w a:Int):List Nat:=(iO (keyB N n R Q s w) (n-1) (Xh n)).take (min (max a 1).toNat n)
theorem Bu{hq:Hp}{m N:Nat}{p:Value}{l:List Int}{R Q:Nat->List Int}(t:TabAt hq m p N l R Q)(f: ∀i,i<l.length->(R i).length=N)(k: ∀i,i<l.length->(Q i).length=N)(o:l.length<1000){s w:Int}{b4 b5 b6:Nat}(c:hq.load b4 0 1=some [p])(d:hq.load b5 0 1=some [.int .i64 s])(e:hq.load b6 0 1=some [.int .i64 w]):
 CmpF zL hq 36 [ptrTo b4,ptrTo b5,ptrTo b6] l.length (keyB N l.length R Q s w):=by
 intro h g i j C D
 have E:Fl p:=by obtain⟨b,_,_,_,rfl,_⟩:=t.ex;exact cq
 have S:=Si g.ok
 have r:=a8 g.ok (g.load c)
 have u:=a8 g.ok (g.load d)
 have v:=a8 g.ok (g.load e)
 refine ab (n:=19) (rs:=[.tmp 7]) rfl Tryz.e36 rfl rfl rfl (lbt rfl) ?_
 simp only [BS,LB]
 refine au (aC rfl) (q:=0) (ps:=[(4,8),(4,7),(4,5)]) (by kernel_rfl) ?_
 simp only [BS,LB,cls,Nat.reduceLT,Nat.reduceEqDiff,Nat.reduceAdd,Nat.reducePow,Nat.reduceDiv,Nat.reduceMod,Nat.reduceLeDiff,F0w,g.load c,g.load d,g.load e]
 refine cy (wL S.ok ((t.gr g).gr S.gr) f k o) ?_
 intro F a
 have x:=av a r
 have y:=av a u
 have z:=av a v
 replace S:=S.call a
 simp only [BS,LB,cls,Nat.reduceLT,Nat.reduceEqDiff,Nat.reduceAdd,Nat.reducePow,Nat.reduceDiv,Nat.reduceMod,Nat.reduceLeDiff,F0w,a.load (g.load c),a.load (g.load d),a.load (g.load e)]
 refine cy (wL S.ok ((t.gr g).gr S.gr) f k o) ?_
 intro G A
 replace S:=S.call A
 simp only [BS,LB,cls,Nat.reduceLT,Nat.reduceEqDiff,Nat.reduceAdd,Nat.reducePow,Nat.reduceDiv,Nat.reduceMod,Nat.reduceLeDiff]
 refine cy (Ah S.ok) ?_
 intro H B
 replace S:=S.call B
 simp only [BS,LB,cls,ae,Nat.reduceLT,Nat.reduceEqDiff,Nat.reduceAdd,Nat.reducePow,Nat.reduceDiv,Nat.reduceMod,Nat.reduceLeDiff]
 refine⟨by simp only [bg,bF,aW,bI,a9,ne_eq,not_false_eq_true,bN,ce,bA,bn,bQ,c8,aK,Nat.reduceLT,Nat.reduceEqDiff,reduceIte,Xb,ac,bJ,aN x,aN y,aN z],?_⟩
 exact⟨rfl,S.gr⟩
theorem insNil_ok{h0:Hp}(a:h0.t.Sized h0.n){v:Value}:aM zL 180 [.slice none 0 0,.int .i64 0,.int .i64 0,v] h0 (.tuple #[]):=by
 have S:=Si a
 have b:an .i64 1=1:=rfl
 have c: ¬(1:Int)<0:=by decide
 refine ab (n:=53) (rs:=[]) rfl Tryz.e180 rfl rfl rfl (lbt rfl) ?_
 simp only [BS,LB,Nat.reduceLT,Nat.reduceEqDiff,Int.reduceAdd,b]
 rw [ct]
 simp only [BS,LB,ae,Nat.reduceLT,Nat.reduceEqDiff,c]
 exact S.gr
theorem AG{h0:Hp}(c:h0.t.Sized h0.n){m:Nat}{g:FuncId}{post:Array Value}:aM zL 35 [.slice none 0 0,.int .i64 (m:Nat),.func (.func g) #[] post] h0 (.slice none 0 0):=by
 have S:=Si c
 have d:aM zL 41 [.slice none 0 0] h0 (.slice none 0 0):=by
  refine ab (n:=8) (rs:=[.tmp 2]) rfl Tryz.e41 rfl rfl rfl (lbt rfl) ?_
  simp only [BS,LB,ae,Nat.reduceLT,Nat.reduceEqDiff,F1c]
  exact S.gr
 have e:min (m:Int) 0=0:=by omega
 have f: ¬(20:Int)<=0:=by decide
 have i: ¬(20:Int)<0:=by decide
 have j: ∀{h:Hp},h.t.Sized h.n->aM zL 82 [.slice none 0 0,.func (.func g) #[] post] h (.tuple #[]):=fun {h} a=>by
  have S:=Si a
  have k:aM zL 137 [.slice none 0 0,.int .i64 0,.func (.func g) #[] post] h (.tuple #[]):=by
   refine ab (n:=63) (rs:=[]) rfl Tryz.e137 rfl rfl rfl (lbt rfl) ?_
   simp only [BS,LB,Nat.reduceLT,Nat.reduceEqDiff]
   rw [ct]
   simp only [BS,LB,Nat.reduceLT,Nat.reduceEqDiff,f]
   refine am (insNil_ok S.ok) ?_;intro h g;replace S:=S.call g;clear g
   simp only [BS]
   rw [ct]
   simp only [BS,LB,ae,Nat.reduceLT,Nat.reduceEqDiff,i]
   exact S.gr
  refine ab (n:=9) (rs:=[]) rfl Tryz.e82 rfl rfl rfl (lbt rfl) ?_
  simp only [BS,LB,Nat.reduceLT,Nat.reduceEqDiff,zM,F1d]
  refine am k ?_;intro p l;replace S:=S.call l
  simp only [BS,LB,ae]
  exact S.gr
 have o:fg zL 34 (.slice none 0 0) none (some (.int .i64 0)) none=some (.slice none 0 0):=by
  simp only [fg,Tryz.t34.1,Tryz.t3.2.2.1,eW,eQ]
  rfl
 refine ab (n:=18) (rs:=[.tmp 6]) rfl Tryz.e35 rfl rfl rfl (lbt rfl) ?_
 simp only [BS,LB,Nat.reduceLT,Nat.reduceEqDiff]
 refine am d ?_;intro h b;replace S:=S.call b
 simp only [BS,LB,Nat.reduceLT,Nat.reduceEqDiff]
 refine am (j S.ok) ?_;intro h b;replace S:=S.call b
 simp only [BS,LB,ae,Nat.reduceLT,Nat.reduceEqDiff,zM,XV,XW,F1e,e,o]
 exact S.gr
theorem vb{h0:Hp}(K:h0.t.Sized h0.n){m N:Nat}{p:Value}{l:List Int}{R Q:Nat->List Int}(t:TabAt h0 m p N l R Q)(L: ∀i,i<l.length->(R i).length=N)(M: ∀i,i<l.length->(Q i).length=N)(Z:l.length<=16){s w a:Int}:
 Ret zL 12 [p,.int .i64 s,.int .i64 w,.int .i64 a] h0 fun r z=>Gr h0 z/\ar z 1 bM r (jB N l.length R Q s w a)/\ ∀c,aq r c->h0.n<=c:=by
 have S:=Si K
 have fp:Fl p:=by obtain⟨b,_,_,_,rfl,_⟩:=t.ex;exact cq
 obtain⟨mk,f⟩: ∃k:Nat,max a 1=(k:Int):=⟨(max a 1).toNat,by omega⟩
 have q:(max a 1).toNat=mk:=by omega
 refine ab (n:=27) (rs:=[.tmp 8]) rfl Tryz.e12 rfl rfl rfl (lbt rfl) ?_
 simp only [BS,Nat.reduceLT]
 refine ag (bC (by assumption)) S ?_;clear S;intro h b4 S E
 simp only [BS,Nat.reduceLT,Nat.reduceEqDiff,if_false]
 refine ag (bC (by exact aX)) S ?_;clear S;intro h b5 S F
 simp only [BS,Nat.reduceLT,Nat.reduceEqDiff,if_false]
 refine ag (bC (by exact aX)) S ?_;clear S;intro h b6 S G
 simp only [BS,LB,Nat.reduceLT,Nat.reduceEqDiff,F0x,S.ld (b:=b4) (o:=0) m2 rfl]
 have k0:=S.fr.n
 refine step_ret (nu S.ok (t.gr S.gr) (by omega)) ?_
 rintro r h ⟨g,O,A⟩
 replace S:=S.call g
 simp only [BS,LB,Nat.reduceLT,Nat.reduceEqDiff,F0x,O.lenq]
 replace S:=S.nilG (k:=1)
 refine aO (fun(i:Nat) d h=>i<=l.length/\ ∃u,St NoM h0 h [(b6,.row [.int .i64 w] 1),(b5,.row [.int .i64 s] 1),(b4,.row [p] 1)] [(u,1,eJ (Xh i))]/\(i=0->u=.slice none 0 0)/\d 3=.int .i64 a/\d 4=ptrTo b4/\d 5=ptrTo b5/\d 6=ptrTo b6/\d 9=u/\d 13=.int .i64 (l.length:Nat)/\d 14=.int .i64 i) (fun i=>l.length-i) ?_ 0 _ _ ?_
 . clear S
   intro i P d h ⟨hi,u,S,hv,r3,r4,r5,r6,r9,r13,r14⟩
   have T:an .i64 ((i:Int)+1)=((i+1:Nat):Int):=by rw [wrap64]<;>omega
   by_cases hlt:i<l.length
   . simp only [BS,LB,Nat.reduceLT,Nat.reduceEqDiff,r9,r13,r14,aB,hlt]
     refine ag (bR (by exact Tryz.t34.1) (by exact Xt) (by decide) (by rfl)) S ?_;clear S;intro h H S I;simp only [LC,aV,bK,ah,Nat.reduceMul,Nat.reduceAdd,Xv,Xp,Xu,Xy]at S
     simp only [BS,LB,Nat.reduceLT,Nat.reduceEqDiff]
     have v:aJ h 1 (.slice (some ⟨H,0,none⟩) 1 1)=some (1,[.int .i64 (i:Nat)]):=by simp only [aJ];rw [S.lds (b:=H) (o:=0) (n:=1*1) m0 (lbt rfl)];rfl
     replace S:=S.drop1
     refine dM (S.grow (j:=0) (m:=1) (new:=[.int .i64 (i:Nat)]) rfl Tryz.t34.1 Xt (by decide) Tryz.t34.2.2.2.2.2 v rfl (by decide) rfl (by rw [mF];simp;omega)) ?_
     clear S v;rintro h B S
     simp only [LC]at S
     have e:eJ (Xh i)++[.int .i64 (i:Nat)]=eJ (Xh (i+1)):=by unfold eJ;rw [XF,XA];rfl
     rw [e]at S
     simp only [BS,LB,Nat.reduceLT,Nat.reduceEqDiff,r14,T]
     exact P (i+1) _ _ (by omega) ⟨by omega,B,S,fun h=>(by omega),by simp [aa,r3],by simp [aa,r4,ac],by simp [aa,r5,ac],by simp [aa,r6,ac],by simp [aa],by simp [aa,r13],by simp [aa]⟩
   . have U:i=l.length:=by omega
     subst U
     simp only [BS,LB,Nat.reduceLT,Nat.reduceEqDiff,r3,r4,r5,r6,r9,r13,r14,aB,hlt]
     by_cases C:l.length=0
     . have V:=hv C
       subst V
       have J:=S.fr.n
       rw [f]
       refine am (AG S.ok) ?_
       intro z g
       replace S:=S.call g
       simp only [BS,LB,ae,Nat.reduceLT,Nat.reduceEqDiff]
       refine⟨S.gr,.inl ⟨rfl,?_⟩,fun c A=>A.elim⟩
       unfold jB
       rw [C];simp
     . have W:ar h 1 bM u (Xh l.length):=(S.gown _ m0).1.sl (sZ _).symm cZ (by decide)
       have J:=S.fr.n
       have X:=Bu (t.gr S.gr) L M (by omega) (s:=s) (w:=w) (b4:=b4) (b5:=b5) (b6:=b6) (S.ld m2 rfl) (S.ld m1 rfl) (S.ld m0 rfl)
       rw [f]
       refine step_ret (first_ok (N:=l.length) (m:=mk) (Gr.refl S.ok) W (by intro e;have:=congrArg List.length e;rw [List.length_range]at this;exact C this) (by simp;omega) (fun x Y=>List.mem_range.1 Y) X (by omega)) ?_
       rintro r z ⟨g,y,D⟩
       replace S:=S.call g
       simp only [BS,LB,ae,Nat.reduceLT,Nat.reduceEqDiff]
       rw [List.length_range]at y
       exact⟨S.gr,by unfold jB;rw [q];exact y,fun c A=>XG J (D c A)⟩
 . exact⟨Xo _,_,S,fun _=>rfl,by simp [aa,bJ],by simp [aa,ac],by simp [aa,ac],by simp [aa,ac],by simp [aa],by simp [aa],by simp [aa]⟩
theorem pair_none{x:Option Tch}:jh none x=true:=by cases x<;>rfl
structure TabO(E:Env)(h0:Hp)(pt:Value)(nd mk:Nat)(gM gN:FuncId):Prop where
 fl:Fl pt
 marks: ∀h,Gr h0 h->Ret E gM [pt] h fun r h'=>Gr h h'/\ ∃l:List Int,ar h' 1 (encI .i64) r l/\l.length=mk
 nodes: ∀h,Gr h0 h->aM E gN [pt] h (.int .i64 (nd:Nat))
def Tryz.F0y:=aj t1<|aj t2<|aj t3<|aj t4<|aj t33<|aj t34<|aj t110<|aj Z5<|aj t157<|t193
def Tryz.F1f:=aj t1<|aj t2<|aj t3<|aj t33<|aj t34<|aj t110<|Z5
def Tryz.FG:=aj t1<|aj t2<|aj t3<|aj t4<|aj t5<|aj t6<|aj t9<|aj t15<|aj t17<|aj t28<|aj t33<|aj t34<|aj t110<|aj Z5<|aj t190<|aj t193<|Z19
theorem gV.keep{h e:Hp}{m n:Nat}{v:Value}{R:Nat->List Int}(f:h.t.Sized h.n)(g:dW h e)(r:gV h m v n R):gV e m v n R:=by
 obtain⟨k,a,b,c,d⟩:=r
 exact⟨k,a.keep f g,b,c,fun i w j=>⟨(d i w j).1.keep f g,(d i w j).2⟩⟩
theorem TabAt.keep{h c:Hp}{m N:Nat}{p:Value}{l:List Int}{R Q:Nat->List Int}(a:h.t.Sized h.n)(g:dW h c)(t:TabAt h m p N l R Q):TabAt c m p N l R Q:=by
 obtain⟨b,d,f,i,e,j,k,n,o,q,r⟩:=t.ex
 exact⟨b,d,f,i,e,g.row a j,k.keep a g,n.keep a g,o.keep a g,q,r⟩
theorem bEach_ok{h0:Hp}(g:h0.t.Sized h0.n){d e:Value}(i:Fl d)(j:Fl e):Ret zL 119 [d,e] h0 fun v f=>Gr h0 f/\ ∃b1 a,v=.func (.func 169) #[] #[ptrTo b1,ptrTo a]/\h0.n<=b1/\h0.n<=a/\f.load b1 0 1=some [d]/\f.load a 0 1=some [e]:=by
 have S:=Si g
 refine ab (n:=6) (rs:=[.tmp 4]) rfl Tryz.e119 rfl rfl rfl (lbt rfl) ?_
 simp only [BS,Nat.reduceLT]
 refine ag (bC (by assumption)) S ?_;clear S;intro h b1 S b
 simp only [BS,Nat.reduceLT,Nat.reduceEqDiff,if_false]
 refine ag (bC (by assumption)) S ?_;clear S;intro h a S c
 simp only [BS,LB,ae,Nat.reduceLT,Nat.reduceEqDiff]
 exact⟨S.gr,b1,a,rfl,b,c,S.ld m1 rfl,S.ld m0 rfl⟩
def TellF(E:Env)(hq:Hp)(g:FuncId)(post:List Value)(N:Nat)(f:Nat->Int):Prop:= ∀h,h.t.Sized h.n->dW hq h-> ∀v,v<N->aM E g ([.int .i64 (v:Nat)]++post) h (.int .i64 (f v))
theorem bEach_it{hq h0:Hp}(o:hq.t.Sized hq.n)(e:h0.t.Sized h0.n)(x:dW hq h0)(y:hq.n<=h0.n){m N:Nat}{p:Value}{l:List Int}{R Q:Nat->List Int}(t:TabAt hq m p N l R Q)(P:N<=1000){b1 j:Nat}{g:FuncId}{post:Array Value}{f:Nat->Int}(hf:TellF zL hq g post.toList N f)
 (D:h0.load b1 0 1=some [p]) (E:h0.load j 0 1=some [.func (.func g) #[] post]):
 lS zL 169 [] [ptrTo b1,ptrTo j] h0 (fun c=>c=b1\/c=j\/c<hq.n) ((Xh N).map fun(v:Nat)=>[.int .i64 (f v)]):=by
 intro G J Z H Y h F s k
 have z:=s.load e D (.inl rfl)
 have S:Fl p:=by obtain⟨b,_,_,_,rfl,_⟩:=t.ex;exact cq
 refine enter (n:=17) (rs:=[]) rfl Tryz.e169 rfl rfl rfl (lbt rfl) ?_
 simp only [BS,LB,Nat.reduceLT,F0y,z]
 refine am (qq s.ok (t.keep o (s.keep x y (fun c q=>.inr (.inr q))))) ?_
 intro T r
 have A:=s.gr r
 have B:=Y.gr _ _ _ _ k r
 simp only [BS]
 refine aO (fun(i:Nat) d h=>i<=N/\ ∃F,ItS h0 (fun c=>c=b1\/c=j\/c<hq.n) h F/\J i h F/\d 0=.func (.yield G) #[] #[]/\d 1=ptrTo b1/\d 2=ptrTo j/\d 6=.int .i64 (N:Nat)/\d 7=.int .i64 i) (fun i=>N-i) ?_ 0 _ _ ?_
 . clear z s k A B F r h
   intro i I d h ⟨hi,F,s,k,r0,r1,r2,r6,r7⟩
   have w:an .i64 ((i:Int)+1)=((i+1:Nat):Int):=by rw [wrap64]<;>omega
   by_cases hlt:i<N
   . have K:=s.load e E (.inr (.inl rfl))
     have L:((Xh N).map fun(v:Nat)=>[Value.int .i64 (f v)])[i]? =some [.int .i64 (f i)]:=by rw [XM,List.getElem?_range hlt];rfl
     simp only [BS,LB,Nat.reduceLT,Nat.reduceEqDiff,F0y,r0,r2,r6,r7,aB,hlt,K]
     refine am (hf _ s.ok (s.keep x y (fun c q=>.inr (.inr q))) i hlt) ?_
     intro U C
     simp only [BS,LB,Nat.reduceLT,Nat.reduceEqDiff]
     refine cI Y (s.gr C) (Y.gr _ _ _ _ k C) (i:=i) L ?_ ?_ ?_
     . intro u M a O _ _
       simp only [BS,LB,Nat.reduceLT,Nat.reduceEqDiff,r7,w]
       exact I (i+1) _ _ (by omega) ⟨by omega,M,O,a,by simp [aa,r0],by simp [aa,r1,ac],by simp [aa,r2,ac],by simp [aa,r6],by simp [aa]⟩
     . intro u a _
       simp only [BS,LB,Nat.reduceLT,Nat.reduceEqDiff]
       exact fi rfl ⟨rfl,.inr (.inl ⟨_,rfl,a⟩)⟩
     . intro v u a
       exact absurd a (H v u)
   . simp only [BS,LB,Nat.reduceLT,r6,r7,aB,hlt]
     have:i=N:=by omega
     subst this
     exact bS (cJ ⟨rfl,_,rfl,rfl,.inl ⟨_,F,rfl,by simpa using k⟩⟩)
 . exact⟨Xo _,F,A,B,by simp [aa,bJ],by simp [aa,bJ,ac],by simp [aa,bJ,ac],by simp [aa],by simp [aa]⟩
theorem pi1_ok{hq:Hp}{m N:Nat}{p:Value}{l:List Int}{R Q:Nat->List Int}(a:hq.t.Sized hq.n)(t:TabAt hq m p N l R Q)(j: ∀i,i<l.length->(R i).length=N)(o: ∀i,i<l.length->(Q i).length=N)(q:l.length<1000){e:Value}{c:List Int}(f:ar hq 1 (encI .i64) e c)(d:c.length<1000){w:Int}{g b4 b5:Nat}(r:hq.load g 0 1=some [p])(s:hq.load b4 0 1=some [e])(u:hq.load b5 0 1=some [.int .i64 w]):
 TellF zL hq 120 [ptrTo g,ptrTo b4,ptrTo b5] N (fun v=>oI N l.length R Q v w c):=by
 intro h x k v z
 have A:Fl p:=by obtain⟨b,_,_,_,rfl,_⟩:=t.ex;exact cq
 have B:=f.fl
 have S:=Si x
 refine ab (n:=11) (rs:=[.tmp 5]) rfl Tryz.e120 rfl rfl rfl (lbt rfl) ?_
 simp only [BS,LB,Nat.reduceLT,Nat.reduceEqDiff,F1f,k.load a r,k.load a s,k.load a u]
 refine am (bBest_ok S.ok (t.keep a k) j o q (f.keep a k) d) ?_
 intro C y
 replace S:=S.call y
 simp only [BS,LB,ae,Nat.reduceLT,Nat.reduceEqDiff]
 exact S.gr
theorem bPi_ok{h0:Hp}(ok:h0.t.Sized h0.n){m N:Nat}{p:Value}{l:List Int}{R Q:Nat->List Int}(t:TabAt h0 m p N l R Q)(Z: ∀i,i<l.length->(R i).length=N)(hQ: ∀i,i<l.length->(Q i).length=N)(hl:l.length<1000)(hN:N<=1000){va:Value}{f:List Int}(ha:ar h0 1 (encI .i64) va f)(I:f.length<1000){w:Nat}(hw:w<N):
 Ret zL 66 [p,va,.int .i64 (w:Nat)] h0 fun r z=>Gr h0 z/\ar z 1 (encI .i64) r ((Xh N).map fun(v:Nat)=>oI N l.length R Q v w f)/\ ∀c,aq r c->h0.n<=c:=by
 have fp:Fl p:=by obtain⟨b,_,_,_,rfl,_⟩:=t.ex;exact cq
 have fa:=ha.fl
 have S:=Si ok
 have c0:0<=(w:Int)/\(w:Int)<(N:Int):=by omega
 refine ab (n:=21) (rs:=[.cell 6 28]) rfl Tryz.e66 rfl rfl rfl (lbt rfl) ?_
 simp only [BS,Nat.reduceLT]
 refine ag (bC (by assumption)) S ?_;clear S;intro h b3 S ad
 simp only [BS,Nat.reduceLT,Nat.reduceEqDiff,if_false]
 refine ag (bC (by assumption)) S ?_;clear S;intro h b4 S af
 simp only [BS,Nat.reduceLT,Nat.reduceEqDiff,if_false]
 refine ag (bC (by exact aX)) S ?_;clear S;intro h b5 S ai
 have A:=S.gr
 have J:=S.ld (b:=b3) (o:=0) m2 rfl
 have l4:=S.ld (b:=b4) (o:=0) m1 rfl
 have l5:=S.ld (b:=b5) (o:=0) m0 rfl
 have q:=S.ok
 clear S
 rename Hp=>hq
 have S:=Si q
 simp only [BS,FG]
 refine ag aw S ?_;clear S;intro h d S ak
 simp only [BS,LB,Nat.reduceLT,Nat.reduceEqDiff,FG,S.old J (fun h=>h),S.old l5 (fun h=>h)]
 refine am (iw S.ok ((t.gr A).gr S.gr)) ?_
 intro h g;replace S:=S.call g;clear g
 have dc:decide (0<=(w:Int)/\(w:Int)<(N:Int))=true:=decide_eq_true c0
 simp only [BS,LB,Nat.reduceLT,Nat.reduceEqDiff,FG,dc,S.old J (fun h=>h)]
 have tf:=pi1_ok q (t.gr A) Z hQ hl (ha.gr A) I J l4 l5
 have ax:=(S.row (b:=d) m0).lt S.ok
 refine step_ret (bEach_ok S.ok fp fQ) ?_
 rintro r h ⟨g,K,M,rfl,n1,n2,y1,y2⟩
 replace S:=S.call g;clear g
 have O:=bEach_it q S.ok S.gr.keep S.fr.n (t.gr A) hN tf y1 y2
 have kn:=S.fr.n
 have kG:=A.n
 have z1:=a8 S.ok y1
 have z2:=a8 S.ok y2
 rename Hp=>hE
 have S1:=S
 have P:=S.ok
 have l6:=(S.row (b:=d) m0).lt P
 simp only [BS]
 replace S:=S.base
 replace S:=S.nilG (k:=1)
 generalize B:((Xh N).map fun(v:Nat)=>oI N l.length R Q v w f)=xs
 have aL:xs.length=N:=by rw [<-B];simp
 replace O:lS zL 169 [] [ptrTo K,ptrTo M] hE (fun c=>c=K\/c=M\/c<hq.n) (xs.map fun x=>[.int .i64 x]):=by rw [<-B,List.map_map];exact O
 refine fq S (g:=169) (a:=#[]) (b:=#[ptrTo K,ptrTo M]) (by simp [bQ,aa,ac]) rfl rfl ?_
 intro h2 H C s a0 a1 g2
 obtain⟨X,hX,s⟩: ∃X:eu,X=_/\St (· ∈[d]) hE h2 [(C,.loop X),(H,.dfr),(d,.row [.slice none 0 0] 1)] [(.slice none 0 0,1,[])]:=⟨_,rfl,s⟩
 have hJ:Yld zL C (fun k z F=> ∃(e:Value),St (· ∈[d]) hE z [(C,.loop X),(H,.dfr),(d,.row [e] 1)] [(e,1,ints (xs.take k))]/\k<=xs.length/\F=keys [(C,.loop X),(H,.dfr),(d,.row [e] 1)] [(e,1,ints (xs.take k))]) (fun _ _=>False) (xs.map fun x=>[.int .i64 x]):=by
  refine⟨?_,?_,fun _ _ h=>h.elim,?_⟩
  . rintro i h F ⟨e,S,_,rfl⟩;exact⟨S.ok,fun b u=>S.key_lt u⟩
  . rintro i h F z ⟨e,S,a,rfl⟩ gg;exact⟨e,S.call gg,a,rfl⟩
  . rintro i x Z F U ⟨e,S,a,rfl⟩
    have D:i<xs.length:=by
     have:=(List.getElem?_eq_some_iff.1 U).1
     simpa using this
    rw [XM,zO D]at U
    cases U
    have tk:ints (xs.take (i+1))=ints (xs.take i)++[.int .i64 xs[i]]:=by rw [List.take_add_one,zO D];exact ib _ _
    have tl:(xs.take i).length<=i:=by rw [Xw];omega
    subst hX
    refine fG (S.get m0) (by rw [Tryz.e66];rfl) rfl ?_
    have S0:=S
    replace S:=S.base
    simp only [BS,LB,Nat.reduceLT,Nat.reduceEqDiff]
    refine eH S (i:=0) rfl rfl rfl rfl rfl ?_
    clear S;intro h S
    simp only [LC]at S
    simp only [BS,LB,Nat.reduceLT,Nat.reduceEqDiff,FG,S.ld (b:=d) (o:=0) m2 rfl]
    refine ag (bR (by exact Tryz.t28.1) (by exact Tryz.e2E) (by decide) (by rfl)) S ?_;clear S;intro h bs S al;simp only [LC,aV,bK,ah,Nat.reduceMul,Nat.reduceAdd,Xv,Xp,Xu,Xy]at S
    simp only [BS,LB,Nat.reduceLT,Nat.reduceEqDiff]
    have E:aJ h 1 (.slice (some ⟨bs,0,none⟩) 1 1)=some (1,[.int .i64 xs[i]]):=by simp only [aJ];rw [S.lds (b:=bs) (o:=0) (n:=1*1) m0 (lbt rfl)];rfl
    replace S:=S.drop1
    refine dM (S.grow (j:=0) (m:=1) (new:=[.int .i64 xs[i]]) rfl Tryz.t28.1 Tryz.e2E (by decide) Tryz.t28.2.2.2.2.2 E rfl (by decide) rfl (by rw [cu];simp;omega)) ?_
    clear S E;rintro h G S
    simp only [LC]at S
    have V:Fl G:=(S.gown _ m0).1.fl
    simp only [BS,LB,Nat.reduceLT,Nat.reduceEqDiff]
    refine az (ay S (i:=2) rfl Tryz.t28.2.2.1 V (Xa (lbt rfl)) ono) ?_
    clear S;rintro h ⟨S,_⟩
    simp only [LC]at S
    simp only [BS]
    refine dy S (i:=0) rfl ?_
    clear S;intro h S
    simp only [LC]at S
    rw [<-tk]at S
    exact .inl ⟨rfl,_,⟨G,S0.rebase S,by omega,rfl⟩,S.fr,fun c W=>(S.key_own W).symm⟩
 refine eg (O C _ _ (fun _ _ h=>h) hJ h2 _ ?_ ⟨_,s,Xo _,rfl⟩) fun o rc z y=>iq y ?_
 . refine⟨s.ok,s.fr.n,fun b u hd=>g2.get b u,fun b u h=>?_,fun b u=>s.key_lt u⟩
   rcases s.key_own u with h1|h1
   . omega
   . have:=List.mem_singleton.1 h1
     omega
 . rintro F ⟨e,T,b,rfl⟩
   rw [Xr,XO]at T
   subst hX
   refine⟨_,T.get m0,Nat.zero_ne_one,?_⟩
   replace T:=T.dead
   have S:=T
   show Run _ _ _ _ _ _ _ _
   simp only [BS,LB,Nat.reduceLT,Nat.reduceEqDiff,FG,S.ld (b:=d) (o:=0) m1 rfl]
   have V:Fl e:=(T.gown _ m0).1.fl
   clear S
   refine az (ay T (i:=1) rfl Tryz.t28.2.2.1 V (Xa (lbt rfl)) ono) ?_
   clear T;rintro h3 ⟨T,_⟩
   simp only [XJ,XK]at T
   simp only [BS]
   refine dp (eR [H] _ (L:=[(d,_)]) T.base fun h4 Y=>?_)
   refine⟨rfl,(cU (by decide) (by simp only [aK,ac,Nat.reduceEqDiff,reduceIte];exact gf Tryz.t28.2.1 (Y.ld (b:=d) (o:=0) m0 rfl))).2 (dH.2 ⟨A.trans ((S1.rebase T).rebase Y).gr,(Y.gown _ m0).1.sl rfl (fun _=>rfl) (by decide),fun c W=>?_⟩)⟩
   rcases(T.gblk m0 W).1 with h|h
   . omega
   . have:=List.mem_singleton.1 h
     omega
def Tryz.F1g:=aj t1<|aj t2<|aj t3<|aj t4<|aj t28<|aj t33<|aj t34<|aj t110<|Z5
def Tryz.F1h:=aj t1<|aj t2<|aj t3<|aj t4<|aj t28<|aj t33<|aj t34<|aj t110<|Z5
theorem AL{h0:Hp}(b:h0.t.Sized h0.n):Ret zL 34 [.pointer none] h0 fun r a=>Gr h0 a/\ ∃l:List Int,ar a 1 (encI .i64) r l/\l.length=0:=by
 have S:=Si b
 refine ab (n:=10) (rs:=[.tmp 2]) rfl Tryz.e34 rfl rfl rfl (lbt rfl) ?_
 simp only [BS,LB,ae,Nat.reduceLT,Nat.reduceEqDiff,F1g]
 exact⟨S.gr,[],.inl ⟨rfl,rfl⟩,rfl⟩
theorem AB{h0:Hp}(a:h0.t.Sized h0.n):aM zL 138 [.pointer none] h0 (.int .i64 ((0:Nat):Int)):=by
 have S:=Si a
 refine ab (n:=9) (rs:=[.tmp 2]) rfl Tryz.e138 rfl rfl rfl (lbt rfl) ?_
 simp only [BS,LB,ae,Nat.reduceLT,Nat.reduceEqDiff,zM,F1h]
 exact S.gr
def TabQ(h:Hp)(b:Value)(a:Nat)(l:List Int)(R Q:Nat->List Int):Prop:=(∃m,TabAt h m b a l R Q/\(∀i,i<l.length->(R i).length=a)/\ ∀i,i<l.length->(Q i).length=a)\/(b=.pointer none/\a=0/\l=[])
theorem TabQ.gr{h c:Hp}{d:Value}{e:Nat}{l:List Int}{R Q:Nat->List Int}(t:TabQ h d e l R Q)(g:Gr h c):TabQ c d e l R Q:=t.imp (fun⟨m,a,b⟩=>⟨m,a.gr g,b⟩) (fun h=>h)
theorem TabQ.tabO{h:Hp}{d:Value}{e:Nat}{l:List Int}{R Q:Nat->List Int}(t:TabQ h d e l R Q)(f:l.length<1000):TabO zL h d e l.length 34 138:=by
 rcases t with⟨m,t,_,_⟩|⟨rfl,rfl,rfl⟩
 . refine⟨by obtain⟨b,_,_,_,rfl,_⟩:=t.ex;exact cq,fun x k=>(nu k.ok (t.gr k) f).mono fun r g ⟨a,b,c⟩=>⟨a,l,b,rfl⟩,fun x k=>qq k.ok (t.gr k)⟩
 . exact⟨cq,fun x k=>AL k.ok,fun x k=>AB k.ok⟩
def ansV(c:Int)(d:Int)(vA a:Value):Value:=.agg ⟨[.int .i64 c,.int .i64 d,vA,a]⟩
end Go.Ab
end
section
namespace Go.Ab
open Go.Proofs
set_option maxRecDepth 10000
def Tryz.F1i:=aj t1<|aj t3<|aj t4<|aj Z0<|aj t32<|aj t33<|aj t35<|aj t36<|aj Z12<|aj Z10<|aj t79<|aj Z13<|aj Z5<|aj t164<|Z1
def Tryz.F06:=aj t1<|aj t3<|aj t4<|aj t32<|aj t33<|aj t35<|aj t36<|aj Z12<|aj Z10<|aj t79<|aj Z13<|aj Z5<|Z1
def Tryz.F1j:=aj t1<|aj t3<|aj t4<|aj Z0<|aj t32<|aj t33<|aj t35<|aj t36<|aj Z12<|aj Z10<|aj t79<|aj Z13<|aj Z5<|aj t164<|Z1
def Tryz.F1k:=aj t1<|aj t3<|aj t4<|aj t32<|aj t33<|aj t35<|aj t36<|aj Z12<|aj Z10<|aj t79<|aj Z13<|aj Z5<|Z1
def Tryz.F1l:=aj t1<|aj t2<|aj t3<|aj t4<|aj t32<|aj t33<|aj t35<|aj t36<|aj Z12<|aj Z10<|aj t79<|aj Z13<|aj Z5<|Z1
def Tryz.FS:=aj t1<|aj t2<|aj t3<|aj t4<|aj Z0<|aj t32<|aj t33<|aj t34<|aj t35<|aj t36<|aj Z12<|aj Z10<|aj t79<|aj Z13<|aj t110<|aj Z5<|aj t164<|Z1
def Tryz.F07:=aj t1<|aj t3<|aj t4<|aj t22<|aj Z0<|aj t32<|aj t33<|aj t34<|aj t35<|aj t36<|aj Z12<|aj Z10<|aj t79<|aj Z13<|aj Z6<|aj Z5<|aj Z8<|aj t164<|Z1
def sfC(b c d e:Value)(way f t a:Int):List Value:=[b,c,d,e,.int .i64 way,.int .i64 f,.int .i64 t,.int .i64 a]
section
variable{hq:Hp}{bq bp nb nd mk:Nat}{γ:Gra}{pc pf pt:Value}{way f t a:Int}{fitB:Bool}
theorem sfNet_ok(R:Row hq bq (sfC pc pf (ptrTo bp) pt way f t a) 1){b1:Nat}(b:hq.load b1 0 1=some [ptrTo bq]): ∀h,Gr hq h->aM zL 60 [ptrTo b1] h (.bool true):=by
 intro h g
 have S:=Si g.ok
 have c:=(R.gr g).load1 (o:=2) rfl
 refine ab (n:=7) (rs:=[.tmp 1]) rfl Tryz.e60 rfl rfl rfl (lbt rfl) ?_
 simp only [BS,LB,ae,Nat.reduceLT,Nat.reduceEqDiff,F1i,g.load b,c]
 exact S.gr
theorem sfWay_ok(R:Row hq bq (sfC pc pf (ptrTo bp) pt way f t a) 1){b1:Nat}(c:hq.load b1 0 1=some [ptrTo bq]): ∀h,Gr hq h->aM zL 61 [ptrTo b1] h (.bool (decide (way=4\/way=5))):=by
 intro h g
 have S:=Si g.ok
 have d:=(R.gr g).load1 (o:=4) rfl
 refine ab (n:=16) (rs:=[.tmp 1]) rfl Tryz.e61 rfl rfl rfl (lbt rfl) ?_
 by_cases b:way=4
 . simp only [BS,LB,ae,Nat.reduceLT,Nat.reduceEqDiff,F06,g.load c,d,b]
   exact⟨by simp [b],S.gr⟩
 . by_cases e:way=5
   . subst e
     simp only [BS,LB,ae,Nat.reduceLT,Nat.reduceEqDiff,F06,g.load c,d,(by decide: ¬(5:Int)=4)]
     exact⟨by simp,S.gr⟩
   . simp only [BS,LB,ae,Nat.reduceLT,Nat.reduceEqDiff,F06,g.load c,d,b,e]
     exact⟨by simp [b,e],S.gr⟩
theorem uY(c:aS hq nb (ptrTo bp) γ)(R:Row hq bq (sfC pc pf (ptrTo bp) pt way f t a) 1){v:Int}: ∀h,Gr hq h->aM zL 63 [ptrTo bq,.int .i64 v] h (.bool (decide (0<=v/\v<γ.nodes))):=by
 intro h g
 have S:=Si g.ok
 have d:=(R.gr g).load1 (o:=2) rfl
 refine ab (n:=16) (rs:=[.tmp 4]) rfl Tryz.e63 rfl rfl rfl (lbt rfl) ?_
 by_cases b:0<=v
 . simp only [BS,LB,Nat.reduceLT,Nat.reduceEqDiff,F1j,d,b]
   refine am (ca S.ok ((c.gr g).gr S.gr)) ?_;intro h g;replace S:=S.call g;clear g
   simp only [BS,LB,ae,Nat.reduceLT,Nat.reduceEqDiff]
   exact S.gr
 . simp only [BS,LB,ae,Nat.reduceLT,Nat.reduceEqDiff,b]
   exact⟨by simp [b],S.gr⟩
theorem sfFrom_ok(b:aS hq nb (ptrTo bp) γ)(R:Row hq bq (sfC pc pf (ptrTo bp) pt way f t a) 1){b1:Nat}(c:hq.load b1 0 1=some [ptrTo bq]): ∀h,Gr hq h->aM zL 62 [ptrTo b1] h (.bool (decide (0<=f/\f<γ.nodes))):=by
 intro h g
 have S:=Si g.ok
 have d:=(R.gr g).load1 (o:=5) rfl
 refine ab (n:=9) (rs:=[.tmp 1]) rfl Tryz.e62 rfl rfl rfl (lbt rfl) ?_
 simp only [BS]
 refine au (aC rfl) (q:=0) (ps:=[]) (by kernel_rfl) ?_
 simp only [BS,LB,cls,Nat.reduceLT,Nat.reduceEqDiff,Nat.reduceAdd,Nat.reducePow,Nat.reduceDiv,Nat.reduceMod,Nat.reduceLeDiff,F1k,g.load c,d]
 refine cy (uY b R _ (g.trans S.gr)) ?_
 intro i e
 replace S:=S.call e
 simp only [BS,LB,cls,ae,Nat.reduceLT,Nat.reduceEqDiff,Nat.reduceAdd,Nat.reducePow,Nat.reduceDiv,Nat.reduceMod,Nat.reduceLeDiff]
 exact S.gr
theorem sfTo_ok(b:aS hq nb (ptrTo bp) γ)(R:Row hq bq (sfC pc pf (ptrTo bp) pt way f t a) 1){b1:Nat}(c:hq.load b1 0 1=some [ptrTo bq]): ∀h,Gr hq h->aM zL 64 [ptrTo b1] h (.bool (decide (0<=t/\t<γ.nodes))):=by
 intro h g
 have S:=Si g.ok
 have d:=(R.gr g).load1 (o:=6) rfl
 refine ab (n:=9) (rs:=[.tmp 1]) rfl Tryz.e64 rfl rfl rfl (lbt rfl) ?_
 simp only [BS]
 refine au (aC rfl) (q:=0) (ps:=[]) (by kernel_rfl) ?_
 simp only [BS,LB,cls,Nat.reduceLT,Nat.reduceEqDiff,Nat.reduceAdd,Nat.reducePow,Nat.reduceDiv,Nat.reduceMod,Nat.reduceLeDiff,F1l,g.load c,d]
 refine cy (uY b R _ (g.trans S.gr)) ?_
 intro i e
 replace S:=S.call e
 simp only [BS,LB,cls,ae,Nat.reduceLT,Nat.reduceEqDiff,Nat.reduceAdd,Nat.reducePow,Nat.reduceDiv,Nat.reduceMod,Nat.reduceLeDiff]
 exact S.gr
theorem AK(u:aS hq nb (ptrTo bp) γ)(T:TabO zL hq pt nd mk 34 138)(R:Row hq bq (sfC pc pf (ptrTo bp) pt way f t a) 1): ∀h,Gr hq h->aM zL 118 [ptrTo bq] h (.bool (decide (0<mk/\nd=γ.nodes))):=by
 intro h g
 have w:=T.fl
 have S:=Si g.ok
 have z:=(R.gr g).lt g.ok
 have e:=(R.gr g).load1 (o:=3) rfl
 have v:=(R.gr g).load1 (o:=2) rfl
 refine ab (n:=23) (rs:=[.tmp 2]) rfl Tryz.e118 rfl rfl rfl (lbt rfl) ?_
 simp only [BS]
 refine au (aC rfl) (q:=0) (ps:=[(12,16)]) (by kernel_rfl) ?_
 simp only [BS,LB,cls,Nat.reduceLT,Nat.reduceEqDiff,Nat.reduceAdd,Nat.reducePow,Nat.reduceDiv,Nat.reduceMod,Nat.reduceLeDiff,FS,e]
 refine cM (T.marks _ (g.trans S.gr)) ?_
 rintro r x ⟨b,l,i,el⟩
 replace S:=S.call b
 have j:=av b z
 by_cases k:0<mk
 . have d:(0:Int)<(l.length:Int):=by omega
   simp only [BS,LB,cls,Nat.reduceLT,Nat.reduceEqDiff,Nat.reduceAdd,Nat.reducePow,Nat.reduceDiv,Nat.reduceMod,Nat.reduceLeDiff,FS,i.lenq,d,b.load e]
   refine cy (T.nodes _ (g.trans S.gr)) ?_
   intro y c
   have m:=av c (Xq z b.n)
   replace S:=S.call c
   simp only [BS,LB,cls,Nat.reduceLT,Nat.reduceEqDiff,Nat.reduceAdd,Nat.reducePow,Nat.reduceDiv,Nat.reduceMod,Nat.reduceLeDiff,FS,c.load (b.load v)]
   refine cy (ca S.ok ((u.gr g).gr S.gr)) ?_
   intro A p
   have s:=av p (Xq z (b.trans c).n)
   replace S:=S.call p
   simp only [BS,LB,cls,ae,Nat.reduceLT,Nat.reduceEqDiff,Nat.reduceAdd,Nat.reducePow,Nat.reduceDiv,Nat.reduceMod,Nat.reduceLeDiff]
   refine⟨by simp only [bg,bF,aW,bI,a9,ne_eq,not_false_eq_true,bN,ce,bA,bn,bQ,c8,aK,Nat.reduceLT,Nat.reduceEqDiff,reduceIte,Xb,ac,bJ,aI j,aN j,aI m,aN m,aI s,aN s],?_⟩
   exact⟨by simp [k,Int.ofNat_inj],S.gr⟩
 . have d: ¬(0:Int)<(l.length:Int):=by omega
   simp only [BS,LB,cls,ae,Nat.reduceLT,Nat.reduceEqDiff,Nat.reduceAdd,Nat.reducePow,Nat.reduceDiv,Nat.reduceMod,Nat.reduceLeDiff,FS,i.lenq,d]
   exact⟨by simp only [bg,bF,aW,bI,a9,ne_eq,not_false_eq_true,Nat.reduceEqDiff,rY,pair_none,Xb],by simp [k],S.gr⟩
def jf(fitB:Bool)(way:Int)(mk nd N:Nat):Bool:=fitB&&(decide (way≠5)||decide (0<mk/\nd=N))
theorem sfFits_ok(i:aS hq nb (ptrTo bp) γ)(T:TabO zL hq pt nd mk 34 138)(R:Row hq bq (sfC pc pf (ptrTo bp) pt way f t a) 1)(m:Fl pc)(p:Fl pf)(F: ∀h,Gr hq h->aM zL 117 [ptrTo bp,pc,pf] h (.bool fitB)):
 ∀h,Gr hq h->aM zL 65 [ptrTo bq] h (.bool (jf fitB way mk nd γ.nodes)):=by
 intro h g
 have S:=Si g.ok
 have z:=(R.gr g).lt g.ok
 have j:=(R.gr g).load1 (o:=0) rfl
 have k:=(R.gr g).load1 (o:=1) rfl
 have l:=(R.gr g).load1 (o:=2) rfl
 have d:=(R.gr g).load1 (o:=4) rfl
 refine ab (n:=30) (rs:=[.tmp 2]) rfl Tryz.e65 rfl rfl rfl (lbt rfl) ?_
 simp only [BS]
 refine au (aC rfl) (q:=0) (ps:=[]) (by kernel_rfl) ?_
 simp only [BS,LB,cls,Nat.reduceLT,Nat.reduceEqDiff,Nat.reduceAdd,Nat.reducePow,Nat.reduceDiv,Nat.reduceMod,Nat.reduceLeDiff,F07,j,k,l]
 refine cy (F _ (g.trans S.gr)) ?_
 intro r b
 have s:=av b z
 replace S:=S.call b
 cases fitB with
 | false=>
   simp only [BS,LB,cls,ae,Nat.reduceLT,Nat.reduceEqDiff,Nat.reduceAdd,Nat.reducePow,Nat.reduceDiv,Nat.reduceMod,Nat.reduceLeDiff]
   exact⟨by simp [jf],S.gr⟩
 | true=>
   by_cases c:way=5
   . simp only [BS,LB,cls,Nat.reduceLT,Nat.reduceEqDiff,Nat.reduceAdd,Nat.reducePow,Nat.reduceDiv,Nat.reduceMod,Nat.reduceLeDiff,F07,b.load d,c]
     refine cy (AK i T R _ (g.trans S.gr)) ?_
     intro u e
     have v:=av e (Xq z b.n)
     replace S:=S.call e
     simp only [BS,LB,cls,ae,Nat.reduceLT,Nat.reduceEqDiff,Nat.reduceAdd,Nat.reducePow,Nat.reduceDiv,Nat.reduceMod,Nat.reduceLeDiff]
     exact⟨by simp [jf],S.gr⟩
   . simp only [BS,LB,cls,ae,Nat.reduceLT,Nat.reduceEqDiff,Nat.reduceAdd,Nat.reducePow,Nat.reduceDiv,Nat.reduceMod,Nat.reduceLeDiff,F07,b.load d,c]
     exact⟨by simp [jf,c],S.gr⟩
end
end Go.Ab

end
section
namespace Go.Ab
open Go.Proofs
set_option maxRecDepth 10000
def Tryz.F1m:=aj t4<|aj t27<|aj t32<|aj t33<|aj Z12<|aj Z10<|aj t47<|aj t79<|aj Z13<|t136
structure Rs where
 g:FuncId
 pre:Array Value
 post:Array Value
 ok:Bool
 code:Int
def argS(r:Rs):List Value:=[.int .i64 r.code,.func (.func r.g) r.pre r.post]
def pK:List Rs->Int
 | []=>0
 |r::a=>if r.ok=true then pK a else r.code
theorem firstS_at{rs:List Rs}{i:Nat}{r:Rs}(h:rs[i]? =some r)(a: ∀q∈rs.take i,q.ok=true)(b:r.ok≠true):pK rs=r.code:=by
 induction rs generalizing i with
 |nil=>cases h
 | cons q rs c=>
   cases i with
   |zero=>cases h;unfold pK;rw [if_neg b]
   | succ i=>
     rw [pK,if_pos (a q (by simp))]
     exact c (by simpa using h) (fun x d=>a x (by simp [d]))
theorem BZ{rs:List Rs}(h: ∀q∈rs,q.ok=true):pK rs=0:=by
 induction rs with
 |nil=>rfl
 |cons q rs a=>rw [pK,if_pos (h q (by simp))];exact a (fun x b=>h x (by simp [b]))
def sfRs(b1 bq:Nat)(okW okF okT okX:Bool):List Rs:=[⟨60,#[],#[ptrTo b1],true,1⟩,⟨61,#[],#[ptrTo b1],okW,16⟩,⟨62,#[],#[ptrTo b1],okF,17⟩,⟨64,#[],#[ptrTo b1],okT,18⟩,⟨65,#[ptrTo bq],#[],okX,19⟩]
theorem looks_ok{h0:Hp}(c:h0.t.Sized h0.n){bq:Nat}:Ret zL 24 [ptrTo bq] h0 fun v b=>Gr h0 b/\ ∃b1,v=.func (.func 59) #[] #[ptrTo b1]/\h0.n<=b1/\b.load b1 0 1=some [ptrTo bq]:=by
 have S:=Si c
 refine ab (n:=4) (rs:=[.tmp 2]) rfl Tryz.e24 rfl rfl rfl (lbt rfl) ?_
 simp only [BS,Nat.reduceLT]
 refine ag (bC (by exact cq)) S ?_;clear S;intro h b1 S a
 simp only [BS,LB,ae,Nat.reduceLT,Nat.reduceEqDiff]
 exact⟨S.gr,b1,rfl,a,S.ld m0 rfl⟩
theorem looks1_it{h0:Hp}(f:h0.t.Sized h0.n){b1 bq:Nat}(g:h0.load b1 0 1=some [ptrTo bq]){okW okF okT okX:Bool}:lS zL 59 [] [ptrTo b1] h0 (fun c=>c=b1) ((sfRs b1 bq okW okF okT okX).map argS):=by
 intro l J Z e Y h F s b
 have S:=Si s.ok
 refine enter (n:=27) (rs:=[]) rfl Tryz.e59 rfl rfl rfl (lbt rfl) ?_
 simp only [BS,LB,Nat.reduceLT,Nat.reduceEqDiff]
 refine cI Y s b (i:=0) rfl ?_ ?_ (fun v d a=>absurd a (e v d))
 rotate_left
 . intro d a _
   simp only [BS,LB,Nat.reduceLT,Nat.reduceEqDiff]
   exact bS (cJ ⟨rfl,_,rfl,rfl,.inr (.inl ⟨_,rfl,a⟩)⟩)
 clear b s;intro m o b s _ _
 simp only [BS,LB,Nat.reduceLT,Nat.reduceEqDiff]
 refine cI Y s b (i:=1) rfl ?_ ?_ (fun v d a=>absurd a (e v d))
 rotate_left
 . intro d a _
   simp only [BS,LB,Nat.reduceLT,Nat.reduceEqDiff]
   exact bS (cJ ⟨rfl,_,rfl,rfl,.inr (.inl ⟨_,rfl,a⟩)⟩)
 clear b s;intro p q b s _ _
 simp only [BS,LB,Nat.reduceLT,Nat.reduceEqDiff]
 refine cI Y s b (i:=2) rfl ?_ ?_ (fun v d a=>absurd a (e v d))
 rotate_left
 . intro d a _
   simp only [BS,LB,Nat.reduceLT,Nat.reduceEqDiff]
   exact bS (cJ ⟨rfl,_,rfl,rfl,.inr (.inl ⟨_,rfl,a⟩)⟩)
 clear b s;intro d r b s _ _
 simp only [BS,LB,Nat.reduceLT,Nat.reduceEqDiff]
 refine cI Y s b (i:=3) rfl ?_ ?_ (fun v d a=>absurd a (e v d))
 rotate_left
 . intro d a _
   simp only [BS,LB,Nat.reduceLT,Nat.reduceEqDiff]
   exact bS (cJ ⟨rfl,_,rfl,rfl,.inr (.inl ⟨_,rfl,a⟩)⟩)
 clear b s;intro t u b s _ _
 have j:=s.load f g rfl
 simp only [BS,LB,Nat.reduceLT,Nat.reduceEqDiff,F1m,j]
 refine cI Y s b (i:=4) rfl ?_ ?_ (fun v d a=>absurd a (e v d))
 rotate_left
 . intro d a _
   simp only [BS,LB,Nat.reduceLT,Nat.reduceEqDiff]
   exact bS (cJ ⟨rfl,_,rfl,rfl,.inr (.inl ⟨_,rfl,a⟩)⟩)
 clear b s;intro w k b s _ _
 simp only [BS,LB,Nat.reduceLT,Nat.reduceEqDiff]
 exact bS (cJ ⟨rfl,_,rfl,rfl,.inl ⟨_,k,rfl,b⟩⟩)
def Tryz.F0z:=aj t1<|aj t2<|aj t3<|aj t28<|aj t32<|aj t33<|aj t34<|aj t35<|aj t36<|aj Z12<|aj Z10<|aj t79<|aj Z13<|aj t110<|aj Z5<|Z1
def Tryz.Fa:=aj t1<|aj t2<|aj t3<|aj t4<|aj t5<|aj t6<|aj Z3<|aj Z4<|aj t9<|aj t10<|aj t11<|aj t12<|aj Z15<|aj t22<|aj t23<|aj t24<|aj t25<|aj r25<|aj Z23<|aj t27<|aj t28<|aj Z0<|aj t32<|aj t33<|aj t34<|aj t35<|aj t36<|aj Z12<|aj Z10<|aj t47<|aj t49<|aj r49<|aj t50<|aj Z9<|aj t79<|aj Z13<|aj t83<|aj t86<|aj t87<|aj t89<|aj r89<|aj Z24<|aj Z6<|aj t110<|aj Z5<|aj Z8<|aj t164<|Z1
theorem zC{E:Env}{ρ:Operand->Value}{h:Hp}{t:TypeId}{m k v:Operand}:aop E ρ h (.insert t m k v)=ep (dD E h t (ρ m) (ρ k) (ρ v)):=rfl
def rz(okW okF okT okX:Bool):Int:=if okW=true then(if okF=true then(if okT=true then(if okX=true then 0 else 19)else 18)else 17)else 16
theorem firstS_sf{b1 bq:Nat}{okW okF okT okX:Bool}:pK (sfRs b1 bq okW okF okT okX)=rz okW okF okT okX:=by
 cases okW<;>cases okF<;>cases okT<;>cases okX<;>rfl
def sfP(N:Nat)(l:List Int)(R Q:Nat->List Int)(a:List Int)(way:Int)(w:Nat):List Int:=if way=5 then(Xh N).map (fun(v:Nat)=>oI N l.length R Q v w a)else []
theorem BK{okW okF okT okX:Bool}(h:rz okW okF okT okX=0):okW=true/\okF=true/\okT=true/\okX=true:=by
 cases okW<;>cases okF<;>cases okT<;>cases okX<;>first|exact⟨rfl,rfl,rfl,rfl⟩|(exact absurd h (by decide))
theorem BX{h0:Hp}(a:h0.t.Sized h0.n){bq:Nat}:aM zL 25 [ptrTo bq] h0 (.tuple #[.slice none 0 0,.slice none 0 0]):=by
 have S:=Si a
 refine ab (n:=4) (rs:=[.tmp 2,.tmp 3]) rfl Tryz.e25 rfl rfl rfl (lbt rfl) ?_
 simp only [BS,LB,ae,Nat.reduceLT,Nat.reduceEqDiff]
 exact S.gr
theorem Bg{h0:Hp}(C:h0.t.Sized h0.n){bq m N:Nat}{D E F j:Value}{way a:Int}{s w:Nat}{l:List Int}{R Q:Nat->List Int}(d:Row h0 bq (sfC D E F j way s w a) 1)(t:TabAt h0 m j N l R Q)(p: ∀i,i<l.length->(R i).length=N)(u: ∀i,i<l.length->(Q i).length=N)(G:l.length<=16)(P:N<=100)(T:s<N)(H:w<N):
 Ret zL 26 [ptrTo bq] h0 fun r k=>Gr h0 k/\ ∃e f,r=.tuple #[e,f]/\ar k 1 bM e (jB N l.length R Q s w a)/\ar k 1 (encI .i64) f ((Xh N).map fun(v:Nat)=>oI N l.length R Q v w ((jB N l.length R Q s w a).map fun(x:Nat)=>(x:Int)))/\ ∀c,(aq e c\/aq f c)->h0.n<=c:=by
 have S:=Si C
 have U:Fl j:=by obtain⟨b,_,_,_,rfl,_⟩:=t.ex;exact cq
 have y:=d.load1 (o:=3) rfl
 have I:=d.load1 (o:=5) rfl
 have z:=d.load1 (o:=6) rfl
 have J:=d.load1 (o:=7) rfl
 refine ab (n:=36) (rs:=[.tmp 2,.tmp 3]) rfl Tryz.e26 rfl rfl rfl (lbt rfl) ?_
 simp only [BS]
 refine au (aC rfl) (q:=0) (ps:=[]) (by kernel_rfl) ?_
 simp only [BS,LB,cls,Nat.reduceLT,Nat.reduceEqDiff,Nat.reduceAdd,Nat.reducePow,Nat.reduceDiv,Nat.reduceMod,Nat.reduceLeDiff,F0z,y,I,z,J]
 refine cM (vb S.ok t p u G) ?_
 rintro e h ⟨g,A,K⟩
 replace S:=S.call g
 have V:(jB N l.length R Q s w a).length<=16:=by unfold jB;rw [Xw];omega
 have W:=g.n
 simp only [BS,LB,cls,Nat.reduceLT,Nat.reduceEqDiff,Nat.reduceAdd,Nat.reducePow,Nat.reduceDiv,Nat.reduceMod,Nat.reduceLeDiff]
 refine au (aC rfl) (q:=0) (ps:=[]) (by kernel_rfl) ?_
 simp only [BS,LB,cls,Nat.reduceLT,Nat.reduceEqDiff,Nat.reduceAdd,Nat.reducePow,Nat.reduceDiv,Nat.reduceMod,Nat.reduceLeDiff,F0z,g.load y,g.load z]
 refine cM (bPi_ok S.ok (t.gr g) p u (by omega) (by omega) (sl_nat A) (by rw [Xr];omega) H) ?_
 rintro f X ⟨B,L,M⟩
 replace S:=S.call B
 simp only [BS,LB,cls,ae,Nat.reduceLT,Nat.reduceEqDiff,Nat.reduceAdd,Nat.reducePow,Nat.reduceDiv,Nat.reduceMod,Nat.reduceLeDiff]
 exact⟨S.gr,_,_,rfl,A.gr B,L,fun c O=>O.elim (K c) (fun h=>by have:=M c h;omega)⟩
theorem Cg {h0:Hp} (ok:h0.t.Sized h0.n) {bp nb nd:Nat} {j:Gra} (al:Good j) (hn:aS h0 nb (ptrTo bp) j) {pt pc pf:Value} {l:List Int} {R Q:Nat->List Int} (T:TabQ h0 pt nd l R Q) (hl:l.length<=16) (fc:Fl pc) (ff:Fl pf) {A:Bool} (F: ∀h,Gr h0 h->aM zL 117 [ptrTo bp,pc,pf] h (.bool A))
 {mb fp fb ad af:Nat} {m:List Int} {cf:Nat->Nat} {Bt:Nat->Nat} (P:A=true->eG h0 mb pc j.nodes m cf/\pf=ptrTo fp/\ey h0 fp fb ad j.arcs.length af Bt/\ad<=100/\af=(j.arcs.length+7)/8/\ ∀v,v<j.nodes->cf v<ad) {way f t a:Int}:
 Ret zL 7 [ptrTo bp,pt,.agg ⟨[pc,pf]⟩,.agg ⟨[.int .i64 way,.int .i64 f,.int .i64 t,.int .i64 a]⟩] h0 fun r J=>Gr h0 J/\ ∃c d vA vB vE,r=.tuple #[ansV c d vA vB,vE]/\(∀x,(aq vA x\/aq vB x\/aq vE x)->h0.n<=x)/\
  (((rz (decide (way=4\/way=5)) (decide (0<=f/\f<j.nodes)) (decide (0<=t/\t<j.nodes)) (jf A way l.length nd j.nodes)≠0\/f=t)/\c=rz (decide (way=4\/way=5)) (decide (0<=f/\f<j.nodes)) (decide (0<=t/\t<j.nodes)) (jf A way l.length nd j.nodes)/\d=0/\vA=.slice none 0 0/\vB=.slice none 0 0/\vE=.slice none 0 0)\/
   (rz (decide (way=4\/way=5)) (decide (0<=f/\f<j.nodes)) (decide (0<=t/\t<j.nodes)) (jf A way l.length nd j.nodes)=0/\ ∃(s w:Nat) (O:Fd),f=s/\t=w/\s≠w/\s<j.nodes/\w<j.nodes/\
     Ends j.arcs (alF ((Xh j.arcs.length).map (fj Bt af (cf w)))) (piF (sfP j.nodes l R Q ((jB j.nodes l.length R Q f t a).map fun(x:Nat)=>(x:Int)) way w)) w (iF (piF (sfP j.nodes l R Q ((jB j.nodes l.length R Q f t a).map fun(x:Nat)=>(x:Int)) way w)) s) O/\
     ar J 4 ie vE O.ev/\
     ((FAR<=O.dist/\c=20/\d=0/\vA=.slice none 0 0/\vB=.slice none 0 0)\/
      (O.dist<FAR/\c=0/\d=(O.dist:Nat)/\ar J 1 bM vA O.arcs/\ar J 1 bM vB (if way=5 then jB j.nodes l.length R Q f t a else []))))):=by
 have S:=Si ok
 have dO:=nL
 have To:=T.tabO (by omega)
 have ft:Fl pt:=To.fl
 have n1:=al.n1
 have n2:=al.n2
 have dm:=al.many
 obtain⟨cc,V⟩: ∃cc,rz (decide (way=4\/way=5)) (decide (0<=f/\f<j.nodes)) (decide (0<=t/\t<j.nodes)) (jf A way l.length nd j.nodes)=cc:=⟨_,rfl⟩
 refine ab (n:=84) (rs:=[.cell 8 49,.cell 9 50]) rfl Tryz.e7 rfl rfl rfl (lbt rfl) ?_
 simp only [BS,Nat.reduceLT]
 refine ag (aZ (by intro x e;cases e)) S ?_;clear S;intro h b6 S dn;simp only [ah]at S
 simp only [BS,Nat.reduceLT,Nat.reduceEqDiff,if_false]
 refine ag (aZ (by intro x e;cases e)) S ?_;clear S;intro h b7 S dq;simp only [ah]at S
 simp only [BS,Fa]
 refine ag aw S ?_;clear S;intro h B S ds
 simp only [BS,Fa]
 refine ag aw S ?_;clear S;intro h C S dt
 simp only [BS,LB,Nat.reduceLT,Nat.reduceEqDiff,Nat.reduceAdd,Nat.reduceLeDiff,Fa,ft,XY,X4,List.take_zero,S.lds (b:=b6) (o:=0) (n:=2) m3 (lbt rfl),S.lds (b:=b7) (o:=0) (n:=4) m2 (lbt rfl)]
 refine ag (aZ (by intro x e;cases e)) S ?_;clear S;intro h G S cj;simp only [ah]at S
 have Rq:Row h G (sfC pc pf (ptrTo bp) pt way f t a) 1:=S.row (b:=G) m0
 have gq:=S.gr
 have d0:=S.ok
 have R6:=S.row (b:=b6) m4
 have R7:=S.row (b:=b7) m3
 have R8:=S.row (b:=B) m2
 have R9:=S.row (b:=C) m1
 have ck:C≠B/\(b7≠B/\b7≠C)/\(b6≠B/\b6≠C)/\G≠B/\G≠C:=by
  have ap:=S.apart
  simp [keys]at ap
  omega
 obtain⟨E,n7,n6,nq⟩:=ck
 rename Hp=>hq
 simp only [BS,LB,Nat.reduceLT,Nat.reduceEqDiff]
 refine step_ret (looks_ok S.ok) ?_
 rintro r W ⟨g,b1,rfl,d3,y1⟩
 have gA:=gq.trans g
 replace Rq:=Rq.gr g
 replace R6:=R6.gr g
 replace R7:=R7.gr g
 replace R8:=R8.gr g
 replace R9:=R9.gr g
 have ax:=gA.ok
 clear S
 have S:=Si ax
 have a7:=hn.gr gA
 have cl:=(T.gr gA).tabO (show l.length<1000 by omega)
 have FA: ∀h,Gr W h->aM zL 117 [ptrTo bp,pc,pf] h (.bool A):=fun h g=>F h (gA.trans g)
 have s1:=sfNet_ok Rq y1
 have s2:=sfWay_ok Rq y1
 have s3:=sfFrom_ok a7 Rq y1
 have s4:=sfTo_ok a7 Rq y1
 have s5:=sfFits_ok a7 cl Rq fc ff FA
 have it:=looks1_it ax y1 (okW:=decide (way=4\/way=5)) (okF:=decide (0<=f/\f<j.nodes)) (okT:=decide (0<=t/\t<j.nodes)) (okX:=jf A way l.length nd j.nodes)
 have e0:=firstS_sf (b1:=b1) (bq:=G) (okW:=decide (way=4\/way=5)) (okF:=decide (0<=f/\f<j.nodes)) (okT:=decide (0<=t/\t<j.nodes)) (okX:=jf A way l.length nd j.nodes)
 have b0: ∀r∈sfRs b1 G (decide (way=4\/way=5)) (decide (0<=f/\f<j.nodes)) (decide (0<=t/\t<j.nodes)) (jf A way l.length nd j.nodes),∀h,Gr W h->aM zL r.g (r.pre.toList++r.post.toList) h (.bool r.ok):=by
  intro r hr
  simp only [sfRs,Xk,Xe,or_false]at hr
  rcases hr with rfl|rfl|rfl|rfl|rfl
  . exact s1
  . exact s2
  . exact s3
  . exact s4
  . exact s5
 clear s1 s2 s3 s4 s5
 generalize cn:sfRs b1 G (decide (way=4\/way=5)) (decide (0<=f/\f<j.nodes)) (decide (0<=t/\t<j.nodes)) (jf A way l.length nd j.nodes)=rs at it e0 b0
 rw [V]at e0
 have k8:=R8.lt ax
 have k9:=R9.lt ax
 simp only [BS]
 refine fq S (g:=59) (a:=#[]) (b:=#[ptrTo b1]) (by simp [bQ,aa,ac]) rfl rfl ?_
 intro h2 H lb S' d4 d5 g2
 obtain⟨X,hX,S'⟩: ∃X:eu,X=_/\St NoM W h2 [(lb,.loop X),(H,.dfr)] []:=⟨_,rfl,S'⟩
 have hJ :Yld zL lb (fun k J F=>St NoM W J [(lb,.loop X),(H,.dfr)] []/\(∀q∈rs.take k,q.ok=true)/\F=keys [(lb,Ob.loop X),(H,.dfr)] [])
  (fun o J=>o=.ret (.bool false)/\ ∃(Y:eu),cc≠0/\Y.st=2/\Y.pending=some .ret/\St (· ∈[C,B]) W J [(lb,.loop Y),(H,.dfr),(C,.row [.slice none 0 0] 1),(B,.row [.int .i64 cc,.int .i64 0,.slice none 0 0,.slice none 0 0] 1)] []) (rs.map argS):=by
  refine⟨?_,?_,?_,?_⟩
  . rintro i h F ⟨S,_,rfl⟩;exact⟨S.ok,fun b K=>S.key_lt K⟩
  . rintro i h F J ⟨S,a,rfl⟩ gg;exact⟨S.call gg,a,rfl⟩
  . rintro h J ⟨a,Y,e1,e2,e3,S⟩ gg;exact⟨a,Y,e1,e2,e3,S.call gg⟩
  . rintro i x hR F hx ⟨S,ha,rfl⟩
    have aL:i<rs.length:=by
     have:=(List.getElem?_eq_some_iff.1 hx).1
     simpa using this
    rw [XM,zO aL]at hx
    cases hx
    have ba:=b0 _ (Xl aL)
    have tk:rs.take (i+1)=rs.take i++[rs[i]]:=Xm aL
    have bb:rs[i]? =some rs[i]:=zO aL
    generalize rs[i]=r at ba tk bb
    obtain⟨rg,dv,cp,cr,bc⟩:=r
    simp only []at ba
    subst hX
    refine fG (S.get m0) (by rw [Tryz.e7];rfl) rfl ?_
    have S0:=S
    replace S:=S.base
    simp only [BS,LB,Nat.reduceLT,Nat.reduceEqDiff]
    refine eH S (i:=0) rfl rfl rfl rfl rfl ?_
    clear S;intro h S
    simp only [LC]at S
    simp only [BS,LB,Nat.reduceLT,Nat.reduceEqDiff]
    have cs:Gr W h:=(S0.rebase S).gr
    refine am (ba _ cs) ?_
    intro h3 g3
    replace S:=S.call g3
    cases cr with
    | true=>
      simp only [BS,LB,Nat.reduceLT,Nat.reduceEqDiff]
      refine dy S (i:=0) rfl ?_
      clear S;intro h S
      simp only [LC]at S
      refine .inl ⟨rfl,_,⟨S0.rebase S,?_,rfl⟩,S.fr,S.key_new⟩
      intro q hq
      rw [tk]at hq
      rcases List.mem_append.1 hq with hq|hq
      . exact ha q hq
      . rw [List.mem_singleton.1 hq]
    | false=>
      have ec:cc=bc:=by rw [<-e0];exact firstS_at bb ha Bool.false_ne_true
      have Z:cc≠0:=by
       rw [ec]
       have hm:=X2 bb
       rw [<-cn]at hm
       simp only [sfRs,Xk,Xe,or_false,Rs.mk.injEq]at hm
       rcases hm with⟨_,_,_,_,rfl⟩|⟨_,_,_,_,rfl⟩|⟨_,_,_,_,rfl⟩|⟨_,_,_,_,rfl⟩|⟨_,_,_,_,rfl⟩<;>decide
      have U:=S0.rebase S
      have gU:=U.gr
      have bd:=R8.gr gU
      have be:=R9.gr gU
      have ks: ∀c∈keys [(lb,Ob.loop _),(H,Ob.dfr)] [],W.n<=c:=fun c p=>(U.key_own p).elim (fun h=>h) (fun h=>h.elim)
      have U2:=((U.mono (M':=(· ∈[C,B])) (fun _ h=>h.elim)).push (b:=B) (o:=.row _ 1) (.inr (by simp)) bd (fun h=>by have:=ks _ h;omega)).push (b:=C) (o:=.row _ 1) (.inr (by simp)) be (fun h=>by
       rcases List.mem_cons.1 h with h|h
       . have ap:C≠B:=E
         exact ap h
       . have:=ks _ h;omega)
      clear S U
      have S:=U2
      clear U2
      rw [<-ec]
      simp only [BS,LB,Nat.reduceLT,Nat.reduceEqDiff,Nat.reduceAdd,Fa]
      refine az (S.store (i:=1) rfl Tryz.t49.2.1 (by intro x e;cases e) rfl rfl (lbt rfl) ono) ?_
      clear S;rintro h ⟨S,_⟩
      simp only [LC,ah,lay,Xf,Xg,Nat.reduceAdd]at S
      simp only [BS,LB,Nat.reduceLT,Nat.reduceEqDiff]
      refine az (ay S (i:=0) rfl Tryz.t50.2.2.1 cg (Xa (lbt rfl)) ono) ?_
      clear S;rintro h ⟨S,_⟩
      simp only [LC]at S
      simp only [BS]
      refine round_ret S (i:=2) rfl ?_
      clear S;intro h S
      simp only [LC]at S
      exact .inr (.inl ⟨rfl,⟨rfl,_,Z,rfl,rfl,S.permL (XZ (l₁:=[_,_]) (l₂:=[_,_]))⟩,S.ok⟩)
 have b2: ∀(b:Nat),b∈keys [(lb,Ob.loop X),(H,.dfr)] []-> ¬(b<W.n/\b=b1):=fun b K h=>(S'.key_own K).elim (fun h1=>by omega) (fun h=>h.elim)
 refine eg (it lb _ _ (fun v h hz=>by cases hz.1) hJ h2 _ ?_ ⟨S',by simp,rfl⟩) fun o rc J y=>?_
 . exact⟨S'.ok,S'.fr.n,fun b K hd=>g2.get b K,b2,fun b K=>S'.key_lt K⟩
 . obtain ⟨_,⟨u,F',rfl,U,ha,rfl⟩|⟨u,rfl,hz,Y,Z,st,pe,U⟩|⟨w,rfl,hz,_⟩⟩:=y
   . rw [Xr,XO]at ha
     have bf:cc=0:=by rw [<-e0];exact BZ ha
     subst hX
     refine⟨_,U.get m0,Nat.zero_ne_one,?_⟩
     replace U:=U.dead
     show Run _ _ _ _ _ _ _ _
     have gU:=U.gr
     have bd:=R8.gr gU
     have be:=R9.gr gU
     have ks: ∀c∈keys [(H,Ob.dfr)] [],W.n<=c:=fun c p=>(U.key_own p).elim (fun h=>h) (fun h=>h.elim)
     have U2:=((U.mono (M':=(· ∈[C,B])) (fun _ h=>h.elim)).push (b:=B) (o:=.row _ 1) (.inr (by simp)) bd (fun h=>by have:=ks _ h;omega)).push (b:=C) (o:=.row _ 1) (.inr (by simp)) be (fun h=>by
      rcases List.mem_cons.1 h with h|h
      . exact E h
      . have:=ks _ h;omega)
     have S:=U2.permL (L':=[(H,.dfr),(C,_),(B,_)]) (XZ (l₁:=[_]) (l₂:=[_,_]))
     clear U U2 R8 R9 hJ it b2
     have a0: ∀{x:Hp},Mo (· ∈[C,B]) W x->Gr h0 x:=fun f=>(gA.fr.trans f (fun c p=>.inr (by simp only [Xk,Xe,or_false]at p;omega)):Mo NoM h0 _).gr
     have a1: ∀{x:Hp} {b:Nat} {l:List Value},Mo (· ∈[C,B]) W x->Row W b l 1->b≠B/\b≠C->Row x b l 1:=fun {x b l} f r e=>f.has (b:=b) (o:=.row l 1) r (by simp [e.1,e.2])
     have a2:=(R7.gr gU).load1 (o:=1) rfl
     have a3:=(R7.gr gU).load1 (o:=2) rfl
     by_cases bh:f=t
     . subst bh
       simp only [BS,LB,Nat.reduceLT,Nat.reduceEqDiff,Fa,a2,a3]
       refine az (S.store (i:=2) rfl Tryz.t49.2.1 (by intro x e;cases e) rfl rfl (lbt rfl) ono) ?_
       clear S;rintro h3 ⟨S,_⟩
       simp only [LC,ah,lay,Xf,Xg,Nat.reduceAdd]at S
       simp only [BS,LB,Nat.reduceLT,Nat.reduceEqDiff]
       refine az (ay S (i:=1) rfl Tryz.t50.2.2.1 cg (Xa (lbt rfl)) ono) ?_
       clear S;rintro h4 ⟨S,_⟩
       simp only [LC]at S
       simp only [BS]
       refine dp (eR [H] _ (L:=[(C,_),(B,_)]) S.base fun h5 I=>?_)
       refine⟨rfl,(cU (by decide) (by simp only [aK,ac,Nat.reduceEqDiff,reduceIte];exact c9 Tryz.t49.1 Tryz.t49.2.1 (I.lds (b:=B) (o:=0) (n:=4) m1 (lbt rfl)))).2 ((cU (by decide) (by simp only [aK,ac,Nat.reduceEqDiff,reduceIte];exact gf Tryz.t50.2.1 (I.ld (b:=C) (o:=0) m0 rfl))).2 (dH.2 ?_))⟩
       have gZ:Gr h0 h5:=(gA.fr.trans (S.rebase I).fr (fun c p=>.inr (by simp only [Xk,Xe,or_false]at p;omega)):Mo NoM h0 h5).gr
       exact⟨gZ,_,_,_,_,_,rfl,fun x hx=>(by rcases hx with h|h|h<;>exact h.elim),.inl ⟨.inr trivial,by rw [V,bf],rfl,rfl,rfl,rfl⟩⟩
     . obtain⟨w1,w2,w3,w4⟩:=BK (V.trans bf)
       have w1:=of_decide_eq_true w1
       have w2:=of_decide_eq_true w2
       have w3:=of_decide_eq_true w3
       obtain⟨s,rfl⟩:=XS w2.1
       obtain⟨w,rfl⟩:=XS w3.1
       have hs:s<j.nodes:=by omega
       have hw:w<j.nodes:=by omega
       have bi:s≠w:=fun e=>bh (by rw [e])
       unfold jf at w4
       rw [Bool.and_eq_true]at w4
       obtain⟨cv,cw,bm,bk,bo,cx⟩:=P w4.1
       subst cw
       simp only [BS,LB,Nat.reduceLT,Nat.reduceEqDiff,Fa,a2,a3,bh]
       refine ag mI S ?_;clear S;intro h mm S dx
       simp only [BS,LB,Nat.reduceLT,Nat.reduceEqDiff,zC]
       refine az (S.mputI (i:=0) rfl Tryz.t87.1 Tryz.t3.1 qS _) ?_
       clear S;rintro h3 ⟨b3,d6,c1,M1,S⟩
       simp only [LC]at S
       simp only [BS,LB,Nat.reduceLT,Nat.reduceEqDiff,zC]
       refine az (S.mputI (i:=0) rfl Tryz.t87.1 Tryz.t3.1 M1 _) ?_
       clear S b3;rintro h3 ⟨b3,cz,c2,M2,S⟩
       simp only [LC]at S
       have cA:h3.get mm=some (.map cz c2):=(S.own _ m0).2
       have cN:=(a1 S.fr R7 n7).load1 (o:=0) rfl
       have lk:=qI (x:=way) Tryz.t87.1 Tryz.t3.1 (z:=.nilFunc) (by kernel_rfl) cA M2
       replace S:=S.drop1
       have cO:=a0 S.fr
       have d7:=S.fr.n
       have dF:H<h3.n:=S.key_lt (b:=H) (by simp [keys])
       have b4:=S.ok
       have cT:=a1 S.fr Rq nq
       have M: ∃gq:FuncId,cm zL h3 87 (.map (some mm)) (.int .i64 way) false=some (.func (.func gq) #[ptrTo G] #[])/\Ret zL gq [ptrTo G] h3 fun r J=>Gr h3 J/\ ∃vB vP,r=.tuple #[vB,vP]/\ar J 1 bM vB (if way=5 then jB j.nodes l.length R Q s w a else [])/\ar J 1 (encI .i64) vP (sfP j.nodes l R Q ((jB j.nodes l.length R Q s w a).map fun(x:Nat)=>(x:Int)) way w)/\ ∀c,(aq vB c\/aq vP c)->h3.n<=c:=by
        rcases w1 with rfl|rfl
        . refine⟨_,lk,(BX b4).mono fun r J ⟨e,g⟩=>⟨g,_,_,e,.inl ⟨rfl,rfl⟩,.inl ⟨rfl,rfl⟩,fun c p=>p.elim (fun h=>h.elim) (fun h=>h.elim)⟩⟩
        . have w5:=w4.2
          simp only [ne_eq,not_true_eq_false,decide_false,Bool.false_or,decide_eq_true_eq]at w5
          obtain⟨cW,cX⟩:=w5
          subst cX
          obtain⟨m',t',lR,lQ⟩: ∃m',TabAt h0 m' pt j.nodes l R Q/\(∀i,i<l.length->(R i).length=j.nodes)/\ ∀i,i<l.length->(Q i).length=j.nodes:=by
           rcases T with h|⟨_,_,rfl⟩
           . exact h
           . simp at cW
          exact⟨_,lk,Bg b4 cT (t'.gr cO) lR lQ hl (by omega) hs hw⟩
       obtain⟨gq,cY,M⟩:=M
       simp only [BS,LB,Nat.reduceLT,Nat.reduceEqDiff,Fa,cN,cY]
       refine step_ret M ?_
       rintro r h4 ⟨g4,vB,vP,rfl,sB,sP,b5⟩
       replace S:=S.call g4
       have d8:=g4.n
       have c0:=S.fr.n
       simp only [BS,LB,Nat.reduceLT,Nat.reduceEqDiff]
       have br:=a0 S.fr
       have bs:=S.ok
       have bt:=a1 S.fr R7 n7
       have bu:=a1 S.fr R6 n6
       have p7:=bt.lt bs
       have p6:=bu.lt bs
       have a2:=bt.load1 (o:=1) rfl
       have a3:=bt.load1 (o:=2) rfl
       have c3:=bu.load1 (o:=0) rfl
       have c4:=bu.load1 (o:=1) rfl
       have S0:=S
       clear S
       have S:=Si bs
       rename Hp=>hR
       refine au (lj (ord:=[19,0,1,2,3,4,5,6,7,8,9,10,11,12,13,14,15,16,17,18,20,21]) rfl rfl (by simp only [dI,oE,eo,XC,XD,XP,Xs,XB,Nat.reduceBEq,cond_true,cond_false];exact rfl)) (q:=1) (ps:=[(0,16),(5,13),(3,13),(0,13),(7,12),(5,12),(3,12),(0,12)]) (by kernel_rfl) ?_
       simp only [BS,LB,cls,Nat.reducePow,Nat.reduceDiv,Nat.reduceMod,Nat.reduceLeDiff,Fa]
       refine dS aw S ?_;clear S;intro h N S c7 bv
       have dc:=(S.row (b:=N) m0).lt S.ok
       have gB:=S.gr
       have nB:=gB.n
       simp only [BS,LB,cls,Nat.reduceLT,Nat.reduceEqDiff,Nat.reduceAdd,Nat.reducePow,Nat.reduceDiv,Nat.reduceMod,Nat.reduceLeDiff,Fa,gB.load a2,gB.load a3,gB.load c3,gB.load c4]
       refine cy (qm S.ok ((cv.gr br).gr gB) hw) ?_
       intro h g
       have e1:=av g (show b6<_ by omega)
       have e2:=av g (show b7<_ by omega)
       have e3:=av g dc
       have ea:=g.n
       replace S:=S.call g
       simp only [BS,LB,cls,Nat.reduceLT,Nat.reduceEqDiff,Nat.reduceAdd,Nat.reducePow,Nat.reduceDiv,Nat.reduceMod,Nat.reduceLeDiff]
       refine cM (allowF_ok S.ok ((bm.gr br).gr S.gr) (cx w hw) bk (by omega) bo) ?_
       rintro r h ⟨ai,bl,rfl,RA,nA⟩
       have e4:=av ai (show b6<_ by omega)
       have e5:=av ai (show b7<_ by omega)
       have e6:=av ai (show N<_ by omega)
       have eb:=ai.n
       replace S:=S.call ai
       have dd:=slB_of RA
       simp only [BS,LB,cls,Nat.reduceLT,Nat.reduceEqDiff,Nat.reduceAdd,Nat.reducePow,Nat.reduceDiv,Nat.reduceMod,Nat.reduceLeDiff,Fa,sP.fl]
       refine cM (B6 S.ok al ((hn.gr br).gr S.gr) hs hw dd (.inr (by simp)) (sP.gr S.gr) (by unfold sfP;split;exact .inr (by simp);exact .inl rfl)) ?_
       rintro r h ⟨a4,v,O,rfl,⟨xA,xE,rfl,G1,G2,d1,d2⟩,he⟩
       have e7:=av a4 (show b6<_ by omega)
       have e8:=av a4 (show b7<_ by omega)
       have e9:=av a4 (show N<_ by omega)
       have bx:Fl xA:=G1.fl
       have bB:Fl xE:=G2.fl
       replace S:=S.call a4
       simp only [BS,LB,cls,Nat.reduceLT,Nat.reduceEqDiff,Nat.reduceAdd,Nat.reducePow,Nat.reduceDiv,Nat.reduceMod,Nat.reduceLeDiff]
       refine dw (S.store (i:=0) rfl Tryz.t89.2.1 (by intro x e;cases e) rfl (by simp only [ah,XL,XN,bx.2.1,bB.2.1,Xb];rfl) (lbt rfl) ono) ?_
       have a6: ∀c,aq xA c\/aq xE c->c≠N:=fun c p e=>by
        have h1:_<=c:=p.elim (fun h=>(d1 c h).1) (fun h=>d2 c h)
        omega
       clear S;rintro a5 ⟨S,mo⟩
       simp only [LC,ah,lay,Xf,Xg,Nat.reduceAdd]at S
       simp only [BS,LB,cls,Nat.reduceLT,Nat.reduceEqDiff,Nat.reduceAdd,Nat.reducePow,Nat.reduceDiv,Nat.reduceMod,Nat.reduceLeDiff,Fa]
       refine⟨by simp only [bg,bF,aW,bI,a9,ne_eq,not_false_eq_true,bN,ce,bA,bn,bQ,c8,aK,Nat.reduceLT,Nat.reduceEqDiff,reduceIte,Xb,ac,jY,aN e1,aI e1,aN e2,aI e2,aN e3,aI e3,aN e4,aI e4,aN e5,aI e5,aN e6,aI e6,aN e7,aI e7,aN e8,aI e8,aN e9,aI e9,<-bv],?_⟩
       have bL:=S.row (b:=N) m0
       have de:ar a5 1 bM xA O.arcs:=(G1.sl rfl cZ (by decide)).mo mo (fun c p e=>a6 c (.inl p) e)
       have cb:ar a5 4 ie xE O.ev:=(G2.sl rfl ra (by decide)).mo mo (fun c p e=>a6 c (.inr p) e)
       have dj:=sB.gr S.gr
       have j0:=bL.load1 (o:=0) rfl
       have j1:=bL.load1 (o:=1) rfl
       have j2:=bL.load1 (o:=2) rfl
       have S1:=S0.call S.gr
       have D:N≠B/\N≠C:=⟨fun e=>by omega,fun e=>by omega⟩
       clear S
       have S:=S1
       clear S1
       have ed:H<hR.n:=S0.key_lt (b:=H) (by simp [keys])
       have ei:W.n<=hR.n:=S0.fr.n
       have ej:=gA.n
       have ch:=(he.resolve_left (fun h=>bi h.1)).2
       have Z:=V.trans bf
       by_cases hd:O.dist<FAR
       . have bP: ¬(72057594037927936:Int)<=(O.dist:Int):=by omega
         simp only [BS,LB,Nat.reduceLT,Nat.reduceEqDiff,j0,bP]
         refine au (aC rfl) (q:=0) (ps:=[(7,8)]) (by kernel_rfl) ?_
         simp only [BS,LB,cls,Nat.reduceLT,Nat.reduceEqDiff,Nat.reduceAdd,Nat.reducePow,Nat.reduceDiv,Nat.reduceMod,Nat.reduceLeDiff,Fa,j0,j1,j2,bx,sB.fl]
         refine dw (S.store (i:=2) rfl Tryz.t49.2.1 (by intro x e;cases e) rfl (by simp only [ah,XL,XN,bx.2.1,sB.fl.2.1,Xb];rfl) (lbt rfl) ono) ?_
         clear S;rintro h5 ⟨S,bX⟩
         simp only [LC,ah,lay,Xf,Xg,Nat.reduceAdd]at S
         simp only [BS,LB,cls,Nat.reduceLT,Nat.reduceEqDiff,Nat.reduceAdd,Nat.reducePow,Nat.reduceDiv,Nat.reduceMod,Nat.reduceLeDiff]
         refine dw (ay S (i:=1) rfl Tryz.t50.2.2.1 bB (Xa (lbt rfl)) ono) ?_
         clear S;rintro h6 ⟨S,bY⟩
         simp only [LC]at S
         simp only [BS,Nat.reduceAdd]
         refine⟨by simp only [bg,bF,aW,bI,a9,ne_eq,not_false_eq_true,bN,ce,bA,bn,bQ,c8,aK,Nat.reduceLT,Nat.reduceEqDiff,reduceIte,Xb,ac,jY,dr D.1,dr D.1.symm,dr D.2,dr D.2.symm,dr E,dr E.symm],?_⟩
         refine dp (eR [H] _ (L:=[(C,_),(B,_)]) S.base fun h7 I=>?_)
         refine⟨rfl,(cU (by decide) (by simp only [aK,ac,Nat.reduceEqDiff,reduceIte];exact c9 Tryz.t49.1 Tryz.t49.2.1 (I.lds (b:=B) (o:=0) (n:=4) m1 (lbt rfl)))).2 ((cU (by decide) (by simp only [aK,ac,Nat.reduceEqDiff,reduceIte];exact gf Tryz.t50.2.1 (I.ld (b:=C) (o:=0) m0 rfl))).2 (dH.2 ?_))⟩
         have gZ:=a0 (S.rebase I).fr
         have bE: ∀{α:Type} {k:Nat} {ak:α->List Value} {u:Value} {xs:List α},ar a5 k ak u xs->(∀c,aq u c->c≠B/\c≠C/\c≠H)->ar h7 k ak u xs:=fun s K=>((s.mo bX (fun c p e=>(K c p).1 e)).mo bY (fun c p e=>(K c p).2.1 e)).mo I.fr (fun c p hm=>by
          have:=K c p
          simp [keys]at hm
          omega)
         have zE:=bE cb (fun c p=>by have:=d2 c p;exact⟨by omega,by omega,by omega⟩)
         have zA:=bE de (fun c p=>by have:=(d1 c p).1;exact⟨by omega,by omega,by omega⟩)
         have zB:=bE dj (fun c p=>by have:=b5 c (.inl p);have:=c0;exact⟨by omega,by omega,fun e=>by omega⟩)
         exact⟨gZ,_,_,_,_,_,rfl,fun x hx=>(by rcases hx with h|h|h;(have:=(d1 x h).1;omega);(have:=b5 x (.inl h);omega);(have:=d2 x h;omega)),.inr ⟨Z,s,w,O,rfl,rfl,bi,hs,hw,ch,zE,.inr ⟨hd,rfl,rfl,zA,zB⟩⟩⟩
       . have bP:(72057594037927936:Int)<=(O.dist:Int):=by omega
         simp only [BS,LB,Nat.reduceLT,Nat.reduceEqDiff,j0,bP]
         refine au (aC rfl) (q:=0) (ps:=[(2,3)]) (by kernel_rfl) ?_
         simp only [BS,LB,cls,Nat.reduceLT,Nat.reduceEqDiff,Nat.reduceAdd,Nat.reducePow,Nat.reduceDiv,Nat.reduceMod,Nat.reduceLeDiff,Fa,j2]
         refine dw (S.store (i:=2) rfl Tryz.t49.2.1 (by intro x e;cases e) rfl (rfl) (lbt rfl) ono) ?_
         clear S;rintro h5 ⟨S,bX⟩
         simp only [LC,ah,lay,Xf,Xg,Nat.reduceAdd]at S
         simp only [BS,LB,cls,Nat.reduceLT,Nat.reduceEqDiff,Nat.reduceAdd,Nat.reducePow,Nat.reduceDiv,Nat.reduceMod,Nat.reduceLeDiff]
         refine dw (ay S (i:=1) rfl Tryz.t50.2.2.1 bB (Xa (lbt rfl)) ono) ?_
         clear S;rintro h6 ⟨S,bY⟩
         simp only [LC]at S
         simp only [BS,Nat.reduceAdd]
         refine⟨by simp only [bg,bF,aW,bI,a9,ne_eq,not_false_eq_true,bN,ce,bA,bn,bQ,c8,aK,Nat.reduceLT,Nat.reduceEqDiff,reduceIte,Xb,ac,jY,dr D.1,dr D.1.symm,dr D.2,dr D.2.symm,dr E,dr E.symm],?_⟩
         refine dp (eR [H] _ (L:=[(C,_),(B,_)]) S.base fun h7 I=>?_)
         refine⟨rfl,(cU (by decide) (by simp only [aK,ac,Nat.reduceEqDiff,reduceIte];exact c9 Tryz.t49.1 Tryz.t49.2.1 (I.lds (b:=B) (o:=0) (n:=4) m1 (lbt rfl)))).2 ((cU (by decide) (by simp only [aK,ac,Nat.reduceEqDiff,reduceIte];exact gf Tryz.t50.2.1 (I.ld (b:=C) (o:=0) m0 rfl))).2 (dH.2 ?_))⟩
         have gZ:=a0 (S.rebase I).fr
         have bE: ∀{α:Type} {k:Nat} {ak:α->List Value} {u:Value} {xs:List α},ar a5 k ak u xs->(∀c,aq u c->c≠B/\c≠C/\c≠H)->ar h7 k ak u xs:=fun s K=>((s.mo bX (fun c p e=>(K c p).1 e)).mo bY (fun c p e=>(K c p).2.1 e)).mo I.fr (fun c p hm=>by
          have:=K c p
          simp [keys]at hm
          omega)
         have zE:=bE cb (fun c p=>by have:=d2 c p;exact⟨by omega,by omega,by omega⟩)
         exact⟨gZ,_,_,_,_,_,rfl,fun x hx=>(by rcases hx with h|h|h;exact h.elim;exact h.elim;(have:=d2 x h;omega)),.inr ⟨Z,s,w,O,rfl,rfl,bi,hs,hw,ch,zE,.inl ⟨by omega,rfl,rfl,rfl,rfl⟩⟩⟩
   . refine⟨Y,U.get m0,by rw [st];decide,?_⟩
     rw [pe]
     replace U:=U.dead
     show Run _ _ _ _ _ _ _ _
     simp only [BS]
     refine dp (eR [H] _ (L:=[(C,_),(B,_)]) U.base fun h5 I=>?_)
     refine⟨rfl,(cU (by decide) (by simp only [aK,ac,Nat.reduceEqDiff,reduceIte];exact c9 Tryz.t49.1 Tryz.t49.2.1 (I.lds (b:=B) (o:=0) (n:=4) m1 (lbt rfl)))).2 ((cU (by decide) (by simp only [aK,ac,Nat.reduceEqDiff,reduceIte];exact gf Tryz.t50.2.1 (I.ld (b:=C) (o:=0) m0 rfl))).2 (dH.2 ?_))⟩
     have gZ:Gr h0 h5:=(gA.fr.trans (U.rebase I).fr (fun c p=>.inr (by simp only [Xk,Xe,or_false]at p;omega)):Mo NoM h0 h5).gr
     exact⟨gZ,_,_,_,_,_,rfl,fun x hx=>(by rcases hx with h|h|h<;>exact h.elim),.inl ⟨.inl (by rw [V];exact Z),by rw [V],rfl,rfl,rfl,rfl⟩⟩
   . cases hz
end Go.Ab
end
section
namespace Go.Ab
end Go.Ab

end
section
namespace Go.Ab
open Go.Proofs
set_option maxRecDepth 10000


end Go.Ab
end
section
namespace Go.Ab
open Go.Proofs
set_option maxRecDepth 10000
def mV(l:List Ev):List Nat:=l.filterMap fun e=>if e.kind=0 then some e.id else none
def NearE(A:List Arc)(a:Nat->Nat->Prop)(l:List Ev):Prop:= ∀(i:Nat) (h:i<l.length),(l[i].kind=1/\l[i].id<A.length/\(A.getD l[i].id default).s∈mV (l.take i))\/(l[i].kind=0/\l[i].id∉mV (l.take i)/\a l[i].id l[i].lab)
theorem NearE.snoc{A:List Arc}{a:Nat->Nat->Prop}{l:List Ev}{e:Ev}(h:NearE A a l)(c:(e.kind=1/\e.id<A.length/\(A.getD e.id default).s∈mV l)\/(e.kind=0/\e.id∉mV l/\a e.id e.lab)):NearE A a (l++[e]):=by
 intro i d
 by_cases b:i<l.length
 . rw [XQ b,XH (by omega)]
   exact h i b
 grind
theorem u9(l:List Ev)(e:Ev):mV (l++[e])=mV l++if e.kind=0 then [e.id]else []:=by
 grind[mV]
theorem pU{pi:Nat->Int}{σ:SS}{v lab:Nat}{p:List Nat}:(dN pi σ v lab p).ev=σ.ev/\(dN pi σ v lab p).O=σ.O:=by
 unfold dN
 grind
section
variable{A:List Arc}{N s:Nat}{al:Nat->Bool}{pi:Nat->Int}{ok:Nat->Nat->Prop}
def EvI(A:List Arc)(ok:Nat->Nat->Prop)(σ:SS):Prop:=NearE A ok σ.ev/\mV σ.ev=σ.O
theorem EvI.scan1{σ:SS}(h:EvI A ok σ){v a:Nat}(c:v∈σ.O)(b:a<A.length)(d:(A.getD a default).s=v):EvI A ok (scan1 A al pi v σ a)/\(scan1 A al pi v σ a).O=σ.O:=by
 unfold Ab.scan1
 split
 . refine⟨⟨?_,?_⟩,pU.2⟩
   . rw [pU.1]
     exact h.1.snoc (.inl ⟨rfl,b,by rw [h.2];grind⟩)
   . rw [pU.1,pU.2]
     show mV (σ.ev++[_])=σ.O
     rw [u9,h.2]
     simp
 grind
theorem EvI.scanL{v:Nat}: ∀(l:List Nat) {σ:SS},EvI A ok σ->v∈σ.O->(∀a∈l,a<A.length/\(A.getD a default).s=v)->EvI A ok (l.foldl (Ab.scan1 A al pi v) σ)
 | [],_,h,_,_=>h
 | a::l,σ,h,d,c=>by
   have e:=h.scan1 (al:=al) (pi:=pi) d (c a Xj).1 (c a Xj).2
   exact EvI.scanL l e.1 (by rw [e.2];exact d) (fun b f=>c b (Xd _ f))
theorem EvI.close{σ:SS}(h:EvI A ok σ){v:Nat}(a:v∉σ.O)(b:ok v (σ.L v)):EvI A ok (cP σ v):=by
 refine⟨h.1.snoc (.inr ⟨rfl,by rw [h.2];exact a,b⟩),?_⟩
 show mV (σ.ev++[_])=σ.O++[v]
 rw [u9,h.2]
 simp
end
end Go.Ab

end
section
namespace Go.Ab
open Go.Proofs
set_option maxRecDepth 10000

def Tryz.F08:=aj t1<|aj t2<|aj t3<|aj t4<|aj Z0<|aj t32<|aj t34<|aj Z10<|aj t47<|aj t49<|aj r49<|aj t164<|Z1
theorem BT{h0:Hp}(a:h0.t.Sized h0.n):aM zL 4 [] h0 (.bool true):=ret_orc rfl ⟨rfl,Gr.refl a⟩
theorem AD{h0:Hp}(l:h0.t.Sized h0.n){m d f g i:Value}(q:Fl d)(r:Fl f)(s:Fl g)(t:Fl i){c:Int}(p:c≠0):aM zL 9 [m,.agg ⟨[d,f,g,i]⟩,ansV c 0 (.slice none 0 0) (.slice none 0 0)] h0 (.bool true):=by
 have S:=Si l
 refine ab (n:=45) (rs:=[.tmp 6]) rfl Tryz.e9 rfl rfl rfl (lbt rfl) ?_
 simp only [BS,Nat.reduceLT,ansV]
 refine ag (aZ (by intro x e;cases e)) S ?_;clear S;intro h u S j;simp only [ah]at S
 simp only [BS,Nat.reduceLT,Nat.reduceEqDiff,if_false]
 refine ag (aZ (by intro x e;cases e)) S ?_;clear S;intro h a S k;simp only [ah]at S
 simp only [BS,LB,ae,Nat.reduceLT,Nat.reduceEqDiff,zM,F08,p,S.ld (b:=a) (o:=0) m0 rfl,S.ld (b:=a) (o:=1) m0 rfl,S.ld (b:=a) (o:=2) m0 rfl,S.ld (b:=a) (o:=3) m0 rfl]
 exact S.gr
theorem AR{h0:Hp}(v:h0.t.Sized h0.n){f:Gra}(i:Good f){w j:Nat}(y:aS h0 w (ptrTo j) f){k l vA m:Value}{a:List Nat}{s t d:Nat}(D:Fl k)(E:Fl l)(z:s<f.nodes)(p:ar h0 1 bM vA a)(F:Fl m)(A:a.length<=1000)(B:kw f.arcs s a t d):aM zL 9 [ptrTo j,.agg ⟨[k,.int .i64 (s:Nat),.int .i64 (t:Nat),l]⟩,ansV 0 (d:Nat) vA m] h0 (.bool true):=by
 have S:=Si v
 have G:=p.fl
 refine ab (n:=45) (rs:=[.tmp 6]) rfl Tryz.e9 rfl rfl rfl (lbt rfl) ?_
 simp only [BS,Nat.reduceLT,ansV]
 refine ag (aZ (by intro x e;cases e)) S ?_;clear S;intro h g S q;simp only [ah]at S
 simp only [BS,Nat.reduceLT,Nat.reduceEqDiff,if_false]
 refine ag (aZ (by intro x e;cases e)) S ?_;clear S;intro h c S u;simp only [ah]at S
 simp only [BS,LB,Nat.reduceLT,Nat.reduceEqDiff,F08,S.ld (b:=g) (o:=1) m1 rfl,S.ld (b:=g) (o:=2) m1 rfl,S.ld (b:=c) (o:=0) m0 rfl,S.ld (b:=c) (o:=1) m0 rfl,S.ld (b:=c) (o:=2) m0 rfl]
 refine step_ret (yV S.ok i (y.gr S.gr) z (p.gr S.gr) A B (t:=t) (.inl rfl)) ?_
 rintro r H ⟨C,rfl⟩
 replace S:=S.call C
 simp only [BS,LB,ae,Nat.reduceLT,Nat.reduceEqDiff,F08,S.ld (b:=g) (o:=1) m1 rfl,S.ld (b:=g) (o:=2) m1 rfl,S.ld (b:=c) (o:=0) m0 rfl,S.ld (b:=c) (o:=1) m0 rfl,S.ld (b:=c) (o:=2) m0 rfl]
 exact S.gr
theorem toR_len{a:Gra}{l:List Int}{i:Nat}:(toR a l i).length=a.nodes:=by unfold toR;exact zW _ _ _
theorem frR_len{a:Gra}{l:List Int}{i:Nat}:(frR a l i).length=a.nodes:=by unfold frR;exact zW _ _ _
theorem Bl{h0:Hp}{d:Gra}{j l n e k o f a:Nat}{m:List Int}{p q:Nat->Nat}(b:Good d)(r:aS h0 l (ptrTo j) d)(c:eG h0 n (ptrTo e) d.nodes m p)(i:fh m+1=((f:Nat):Int))(s:ey h0 k o f d.arcs.length a q): ∀h,Gr h0 h->aM zL 117 [ptrTo j,ptrTo e,ptrTo k] h (.bool true):=by
 intro h g
 have u:=b.n2
 have t:=c.len
 have:=AM g.ok (r.gr g) (.inr ⟨⟨_,c.at0.gr g⟩,i.symm⟩:jo h (ptrTo e) m (f:Int)) (s.gr g).bits b.n1 (by omega)
 rw [t]at this
 simpa using this
end Go.Ab
end
section
namespace Go.Ab
structure Ev2 where
 kind:Nat
 side:Bool
 id:Nat
 lab:Nat
structure Sd where
 K:Nat->Option Int
 L:Nat->Option Nat
 P:Nat->List Nat
 O:List Nat
structure Bi where
 sd:Bool->Sd
 ev:List Ev2
 dist:Nat
 meet:Nat
def fsB(i:Bool):Arc->Nat:=if i then Arc.t else Arc.s
def ftB(i:Bool):Arc->Nat:=if i then Arc.s else Arc.t
def qB(pi:Nat->Int)(i:Bool)(v:Nat):Int:=if i then-pi v else pi v
def OpB(pi:Nat->Int)(v:Nat):Prop:= -(FAR:Int)<pi v/\pi v<(FAR:Int)
instance (pi:Nat->Int)(v:Nat):Decidable (OpB pi v):=by unfold OpB;infer_instance
def fS(f:Bool->Sd)(i:Bool)(x:Sd):Bool->Sd:=fun j=>if j=i then x else f j
def leO(o:Option Nat)(lab:Nat):Bool:=match o with
 |some w=>decide (w<=lab)
 |none=>false
def rl(o:Option Nat)(σ:Bi)(v lab:Nat):Bi:=match o with
 |some m=>if lab+m<σ.dist then⟨σ.sd,σ.ev,lab+m,v⟩else σ
 |none=>σ
def fm(pi:Nat->Int)(x:Sd)(i:Bool)(v lab:Nat)(p:List Nat):Sd:=⟨cK x.K v (some (2*lab+qB pi i v)),fun u=>if u=v then some lab else x.L u,kY x.P v p,x.O⟩
def ji(pi:Nat->Int)(i:Bool)(σ:Bi)(v lab:Nat)(p:List Nat):Bi:=
 if v∈(σ.sd i).O\/ ¬OpB pi v\/leO ((σ.sd i).L v) lab=true then σ else rl ((σ.sd (!i)).L v) ⟨fS σ.sd i (fm pi (σ.sd i) i v lab p),σ.ev,σ.dist,σ.meet⟩ v lab
def labB(σ:Bi)(i:Bool)(v:Nat):Nat:=((σ.sd i).L v).getD 0
def evB(σ:Bi)(e:Ev2):Bi:=⟨σ.sd,σ.ev++[e],σ.dist,σ.meet⟩
def closeB(σ:Bi)(i:Bool)(v:Nat):Bi:=⟨fS σ.sd i ⟨cK (σ.sd i).K v none,(σ.sd i).L,(σ.sd i).P,(σ.sd i).O++[v]⟩,σ.ev++[⟨0,i,v,labB σ i v⟩],σ.dist,σ.meet⟩
def lM(A:List Arc)(al:Nat->Bool)(pi:Nat->Int)(i:Bool)(v:Nat)(σ:Bi)(a:Nat):Bi:=
 if al a=true then ji pi i (evB σ ⟨1,i,a,0⟩) (ftB i (A.getD a default)) (labB σ i v+(A.getD a default).w) (a::(σ.sd i).P v)else σ
theorem jM{f:Bool->Sd}{i:Bool}{x:Sd}:fS f i x i=x:=if_pos rfl
theorem Ax{f:Bool->Sd}{i:Bool}{x:Sd}:fS f i x (!i)=f (!i):=if_neg (by grind)
theorem updS_ne{f:Bool->Sd}{i j:Bool}{x:Sd}(h:j≠i):fS f i x j=f j:=if_neg h
theorem py{o:Option Nat}{σ:Bi}{v lab:Nat}:(rl o σ v lab).sd=σ.sd/\(rl o σ v lab).ev=σ.ev:=by
 unfold rl
 grind
section
variable{A:List Arc}{N:Nat}{al:Nat->Bool}{pi:Nat->Int}{σ:Bi}{rt:Bool->Nat}
structure SvB(A:List Arc)(N r:Nat)(al:Nat->Bool)(pi:Nat->Int)(i:Bool)(x:Sd):Prop where
 nd:x.O.Nodup
 lt: ∀v∈x.O,v<N/\x.L v≠none
 op: ∀v k,x.K v=some k->v∉x.O/\ ∃l,x.L v=some l/\k=2*(l:Int)+qB pi i v
 lab: ∀v l,x.L v=some l->v<N/\OpB pi v/\l<=x.O.length*cF/\(x.P v).length<=x.O.length/\(v∈x.O\/x.K v≠none)
 path: ∀v l,x.L v=some l->(v=r/\x.P v=[]/\l=0)\/ ∃a m,a<A.length/\al a=true/\ftB i (A.getD a default)=v/\fsB i (A.getD a default)∈x.O/\x.P v=a::x.P (fsB i (A.getD a default))/\x.L (fsB i (A.getD a default))=some m/\l=m+(A.getD a default).w
structure BiI(A:List Arc)(N:Nat)(rt:Bool->Nat)(al:Nat->Bool)(pi:Nat->Int)(σ:Bi):Prop where
 sv: ∀i,SvB A N (rt i) al pi i (σ.sd i)
 dm:(σ.dist=FAR/\ ∀i v x,(σ.sd i).L v=some x->(σ.sd (!i)).L v=none)\/(∀i,∃x y,(σ.sd i).L σ.meet=some x/\(σ.sd (!i)).L σ.meet=some y/\σ.dist=x+y)
 le: ∀i v x y,(σ.sd i).L v=some x->(σ.sd (!i)).L v=some y->σ.dist<=x+y
theorem SvB.len{r:Nat}{i:Bool}{x:Sd}(h:SvB A N r al pi i x):x.O.length<=N:=pL N x.O h.nd (fun v a=>(h.lt v a).1)
theorem uj{i j:Bool}(h:j≠i):j= !i:=by cases i<;>cases j<;>first|rfl|grind
theorem SvB.put{r v lab:Nat}{b:Bool}{x:Sd}{p:List Nat}(h:SvB A N r al pi b x)(y:v∉x.O)(j:OpB pi v)(E:v<N)(b1:lab<=x.O.length*cF)(F:p.length<=x.O.length)
 (d:(v=r/\p=[]/\lab=0)\/ ∃a m,a<A.length/\al a=true/\ftB b (A.getD a default)=v/\fsB b (A.getD a default)∈x.O/\p=a::x.P (fsB b (A.getD a default))/\x.L (fsB b (A.getD a default))=some m/\lab=m+(A.getD a default).w):
 SvB A N r al pi b (fm pi x b v lab p):=by
 have G: ∀{u},u∈x.O->u≠v:=fun f e=>y (e▸f)
 have g: ∀{u},u≠v->(fm pi x b v lab p).L u=x.L u:=fun h=>if_neg h
 have z: ∀{u},u≠v->(fm pi x b v lab p).K u=x.K u:=fun h=>if_neg h
 have B: ∀{u},u≠v->(fm pi x b v lab p).P u=x.P u:=fun h=>if_neg h
 have n:(fm pi x b v lab p).L v=some lab:=if_pos rfl
 have C:(fm pi x b v lab p).K v=some (2*(lab:Int)+qB pi b v):=if_pos rfl
 have D:(fm pi x b v lab p).P v=p:=if_pos rfl
 refine⟨h.nd,fun u f=>⟨(h.lt u f).1,by rw [g (G f)];exact(h.lt u f).2⟩,fun u k i=>?_,fun u l c=>?_,fun u l c=>?_⟩
 . by_cases e:u=v
   . subst e;rw [C]at i;cases i;exact⟨y,lab,n,rfl⟩
   . rw [z e]at i;rw [g e];exact h.op u k i
 . by_cases e:u=v
   . subst e;rw [n]at c;cases c
     exact⟨E,j,b1,by rw [D];exact F,.inr (by rw [C];nofun)⟩
   . rw [g e]at c;rw [z e,B e];exact h.lab u l c
 . by_cases e:u=v
   . subst e;rw [n]at c;cases c
     rw [D]
     rcases d with d|⟨a,m,o,q,s,t,H,I,w⟩
     . exact .inl d
     . exact .inr ⟨a,m,o,q,s,t,by grind,by grind,w⟩
   . rw [g e]at c;rw [B e]
     rcases h.path u l c with d|⟨a,m,o,q,s,t,H,I,w⟩
     . exact .inl d
     . exact .inr ⟨a,m,o,q,s,t,by grind,by grind,w⟩
theorem BiI.reach {b:Bool} {v lab:Nat} {p:List Nat} (j:N<=12) (h:BiI A N rt al pi σ) (H:v<N) (b1:lab<=(σ.sd b).O.length*cF) (I:p.length<=(σ.sd b).O.length)
 (J:(v=rt b/\p=[]/\lab=0)\/ ∃a m,a<A.length/\al a=true/\ftB b (A.getD a default)=v/\fsB b (A.getD a default)∈(σ.sd b).O/\p=a::(σ.sd b).P (fsB b (A.getD a default))/\(σ.sd b).L (fsB b (A.getD a default))=some m/\lab=m+(A.getD a default).w):
 BiI A N rt al pi (ji pi b σ v lab p):=by
 unfold ji
 split
 . exact h
 . rename_i C
   simp only [not_or,Decidable.not_not]at C
   obtain⟨K,B,hle⟩:=C
   have k: ∀i,SvB A N (rt i) al pi i (fS σ.sd b (fm pi (σ.sd b) b v lab p) i):=fun i=>by
    by_cases e:i=b
    . subst e;rw [jM];exact(h.sv i).put K B H b1 I J
    . rw [updS_ne e];exact h.sv i
   have s: ∀u,(fS σ.sd b (fm pi (σ.sd b) b v lab p) (!b)).L u=(σ.sd (!b)).L u:=fun u=>by rw [Ax]
   have L:(fS σ.sd b (fm pi (σ.sd b) b v lab p) b).L v=some lab:=by rw [jM];exact if_pos rfl
   have t: ∀{u},u≠v->(fS σ.sd b (fm pi (σ.sd b) b v lab p) b).L u=(σ.sd b).L u:=fun {u} e=>by rw [jM];exact if_neg e
   -- the smaller facts, for side b and its opposite
   have M:=h.sv b
   have O:=nL
   have V:=pj
   have n: ∀{i u l},(σ.sd i).L u=some l->l<=12*cF:=fun {i u l} Q=>by
    have q:=((h.sv i).lab u l Q).2.2.1
    have o:=X3 cF (XG (h.sv i).len j)
    omega
   have D:lab<=12*cF:=by
    have o:=X3 cF (XG M.len j)
    omega
   have c: ∀{P:Bool->Prop},P b->P (!b)-> ∀i,P i:=fun {P} W R i=>by
    by_cases e:i=b
    . grind
    . rw [uj e];exact R
   have E:(!(!b))=b:=by cases b<;>rfl
   cases S:(σ.sd (!b)).L v with
   | none =>
     unfold rl
     simp only []
     refine⟨k,?_,?_⟩
     . rcases h.dm with⟨F,T⟩|d
       . refine .inl ⟨F,c (P:=fun i=> ∀u x,(fS σ.sd b (fm pi (σ.sd b) b v lab p) i).L u=some x->(fS σ.sd b (fm pi (σ.sd b) b v lab p) (!i)).L u=none) (fun u x f=>?_) (fun u x f=>?_)⟩
         . grind
         grind
       . have U:σ.meet≠v:=fun e=>by
          obtain⟨x,y,_,o,_⟩:=d b
          grind
         refine .inr (c (P:=fun i=> ∃x y,(fS σ.sd b (fm pi (σ.sd b) b v lab p) i).L σ.meet=some x/\(fS σ.sd b (fm pi (σ.sd b) b v lab p) (!i)).L σ.meet=some y/\σ.dist=x+y) ?_ ?_)
         . obtain⟨x,y,q,o,w⟩:=d b
           grind
         . obtain⟨x,y,q,o,w⟩:=d (!b)
           grind
     . refine c (P:=fun i=> ∀u x y,(fS σ.sd b (fm pi (σ.sd b) b v lab p) i).L u=some x->(fS σ.sd b (fm pi (σ.sd b) b v lab p) (!i)).L u=some y->σ.dist<=x+y) (fun u x y f g=>?_) (fun u x y f g=>?_)
       . rw [s]at g
         by_cases e:u=v
         . grind
         . rw [t e]at f;exact h.le b u x y f g
       . rw [s]at f
         rw [E]at g
         by_cases e:u=v
         . grind
         . rw [t e]at g;exact h.le (!b) u x y f (by grind)
   | some m =>
     have X:=n S
     have Y: ∀{i:Bool} {u x y:Nat},(fS σ.sd b (fm pi (σ.sd b) b v lab p) i).L u=some x->(fS σ.sd b (fm pi (σ.sd b) b v lab p) (!i)).L u=some y->(u=v/\x+y=lab+m)\/(u≠v/\σ.dist<=x+y):=fun {i u x y} f g=>by
      by_cases e:u=v
      . subst e
        refine .inl ⟨rfl,?_⟩
        by_cases z:i=b
        . grind
        . rw [uj z]at f g
          grind
      . refine .inr ⟨e,?_⟩
        by_cases z:i=b
        . subst z;rw [t e]at f;rw [s]at g;exact h.le i u x y f g
        . rw [uj z]at f g
          rw [s]at f;rw [E,t e]at g
          exact h.le (!b) u x y f (by grind)
     unfold rl
     simp only []
     split
     . rename_i hlt
       refine⟨k,.inr (c (P:=fun i=> ∃x y,(fS σ.sd b (fm pi (σ.sd b) b v lab p) i).L v=some x/\(fS σ.sd b (fm pi (σ.sd b) b v lab p) (!i)).L v=some y/\lab+m=x+y) ⟨lab,m,L,by grind,rfl⟩ ⟨m,lab,by grind,by grind,Nat.add_comm _ _⟩),fun i u x y f g=>?_⟩
       grind
     . rename_i r
       have r: ¬lab+m<σ.dist:=r
       have G: ∀x,(σ.sd b).L v=some x->lab<x:=fun x f=>by
        simp_all[hle,leO,decide_eq_true_eq]
       refine⟨k,?_,fun i u x y f g=>?_⟩
       . rcases h.dm with⟨F,T⟩|d
         . omega
         . have U:σ.meet≠v:=fun e=>by
            obtain⟨x,y,q,o,w⟩:=d b
            grind
           refine .inr (c (P:=fun i=> ∃x y,(fS σ.sd b (fm pi (σ.sd b) b v lab p) i).L σ.meet=some x/\(fS σ.sd b (fm pi (σ.sd b) b v lab p) (!i)).L σ.meet=some y/\σ.dist=x+y) ?_ ?_)
           . obtain⟨x,y,q,o,w⟩:=d b
             grind
           . obtain⟨x,y,q,o,w⟩:=d (!b)
             grind
       grind
end
end Go.Ab

end
section
namespace Go.Ab
def jy(i:Bool):Nat:=if i then 1 else 0
def jE(e:Ev2):List Value:=[.int .i64 (e.kind:Nat),.int .i64 (jy e.side:Nat),.int .i64 (e.id:Nat),.int .i64 (e.lab:Nat)]
end Go.Ab

end
section
namespace Go.Ab
open Go.Proofs
set_option maxRecDepth 10000
def Tryz.Fp:=aj t1<|aj t2<|aj t3<|aj t4<|aj Z0<|aj t32<|aj Z9<|aj t162<|aj t164<|Z1
theorem note_ins{ρ:Operand->Value}{b:Bool}{t:TypeId}{m k v:Operand}{h a:Hp}:cd ρ b (.insert t m k v) h a=(match ρ m with| .map (some r)=>some (.blk r)|_=>none):=by
 simp only [cd,dA,iN,dY,touch,cond_false]
 cases ρ m<;>(try rfl)
 next r=>cases r<;>rfl
theorem note_mk{ρ:Operand->Value}{b:Bool}{t:TypeId}{h a:Hp}:cd ρ b (.makeMap t none) h a=none:=rfl
def OkEv(N M:Nat)(e:Ev2):Prop:=(e.kind=0/\e.id<N)\/(e.kind=1/\e.id<M/\e.lab=0)
theorem trm1_ok{h0:Hp}(r:h0.t.Sized h0.n){s F b1:Nat}{f:Gra}(c:aS h0 F (ptrTo s) f)(l:h0.load b1 0 1=some [ptrTo s]){e:Ev2}(u:OkEv f.nodes f.arcs.length e):aM zL 133 [.agg ⟨jE e⟩,ptrTo b1] h0 (.bool true):=by
 have S:=Si r
 obtain⟨v,w,id,G⟩:=e
 have H:=a8 r l
 unfold jE
 simp only []
 refine ab (n:=43) (rs:=[.tmp 3]) rfl Tryz.e133 rfl rfl rfl (lbt rfl) ?_
 simp only [BS,Nat.reduceLT]
 refine ag (aZ (by intro x e;cases e)) S ?_;clear S;intro h a S y;simp only [ah]at S
 simp only [BS]
 have J:=Xq H S.gr.n
 refine fork_step (lj (ord:=[1,2,4,5,8,9,0,3,6,7,10,11]) rfl rfl (by simp only [dI,oE,eo,XC,XD,XP,Xs,XB,Nat.reduceBEq,cond_true,cond_false];exact rfl)) (t:=5) (q:=74) (ps:=[(5,8),(5,7),(2,7),(3,5),(1,5),(1,2),(5,8),(5,7),(3,5),(1,5),(1,2)]) (by kernel_rfl) (by kernel_rfl) ?_
 simp only [BS,LB,cls,Nat.reduceLT,Nat.reduceEqDiff,Nat.reducePow,Nat.reduceDiv,Nat.reduceMod,Nat.reduceLeDiff,Fp,S.gr.load l]
 refine qR (ca (h0:={h with lo:=h.n}) S.ok ((c.gr S.gr).keep S.ok (fun _ _=>rfl))) ?_;intro h g;replace S:=S.call g;clear g
 simp only [BS,LB,cls,Nat.reduceLT,Nat.reduceEqDiff,Nat.reduceAdd,Nat.reducePow,Nat.reduceDiv,Nat.reduceMod,Nat.reduceLeDiff,Fp,S.gr.load l]
 refine qR (j8 (h0:={h with lo:=h.n}) S.ok ((c.gr S.gr).keep S.ok (fun _ _=>rfl))) ?_;intro h g;replace S:=S.call g;clear g
 simp only [BS,LB,cls,Nat.reduceLT,Nat.reduceEqDiff,Nat.reduceAdd,Nat.reducePow,Nat.reduceDiv,Nat.reduceMod,Nat.reduceLeDiff,Fp,S.ld (b:=a) (o:=0) m0 rfl]
 have K:=(S.row (b:=a) m0).lt S.ok
 have L:b1<h.n:=a8 S.ok (S.gr.load l)
 refine dS mI S ?_;clear S;intro h j S z A
 simp only [BS,LB,cls,Nat.reduceEqDiff,Nat.reduceAdd,Nat.reducePow,Nat.reduceDiv,Nat.reduceMod,Nat.reduceLeDiff]
 refine dw (S.mput (i:=0) rfl Tryz.t162.1 (by simp only [aT,Tryz.t3.1];rfl) rfl) ?_
 clear S;rintro h S
 simp only [BS,LB,cls,Nat.reduceEqDiff,Nat.reduceAdd,Nat.reducePow,Nat.reduceDiv,Nat.reduceMod,Nat.reduceLeDiff]
 simp only [LC,Xp]at S
 refine dw (S.mput (i:=0) rfl Tryz.t162.1 (by simp only [aT,Tryz.t3.1];rfl) rfl) ?_
 clear S;rintro h S
 simp only [LC,Nat.reduceAdd]at S
 have B:h.get j=some (.map _ 2):=(S.own _ Xj).2
 have I:cm zL h 162 (.map (some j)) (.int .i64 (v:Nat)) false=some (.int .i64 (if v=0 then f.nodes else f.arcs.length)):=by
  simp only [cm,Tryz.t162.1,qK Tryz.t3.1,cond_true,B]
  rcases u with⟨d,_⟩|⟨d,_⟩
  . simp only []at d;subst d;rfl
  . simp only []at d;subst d;rfl
 have C:b1≠j:=by omega
 have D:a≠j:=by omega
 simp only [BS,LB,cls,Nat.reduceLT,Nat.reduceEqDiff,Nat.reduceAdd,Nat.reducePow,Nat.reduceDiv,Nat.reduceMod,Nat.reduceLeDiff,I]
 refine⟨by simp only [bg,bF,aW,bI,a9,ne_eq,not_false_eq_true,bN,ce,bA,bn,bQ,c8,aK,Nat.reduceLT,Nat.reduceEqDiff,reduceIte,Xb,ac,bJ,xo,note_ins,note_mk,oO,dr C,dr C.symm,dr D,dr D.symm];rfl,?_⟩
 refine run_kill (b:=j) (by simp only [bQ,aK,Nat.reduceLT,Nat.reduceEqDiff,reduceIte]) B ?_
 replace S:=S.dead
 have m:(0:Int)<=(id:Int):=by omega
 rcases u with⟨d,p⟩|⟨d,p,E⟩
 . simp only []at d p
   subst d
   have k:(id:Int)<(f.nodes:Int):=by omega
   cases w
   . simp only [BS,LB,ae,Nat.reduceLT,Nat.reduceEqDiff,zM,Xn,Fp,m,k,jy,S.ld (b:=a) (o:=0) m0 rfl,S.ld (b:=a) (o:=1) m0 rfl,S.ld (b:=a) (o:=2) m0 rfl,S.ld (b:=a) (o:=3) m0 rfl]
     exact S.gr
   . simp only [BS,LB,ae,Nat.reduceLT,Nat.reduceEqDiff,zM,Fp,m,k,jy,(by decide: ¬(1:Int)=0),S.ld (b:=a) (o:=0) m0 rfl,S.ld (b:=a) (o:=1) m0 rfl,S.ld (b:=a) (o:=2) m0 rfl,S.ld (b:=a) (o:=3) m0 rfl]
     exact S.gr
 . simp only []at d p E
   subst d E
   have k:(id:Int)<(f.arcs.length:Int):=by omega
   cases w
   . simp only [BS,LB,ae,Nat.reduceLT,Nat.reduceEqDiff,zM,Xn,Fp,m,k,jy,(by decide: ¬(1:Int)=0),S.ld (b:=a) (o:=0) m0 rfl,S.ld (b:=a) (o:=1) m0 rfl,S.ld (b:=a) (o:=2) m0 rfl,S.ld (b:=a) (o:=3) m0 rfl]
     exact S.gr
   . simp only [BS,LB,ae,Nat.reduceLT,Nat.reduceEqDiff,zM,Fp,m,k,jy,(by decide: ¬(1:Int)=0),S.ld (b:=a) (o:=0) m0 rfl,S.ld (b:=a) (o:=1) m0 rfl,S.ld (b:=a) (o:=2) m0 rfl,S.ld (b:=a) (o:=3) m0 rfl]
     exact S.gr
def Tryz.FH:=aj t1<|aj t2<|aj t3<|aj t4<|aj Z9<|aj t145<|aj t147<|t149
def Tryz.F0A:=aj t1<|aj t2<|aj t3<|aj t4<|aj t5<|aj t6<|aj Z3<|aj t50<|aj Z9<|t145
def Tryz.FI:=aj t1<|aj t2<|aj t3<|aj t4<|aj t5<|aj Z0<|aj t32<|aj t50<|aj Z9<|aj t145<|aj t147<|aj t149<|aj t164<|Z1
def mH(e:Ev2):Value:=.agg ⟨[.int .i64 (e.kind:Nat),.int .i64 (jy e.side:Nat),.int .i64 (e.id:Nat)]⟩
def mW(a b:Ev2):Prop:=a.kind=b.kind/\a.side=b.side/\a.id=b.id
instance (a b:Ev2):Decidable (mW a b):=by unfold mW;infer_instance
theorem nat_ibeq(a b:Nat):gL (a:Int) (b:Int)=decide (a=b):=by
 show Nat.beq a b=_
 rw [bV]
theorem keyEq_e(a b:Ev2):bD (mH a) (mH b)=some (decide (mW a b)):=by
 unfold mH bD
 simp only [dk,eX,cond_true,nat_ibeq]
 have c:decide (jy a.side=jy b.side)=decide (a.side=b.side):=by cases a.side<;>cases b.side<;>rfl
 rw [c]
 unfold mW
 by_cases d:a.kind=b.kind<;>by_cases e:a.side=b.side<;>by_cases f:a.id=b.id<;>simp [d,e,f]
def jH:Nat->List Ev2->List (Value×Value×Nat)
 |_,[]=>[]
 |n,e::l=>(mH e,.int .i64 1,n)::jH (n+1) l
theorem qT{e:Ev2}: ∀{l:List Ev2} {n:Nat},(∀x∈l,¬mW e x)->aQ (mH e) (jH n l)=some none
 | [],_,_=>rfl
 | x::l,n,h=>by
   unfold jH aQ
   rw [keyEq_e,decide_eq_false (h x Xj)]
   exact qT fun y a=>h y (Xd _ a)
theorem xk{e:Ev2}: ∀{l:List Ev2} {n:Nat},jH n (l++[e])=jH n l++[(mH e,.int .i64 1,n+l.length)]
 | [],_=>rfl
 | x::l,n=>by
   show _::jH (n+1) (l++[e])=_::(jH (n+1) l++_)
   rw [xk,XR,show n+1+l.length=n+(l.length+1) by omega]
theorem zw: ∀{l:List Ev2} {n:Nat},∀p∈jH n l,p.2.2<n+l.length
 | x::l,n,p,h=>by
   rcases List.mem_cons.1 h with rfl|h
   . show n<_;rw [XR];omega
   . have:=zw p h;rw [XR];omega
theorem wz{k z w:Value}{c:Nat}: ∀{a:List (Value×Value×Nat)},(∀p∈a,p.2.2<c)->fD c w (a++[(k,z,c)])=some (a++[(k,w,c)])
 | [],_=>by simp [fD,Nat.beq_refl]
 | (k',v',b)::a,h=>by
   have d:=h _ Xj
   have e:Nat.beq b c=false:=by rw [bV];exact decide_eq_false (by simp only []at d;omega)
   simp only [List.cons_append,fD,e,cond_false,wz fun p f=>h p (Xd _ f)]
theorem St.mentN{M:Nat->Prop}{h0 h:Hp}{L:List (Nat×Ob)}{G:List GL}(S:St M h0 h L G){E:Env}{t kt el:TypeId}{i b c:Nat}{a:List (Value×Value×Nat)}{k z:Value}(e:L[i]? =some (b,.map a c))(g:E.und t=some (.map kt el))(hf:aT E kt k=true)(j:E.zeroV el=some z)(l:aQ k a=some none):
 ∃d,ip E h t (.map (some b)) k=some (d,.tuple #[z,.int .i64 (X5 c)])/\St M h0 d (L.set i (b,.map (a++[(k,z,c)]) (c+1))) G/\Mo (· =b) h d:=by
 have f:h.get b=some (.map a c):=(S.own _ (X2 e)).2
 refine⟨h.put b (.map (a++[(k,z,c)]) (c+1)),?_,S.put e ?_,(Mo.refl (M:=(· =b)) S.ok).put (.inr rfl) _⟩
 . simp only [ip,iG,g,hf,cond_true,f,l,j]
 . exact lW f
theorem build_key{a b c:Int}:jV zL 149 [(0,.int .i64 a),(1,.int .i64 b),(2,.int .i64 c)]=some (.agg ⟨[.int .i64 a,.int .i64 b,.int .i64 c]⟩):=rfl
theorem once1_ok{h0:Hp}(O:h0.t.Sized h0.n){Q nb b1 b5 b6 a n:Nat}{G:Gra}{l:List Ev2}{e:Ev2}(cN: ∀g,Mo (· =a) h0 g->aS g nb (ptrTo Q) G)(R:h0.load b1 0 1=some [ptrTo Q])(T:h0.load b5 0 1=some [.func (.func 133) #[] #[ptrTo b1]])(H:h0.load b6 0 1=some [.map (some a)])
 (U:b1≠a) (V:b5≠a) (W:b6≠a) (hm:h0.get a=some (.map (jH 0 l) l.length)) (he:OkEv G.nodes G.arcs.length e) (X: ∀x∈l,¬mW e x):
 Ret zL 77 [.agg ⟨jE e⟩,ptrTo b6,ptrTo b5] h0 fun r g=>r=.bool false/\Mo (· =a) h0 g/\g.get a=some (.map (jH 0 (l++[e])) (l++[e]).length):=by
 have S:=St.init1 O (o:=.map (jH 0 l) l.length) hm
 have zm:a<h0.n:=S.key_lt (by simp [keys])
 have z6:=a8 O H
 have c:=qT (n:=0) X
 have I:aT zL 149 (mH e)=true:=rfl
 obtain⟨s,t,id,d⟩:=e
 unfold jE
 simp only []
 refine ab (n:=29) (rs:=[.tmp 4]) rfl Tryz.e77 rfl rfl rfl (lbt rfl) ?_
 simp only [BS,Nat.reduceLT]
 refine ag (aZ (by intro x e;cases e)) S ?_;clear S;intro h D S Y;simp only [ah]at S
 simp only [BS,LB,Nat.reduceLT,Nat.reduceEqDiff,FH,build_key,S.ld (b:=D) (o:=0) m0 rfl,S.ld (b:=D) (o:=1) m0 rfl,S.ld (b:=D) (o:=2) m0 rfl]
 refine ag aw S ?_;clear S;intro h E S Z
 simp only [BS,LB,Nat.reduceLT,Nat.reduceEqDiff]
 refine az (S.store (i:=0) rfl Tryz.t149.2.2.1 (by intro x e;cases e) rfl rfl (lbt rfl) ono) ?_
 clear S;rintro h ⟨S,mo⟩;clear mo
 simp only [LC,ah,lay,Xf,Xg,Nat.reduceAdd]at S
 have g1:=S.fr
 have k:=S.old H W
 have u:=S.old T V
 have ad:=S.old R U
 have v:=S.lds (b:=E) (o:=0) (n:=3) m0 (lbt rfl)
 have f:h.get a=some (.map (jH 0 l) l.length):=(S.own _ m2).2
 have m:cm zL h 147 (.map (some a)) (mH ⟨s,t,id,d⟩) false=some (.int .i64 0):=by
  simp only [cm,Tryz.t147.1,I,cond_true,f,c]
  rfl
 unfold mH at m c I
 simp only [Xg,Xf]at v m
 simp only [BS]
 refine au (aC rfl) (q:=0) (ps:=[]) (by kernel_rfl) ?_
 simp only [BS,LB,cls,Nat.reduceLT,Nat.reduceEqDiff,Nat.reduceAdd,Nat.reducePow,Nat.reduceDiv,Nat.reduceMod,Nat.reduceLeDiff,Int.reduceAdd,FH,k,v,m]
 obtain⟨h2,e1,S1,_⟩:=S.mentN (i:=2) (z:=.int .i64 0) rfl Tryz.t147.1 I (by kernel_rfl) c
 refine dn_v (P:=fun g v'=>g=h2/\v'=.tuple #[.int .i64 0,.int .i64 (X5 l.length)]) ⟨h2,_,e1,rfl,rfl⟩ ?_
 rintro g v' ⟨rfl,rfl⟩
 clear S;have S:=S1;clear S1
 simp only [LC]at S
 simp only [BS,LB,cls,Nat.reduceLT,Nat.reduceEqDiff,Nat.reduceAdd,Nat.reducePow,Nat.reduceDiv,Nat.reduceMod,Nat.reduceLeDiff,Int.ofNat_eq_natCast]
 have w1:an .i64 1=1:=rfl
 refine dw (S.mstoreI (i:=2) (w:=.int .i64 1) rfl (wz fun p hp=>by have:=zw p hp;omega)) ?_
 clear S;rintro J ⟨K,S⟩;clear K
 simp only [LC]at S
 simp only [BS,LB,Nat.reduceLT,Nat.reduceEqDiff,Nat.reduceAdd,FH]
 have q6:b6≠E:=by omega
 have qt:E≠a:=by omega
 have f:J.get a=some (.map (jH 0 l++[(mH ⟨s,t,id,d⟩,.int .i64 1,l.length)]) (l.length+1)):=(S.own _ m2).2
 have y:cm zL J 147 (.map (some a)) (mH ⟨s,t,id,d⟩) false=some (.int .i64 1):=by
  have L:aT zL 149 (mH ⟨s,t,id,d⟩)=true:=rfl
  simp only [cm,Tryz.t147.1,L,cond_true,f]
  rw [px (by rw [keyEq_e];exact congrArg some (decide_eq_true ⟨rfl,rfl,rfl⟩)) (qT X)]
  rfl
 unfold mH at y
 have k:=S.old H W
 have u:=S.old T V
 have A:=S.lds (b:=E) (o:=0) (n:=3) m0 (lbt rfl)
 have B:=S.lds (b:=D) (o:=0) (n:=4) m1 (lbt rfl)
 simp only [Xg,Xf]at A B
 simp only [BS,LB,Nat.reduceLT,Nat.reduceEqDiff,FH,u,B]
 refine am (trm1_ok S.ok (cN _ S.fr) (S.old R U) he) ?_
 intro h4 F
 have C:=F.load k
 have M:=F.load A
 have j:h4.get a=J.get a:=F.get a (Xq zm S.fr.n)
 have N:cm zL h4 147 (.map (some a)) (.agg ⟨[.int .i64 (s:Nat),.int .i64 (jy t:Nat),.int .i64 (id:Nat)]⟩) false=some (.int .i64 1):=by
  rw [<-y]
  simp only [cm,j]
 replace S:=S.call F
 simp only [BS,LB,ae,Nat.reduceLT,Nat.reduceEqDiff,Int.reduceLT,FH,C,M,N]
 refine⟨S.fr,?_⟩
 rw [j,f,xk,Xp,List.length_append]
 rfl
theorem idxE_ok{h0:Hp}{v:Value}{xs:List Ev2}{g:FuncId}{post:Array Value}(q:Fl v)(s:xs.length<1000000)(I:Nat->Hp->Prop)(f: ∀i h,I i h->ar h 4 jE v xs)
 (hf: ∀i h (j:i<xs.length),I i h->Ret zL g ([.agg ⟨jE xs[i]⟩]++post.toList) h fun r d=>r=.bool false/\I (i+1) d) (a:I 0 h0):
 Ret zL 134 [v,.func (.func g) #[] post] h0 fun r d=>r=.int .i64 (-1)/\I xs.length d:=by
 refine ab (n:=19) (rs:=[.tmp 4]) rfl Tryz.e134 rfl rfl rfl (lbt rfl) ?_
 simp only [BS,LB,Nat.reduceLT,Nat.reduceEqDiff,F0A,(f 0 h0 a).lenq]
 refine aO (fun(i:Nat) b h=>i<=xs.length/\I i h/\b 0=v/\b 1=.func (.func g) #[] post/\b 7=.int .i64 (xs.length:Nat)/\b 8=.int .i64 i) (fun i=>xs.length-i) ?_ 0 _ _ ?_
 . intro i k b h ⟨j,h1,r0,r1,r7,r8⟩
   have w:an .i64 ((i:Int)+1)=((i+1:Nat):Int):=by rw [wrap64]<;>omega
   by_cases hlt:i<xs.length
   . obtain⟨c,o,l,m⟩:=(f i h h1).ix (kd:=.i64) (fun _=>rfl) hlt
     simp only [BS,LB,Nat.reduceLT,Nat.reduceEqDiff,F0A,r0,r1,r7,r8,aB,hlt,l,m]
     refine step_ret (hf i h hlt h1) ?_
     rintro r t ⟨rfl,p⟩
     simp only [BS,LB,Nat.reduceLT,Nat.reduceEqDiff,r8,w]
     exact k (i+1) _ _ (by omega) ⟨by omega,p,by simp [aa,r0],by simp [aa,r1],by simp [aa,r7],by simp [aa]⟩
   . have e:i=xs.length:=by omega
     subst e
     simp only [BS,LB,ae,Nat.reduceLT,Nat.reduceEqDiff,r7,r8,aB,hlt]
     exact h1
 . exact⟨Xo _,a,by simp [aa,bJ],by simp [aa,bJ],by simp [aa],by simp [aa]⟩
theorem su{h0:Hp}{v:Value}{xs:List Ev2}{g:FuncId}{post:Array Value}(c:Fl v)(d:xs.length<1000000)(I:Nat->Hp->Prop)(e: ∀i h,I i h->ar h 4 jE v xs)
 (hf: ∀i h (j:i<xs.length),I i h->Ret zL g ([.agg ⟨jE xs[i]⟩]++post.toList) h fun r a=>r=.bool false/\I (i+1) a) (b:I 0 h0):
 Ret zL 76 [v,.func (.func g) #[] post] h0 fun r a=>r=.bool false/\I xs.length a:=by
 refine ab (n:=9) (rs:=[.tmp 4]) rfl Tryz.e76 rfl rfl rfl (lbt rfl) ?_
 simp only [BS,LB,Nat.reduceLT,Nat.reduceEqDiff]
 refine step_ret (idxE_ok c d I e hf b) ?_
 rintro r h ⟨rfl,f⟩
 simp only [BS,LB,ae,Nat.reduceLT,Nat.reduceEqDiff,Int.reduceLE]
 exact f
theorem yI{h0:Hp}(d:h0.t.Sized h0.n){p:Value}(e:Fl p):Ret zL 75 [p] h0 fun r a=>Gr h0 a/\ ∃b1,r=.func (.func 133) #[] #[ptrTo b1]/\a.load b1 0 1=some [p]:=by
 have S:=Si d
 refine ab (n:=4) (rs:=[.tmp 2]) rfl Tryz.e75 rfl rfl rfl (lbt rfl) ?_
 simp only [BS,Nat.reduceLT]
 refine ag (bC (by assumption)) S ?_;clear S;intro h b1 S c
 simp only [BS,LB,ae,Nat.reduceLT,Nat.reduceEqDiff]
 exact⟨S.gr,_,rfl,S.ld (b:=b1) (o:=0) m0 rfl⟩
theorem yy{h0:Hp}(C:h0.t.Sized h0.n){q D:Nat}{k:Gra}(c:aS h0 D (ptrTo q) k){v:Value}{xs:List Ev2}(s:ar h0 4 jE v xs)(E:xs.length<1000000)(F: ∀x∈xs,OkEv k.nodes k.arcs.length x)(G:xs.Pairwise fun a b=> ¬mW b a):
 aM zL 29 [ptrTo q,v] h0 (.bool true):=by
 have S:=Si C
 have H:=s.fl
 refine ab (n:=16) (rs:=[.tmp 4]) rfl Tryz.e29 rfl rfl rfl (lbt rfl) ?_
 simp only [BS,LB,Nat.reduceLT,Nat.reduceEqDiff,FI]
 refine step_ret (yI S.ok cq) ?_
 rintro r h ⟨g,I,rfl,t⟩
 have d:=g.ok
 clear S
 rename Hp=>hM
 have S:=Si d
 have N:=a8 d t
 simp only [BS,FI]
 refine ag aw S ?_;clear S;intro h u S w
 simp only [BS,LB,Nat.reduceLT,Nat.reduceEqDiff]
 refine az (ay S (i:=0) rfl ?_ ?_ ?_ ono) ?_
 . exact(by simp only [FI])
 . exact(by exact fQ)
 . exact Xa (lbt rfl)
 clear S;rintro h ⟨S,l⟩;clear l;simp only [LC,ah,lay,Xf,Xg,Nat.reduceAdd]at S
 simp only [BS]
 refine ag mI S ?_;clear S;intro h y S f
 simp only [BS,FI]
 refine ag aw S ?_;clear S;intro h z S A
 simp only [BS,LB,Nat.reduceLT,Nat.reduceEqDiff]
 refine az (ay S (i:=0) rfl ?_ ?_ ?_ ono) ?_
 . exact(by simp only [FI])
 . exact(by exact wj)
 . exact Xa (lbt rfl)
 clear S;rintro h ⟨S,l⟩;clear l;simp only [LC,ah,lay,Xf,Xg,Nat.reduceAdd]at S
 simp only [BS,LB,Nat.reduceLT,Nat.reduceEqDiff]
 have J:=S.apart
 simp only [keys,Xs,XB,XI,List.append_nil,List.nodup_cons,Xk,Xe,or_false,not_or]at J
 refine step_ret (su H E (fun i h=>St NoM hM h [(z,.row [.map (some y)] 1),(y,.map (jH 0 (xs.take i)) (xs.take i).length),(u,.row [.func (.func 133) #[] #[ptrTo I]] 1)] []) (fun i h S=>s.gr (g.trans S.gr)) ?_ S) ?_
 . intro i h p S
   refine(once1_ok S.ok (fun B m=>c.gr (g.trans ((S.fr.trans m (fun x e=>.inr (by subst e;exact f)):Mo NoM hM B).gr))) (S.gr.load t) (S.ld (b:=u) (o:=0) m2 rfl) (S.ld (b:=z) (o:=0) m0 rfl) (by omega) (by omega) (by omega) (S.own _ m1).2 (F _ (Xl p)) ?_ (n:=0)).mono ?_
   . intro x K
     obtain⟨j,L,rfl⟩:=List.getElem_of_mem K
     rw [Xw]at L
     rw [List.getElem_take]
     exact List.pairwise_iff_getElem.1 G j i (by omega) p (by omega)
   . rintro r B ⟨rfl,m,M⟩
     refine⟨rfl,?_⟩
     rw [Xm p]
     exact S.call1 (i:=1) (o':=.map _ _) rfl m M
 . rintro r h ⟨rfl,S⟩
   simp only [BS,LB,ae,Nat.reduceLT,Nat.reduceEqDiff]
   exact g.trans S.gr
def Tryz.F09:=aj t1<|aj t2<|aj t3<|aj t4<|aj Z0<|aj t32<|aj Z2<|aj t164<|Z1
def Tryz.Fq:=aj t1<|aj t2<|aj t3<|aj t4<|aj t5<|aj t6<|aj Z0<|aj t32<|aj Z9<|aj t145<|aj t150<|aj t164<|Z1
def Tryz.FT:=aj t1<|aj t2<|aj t3<|aj t4<|aj t5<|aj Z0<|aj t32<|aj t50<|aj Z9<|aj t145<|aj t150<|aj t164<|Z1
theorem yb{h0:Hp}(l:h0.t.Sized h0.n){f m:Nat}{a:Gra}(c:aS h0 m (ptrTo f) a){i:Nat}(j:i<a.arcs.length){s:Bool}:Ret zL 79 [ptrTo f,.int .i64 (i:Nat),.int .i64 (jy s:Nat)] h0 fun r p=>Gr h0 p/\r=.int .i64 (fsB s (a.arcs.getD i default):Nat):=by
 have S:=Si l
 have q:a.arcs.getD i default=a.arcs[i]:=by rw [Xc,zO j];rfl
 rw [q]
 refine ab (n:=21) (rs:=[.tmp 6]) rfl Tryz.e79 rfl rfl rfl (lbt rfl) ?_
 simp only [BS,LB,Nat.reduceLT,Nat.reduceEqDiff]
 refine step_ret (iU S.ok (c.gr S.gr) j) ?_
 rintro r h ⟨g,rfl⟩
 replace S:=S.call g
 unfold cG
 simp only [BS,LB,Nat.reduceLT,Nat.reduceEqDiff,F09]
 refine ag aw S ?_;clear S;intro h d S k
 simp only [BS,LB,Nat.reduceLT,Nat.reduceEqDiff]
 refine az (S.store (i:=0) rfl Tryz.t108.2.1 (by intro x e;cases e) rfl rfl (lbt rfl) ono) ?_
 clear S;rintro h ⟨S,t⟩;clear t
 simp only [LC,ah,lay,Xf,Xg,Nat.reduceAdd]at S
 cases s
 . simp only [BS,LB,ae,Nat.reduceLT,Nat.reduceEqDiff,zM,Xn,F09,jy,fsB,(by decide: ¬(0:Int)=1),S.ld (b:=d) (o:=0) m0 rfl,S.ld (b:=d) (o:=1) m0 rfl]
   exact S.gr
 . simp only [BS,LB,ae,Nat.reduceLT,Nat.reduceEqDiff,zM,F09,jy,fsB,S.ld (b:=d) (o:=0) m0 rfl,S.ld (b:=d) (o:=1) m0 rfl]
   exact S.gr
def jG(L:Bool->Int)(e:Ev2):Bool->Int:=if e.kind=0 then fun s=>if s=e.side then(e.id:Int)else L s else L
theorem heads1_ok{h0:Hp}(A:h0.t.Sized h0.n){B Q b1 b5 b6 E:Nat}{y:Gra}{L:Bool->Int}{e:Ev2}(c:aS h0 Q (ptrTo B) y)(R:h0.load b1 0 1=some [ptrTo B])(T:h0.load b5 0 1=some [.func (.func 133) #[] #[ptrTo b1]])(C:h0.load E 0 1=some [ptrTo B])
 (p:Row h0 b6 [.int .i64 (L false),.int .i64 (L true)] 1) (F:OkEv y.nodes y.arcs.length e) (G:e.kind=1->L e.side=(fsB e.side (y.arcs.getD e.id default):Nat)):
 Ret zL 78 [.agg ⟨jE e⟩,ptrTo b5,ptrTo b6,ptrTo E] h0 fun r H=>r=.bool false/\Mo (· =b6) h0 H/\Row H b6 [.int .i64 (jG L e false),.int .i64 (jG L e true)] 1:=by
 have S:=Si A
 have W:b6<h0.n:=p.lt A
 have U:=a8 A C
 obtain⟨X,I,id,V⟩:=e
 have f:=fun(h:Hp) (g:Gr h0 h)=>trm1_ok g.ok (c.gr g) (g.load R) F
 unfold jE at f⊢
 simp only []at G f⊢
 refine ab (n:=31) (rs:=[.tmp 5]) rfl Tryz.e78 rfl rfl rfl (lbt rfl) ?_
 simp only [BS,Nat.reduceLT]
 refine ag (aZ (by intro x e;cases e)) S ?_;clear S;intro h a S J;simp only [ah]at S
 have k:=S.lds (b:=a) (o:=0) (n:=4) m0 (lbt rfl)
 simp only [Xg,Xf]at k
 simp only [BS,LB,Nat.reduceLT,Nat.reduceEqDiff,Fq,S.gr.load T,k]
 refine am (f _ S.gr) ?_
 intro h g
 replace S:=S.call g;clear g k
 rcases F with⟨t,z⟩|⟨t,z,m⟩
 . simp only []at t
   subst t
   have j:=p.gr S.gr
   have d:=St.init1 S.ok (o:=.row _ 1) j
   have Y: ¬a=b6:=by omega
   cases I
   . simp only [BS,LB,Nat.reduceLT,Nat.reduceEqDiff,Int.reduceToNat,Int.reduceLE,Int.reduceLT,zM,Xn,Fq,jy,S.ld (b:=a) (o:=0) m0 rfl,S.ld (b:=a) (o:=1) m0 rfl,S.ld (b:=a) (o:=2) m0 rfl]
     refine az (ay d (i:=0) rfl Tryz.t3.2.2.1 aX (Xa (lbt rfl)) ono) ?_
     clear d;rintro m ⟨d,D⟩;clear D
     simp only [XJ,XK]at d
     simp only [BS,LB,ae,Nat.reduceLT,Nat.reduceEqDiff]
     refine⟨S.gr.fr.trans d.fr (fun _ h=>.inl h),?_⟩
     simp [jG]
     exact d.row m0
   . simp only [BS,LB,Nat.reduceLT,Nat.reduceEqDiff,Int.reduceToNat,Int.reduceLE,Int.reduceLT,zM,Fq,jy,S.ld (b:=a) (o:=0) m0 rfl,S.ld (b:=a) (o:=1) m0 rfl,S.ld (b:=a) (o:=2) m0 rfl]
     refine az (ay d (i:=0) rfl Tryz.t3.2.2.1 aX (Xa (lbt rfl)) ono) ?_
     clear d;rintro m ⟨d,D⟩;clear D
     simp only [XJ,XK]at d
     simp only [BS,LB,ae,Nat.reduceLT,Nat.reduceEqDiff]
     refine⟨S.gr.fr.trans d.fr (fun _ h=>.inl h),?_⟩
     simp [jG]
     exact d.row m0
 . simp only []at t z m
   subst t m
   have K:=G rfl
   have j:=p.gr S.gr
   have M:=(S.row (b:=a) m0).lt S.ok
   have N:=j.lt S.ok
   have O:=Xq U S.gr.n
   have P: ¬(1:Int)=0:=by decide
   cases I
   . have l:=j.load1 (o:=0) rfl
     simp only [BS,LB,Nat.reduceLT,Nat.reduceEqDiff,zM,Xn,Fq,jy,P,S.ld (b:=a) (o:=0) m0 rfl]
     refine au (aC rfl) (q:=0) (ps:=[(3,9),(1,9)]) (by kernel_rfl) ?_
     simp only [BS,LB,cls,Nat.reduceLT,Nat.reduceEqDiff,Nat.reduceAdd,Nat.reducePow,Nat.reduceDiv,Nat.reduceMod,Nat.reduceLeDiff,Int.reduceToNat,Int.reduceLE,Int.reduceLT,zM,Xn,Fq,jy,l,S.gr.load C,S.ld (b:=a) (o:=1) m0 rfl,S.ld (b:=a) (o:=2) m0 rfl]
     refine cM (yb S.ok (c.gr S.gr) z (s:=false)) ?_
     rintro r m ⟨g,rfl⟩
     have u:=av g M
     have v:=av g N
     have w:=av g O
     replace S:=S.call g;clear g
     simp only [BS,LB,cls,ae,Nat.reduceLT,Nat.reduceEqDiff,Nat.reduceAdd,Nat.reducePow,Nat.reduceDiv,Nat.reduceMod,Nat.reduceLeDiff,K]
     refine⟨by simp only [bg,bF,aW,bI,a9,ne_eq,not_false_eq_true,bN,ce,bA,bn,bQ,c8,aK,Nat.reduceLT,Nat.reduceEqDiff,reduceIte,Xb,ac,bJ,aN u,aI u,aN v,aI v,aN w,aI w],?_⟩
     exact⟨S.fr.mono (fun _ h=>h.elim),by simp [jG];exact p.gr S.gr⟩
   . have l:=j.load1 (o:=1) rfl
     simp only [BS,LB,Nat.reduceLT,Nat.reduceEqDiff,zM,Fq,jy,P,S.ld (b:=a) (o:=0) m0 rfl]
     refine au (aC rfl) (q:=0) (ps:=[(3,9),(1,9)]) (by kernel_rfl) ?_
     simp only [BS,LB,cls,Nat.reduceLT,Nat.reduceEqDiff,Nat.reduceAdd,Nat.reducePow,Nat.reduceDiv,Nat.reduceMod,Nat.reduceLeDiff,Int.reduceToNat,Int.reduceLE,Int.reduceLT,zM,Fq,jy,l,S.gr.load C,S.ld (b:=a) (o:=1) m0 rfl,S.ld (b:=a) (o:=2) m0 rfl]
     refine cM (yb S.ok (c.gr S.gr) z (s:=true)) ?_
     rintro r m ⟨g,rfl⟩
     have u:=av g M
     have v:=av g N
     have w:=av g O
     replace S:=S.call g;clear g
     simp only [BS,LB,cls,ae,Nat.reduceLT,Nat.reduceEqDiff,Nat.reduceAdd,Nat.reducePow,Nat.reduceDiv,Nat.reduceMod,Nat.reduceLeDiff,K]
     refine⟨by simp only [bg,bF,aW,bI,a9,ne_eq,not_false_eq_true,bN,ce,bA,bn,bQ,c8,aK,Nat.reduceLT,Nat.reduceEqDiff,reduceIte,Xb,ac,bJ,aN u,aI u,aN v,aI v,aN w,aI w],?_⟩
     exact⟨S.fr.mono (fun _ h=>h.elim),by simp [jG];exact p.gr S.gr⟩
def qN(A:List Arc)(xs:List Ev2):Prop:= ∀i,(a:i<xs.length)->xs[i].kind=1->(xs.take i).foldl jG (fun _=> -1) xs[i].side=((fsB xs[i].side (A.getD xs[i].id default):Nat):Int)
theorem two_of{a b:Value}:jV zL 150 [(0,.int .i64 (-1)),(1,.int .i64 (-1))]=some (.agg ⟨[.int .i64 (-1),.int .i64 (-1)]⟩):=rfl
theorem yc{h0:Hp}(z:h0.t.Sized h0.n){p A:Nat}{a:Gra}(c:aS h0 A (ptrTo p) a){v:Value}{xs:List Ev2}(q:ar h0 4 jE v xs)(B:xs.length<1000000)(C: ∀x∈xs,OkEv a.nodes a.arcs.length x)(D:qN a.arcs xs):
 aM zL 30 [ptrTo p,v] h0 (.bool true):=by
 have S:=Si z
 have E:=q.fl
 refine ab (n:=16) (rs:=[.tmp 4]) rfl Tryz.e30 rfl rfl rfl (lbt rfl) ?_
 simp only [BS,Nat.reduceLT]
 refine ag (bC (by exact cq)) S ?_;clear S;intro h d S s
 simp only [BS,LB,Nat.reduceLT,Nat.reduceEqDiff,FT,S.ld (b:=d) (o:=0) m0 rfl]
 refine step_ret (yI S.ok cq) ?_
 rintro r h ⟨g,F,rfl,G⟩
 have J:=(S.row (b:=d) m0).lt S.ok
 have H:=g.load (S.ld (b:=d) (o:=0) m0 rfl)
 have f:=(S.call g).gr
 have j:=g.ok
 clear S
 rename Hp=>hM
 have S:=Si j
 simp only [BS,FT]
 refine ag aw S ?_;clear S;intro h t S u
 simp only [BS,LB,Nat.reduceLT,Nat.reduceEqDiff]
 refine az (ay S (i:=0) rfl ?_ ?_ ?_ ono) ?_
 . exact(by simp only [FT])
 . exact(by exact fQ)
 . exact Xa (lbt rfl)
 clear S;rintro h ⟨S,k⟩;clear k;simp only [LC,ah,lay,Xf,Xg,Nat.reduceAdd]at S
 simp only [BS,LB,FT,two_of]
 refine ag aw S ?_;clear S;intro h w S y
 simp only [BS,LB,Nat.reduceLT,Nat.reduceEqDiff]
 refine az (S.store (i:=0) rfl Tryz.t150.2.2.1 (by intro x e;cases e) rfl rfl (lbt rfl) ono) ?_
 clear S;rintro h ⟨S,k⟩;clear k
 simp only [LC,ah,lay,Xf,Xg,Nat.reduceAdd]at S
 simp only [BS,LB,Nat.reduceLT,Nat.reduceEqDiff]
 refine step_ret (su E B (fun i h=>St NoM hM h [(w,.row [.int .i64 ((xs.take i).foldl jG (fun _=> -1) false),.int .i64 ((xs.take i).foldl jG (fun _=> -1) true)] 1),(t,.row [.func (.func 133) #[] #[ptrTo F]] 1)] []) (fun i h S=>q.gr (f.trans S.gr)) ?_ S) ?_
 . intro i h l S
   refine(heads1_ok S.ok (c.gr (f.trans S.gr)) (S.gr.load G) (S.ld (b:=t) (o:=0) m1 rfl) (S.gr.load H) (S.row (b:=w) m0) (C _ (Xl l)) (D i l)).mono ?_
   rintro r K ⟨rfl,m,I⟩
   refine⟨rfl,?_⟩
   rw [Xm l,XE]
   exact S.call1 (i:=0) (o':=.row _ 1) rfl m I
 . rintro r h ⟨rfl,S⟩
   simp only [BS,LB,ae,Nat.reduceLT,Nat.reduceEqDiff]
   exact f.trans S.gr
end Go.Ab
end
section
namespace Go.Ab
section
variable{A:List Arc}{N:Nat}{al:Nat->Bool}{pi:Nat->Int}{σ:Bi}{rt:Bool->Nat}
structure KeB(b:Bool)(σ τ:Bi):Prop where
 O:(τ.sd b).O=(σ.sd b).O
 L: ∀v∈(σ.sd b).O,(τ.sd b).L v=(σ.sd b).L v/\(τ.sd b).P v=(σ.sd b).P v
 ot:τ.sd (!b)=σ.sd (!b)
theorem KeB.refl{b:Bool}:KeB b σ σ:=⟨rfl,fun _ _=>⟨rfl,rfl⟩,rfl⟩
theorem KeB.trans{b:Bool}{c d:Bi}(h:KeB b σ c)(g:KeB b c d):KeB b σ d:=
 ⟨g.O.trans h.O,fun v a=>⟨(g.L v (h.O▸a)).1.trans (h.L v a).1,(g.L v (h.O▸a)).2.trans (h.L v a).2⟩,g.ot.trans h.ot⟩
theorem xp{b:Bool}{v lab:Nat}{p:List Nat}:KeB b σ (ji pi b σ v lab p):=by
 unfold ji
 split
 . exact .refl
 . rename_i a
   simp only [not_or,Decidable.not_not]at a
   refine⟨?_,fun u c=>?_,?_⟩
   . rw [py.1]
     show(fS σ.sd b _ b).O=_
     rw [jM];rfl
   . rw [py.1]
     show(fS σ.sd b _ b).L u=_/\(fS σ.sd b _ b).P u=_
     rw [jM]
     have e:u≠v:=fun e=>a.1 (e▸c)
     exact⟨if_neg e,if_neg e⟩
   . rw [py.1]
     exact Ax
theorem evB_I{e:Ev2}(h:BiI A N rt al pi σ):BiI A N rt al pi (evB σ e):=⟨h.sv,h.dm,h.le⟩
def tF(σ:Bi)(b:Bool)(v m:Nat):Prop:=v∈(σ.sd b).O/\(σ.sd b).L v=some m/\m+cF<=(σ.sd b).O.length*cF/\((σ.sd b).P v).length+1<=(σ.sd b).O.length
theorem tF.ke{b:Bool}{c:Bi}{v m:Nat}(r:tF σ b v m)(k:KeB b σ c):tF c b v m:=by
 obtain⟨a,d,e,f⟩:=r
 exact⟨by rw [k.O];exact a,by rw [(k.L v a).1];exact d,by rw [k.O];exact e,by rw [k.O,(k.L v a).2];exact f⟩
theorem scan1B_I{b:Bool}{v m a:Nat}(j:N<=12)(k: ∀a∈A,a.s<N/\a.t<N/\a.w<=cF)(h:BiI A N rt al pi σ)(r:tF σ b v m)(l:a<A.length)(d:fsB b (A.getD a default)=v):
 BiI A N rt al pi (lM A al pi b v σ a)/\KeB b σ (lM A al pi b v σ a):=by
 unfold lM
 split
 . rename_i e
   obtain⟨n,i,s,o⟩:=r
   have q:A.getD a default∈A:=by grind
   obtain⟨t,u,w⟩:=k _ q
   have c:labB σ b v=m:=by unfold labB;rw [i];rfl
   have f:ftB b (A.getD a default)<N:=by unfold ftB;grind
   have g:=xp (pi:=pi) (σ:=evB σ ⟨1,b,a,0⟩) (b:=b) (v:=ftB b (A.getD a default)) (lab:=labB σ b v+(A.getD a default).w) (p:=a::(σ.sd b).P v)
   refine⟨(evB_I h).reach j f ?_ ?_ (.inr ⟨a,m,l,e,rfl,?_,?_,?_,?_⟩),⟨g.O,g.L,g.ot⟩⟩
   . show labB σ b v+_<=(σ.sd b).O.length*cF
     omega
   . show((σ.sd b).P v).length+1<=(σ.sd b).O.length
     exact o
   . rw [d];exact n
   . rw [d];rfl
   . rw [d];exact i
   . rw [c]
 . exact⟨h,.refl⟩
def InB(A:List Arc)(al:Nat->Bool)(pi:Nat->Int)(a:Nat):Prop:=al a=true/\OpB pi (A.getD a default).s/\OpB pi (A.getD a default).t
instance (a:Nat):Decidable (InB A al pi a):=by unfold InB;infer_instance
def hB(A:List Arc)(al:Nat->Bool)(pi:Nat->Int)(b:Bool):List Arc:=((Xh A.length).filter fun a=>decide (InB A al pi a)).map fun a=>⟨fsB b (A.getD a default),ftB b (A.getD a default),(A.getD a default).w⟩
theorem mem_hB{b:Bool}{a:Arc}:a∈hB A al pi b↔ ∃i,i<A.length/\InB A al pi i/\(⟨fsB b (A.getD i default),ftB b (A.getD i default),(A.getD i default).w⟩:Arc)=a:=by
 unfold hB
 grind
def FeasB(A:List Arc)(al:Nat->Bool)(pi:Nat->Int):Prop:= ∀i,i<A.length->InB A al pi i->pi (A.getD i default).s<=2*(A.getD i default).w+pi (A.getD i default).t
theorem FeasB.q(h:FeasB A al pi){i:Nat}(a:i<A.length)(c:InB A al pi i)(b:Bool):qB pi b (fsB b (A.getD i default))<=2*(A.getD i default).w+qB pi b (ftB b (A.getD i default)):=by
 have:=h i a c
 cases b
 . exact this
 . show-pi (A.getD i default).t<=2*((A.getD i default).w:Int)+ -pi (A.getD i default).s
   omega
structure FeB(A:List Arc)(r:Nat)(al:Nat->Bool)(pi:Nat->Int)(b:Bool)(x:Sd)(ex:Nat->Prop):Prop where
 opt: ∀v∈x.O,∀l w,x.L v=some l->Wk (hB A al pi b) r v w->l<=w
 fr: ∀a,a<A.length->InB A al pi a->fsB b (A.getD a default)∈x.O-> ¬ex a-> ∃l m,x.L (fsB b (A.getD a default))=some m/\x.L (ftB b (A.getD a default))=some l/\l<=m+(A.getD a default).w
 st:x.L r=some 0
theorem SvB.wk{r:Nat}{b:Bool}{x:Sd}(h:SvB A N r al pi b x): ∀(n:Nat) {v l:Nat},(x.P v).length<=n->x.L v=some l->Wk (hB A al pi b) r v l:=by
 intro n
 induction n with
 | zero=>
   intro v l e c
   rcases h.path v l c with⟨rfl,_,rfl⟩|⟨a,m,_,_,_,_,f,_⟩
   . exact .nil
   grind
 | succ n k=>
   intro v l e c
   rcases h.path v l c with⟨rfl,_,rfl⟩|⟨a,m,o,p,g,u,f,i,q⟩
   . exact .nil
   . rw [f]at e
     have s:=k (v:=fsB b (A.getD a default)) (l:=m) (by grind) i
     have j:=(h.lab _ _ c).2.1
     have t:=(h.lab _ _ i).2.1
     have d:InB A al pi a:=by
      refine⟨p,?_,?_⟩<;>cases b<;>first|exact t|(rw [<-g]at j;exact j)
     exact s.snoc' (mem_hB.2 ⟨a,o,d,rfl⟩) rfl g q
theorem FeB.front{r:Nat}{b:Bool}{x:Sd}(f:FeB A r al pi b x (fun _=>False))(h:SvB A N r al pi b x)(p:FeasB A al pi){v w:Nat}(k:Wk (hB A al pi b) r v w):
 (v∈x.O/\ ∃l,x.L v=some l/\l<=w)\/ ∃y j,x.K y=some j/\j<=2*(w:Int)+qB pi b v:=by
 induction k with
 | nil =>
   rcases(h.lab r 0 f.st).2.2.2.2 with c|c
   . exact .inl ⟨c,0,f.st,Xz _⟩
   . cases g:x.K r with
     |none=>grind
     | some j=>
       obtain⟨_,l,n,q⟩:=h.op r j g
       rw [f.st]at n;grind
 | @snoc w a s E t=>
   obtain⟨i,o,d,rfl⟩:=mem_hB.1 s
   have F:=p.q o d b
   rcases t with⟨u,z,B,hle⟩|⟨y,j,c,G⟩
   . obtain⟨l,m,H,n,C⟩:=f.fr i o d u (fun h=>h)
     have e:m=z:=by grind
     subst e
     rcases(h.lab _ l n).2.2.2.2 with c|c
     . grind
     . cases g:x.K (ftB b (A.getD i default))with
       |none=>grind
       | some j=>
         obtain⟨_,I,D,q⟩:=h.op _ j g
         grind
   grind
theorem FeB.key{r:Nat}{b:Bool}{x:Sd}(f:FeB A r al pi b x (fun _=>False))(h:SvB A N r al pi b x)(c:FeasB A al pi){v:Nat}{k:Int}(d:Pops x.K v k){u w:Nat}(g:u∉x.O)(e:Wk (hB A al pi b) r u w):k<=2*(w:Int)+qB pi b u:=by
 rcases f.front h c e with a|⟨y,j,a,i⟩
 . grind
 . have:=d.2 y j a
   omega
end
end Go.Ab

end
section
namespace Go.Ab
section
variable{A:List Arc}{N:Nat}{al:Nat->Bool}{pi:Nat->Int}{σ:Bi}{rt:Bool->Nat}
theorem clo_b{b:Bool}{v:Nat}:(closeB σ b v).sd b=⟨cK (σ.sd b).K v none,(σ.sd b).L,(σ.sd b).P,(σ.sd b).O++[v]⟩:=jM
theorem FeB.close{r b v}{k:Int}(f:FeB A r al pi b (σ.sd b) (fun _=>False))(h:SvB A N r al pi b (σ.sd b))(n:FeasB A al pi)(i:Pops (σ.sd b).K v k):FeB A r al pi b ((closeB σ b v).sd b) (fun a=>fsB b (A.getD a default)=v):=by
 obtain⟨o,m,t,x⟩:=h.op v k i.1
 rw [clo_b]
 refine⟨fun u c l w p j=>?_,fun a q g d y=>?_,f.st⟩
 . rcases List.mem_append.1 c with c|c
   . exact f.opt u c l w p j
   . have e:=List.mem_singleton.1 c
     subst e
     have s:l=m:=by grind
     subst s
     have:=f.key h n i o j
     omega
 . rcases List.mem_append.1 d with d|d
   . exact f.fr a q g d (fun h=>h)
   grind
theorem reach_L{b:Bool}{v lab:Nat}{p:List Nat}:(∀u,u≠v->((ji pi b σ v lab p).sd b).L u=(σ.sd b).L u)/\(v∉(σ.sd b).O->OpB pi v-> ∃l,((ji pi b σ v lab p).sd b).L v=some l/\l<=lab/\ ∀l',(σ.sd b).L v=some l'->l<=l')/\
 ((((ji pi b σ v lab p).sd b).L v=(σ.sd b).L v)\/(∀l',(σ.sd b).L v=some l'->lab<l')):=by
 unfold ji
 split
 . rename_i a
   refine⟨fun _ _=>rfl,fun i j=>?_,.inl rfl⟩
   rcases a with h|h|h
   . grind
   . grind
   . cases d:(σ.sd b).L v with
     |none=>rw [d]at h;cases h
     |some l=>rw [d]at h;exact⟨l,rfl,of_decide_eq_true h,fun l' c=>by grind⟩
 . rename_i a
   simp only [not_or,Decidable.not_not]at a
   have e:(rl ((σ.sd (!b)).L v) ⟨fS σ.sd b (fm pi (σ.sd b) b v lab p),σ.ev,σ.dist,σ.meet⟩ v lab).sd b=fm pi (σ.sd b) b v lab p:=by
    rw [py.1];exact jM
   have f: ∀l',(σ.sd b).L v=some l'->lab<l':=fun l' c=>by
    simp_all[leO,decide_eq_true_eq]
   rw [e]
   exact⟨fun u g=>if_neg g,fun _ _=>⟨lab,if_pos rfl,Xz _,fun l' c=>Nat.le_of_lt (f l' c)⟩,.inr f⟩
theorem FeB.scan1 {r v m a:Nat} {b:Bool} {z ex':Nat->Prop} (f:FeB A r al pi b (σ.sd b) z) (h:SvB A N r al pi b (σ.sd b)) (I:tF σ b v m) (J:a<A.length) (K:fsB b (A.getD a default)=v) (B: ∀c,¬ex' c-> ¬z c\/c=a):
 FeB A r al pi b ((lM A al pi b v σ a).sd b) ex':=by
 obtain⟨R,C,_⟩:=I
 have D:labB σ b v=m:=by unfold labB;rw [C];rfl
 unfold lM
 split
 . rename_i k
   have n:(evB σ ⟨1,b,a,0⟩).sd b=σ.sd b:=rfl
   obtain⟨E,L,j⟩:=reach_L (pi:=pi) (σ:=evB σ ⟨1,b,a,0⟩) (b:=b) (v:=ftB b (A.getD a default)) (lab:=labB σ b v+(A.getD a default).w) (p:=a::(σ.sd b).P v)
   have t:=xp (pi:=pi) (σ:=evB σ ⟨1,b,a,0⟩) (b:=b) (v:=ftB b (A.getD a default)) (lab:=labB σ b v+(A.getD a default).w) (p:=a::(σ.sd b).P v)
   generalize ji pi b (evB σ ⟨1,b,a,0⟩) (ftB b (A.getD a default)) (labB σ b v+(A.getD a default).w) (a::(σ.sd b).P v)=F at E L j t
   have G:(F.sd b).O=(σ.sd b).O:=t.O
   have H: ∀u∈(σ.sd b).O,(F.sd b).L u=(σ.sd b).L u:=fun u o=>(t.L u o).1
   refine⟨fun u o l w s M=>?_,fun c x d q g=>?_,?_⟩
   . rw [G]at o
     rw [H u o]at s
     exact f.opt u o l w s M
   . rw [G]at q
     rw [H _ q]
     rcases B c g with i|e
     . obtain⟨l,S,T,O,e3⟩:=f.fr c x d q i
       by_cases e:ftB b (A.getD c default)=ftB b (A.getD a default)
       . by_cases y:ftB b (A.getD a default)∈(σ.sd b).O
         . grind
         . have P:=(h.lab _ l O).2.1
           grind
       grind
     . subst e
       have P:OpB pi (ftB b (A.getD c default)):=by
        cases b with
        |false=>exact d.2.2
        |true=>exact d.2.1
       by_cases y:ftB b (A.getD c default)∈(σ.sd b).O
       . obtain⟨_,Q⟩:=h.lt _ y
         cases s:(σ.sd b).L (ftB b (A.getD c default))with
         |none=>grind
         | some l=>
           refine⟨l,m,by grind,by grind,f.opt _ y l _ s ?_⟩
           exact(h.wk _ (Xz _) C).snoc' (mem_hB.2 ⟨c,J,d,rfl⟩) K rfl rfl
       grind
   . by_cases e:r=ftB b (A.getD a default)
     . rcases j with j|j
       . rw [e,j,n,<-e];exact f.st
       . have:=j 0 (by rw [n,<-e];exact f.st)
         omega
     . rw [E r e];exact f.st
 . rename_i k
   refine⟨f.opt,fun c x d q g=>?_,f.st⟩
   rcases B c g with i|e
   . exact f.fr c x d q i
   . subst e;exact absurd d.1 k
theorem FeB.scanL{r v m:Nat}{b:Bool}(j:N<=12)(k: ∀a∈A,a.s<N/\a.t<N/\a.w<=cF)(n:r=rt b): ∀(l:List Nat) {σ:Bi},FeB A r al pi b (σ.sd b) (· ∈l)->BiI A N rt al pi σ->tF σ b v m->(∀a∈l,a<A.length/\fsB b (A.getD a default)=v)->
 FeB A r al pi b ((l.foldl (lM A al pi b v) σ).sd b) (fun _=>False)
 | [],_,f,_,_,_=>⟨f.opt,fun a d g q _=>f.fr a d g q (by simp),f.st⟩
 | a::l,σ,f,h,i,o=>by
   obtain⟨d,p⟩:=o a Xj
   have s:=FeB.scan1 (ex':=(· ∈l)) f (by rw [n];exact h.sv b) i d p (fun c t=>by
    by_cases e:c=a
    . exact .inr e
    . exact .inl (fun u=>(List.mem_cons.1 u).elim e t))
   obtain⟨w,y⟩:=scan1B_I j k h i d p
   exact FeB.scanL j k n l s w (i.ke y) (fun x z=>o x (Xd _ z))
end
end Go.Ab

end
section
namespace Go.Ab
section
variable{A:List Arc}{N s t:Nat}{al:Nat->Bool}{pi:Nat->Int}{σ:Bi}
def EvP(A:List Arc)(a:Bool->Nat)(al:Nat->Bool)(pi:Nat->Int)(l:List Ev2):Prop:= ∀e∈l,e.kind=0->Wk (hB A al pi e.side) (a e.side) e.id e.lab/\ ∀w,Wk (hB A al pi e.side) (a e.side) e.id w->e.lab<=w
theorem reachB_ev{b:Bool}{v lab:Nat}{p:List Nat}:(ji pi b σ v lab p).ev=σ.ev:=by
 grind[ji,py]
theorem EvP.scan1{d:Bool->Nat}{b:Bool}{v a:Nat}(h:EvP A d al pi σ.ev):EvP A d al pi (lM A al pi b v σ a).ev:=by
 unfold lM
 split
 . rw [reachB_ev]
   intro e c f
   rcases List.mem_append.1 c with c|c
   . exact h e c f
   grind
 . exact h
theorem EvP.scanL{a:Bool->Nat}{b:Bool}{v:Nat}: ∀(l:List Nat) {σ:Bi},EvP A a al pi σ.ev->EvP A a al pi (l.foldl (lM A al pi b v) σ).ev
 | [],_,h=>h
 |_::l,_,h=>EvP.scanL l h.scan1
end
end Go.Ab

end
section
namespace Go.Ab
structure EvO(A:List Arc)(N:Nat)(O:Bool->List Nat)(ev:List Ev2):Prop where
 ok: ∀e∈ev,OkEv N A.length e
 nd:ev.Pairwise fun a b=> ¬mW b a
 mem: ∀e∈ev,(if e.kind=0 then e.id else fsB e.side (A.getD e.id default))∈O e.side
 hd:qN A ev
section
variable{A:List Arc}{N:Nat}{O O':Bool->List Nat}{ev:List Ev2}
theorem EvO.nil:EvO A N O []:=⟨by simp,.nil,by simp,fun i a=>by simp at a⟩
theorem heads_app{e:Ev2}(h:qN A ev)(d:e.kind=1->ev.foldl jG (fun _=> -1) e.side=((fsB e.side (A.getD e.id default):Nat):Int)):qN A (ev++[e]):=by
 intro i b a
 rw [List.length_append,List.length_singleton]at b
 by_cases hlt:i<ev.length
 . have c:(ev++[e])[i]=ev[i]:=XQ hlt
   rw [c]at a⊢
   rw [XH (by omega)]
   exact h i hlt a
 grind
theorem EvO.add{e:Ev2}(h:EvO A N O ev)(g:OkEv N A.length e)(j: ∀x∈ev,¬mW e x)(d: ∀i x,x∈O i->x∈O' i)(k:(if e.kind=0 then e.id else fsB e.side (A.getD e.id default))∈O' e.side)
 (f:e.kind=1->ev.foldl jG (fun _=> -1) e.side=((fsB e.side (A.getD e.id default):Nat):Int)):EvO A N O' (ev++[e]):=by
 refine⟨fun x c=>?_,List.pairwise_append.2 ⟨h.nd,List.pairwise_singleton _ _,fun a l b m=>?_⟩,fun x c=>?_,heads_app h.hd f⟩
 . rcases List.mem_append.1 c with c|c
   . exact h.ok x c
   grind
 . grind
 . rcases List.mem_append.1 c with c|c
   . exact d _ _ (h.mem x c)
   grind
theorem EvO.pop{i:Bool}{v lab:Nat}(h:EvO A N O ev)(a:v<N)(f:v∉O i)(b: ∀i x,x∈O i->x∈O' i)(c:v∈O' i):EvO A N O' (ev++[⟨0,i,v,lab⟩]):=by
 refine h.add (.inl ⟨rfl,a⟩) (fun x d e=>?_) b c (fun h=>by cases h)
 have:=h.mem x d
 obtain⟨g,j,k⟩:=e
 grind
def jJ(al:Nat->Bool)(i:Bool)(l:List Nat):List Ev2:=(l.filter al).map fun a=>⟨1,i,a,0⟩
theorem EvO.scan{al:Nat->Bool}{i:Bool}{v:Nat}(n:v∈O i): ∀(l:List Nat) {ev:List Ev2},EvO A N O ev->l.Nodup->(∀a∈l,a<A.length/\fsB i (A.getD a default)=v)->ev.foldl jG (fun _=> -1) i=(v:Int)->
 (∀e∈ev,e.kind=1->e.side=i->e.id∉l)->EvO A N O (ev++jJ al i l)
 | [],ev,h,_,_,_,_=>by unfold jJ;simpa using h
 | a ::l,ev,h,t,o,p,q=>by
   have c:=List.nodup_cons.1 t
   have d:=o a Xj
   cases j:al a with
   | false=>
     have:jJ al i (a::l)=jJ al i l:=by unfold jJ;rw [XT (by simp [j])]
     rw [this]
     exact EvO.scan n l h c.2 (fun b r=>o b (Xd _ r)) p (fun e f k m g=>q e f k m (Xd _ g))
   | true=>
     have:ev++jJ al i (a::l)=(ev++[⟨1,i,a,0⟩])++jJ al i l:=by unfold jJ;rw [XU j,Xs,List.append_assoc];rfl
     rw [this]
     refine EvO.scan n l ?_ c.2 (fun b r=>o b (Xd _ r)) ?_ ?_
     . refine h.add (.inr ⟨rfl,d.1,rfl⟩) (fun x s u=>?_) (fun _ _ h=>h) ?_ (fun _=>?_)
       . obtain⟨k,m,g⟩:=u
         exact q x s k.symm m.symm (by rw [<-g];exact Xj)
       . show(if 1=0 then _ else _)∈_
         rw [if_neg (by decide),d.2];exact n
       . simp only [];rw [p,d.2]
     . rw [XE,XX,List.foldl_nil]
       unfold jG
       rw [if_neg (by simp)];exact p
     . intro e f k m g
       rcases List.mem_append.1 f with f|f
       . exact q e f k m (Xd _ g)
       . rw [List.mem_singleton.1 f]at g;exact c.1 g
theorem EvO.step{al:Nat->Bool}{i:Bool}{v lab:Nat}{l:List Nat}(h:EvO A N O ev)(d:v<N)(f:v∉O i)(g: ∀i x,x∈O i->x∈O' i)(c:v∈O' i)(j:l.Nodup)(k: ∀a∈l,a<A.length/\fsB i (A.getD a default)=v):
 EvO A N O' (ev++[⟨0,i,v,lab⟩]++jJ al i l):=by
 refine EvO.scan c l (h.pop d f g c) j k ?_ ?_
 . rw [XE,XX,List.foldl_nil]
   unfold jG
   grind
 . intro e b m n o
   rcases List.mem_append.1 b with b|b
   . have:=h.mem e b
     grind
   grind
end
theorem BO(A:List Arc)(f:Arc->Nat)(j v:Nat):(outs A f j v).Nodup:=by unfold outs;exact List.nodup_range.filter _

def ow(e:Ev):Ev2:=⟨e.kind,false,e.id,e.lab⟩
section
variable{A:List Arc}{N s:Nat}{al:Nat->Bool}{pi:Nat->Int}{σ:SS}
theorem nK{v lab:Nat}{p:List Nat}:(dN pi σ v lab p).ev=σ.ev:=by
 unfold dN;split<;>rfl
theorem yr{v:Nat}: ∀(l:List Nat) {σ:SS},(l.foldl (scan1 A al pi v) σ).ev.map ow=σ.ev.map ow++jJ al false l
 | [],σ=>by unfold jJ;simp
 | a::l,σ=>by
   rw [XX,yr l]
   unfold scan1
   cases b:al a with
   |false=>simp_all[if_neg,Bool.false_ne_true,jJ,XT]
   |true=>rw [if_pos rfl,nK];unfold jJ evS;rw [XU b,Xs,XA,List.append_assoc];rfl
def oneS(O:List Nat):Bool->List Nat:=fun i=>if i=true then []else O
theorem ends_EvS{to:Nat}{r:Fd}(f: ∀a∈A,a.t<N/\a.w<=cF)(g:Ends A al pi to σ r):Sv A N s al pi σ->EvO A N (oneS σ.O) (σ.ev.map ow)-> ∃O,EvO A N O (r.ev.map ow):=by
 induction g with
 |none _=>grind
 | @hit σ k b=>
   intro I h
   obtain⟨c,j,_⟩:=I.op _ _ b.1
   refine⟨oneS (σ.O++[to]),?_⟩
   show EvO A N _ ((σ.ev++[_]).map ow)
   rw [XA]
   refine h.pop c (by simp_all[oneS,if_neg]) (fun i x d=>?_) (by simp_all[oneS,if_neg])
   unfold oneS at d⊢
   grind
 | @step σ v k r b l _ m=>
   intro I h
   obtain⟨n,o⟩:=I.next f b.1
   obtain⟨c,j,_⟩:=I.op _ _ b.1
   refine m n ?_
   have e:(lz A al pi v (cP σ v)).ev.map ow=σ.ev.map ow++[⟨0,false,v,σ.L v⟩]++jJ al false (outs A Arc.s A.length v):=by unfold lz;rw [yr];simp [cP,ow]
   rw [e,show(lz A al pi v (cP σ v)).O=σ.O++[v]from o.O]
   refine h.step c (by simp_all[oneS,if_neg]) (fun i x d=>?_) (by simp_all[oneS,if_neg]) (BO _ _ _ _) (fun a p=>gQ.1 p)
   unfold oneS at d⊢
   grind
theorem seek_EvO{to:Nat}{r:Fd}(b: ∀a∈A,a.t<N/\a.w<=cF)(c:s<N)(d:Ends A al pi to (iF pi s) r): ∃O,EvO A N O (r.ev.map ow):=
 ends_EvS b d (qF c) (by unfold iF;rw [nK];exact EvO.nil)
end
end Go.Ab

end
section
namespace Go.Ab
open Go.Proofs
structure EvK(γ:Gra)(xs:List Ev2):Prop where
 len:xs.length<1000000
 ok: ∀x∈xs,OkEv γ.nodes γ.arcs.length x
 nd:xs.Pairwise fun a b=> ¬mW b a
 hd:qN γ.arcs xs
theorem EvK.nil{a:Gra}:EvK a []:=⟨by simp,by simp,.nil,fun i b=>by simp at b⟩
theorem seek_evK{c:Gra}(b:Good c){s to:Nat}(d:s<c.nodes){al:Nat->Bool}{pi:Nat->Int}{r:Fd}(e:Ends c.arcs al pi to (iF pi s) r):EvK c (r.ev.map ow)/\r.arcs.length<=12:=by
 have i:=b.n2
 have f: ∀a∈c.arcs,a.t<c.nodes/\a.w<=cF:=fun a j=>(b.arcs a j).2
 obtain⟨O,h⟩:=seek_EvO f d e
 have g:=b.many
 have k:=ends_len f i (by omega) e (qF d) (by unfold iF;rw [nK];exact Xo _)
 exact⟨⟨by rw [Xr];omega,h.ok,h.nd,h.hd⟩,k.1⟩
theorem sl_toE2{h:Hp}{v:Value}{l:List Ev}(s:ar h 4 ie v l):ar h 4 jE v (l.map ow):=by
 rcases s with⟨a,b⟩|⟨b,o,p,c,d,e,f⟩
 . exact .inl ⟨a,by rw [b];rfl⟩
 . refine .inr ⟨b,o,p,c,by rw [Xr];exact d,by rw [Xr];exact e,?_⟩
   rw [Xr,f,List.flatMap_map]
   rfl
theorem seek_any{b:Gra}(c:Good b){s to:Nat}(d:s<b.nodes){al:Nat->Bool}{pi:Nat->Int}{r:Fd}(e:Ends b.arcs al pi to (iF pi s) r)(f:r.dist<FAR):kw b.arcs s r.arcs to r.dist:=
 ends_path (fun a g=>(c.arcs a g).2) e (qF d) f
end Go.Ab

end

/- Nets, cells, flags: what the functions do (part 4). -/
import Derived.Test.YtdpmdpbhjgaocaaGreatDoorNetC
open Go.Ab.Tryz renaming abEnv->xW,u40->yv,s46->yx,e3E->yB,s3->yH,e50->yP,u25->yZ,e2E->y5,a46->y6
open List renaming getD_eq_getElem?_getD->xX,range->xY,getElem?_eq_getElem->xZ,length_take->yi,take->yl,drop->ym,take_succ_eq_append_getElem->yn,getElem_mem->yp,drop_zero->yr,flatMap_eq_foldl->yt,take_length->yw,mem_append_right->yy,map_congr_left->yz,take_succ_cons->yA,all_cons->yC,getElem?_map->yE,length_range->yF,getElem?_append_left->yG,all_nil->yI,take_zero->yN,mem_cons_of_mem->yO,map_cons->yS,mem_cons->yT,map_eq_flatMap->yU,getElem_of_mem->yV,map_nil->yW,map_map->yX,length->yY
open Nat renaming zero_le->ya,le_trans->yc,lt_of_lt_of_le->yd,mul_one->yg,lt_of_succ_le->yh,zero_mul->yk,zero_add->yo,one_mul->yq,le_refl->yu,min_eq_left->yJ
open Bool renaming and_true->yb
open Int renaming eq_ofNat_of_zero_le->ye,toNat_natCast->yf,cast_ofNat_Int->yj,tmod_eq_emod_of_nonneg->yD,le_refl->yM,le_sub_one_of_lt->yQ,lt_of_le_sub_one->yR
open Option renaming map_some->yK,map_none->yL
set_option maxHeartbeats 4000000
set_option linter.defProp false
set_option linter.unusedVariables false
set_option linter.unusedSimpArgs false
section
namespace Go.Ab
open Go.Proofs
set_option maxRecDepth 10000
open Tryz in
def Tryz.FFtb183:=aj a1<|aj s1<|aj z1<|aj n1<|aj u2<|aj a2<|aj s2<|aj z2<|aj i2<|aj u3<|aj a3<|aj s3<|aj z3<|aj i3<|aj u4<|aj a4<|aj s4<|aj z4<|aj n4<|aj u153<|aj a153<|aj s153<|aj z153<|n153
open Tryz in
def Tryz.FFtb1127:=aj a1<|aj s1<|aj z1<|aj n1<|aj u2<|aj a2<|aj s2<|aj z2<|aj i2<|aj u3<|aj a3<|aj s3<|aj z3<|aj i3<|aj u4<|aj a4<|aj s4<|aj z4<|aj n4<|aj u5<|aj a5<|aj s5<|aj z5<|aj i5<|aj u6<|aj a6<|aj s6<|aj z6<|aj i6<|aj a7<|aj s7<|aj z7<|aj i7<|aj n7<|aj p7<|aj ff7<|aj d7<|aj u40<|aj a40<|aj s40<|aj z40<|aj q40<|aj n40<|aj a154<|aj s154<|aj z154<|n154
open Tryz in
def Tryz.FFtb136:=aj a1<|aj s1<|aj z1<|aj n1<|aj u2<|aj a2<|aj s2<|aj z2<|aj i2<|aj u3<|aj a3<|aj s3<|aj z3<|aj i3<|aj u4<|aj a4<|aj s4<|aj z4<|aj n4<|aj u40<|aj a40<|aj s40<|aj z40<|aj q40<|aj n40<|aj u153<|aj a153<|aj s153<|aj z153<|aj n153<|aj a154<|aj s154<|aj z154<|n154
theorem may1_ok{h0:Hp}(ok:h0.t.Sized h0.n){b5 b2 bm c N k:Nat}{x:Int}{es:List (Value×Value×Nat)}{f:Int->Option Value}(e5:h0.load b5 0 1=some [.map (some bm)])(e2:h0.load b2 0 1=some [.int .i64 N])(hm:h0.get bm=some (.map es c))(MI:c8 es c f)(hf:(f x).getD (.int .i64 0)=.int .i64 k)(hk:k<=1)(n5:b5≠bm)(n2:b2≠bm):
 Ret xW 83 [.int .i64 x,ptrTo b5,ptrTo b2] h0 fun r h'=>Mo (· =bm) h0 h'/\r=.bool (decide (x<0\/(N:Int)<=x\/k=1))/\ ∃es' c',h'.get bm=some (.map es' c')/\c8 es' c' (dl f x (some (.int .i64 (k+1:Nat)))):=by
 have S:=St.init1 ok (o:=.map es c) hm
 have lk:=pz (x:=x) Tryz.u153 Tryz.u3 (z:=.int .i64 0) (by kernel_rfl) hm MI
 rw [hf]at lk
 have w:au .i64 ((k:Int)+1)=((k+1:Nat):Int):=by rw [wrap64]<;>omega
 refine ac (n:=22) (rs:=[.tmp 4]) rfl Tryz.e83 rfl rfl rfl (lbt rfl) ?_
 simp only [BS,LB,Nat.reduceLT,Nat.reduceEqDiff,Tryz.FFtb183,e5,lk,w]
 refine az (S.mputI (i:=0) rfl Tryz.u153 Tryz.u3 MI _) ?_
 clear S;rintro h ⟨_,es',c',MI',S⟩
 simp only [LC]at S
 have e5':=S.old e5 n5
 have e2':=S.old e2 n2
 have hg:h.get bm=some (.map es' c'):=(S.own _ m0).2
 have lk2:=pz (x:=x) Tryz.u153 Tryz.u3 (z:=.int .i64 0) (by kernel_rfl) hg MI'
 rw [show dl f x (some (.int .i64 ((k+1:Nat):Int))) x=some (.int .i64 ((k+1:Nat):Int)) by unfold dl;rw [if_pos rfl],Option.getD_some]at lk2
 by_cases c1:x<0
 . simp only [BS,LB,ab,Nat.reduceLT,Nat.reduceEqDiff,c1]
   exact⟨S.fr,by simp [c1],es',c',hg,MI'⟩
 . by_cases c2:(N:Int)<=x
   . simp only [BS,LB,ab,Nat.reduceLT,Nat.reduceEqDiff,Tryz.FFtb183,e2',c1,c2]
     exact⟨S.fr,by simp [c2],es',c',hg,MI'⟩
   . by_cases c3:k=1
     . subst c3
       simp only [BS,LB,ab,Nat.reduceLT,Nat.reduceEqDiff,Nat.reduceAdd,Int.reduceLT,yj,Tryz.FFtb183,e5',e2',c1,c2,lk2]
       exact⟨S.fr,by simp,es',c',hg,MI'⟩
     . have k0:k=0:=by omega
       subst k0
       simp only [BS,LB,ab,Nat.reduceLT,Nat.reduceEqDiff,Int.reduceLT,yj,Tryz.FFtb183,e5',e2',c1,c2,lk2]
       exact⟨S.fr,by simp [c1,c2],es',c',hg,MI'⟩
def OkAt(N:Nat)(l:List Int)(i:Nat):Prop:=0<=l.getD i 0/\l.getD i 0<N/\l.getD i 0∉l.take i
theorem mayIdx_ok {h0:Hp} (ok:h0.t.Sized h0.n) {b5 b2 bm N:Nat} {v:Value} {l:List Int} (hv:aA h0 1 (encI .i64) v l) (hl:l.length<=1000) (e5:h0.load b5 0 1=some [.map (some bm)]) (e2:h0.load b2 0 1=some [.int .i64 N]) (hm:h0.get bm=some (.map [] 0)) (n5:b5≠bm) (n2:b2≠bm):
 Ret xW 127 [v,.func (.func 83) #[] #[ptrTo b5,ptrTo b2]] h0 fun r h'=>Mo (· =bm) h0 h'/\ ∃z,r=.int .i64 z/\(0<=z↔ ¬ ∀i,i<l.length->OkAt N l i):=by
 have hvb: ∀c,av v c-> ¬c=bm:=by
  rintro c hc rfl
  rcases hv with⟨rfl,_⟩|⟨b,o,s,c',rfl,_,h3⟩
  . exact hc.elim
  . have:b=c:=hc
    subst this
    simp [Hp.load,hm]at h3
 refine ac (n:=19) (rs:=[.tmp 4]) rfl Tryz.e127 rfl rfl rfl (lbt rfl) ?_
 simp only [BS,LB,Nat.reduceLT,Nat.reduceEqDiff,Tryz.FFtb1127,hv.lenq]
 refine aZ (fun(i:Nat) ρ h=>i<=l.length/\Mo (· =bm) h0 h/\(∃es c f,h.get bm=some (.map es c)/\c8 es c f/\ ∀x,f x=if x∈l.take i then some (.int .i64 1)else none)/\(∀j,j<i->OkAt N l j)/\ρ 0=v/\ρ 1=.func (.func 83) #[] #[ptrTo b5,ptrTo b2]/\ρ 7=.int .i64 l.length/\ρ 8=.int .i64 i) (fun i=>l.length-i) ?_ 0 _ _ ?_
 . intro i ih ρ h ⟨hi,mo,⟨es,c,f,hg,MI,hf⟩,hok,r0,r1,r7,r8⟩
   by_cases hlt:i<l.length
   . obtain ⟨q,o,hidx,hld⟩:=(hv.mo mo hvb).ix (kd:=.i64) (dJ .i64) hlt
     have w:au .i64 ((i:Int)+1)=((i+1:Nat):Int):=by rw [wrap64]<;>omega
     have ld: ∀{b:Nat} {x},b≠bm->h0.load b 0 1=some x->h.load b 0 1=some x:=fun hne e=>by
      have:=mo.get _ (bg mo.ok0 e) hne
      unfold Hp.load at e⊢
      rw [this];exact e
     have gd:l.getD i 0=l[i]:=by simp [xX,hlt]
     simp only [BS,LB,Nat.reduceLT,Nat.reduceEqDiff,Tryz.FFtb1127,r0,r1,r7,r8,aI,hlt,hidx,hld,encI]
     refine step_ret (may1_ok mo.ok (x:=l[i]) (N:=N) (k:=if l[i]∈l.take i then 1 else 0) (ld n5 e5) (ld n2 e2) hg MI (by rw [hf];split<;>rfl) (by split<;>omega) n5 n2) ?_
     rintro r h' ⟨f1,rfl,es',c',hg',MI'⟩
     have mo':=mo.trans f1 (fun _ h=>.inl h)
     by_cases hw:OkAt N l i
     . have e:decide (l[i]<0\/(N:Int)<=l[i]\/(if l[i]∈l.take i then 1 else 0)=1)=false:=by
        obtain⟨w1,w2,w3⟩:=hw
        rw [gd]at w1 w2 w3
        rw [if_neg w3]
        simp;omega
       rw [e]
       have nm:l[i]∉l.take i:=by have:=hw.2.2;rwa [gd]at this
       simp only [BS,LB,Nat.reduceLT,Nat.reduceEqDiff,r8,w]
       refine ih (i+1) _ _ (by omega) ⟨by omega,mo',⟨es',c',_,hg',MI',fun x=>?_⟩,fun j hj=>?_,by simp [aa,r0],by simp [aa,r1,ah],by simp [aa,r7],by simp [aa]⟩
       . have et:=yn hlt
         rw [if_neg nm]
         unfold dl
         by_cases ex:x=l[i]
         . rw [if_pos ex,if_pos (by rw [et];exact yy _ (List.mem_singleton.2 ex))];rfl
         . rw [if_neg ex,hf]
           have:x∈l.take (i+1)↔x∈l.take i:=by rw [et,List.mem_append,List.mem_singleton];exact⟨fun h=>h.resolve_right ex,.inl⟩
           simp only [this]
       . by_cases e2:j=i
         . subst e2;exact hw
         . exact hok j (by omega)
     . have e:decide (l[i]<0\/(N:Int)<=l[i]\/(if l[i]∈l.take i then 1 else 0)=1)=true:=by
        unfold OkAt at hw
        rw [gd]at hw
        simp only [decide_eq_true_eq]
        by_cases nm:l[i]∈l.take i
        . rw [if_pos nm];exact .inr (.inr rfl)
        . by_cases a1:l[i]<0
          . exact .inl a1
          . by_cases a2:(N:Int)<=l[i]
            . exact .inr (.inl a2)
            . exact absurd ⟨by omega,by omega,nm⟩ hw
       rw [e]
       simp only [BS,LB,ab,Nat.reduceLT,Nat.reduceEqDiff]
       exact⟨mo',_,rfl,by simp only [Int.natCast_nonneg,true_iff];exact fun h=>hw (h i hlt)⟩
   . simp only [BS,LB,ab,Nat.reduceLT,Nat.reduceEqDiff,r7,r8,aI,hlt]
     exact⟨mo,_,rfl,⟨fun h=>by omega,fun h=>absurd (fun j hj=>hok j (by omega)) h⟩⟩
 . exact⟨ya _,Mo.refl ok,⟨[],0,fun _=>none,hm,qq,fun x=>by simp⟩,fun j hj=>by omega,by simp [aa,aV],by simp [aa,aV,bV,ah],by simp [aa],by simp [aa]⟩
noncomputable instance mayDec(N:Nat)(l:List Int):Decidable (eY N l):=Classical.propDecidable _
theorem mayCf_ok{h0:Hp}(ok:h0.t.Sized h0.n){b5 b2 bm N:Nat}{v:Value}{l:List Int}(hv:aA h0 1 (encI .i64) v l)(hl:l.length<=1000)(e5:h0.load b5 0 1=some [.map (some bm)])(e2:h0.load b2 0 1=some [.int .i64 N])(hm:h0.get bm=some (.map [] 0))(n5:b5≠bm)(n2:b2≠bm)(d:Decidable (∀i,i<l.length->OkAt N l i)):
 Ret xW 84 [v,.func (.func 83) #[] #[ptrTo b5,ptrTo b2]] h0 fun r h'=>Mo (· =bm) h0 h'/\r=.bool (!decide (∀i,i<l.length->OkAt N l i)):=by
 refine ac (n:=9) (rs:=[.tmp 4]) rfl Tryz.e84 rfl rfl rfl (lbt rfl) ?_
 simp only [BS,LB,Nat.reduceLT,Nat.reduceEqDiff]
 refine step_ret (mayIdx_ok ok hv hl e5 e2 hm n5 n2) ?_
 rintro r h ⟨mo,z,rfl,hz⟩
 by_cases c: ∀i,i<l.length->OkAt N l i
 . have c2: ¬(0<=z):=fun h=>hz.1 h c
   simp only [BS,LB,ab,Nat.reduceLT,Nat.reduceEqDiff,c2]
   exact⟨mo,by rw [decide_eq_true c];rfl⟩
 . have c2:0<=z:=hz.2 c
   simp only [BS,LB,ab,Nat.reduceLT,Nat.reduceEqDiff,c2]
   exact⟨mo,by rw [decide_eq_false c];rfl⟩
theorem may_ok{h0:Hp}(ok:h0.t.Sized h0.n){v:Value}{l:List Int}{N:Nat}(hv:aA h0 1 (encI .i64) v l)(hl:l.length<=1000):bC xW 36 [.int .i64 N,v] h0 (.bool (decide (eY N l))):=by
 have S:=Si ok
 refine ac (n:=18) (rs:=[.tmp 4]) rfl Tryz.e36 rfl rfl rfl (lbt rfl) ?_
 simp only [BS,Nat.reduceLT]
 refine ae (bE (by intro x e;cases e)) S ?_;clear S;intro h b2 S n_b2;simp only [ag]at S
 simp only [BS]
 refine ae rO S ?_;clear S;intro h bm S n_bm
 simp only [BS,Tryz.FFtb136]
 refine ae aw S ?_;clear S;intro h b5 S n_b5
 simp only [BS,LB,Nat.reduceLT,Nat.reduceEqDiff]
 refine az (aB S (i:=0) rfl ?_ ?_ ?_ ono) ?_
 . exact(by simp only [Tryz.FFtb136])
 . exact(by exact fl_map)
 . exact yh (lbt rfl)
 clear S;rintro h ⟨S,mo⟩;clear mo;simp only [LC,ag,lay,yl,ym,Nat.reduceAdd]at S
 by_cases h16:l.length<=16
 . have c1:(l.length:Int)<=16:=by omega
   simp only [BS,LB,Nat.reduceLT,Nat.reduceEqDiff,Tryz.FFtb136,hv.lenq,c1]
   have ap:=S.apart
   simp only [keys,yS,yW,List.filterMap_nil,List.append_nil,List.nodup_cons,yT,List.not_mem_nil,or_false,not_or]at ap
   have d:Decidable (∀i,i<l.length->OkAt N l i):=Classical.propDecidable _
   refine step_ret (mayCf_ok S.ok (hv.gr S.gr) hl (S.ld (b:=b5) (o:=0) m0 rfl) (S.ld (b:=b2) (o:=0) m2 rfl) (S.own _ m1).2 ap.1.1 (fun e=>ap.2.1 e.symm) d) ?_
   rintro r h ⟨mo,rfl⟩
   have g2:Gr h0 h:=(S.fr.trans mo (fun c hc=>.inr (by subst hc;exact n_bm)):Mo NoM h0 h).gr
   simp only [BS,LB,ab,Nat.reduceLT,Nat.reduceEqDiff]
   refine⟨?_,g2⟩
   congr 1
   by_cases c: ∀i,i<l.length->OkAt N l i
   . have:eY N l:=⟨h16,c⟩
     rw [decide_eq_true c,decide_eq_true this];rfl
   . have: ¬eY N l:=fun h=>c h.2
     rw [decide_eq_false c,decide_eq_false this];rfl
 . have c1: ¬(l.length:Int)<=16:=by omega
   simp only [BS,LB,ab,Nat.reduceLT,Nat.reduceEqDiff,Tryz.FFtb136,hv.lenq,c1]
   exact⟨by have: ¬eY N l:=fun h=>h16 h.1;simp [this],S.gr⟩
open Tryz in
def Tryz.FFtb286:=aj a1<|aj s1<|aj z1<|aj n1<|aj u2<|aj a2<|aj s2<|aj z2<|aj i2<|aj u3<|aj a3<|aj s3<|aj z3<|aj i3<|aj u4<|aj a4<|aj s4<|aj z4<|aj n4<|aj u25<|aj a25<|aj s25<|aj z25<|aj q25<|aj n25<|aj a30<|aj s30<|aj z30<|aj i30<|aj n30<|aj p30<|aj ff30<|aj d30<|aj u32<|aj a32<|aj s32<|aj z32<|aj q32<|aj i32<|aj n32<|aj u40<|aj a40<|aj s40<|aj z40<|aj q40<|aj n40<|aj a94<|aj s94<|aj z94<|aj n94<|aj a127<|aj s127<|aj z127<|aj n127<|aj u146<|aj a146<|aj s146<|aj z146<|aj q146<|aj n146<|aj a148<|aj s148<|aj z148<|aj i148<|aj n148<|aj p148<|aj ff148<|aj d148<|aj a158<|aj s158<|aj z158<|aj i158<|aj n158<|aj p158<|aj ff158<|d158
open Tryz in
def Tryz.FFtb285:=aj a1<|aj s1<|aj z1<|aj n1<|aj u2<|aj a2<|aj s2<|aj z2<|aj i2<|aj u3<|aj a3<|aj s3<|aj z3<|aj i3<|aj u4<|aj a4<|aj s4<|aj z4<|aj n4<|aj u6<|aj a6<|aj s6<|aj z6<|aj i6<|aj a7<|aj s7<|aj z7<|aj i7<|aj n7<|aj p7<|aj ff7<|aj d7<|aj u25<|aj a25<|aj s25<|aj z25<|aj q25<|aj n25<|aj u71<|aj a71<|aj s71<|aj z71<|aj q71<|aj n71<|aj a92<|aj s92<|aj z92<|n92
open Classical in
noncomputable def dOf(B:List Arc)(s v:Nat):Nat:=if h: ∃x,IsD B s v x then h.choose else 0
theorem dOf_is{B:List Arc}{s v x:Nat}(h:IsD B s v x):dOf B s v=x/\IsD B s v (dOf B s v):=by
 have he: ∃x,IsD B s v x:=⟨x,h⟩
 have e:dOf B s v=he.choose:=by unfold dOf;rw [dif_pos he]
 rw [e]
 exact⟨he.choose_spec.uniq h,he.choose_spec⟩
noncomputable def iY(B:List Arc)(N s:Nat):List Int:=(xY N).map fun v=>((dOf B s v:Nat):Int)
theorem rowD_of{B:List Arc}{N s:Nat}{D:Nat->Nat}(h: ∀v,IsD B s v (D v)):((xY N).map D).map (fun(x:Nat)=>(x:Int))=iY B N s:=by
 unfold iY
 rw [yX]
 refine yz fun v _=>?_
 show((D v:Nat):Int)=_
 rw [(dOf_is (h v)).1]
def RunF(E:Env)(g:FuncId)(γ:Gra)(pn:Value)(B:List Arc):Prop:= ∀(h:Hp) (nb:Nat),h.t.Sized h.n->bT h nb pn γ-> ∀s,s<γ.nodes->Ret E g [pn,.int .i64 (s:Nat)] h fun r h'=>Gr h h'/\qz h' h.n r B s γ.nodes
theorem runTo{γ:Gra}(hγ:Good γ){pn:Value}:RunF xW 41 γ pn (seen γ.arcs Arc.t Arc.s):=fun h nb ok hn s hs=>q8 ok hγ hn hs
theorem runFrom{γ:Gra}(hγ:Good γ){pn:Value}:RunF xW 42 γ pn (seen γ.arcs Arc.s Arc.t):=fun h nb ok hn s hs=>oL ok hγ hn hs
def PRow(m:Nat)(R:Nat->List Int)(i:Nat)(h:Hp)(F:List Nat)(x:List Value):Prop:= ∃w,x=[w]/\aA h 1 (encI .i64) w (R i)/\ ∀c,av w c->m<=c/\c∉F
theorem rows_ok{h0:Hp}(ok:h0.t.Sized h0.n){p vl ve:Value}(f1:Fl p)(f2:Fl vl)(f3:Fl ve):Ret xW 40 [p,vl,ve] h0 fun v h'=>Gr h0 h'/\ ∃b1 b2 b3,v=.func (.func 86) #[] #[ptrTo b1,ptrTo b2,ptrTo b3]/\h0.n<=b1/\h0.n<=b2/\h0.n<=b3/\h'.load b1 0 1=some [vl]/\h'.load b2 0 1=some [ve]/\h'.load b3 0 1=some [p]:=by
 have S:=Si ok
 refine ac (n:=8) (rs:=[.tmp 6]) rfl Tryz.e40 rfl rfl rfl (lbt rfl) ?_
 simp only [BS,Nat.reduceLT]
 refine ae (co (by assumption)) S ?_;clear S;intro h b3 S n_b3
 simp only [BS,Nat.reduceLT,Nat.reduceEqDiff,if_false]
 refine ae (co (by assumption)) S ?_;clear S;intro h b1 S n_b1
 simp only [BS,Nat.reduceLT,Nat.reduceEqDiff,if_false]
 refine ae (co (by assumption)) S ?_;clear S;intro h b2 S n_b2
 simp only [BS,LB,ab,Nat.reduceLT,Nat.reduceEqDiff]
 exact⟨S.gr,b1,b2,b3,rfl,n_b1,n_b2,n_b3,S.ld m1 rfl,S.ld m0 rfl,S.ld m2 rfl⟩
theorem rows_it{hq h0:Hp}(okq:hq.t.Sized hq.n)(ok0:h0.t.Sized h0.n)(kq:gU hq h0)(nq:hq.n<=h0.n){pn vl:Value}{γ:Gra}{nb b1 b2 b3 m:Nat}(hn:bT hq nb pn γ){l:List Int}(hl:aA h0 1 (encI .i64) vl l)(hok: ∀i,i<l.length->0<=l.getD i 0/\l.getD i 0<γ.nodes)(hlen:l.length<1000){g:FuncId}{B:List Arc}(hr:RunF xW g γ pn B)(hm:m<=h0.n)
 (e1:h0.load b1 0 1=some [vl]) (e2:h0.load b2 0 1=some [.func (.func g) #[] #[]]) (e3:h0.load b3 0 1=some [pn]):
 IterP xW 86 [ptrTo b1,ptrTo b2,ptrTo b3] h0 (fun c=>c=b1\/c=b2\/c=b3\/av vl c\/c<hq.n) l.length (PRow m fun i=>iY B γ.nodes (l.getD i 0).toNat):=by
 intro lb J Y h F s hj
 refine enter (n:=22) (rs:=[]) rfl Tryz.e86 rfl rfl rfl (lbt rfl) ?_
 have l1:=s.load ok0 e1 (.inl rfl)
 simp only [BS,LB,Nat.reduceLT,Tryz.FFtb286,l1,hl.lenq]
 refine aZ (fun(i:Nat) ρ h=>i<=l.length/\ ∃F,ItS h0 (fun c=>c=b1\/c=b2\/c=b3\/av vl c\/c<hq.n) h F/\J i h F/\ρ 0=.func (.yield lb) #[] #[]/\ρ 2=ptrTo b2/\ρ 3=ptrTo b3/\ρ 7=vl/\ρ 8=.int .i64 l.length/\ρ 9=.int .i64 i) (fun i=>l.length-i) ?_ 0 _ _ ?_
 . clear l1
   intro i ih ρ h ⟨hi,F,s,hj,r0,r2,r3,r7,r8,r9⟩
   by_cases hlt:i<l.length
   . obtain⟨c,o,hidx,hld⟩:=(s.sl ok0 hl (fun b h=>.inr (.inr (.inr (.inl h))))).ix (kd:=.i64) (dJ .i64) hlt
     have l2:=s.load ok0 e2 (.inr (.inl rfl))
     have l3:=s.load ok0 e3 (.inr (.inr (.inl rfl)))
     have nt:bT h nb pn γ:=hn.keep okq (s.keep kq nq (fun c hc=>.inr (.inr (.inr (.inr hc)))))
     have w:au .i64 ((i:Int)+1)=((i+1:Nat):Int):=by rw [wrap64]<;>omega
     have gd:l.getD i 0=l[i]:=by simp [xX,hlt]
     have hb:=hok i hlt
     rw [gd]at hb
     obtain⟨mk,emk⟩: ∃k:Nat,l[i]=k:=⟨l[i].toNat,by omega⟩
     rw [emk]at hld hb
     simp only [BS,LB,Nat.reduceLT,Nat.reduceEqDiff,Tryz.FFtb286,r0,r2,r3,r7,r8,r9,aI,hlt,hidx,hld,encI,l2,l3]
     refine step_ret (hr h nb s.ok nt mk (by omega)) ?_
     rintro v h2 ⟨g1,vD,vA,vO,D,aL,O,rfl,s1,s2,s3,t4,t5,t6,t7,t8⟩
     simp only [BS,LB,Nat.reduceLT,Nat.reduceEqDiff,Tryz.FFtb286]
     refine ww Y (s.gr g1) (Y.gr _ _ _ _ hj g1) (i:=i) hlt ⟨vD,rfl,?_,fun c hc=>⟨?_,fun hF=>?_⟩⟩ ?_
     . have:=sl_nat s1
       rw [rowD_of t5]at this
       show aA h2 1 _ vD (iY B γ.nodes (l.getD i 0).toNat)
       rw [gd,emk]
       exact this
     . exact yc hm (yc s.n (t6 c (.inl hc)))
     . have h1:=s.lt c hF
       have h2:=t6 c (.inl hc)
       omega
     . intro h' F' a s' _ _
       simp only [BS,LB,Nat.reduceLT,Nat.reduceEqDiff,r9,w]
       exact ih (i+1) _ _ (by omega) ⟨by omega,F',s',a,by simp [aa,r0],by simp [aa,r2,ah],by simp [aa,r3,ah],by simp [aa,r7],by simp [aa,r8],by simp [aa]⟩
   . simp only [BS,LB,Nat.reduceLT,r8,r9,aI,hlt]
     have:i=l.length:=by omega
     subst this
     exact dv (dy ⟨rfl,_,rfl,rfl,_,F,rfl,hj⟩)
 . exact⟨by omega,F,s,hj,by simp [aa,ce],by simp [aa,ce,ah],by simp [aa,ce,ah],by simp [aa],by simp [aa],by simp [aa]⟩
theorem tX {h0:Hp} (ok:h0.t.Sized h0.n) {g:FuncId} {post:Array Value} {D:Nat->Prop} {n m:Nat} {R:Nat->List Int} (it:IterP xW g post.toList h0 D n (PRow m R)) (hm:m<=h0.n) (hn:n<1000):
 Ret xW 85 [.slice none 0 0,.func (.func g) #[] post] h0 fun r h'=>Gr h0 h'/\fF h' m r n R:=by
 have S:=Si ok
 refine ac (n:=13) (rs:=[.tmp 4]) rfl Tryz.e85 rfl rfl rfl (lbt rfl) ?_
 simp only [BS,Nat.reduceLT]
 refine ae (co (by exact aW)) S ?_;clear S;intro h b2 S n_b2
 simp only [BS,Nat.reduceLT,Nat.reduceEqDiff,if_false]
 replace S:=S.nilG (k:=1)
 have g0:=S.gr
 refine g8 S (g:=g) (a:=#[]) (b:=post) (by simp [bK,aa,aV,bV]) rfl rfl ?_
 intro h2 db lb S' hdb hlb g2
 obtain⟨X,hX,S'⟩: ∃X:eo,X=_/\St NoM h0 h2 [(lb,.loop X),(db,.dfr),(b2,.row [.slice none 0 0] 1)] [(.slice none 0 0,1,[])]:=⟨_,rfl,S'⟩
 have hJ:YldP xW lb (fun k h' F=> ∃(ws:List Value) (vR:Value),St NoM h0 h' [(lb,.loop X),(db,.dfr),(b2,.row [vR] 1)] [(vR,1,ws)]/\ws.length=k/\k<=n/\(∀i w,ws[i]? =some w->aA h' 1 (encI .i64) w (R i)/\ ∀c,av w c->m<=c/\c∉F)/\F=keys [(lb,.loop X),(db,.dfr),(b2,.row [vR] 1)] [(vR,1,ws)]) n (PRow m R):=by
  refine⟨?_,?_,?_⟩
  . rintro i h F ⟨ws,vR,S,_,_,_,rfl⟩;exact⟨S.ok,fun b hb=>S.key_lt hb⟩
  . rintro i h F h' ⟨ws,vR,S,a,b,c,rfl⟩ gg;exact⟨ws,vR,S.call gg,a,b,fun i w hw=>⟨(c i w hw).1.gr gg,(c i w hw).2⟩,rfl⟩
  . rintro i x hR F hi ⟨w,rfl,sw,hw⟩ ⟨ws,vR,S,a,b,c,rfl⟩
    subst hX
    obtain⟨wa,wn,wc,rfl⟩:=sw.form
    have fw:Fl (.slice wa wn wc):=aW
    refine hI (S.get m0) (by rw [Tryz.e85];rfl) rfl ?_
    have S0:=S
    replace S:=S.base
    simp only [BS,LB,Nat.reduceLT,Nat.reduceEqDiff]
    refine gp S (i:=0) rfl rfl rfl rfl rfl ?_
    clear S;intro h S
    simp only [LC]at S
    simp only [BS,LB,Nat.reduceLT,Nat.reduceEqDiff,Tryz.FFtb285,S.ld (b:=b2) (o:=0) m2 rfl]
    refine ae (bL (by exact Tryz.u71) (by exact Tryz.e25E) (by decide) (by rfl)) S ?_;clear S;intro h bs S n_bs;simp only [LC,aU,bI,ag,Nat.reduceMul,Nat.reduceAdd,yk,yo,yg,yq]at S
    simp only [BS,LB,Nat.reduceLT,Nat.reduceEqDiff]
    have src:aO h 1 (.slice (some ⟨bs,0,none⟩) 1 1)=some (1,[.slice wa wn wc]):=by simp only [aO];rw [S.lds (b:=bs) (o:=0) (n:=1*1) m0 (lbt rfl)];rfl
    replace S:=S.drop1
    refine eK (S.grow (j:=0) (m:=1) (new:=[.slice wa wn wc]) rfl Tryz.u71 Tryz.e25E (by decide) Tryz.n71 src rfl (by decide) (by simp [fw.2.1]) (by simp;omega)) ?_
    clear S src;rintro h vR' S
    simp only [LC]at S
    have fv:Fl vR':=by
     rcases(S.gown _ m0).1 with⟨e,_⟩|⟨_,_,e,_⟩
     . rw [show vR'=_ from e];exact aW
     . rw [show vR'=_ from e];exact aW
    simp only [BS,LB,Nat.reduceLT,Nat.reduceEqDiff]
    refine az (aB S (i:=2) rfl Tryz.s71 fv (yh (lbt rfl)) ono) ?_
    clear S;rintro h ⟨S,_⟩
    simp only [LC]at S
    simp only [BS]
    refine dY S (i:=0) rfl ?_
    clear S;intro h S
    simp only [LC]at S
    refine⟨rfl,_,⟨ws++[.slice wa wn wc],vR',S0.rebase S,by simp [a],by omega,fun j u hu=>?_,rfl⟩,S.fr,S.key_new⟩
    have key:aA h 1 (encI .i64) u (R j)/\ ∀c,av u c->m<=c/\c∉keys [(lb,Ob.dfr),(db,.dfr),(b2,.dfr)] [(vR,1,ws)]/\c<hR.n:=by
     by_cases hj:j<ws.length
     . rw [yG hj]at hu
       obtain⟨q1,q2⟩:=c j u hu
       exact⟨q1.mo S.fr (fun x hx hM=>(q2 x hx).2 hM),fun x hx=>⟨(q2 x hx).1,(q2 x hx).2,q1.lt S0.ok hx⟩⟩
     . rw [List.getElem?_append_right (by omega)]at hu
       have hj2:j-ws.length=0:=by
        have:=(List.getElem?_eq_some_iff.1 hu).1
        simp at this;omega
       rw [hj2]at hu
       cases hu
       have:j=ws.length:=by omega
       subst this
       rw [a]
       exact⟨sw.mo S.fr (fun x hx hM=>(hw x hx).2 hM),fun x hx=>⟨(hw x hx).1,(hw x hx).2,sw.lt S0.ok hx⟩⟩
    refine⟨key.1,fun x hx=>⟨(key.2 x hx).1,fun hm=>?_⟩⟩
    rcases S.key_new x hm with h1|h1
    . exact(key.2 x hx).2.1 h1
    . have:=(key.2 x hx).2.2;omega
 refine fg (it lb _ hJ h2 _ ?_ ⟨[],_,S',rfl,ya _,fun i w hw=>by simp at hw,rfl⟩) ?_
 . exact⟨S'.ok,S'.fr.n,fun b hb _=>S'.gr.get b hb,fun b hb h=>by have:=(S'.key_own hb).elim (fun h=>h) (fun h=>h.elim);omega,fun b hb=>S'.key_lt hb⟩
 . rintro o rc h' ⟨rfl,u,F,rfl,ws,vR,T,a,_,c,rfl⟩
   subst hX
   refine⟨_,T.get m0,Nat.zero_ne_one,?_⟩
   have c2: ∀i w,ws[i]? =some w->aA (h'.put lb .dead) 1 (encI .i64) w (R i)/\ ∀c,av w c->m<=c/\c∉keys [(db,.dfr),(b2,.row [vR] 1)] [(vR,1,ws)]:=fun i w hw=>by
    obtain⟨q1,q2⟩:=c i w hw
    exact⟨q1.mo ((Mo.refl (M:=(· =lb)) T.ok).put (.inr rfl) .dead) (fun x hx e=>(q2 x hx).2 (by rw [e];exact m0)),fun x hx=>⟨(q2 x hx).1,fun hm=>(q2 x hx).2 (yO _ hm)⟩⟩
   replace T:=T.dead
   have S:=T
   show Run _ _ _ _ _ _ _ _
   simp only [BS,LB,Nat.reduceLT,Nat.reduceEqDiff,Tryz.FFtb285,S.ld (b:=b2) (o:=0) m1 rfl]
   refine eJ (iD [db] _ (L:=[(b2,_)]) T.base fun h3 S3=>⟨rfl,_,rfl,?_⟩)
   refine⟨(T.fr.trans S3.fr (fun c hc=>(T.key_own hc).symm):Mo NoM h0 h3).gr,ws,?_,a,fun x hx=>?_,fun i w hw=>⟨(c2 i w hw).1.mo S3.fr (fun x hx hM=>((c2 i w hw).2 x hx).2 hM),fun x hx=>((c2 i w hw).2 x hx).1⟩⟩
   . exact(S3.gown _ m0).1.sl (flat_encV ws).symm vr (by decide)
   . exact yc hm (((T.gblk m0 hx).1).elim (fun h=>h) (fun h=>h.elim))
theorem qX{h0:Hp}(ok:h0.t.Sized h0.n){g:FuncId}{post:Array Value}{D:Nat->Prop}{n m:Nat}{R:Nat->List Int}(it:IterP xW g post.toList h0 D n (PRow m R))(hm:m<=h0.n)(hn:n<1000):
 Ret xW 39 [.func (.func g) #[] post] h0 fun r h'=>Gr h0 h'/\fF h' m r n R:=by
 have S:=Si ok
 refine ac (n:=5) (rs:=[.tmp 2]) rfl Tryz.e39 rfl rfl rfl (lbt rfl) ?_
 simp only [BS,LB,Nat.reduceLT,Nat.reduceEqDiff]
 refine step_ret (tX S.ok it hm hn) ?_;intro v h ⟨g,L⟩;replace S:=S.call g;clear g
 simp only [BS,LB,ab,Nat.reduceLT,Nat.reduceEqDiff]
 exact⟨S.gr,L⟩
open Tryz in
def Tryz.FFtb311:=aj a1<|aj s1<|aj z1<|aj n1<|aj u2<|aj a2<|aj s2<|aj z2<|aj i2<|aj u3<|aj a3<|aj s3<|aj z3<|aj i3<|aj u4<|aj a4<|aj s4<|aj z4<|aj n4<|aj u25<|aj a25<|aj s25<|aj z25<|aj q25<|aj n25<|aj a30<|aj s30<|aj z30<|aj i30<|aj n30<|aj p30<|aj ff30<|aj d30<|aj u32<|aj a32<|aj s32<|aj z32<|aj q32<|aj i32<|aj n32<|aj u38<|aj a38<|aj s38<|aj z38<|aj q38<|aj i38<|aj n38<|aj u40<|aj a40<|aj s40<|aj z40<|aj q40<|aj n40<|aj u71<|aj a71<|aj s71<|aj z71<|aj q71<|aj n71<|aj a92<|aj s92<|aj z92<|aj n92<|aj a94<|aj s94<|aj z94<|aj n94<|aj a96<|aj s96<|aj z96<|aj i96<|aj n96<|aj p96<|aj ff96<|aj d96<|aj u146<|aj a146<|aj s146<|aj z146<|aj q146<|aj n146<|aj a148<|aj s148<|aj z148<|aj i148<|aj n148<|aj p148<|aj ff148<|d148
open Tryz in
def Tryz.FFtb358:=aj a1<|aj s1<|aj z1<|aj n1<|aj u2<|aj a2<|aj s2<|aj z2<|aj i2<|aj u3<|aj a3<|aj s3<|aj z3<|aj i3<|aj u4<|aj a4<|aj s4<|aj z4<|aj n4<|aj u25<|aj a25<|aj s25<|aj z25<|aj q25<|aj n25<|aj u38<|aj a38<|aj s38<|aj z38<|aj q38<|aj i38<|aj n38<|aj u40<|aj a40<|aj s40<|aj z40<|aj q40<|aj n40<|aj u71<|aj a71<|aj s71<|aj z71<|aj q71<|aj n71<|aj a96<|aj s96<|aj z96<|aj i96<|aj n96<|aj p96<|aj ff96<|d96
open Tryz in
def Tryz.FFtb346:=aj a1<|aj s1<|aj z1<|aj n1<|aj u2<|aj a2<|aj s2<|aj z2<|aj i2<|aj u3<|aj a3<|aj s3<|aj z3<|aj i3<|aj u4<|aj a4<|aj s4<|aj z4<|aj n4<|aj u25<|aj a25<|aj s25<|aj z25<|aj q25<|aj n25<|aj u38<|aj a38<|aj s38<|aj z38<|aj q38<|aj i38<|aj n38<|aj u40<|aj a40<|aj s40<|aj z40<|aj q40<|aj n40<|aj u71<|aj a71<|aj s71<|aj z71<|aj q71<|aj n71<|aj a96<|aj s96<|aj z96<|aj i96<|aj n96<|aj p96<|aj ff96<|d96
open Tryz in
def Tryz.FFtb363:=aj a1<|aj s1<|aj z1<|aj n1<|aj u2<|aj a2<|aj s2<|aj z2<|aj i2<|aj u3<|aj a3<|aj s3<|aj z3<|aj i3<|aj u25<|aj a25<|aj s25<|aj z25<|aj q25<|aj n25<|aj u38<|aj a38<|aj s38<|aj z38<|aj q38<|aj i38<|aj n38<|aj u40<|aj a40<|aj s40<|aj z40<|aj q40<|aj n40<|aj u71<|aj a71<|aj s71<|aj z71<|aj q71<|aj n71<|aj a96<|aj s96<|aj z96<|aj i96<|aj n96<|aj p96<|aj ff96<|d96
open Tryz in
def Tryz.FFtb3147:=aj a1<|aj s1<|aj z1<|aj n1<|aj u2<|aj a2<|aj s2<|aj z2<|aj i2<|aj u3<|aj a3<|aj s3<|aj z3<|aj i3<|aj u25<|aj a25<|aj s25<|aj z25<|aj q25<|aj n25<|aj u38<|aj a38<|aj s38<|aj z38<|aj q38<|aj i38<|aj n38<|aj u40<|aj a40<|aj s40<|aj z40<|aj q40<|aj n40<|aj u71<|aj a71<|aj s71<|aj z71<|aj q71<|aj n71<|aj a96<|aj s96<|aj z96<|aj i96<|aj n96<|aj p96<|aj ff96<|d96
open Tryz in
def Tryz.FFtb362:=aj a1<|aj s1<|aj z1<|aj n1<|aj u2<|aj a2<|aj s2<|aj z2<|aj i2<|aj u3<|aj a3<|aj s3<|aj z3<|aj i3<|aj u4<|aj a4<|aj s4<|aj z4<|aj n4<|aj u25<|aj a25<|aj s25<|aj z25<|aj q25<|aj n25<|aj u38<|aj a38<|aj s38<|aj z38<|aj q38<|aj i38<|aj n38<|aj u40<|aj a40<|aj s40<|aj z40<|aj q40<|aj n40<|aj u71<|aj a71<|aj s71<|aj z71<|aj q71<|aj n71<|aj a96<|aj s96<|aj z96<|aj i96<|aj n96<|aj p96<|aj ff96<|aj d96<|aj a124<|aj s124<|aj z124<|n124
noncomputable def toR(γ:Gra)(l:List Int)(i:Nat):List Int:=iY (seen γ.arcs Arc.t Arc.s) γ.nodes (l.getD i 0).toNat
noncomputable def frR(γ:Gra)(l:List Int)(i:Nat):List Int:=iY (seen γ.arcs Arc.s Arc.t) γ.nodes (l.getD i 0).toNat
theorem qd{h0:Hp}(ok:h0.t.Sized h0.n){γ:Gra}(hγ:Good γ){pn vl:Value}{nb:Nat}(hn:bT h0 nb pn γ){l:List Int}(hl:aA h0 1 (encI .i64) vl l)(hlen:l.length<1000):
 Ret xW 11 [pn,vl] h0 fun r h'=>Gr h0 h'/\((¬eY γ.nodes l/\r=.pointer none)\/(eY γ.nodes l/\TabAt h' h0.n r γ.nodes l (toR γ l) (frR γ l))):=by
 have S:=Si ok
 obtain⟨bp,rfl⟩: ∃b,pn=ptrTo b:=by obtain⟨b,_,_,_,_,_,e,_⟩:=hn.ex;exact⟨b,e⟩
 refine ac (n:=28) (rs:=[.tmp 4]) rfl Tryz.e11 rfl rfl rfl (lbt rfl) ?_
 simp only [BS,LB,Nat.reduceLT,Nat.reduceEqDiff,Tryz.FFtb311]
 refine ar (cH S.ok (hn.gr S.gr)) ?_;intro h g;replace S:=S.call g;clear g
 simp only [BS,LB,Nat.reduceLT,Nat.reduceEqDiff]
 refine ar (may_ok S.ok (hl.gr S.gr) (by omega)) ?_;intro h g;replace S:=S.call g;clear g
 by_cases hm:eY γ.nodes l
 . have hd:decide (eY γ.nodes l)=true:=decide_eq_true hm
   simp only [BS,LB,Nat.reduceLT,Nat.reduceEqDiff,hd]
   refine ar (cH S.ok (hn.gr S.gr)) ?_;intro h g;replace S:=S.call g;clear g
   simp only [BS,LB,Nat.reduceLT,Nat.reduceEqDiff]
   have k1:=S.fr.n
   refine step_ret (kI S.ok (dJ .i64) (hl.gr S.gr) (by omega)) ?_;intro v h ⟨g,slM,hM⟩;replace S:=S.call g;clear g
   rename Value=>vM
   obtain⟨ma,mn,mc,rfl⟩:=slM.form
   simp only [BS,LB,Nat.reduceLT,Nat.reduceEqDiff]
   refine step_ret (rows_ok S.ok fb hl.fl ja) ?_;intro v h ⟨g,b1,b2,b3,e,q1,q2,q3,y1,y2,y3⟩;replace S:=S.call g;replace slM:=slM.gr g;clear g
   subst e
   simp only [BS,LB,Nat.reduceLT,Nat.reduceEqDiff]
   have it:=rows_it ok S.ok S.gr.keep S.fr.n hn (hl.gr S.gr) (fun i hi=>⟨(hm.2 i hi).1,(hm.2 i hi).2.1⟩) hlen (runTo hγ) (m:=h0.n) S.fr.n y1 y2 y3
   refine step_ret (qX S.ok it S.fr.n hlen) ?_;intro v h ⟨g,L1⟩;replace S:=S.call g;replace slM:=slM.gr g;clear g
   rename Value=>vT
   obtain⟨ta,tn,tc,rfl⟩: ∃a n c,vT=.slice a n c:=by obtain⟨_,s,_⟩:=L1;exact s.form
   clear it y1 y2 y3 q1 q2 q3
   simp only [BS,LB,Nat.reduceLT,Nat.reduceEqDiff]
   refine step_ret (rows_ok S.ok fb hl.fl ja) ?_;intro v h ⟨g,b1,b2,b3,e,q1,q2,q3,y1,y2,y3⟩;replace S:=S.call g;replace slM:=slM.gr g;replace L1:=L1.gr g;clear g
   subst e
   simp only [BS,LB,Nat.reduceLT,Nat.reduceEqDiff]
   have it:=rows_it ok S.ok S.gr.keep S.fr.n hn (hl.gr S.gr) (fun i hi=>⟨(hm.2 i hi).1,(hm.2 i hi).2.1⟩) hlen (runFrom hγ) (m:=h0.n) S.fr.n y1 y2 y3
   refine step_ret (qX S.ok it S.fr.n hlen) ?_;intro v h ⟨g,L2⟩;replace S:=S.call g;replace slM:=slM.gr g;replace L1:=L1.gr g;clear g
   rename Value=>vF
   obtain⟨fa,fn,fc,rfl⟩: ∃a n c,vF=.slice a n c:=by obtain⟨_,s,_⟩:=L2;exact s.form
   simp only [BS,LB,Nat.reduceLT,Nat.reduceEqDiff,Nat.reduceAdd,Tryz.FFtb311]
   have Sb:=S
   replace S:=S.base
   refine ae (bE (by intro x e;cases e)) S ?_;clear S;intro h b S n_b;simp only [ag]at S
   simp only [BS,LB,ab,Nat.reduceLT,Nat.reduceEqDiff]
   have f2:=S.fr
   have slM2:=slM.mo f2 (fun c _ hm=>by cases hm)
   have L1':=L1.mo f2 (fun c hm=>by cases hm)
   have L2':=L2.mo f2 (fun c hm=>by cases hm)
   have hMt:=S.row (b:=b) m0
   replace S:=Sb.rebase S
   exact⟨S.gr,.inr ⟨hm,⟨b,_,_,_,rfl,hMt,slM2,L1',L2',(S.own _ m0).1.elim (fun h=>h) (fun h=>h.elim),fun c hc=>yc k1 (hM c hc)⟩⟩⟩
 . have hd:decide (eY γ.nodes l)=false:=decide_eq_false hm
   simp only [BS,LB,ab,Nat.reduceLT,Nat.reduceEqDiff,hd]
   exact⟨S.gr,.inl hm⟩
theorem mN{h0:Hp}(ok:h0.t.Sized h0.n){m N:Nat}{p:Value}{l:List Int}{R Q:Nat->List Int}(t:TabAt h0 m p N l R Q):bC xW 58 [p] h0 (.int .i64 N):=by
 have S:=Si ok
 obtain⟨b,vM,vT,vF,rfl,hr,_⟩:=t.ex
 have l0:=hr.load1 (o:=0) rfl
 refine ac (n:=9) (rs:=[.tmp 2]) rfl Tryz.e58 rfl rfl rfl (lbt rfl) ?_
 simp only [BS,LB,ab,Nat.reduceLT,Nat.reduceEqDiff,Tryz.FFtb358,l0]
 exact S.gr
theorem kL{h0:Hp}(ok:h0.t.Sized h0.n){m N:Nat}{p:Value}{l:List Int}{R Q:Nat->List Int}(t:TabAt h0 m p N l R Q)(hlen:l.length<1000):Ret xW 46 [p] h0 fun r h'=>Gr h0 h'/\aA h' 1 (encI .i64) r l/\ ∀c,av r c->h0.n<=c:=by
 have S:=Si ok
 obtain⟨b,vM,vT,vF,rfl,hr,sM,_⟩:=t.ex
 have l0:=hr.load1 (o:=1) rfl
 refine ac (n:=10) (rs:=[.tmp 2]) rfl Tryz.e46 rfl rfl rfl (lbt rfl) ?_
 simp only [BS,LB,Nat.reduceLT,Nat.reduceEqDiff,Tryz.FFtb346,l0]
 refine step_ret (kI S.ok (dJ .i64) sM (by omega)) ?_;intro v h ⟨g,sl,hc⟩;replace S:=S.call g;clear g
 simp only [BS,LB,ab,Nat.reduceLT,Nat.reduceEqDiff]
 exact⟨S.gr,sl,hc⟩
def eB(N n:Nat)(R:Nat->List Int)(i v:Int):Int:=if 0<=i/\i<n/\0<=v/\v<N then(R i.toNat).getD v.toNat 0 else 72057594037927936
theorem tos_ok{h0:Hp}(ok:h0.t.Sized h0.n){m N:Nat}{p:Value}{l:List Int}{R Q:Nat->List Int}(t:TabAt h0 m p N l R Q):Ret xW 63 [p] h0 fun r h'=>Gr h0 h'/\fF h' m r l.length R:=by
 have S:=Si ok
 obtain⟨b,vM,vT,vF,rfl,hr,_,L,_⟩:=t.ex
 have l0:=hr.load1 (o:=2) rfl
 refine ac (n:=7) (rs:=[.tmp 2]) rfl Tryz.e63 rfl rfl rfl (lbt rfl) ?_
 simp only [BS,LB,ab,Nat.reduceLT,Nat.reduceEqDiff,Tryz.FFtb363,l0]
 exact⟨S.gr,L⟩
theorem froms_ok{h0:Hp}(ok:h0.t.Sized h0.n){m N:Nat}{p:Value}{l:List Int}{R Q:Nat->List Int}(t:TabAt h0 m p N l R Q):Ret xW 147 [p] h0 fun r h'=>Gr h0 h'/\fF h' m r l.length Q:=by
 have S:=Si ok
 obtain⟨b,vM,vT,vF,rfl,hr,_,_,L,_⟩:=t.ex
 have l0:=hr.load1 (o:=3) rfl
 refine ac (n:=7) (rs:=[.tmp 2]) rfl Tryz.e147 rfl rfl rfl (lbt rfl) ?_
 simp only [BS,LB,ab,Nat.reduceLT,Nat.reduceEqDiff,Tryz.FFtb3147,l0]
 exact⟨S.gr,L⟩
theorem ut{h0:Hp}(ok:h0.t.Sized h0.n){m N:Nat}{p:Value}{l:List Int}{R Q W:Nat->List Int}(t:TabAt h0 m p N l R Q){g:FuncId}(hg: ∀h,Gr h0 h->Ret xW g [p] h fun r h'=>Gr h h'/\fF h' m r l.length W)(hW: ∀i,i<l.length->(W i).length=N){i v:Int}:
 bC xW 62 [p,.func (.func g) #[p] #[],.int .i64 i,.int .i64 v] h0 (.int .i64 (eB N l.length W i v)):=by
 have S:=Si ok
 obtain⟨b,vM,vT,vF,rfl,hr,sM,_⟩:=t.ex
 have l0:=hr.load1 (o:=0) rfl
 have l1:=hr.load1 (o:=1) rfl
 unfold eB
 refine ac (n:=44) (rs:=[.tmp 8]) rfl Tryz.e62 rfl rfl rfl (lbt rfl) ?_
 by_cases c1:i<0
 . rw [if_neg (by omega)]
   simp only [BS,LB,ab,Nat.reduceLT,Nat.reduceEqDiff,Tryz.FFtb362,c1]
   exact S.gr
 . by_cases c2:(l.length:Int)<=i
   . rw [if_neg (by omega)]
     simp only [BS,LB,ab,Nat.reduceLT,Nat.reduceEqDiff,Tryz.FFtb362,l1,c1,c2,sM.lenq]
     exact S.gr
   . by_cases c3:v<0
     . rw [if_neg (by omega)]
       simp only [BS,LB,ab,Nat.reduceLT,Nat.reduceEqDiff,Tryz.FFtb362,l1,c1,c2,c3,sM.lenq]
       exact S.gr
     . by_cases c4:(N:Int)<=v
       . rw [if_neg (by omega)]
         simp only [BS,LB,ab,Nat.reduceLT,Nat.reduceEqDiff,Tryz.FFtb362,l0,l1,c1,c2,c3,c4,sM.lenq]
         exact S.gr
       . rw [if_pos (by omega)]
         obtain⟨i',rfl⟩:=ye (show 0<=i by omega)
         obtain⟨v',rfl⟩:=ye (show 0<=v by omega)
         simp only [BS,LB,Nat.reduceLT,Nat.reduceEqDiff,Tryz.FFtb362,l0,l1,c1,c2,c3,c4,sM.lenq]
         refine step_ret (hg _ S.gr) ?_;intro v h ⟨g,L⟩;replace S:=S.call g;clear g
         obtain⟨w,⟨c,o,x1,x2⟩,sw,_⟩:=L.row (i:=i') (by omega)
         have hlw:=hW i' (by omega)
         obtain⟨c',o',y1,y2⟩:=sw.ix (kd:=.i64) (dJ .i64) (i:=v') (by omega)
         have gd:(W i').getD v' 0=(W i')[v']:=by simp [xX,show v'<(W i').length by omega]
         simp only [BS,LB,ab,Nat.reduceLT,Nat.reduceEqDiff,Tryz.FFtb362,x1,x2,y1,y2,encI,yf,gd]
         exact S.gr
theorem nG{h0:Hp}(ok:h0.t.Sized h0.n){m N:Nat}{p:Value}{l:List Int}{R Q:Nat->List Int}(t:TabAt h0 m p N l R Q)(hW: ∀i,i<l.length->(R i).length=N){i v:Int}:bC xW 25 [p,.int .i64 i,.int .i64 v] h0 (.int .i64 (eB N l.length R i v)):=by
 have S:=Si ok
 refine ac (n:=13) (rs:=[.tmp 6]) rfl Tryz.e25 rfl rfl rfl (lbt rfl) ?_
 simp only [BS,LB,Nat.reduceLT,Nat.reduceEqDiff]
 refine ar (ut S.ok t (fun h g=>tos_ok g.ok (t.gr g)) hW) ?_;intro h g;replace S:=S.call g;clear g
 simp only [BS,LB,ab,Nat.reduceLT,Nat.reduceEqDiff]
 exact S.gr
theorem rN{h0:Hp}(ok:h0.t.Sized h0.n){m N:Nat}{p:Value}{l:List Int}{R Q:Nat->List Int}(t:TabAt h0 m p N l R Q)(hW: ∀i,i<l.length->(Q i).length=N){i v:Int}:bC xW 105 [p,.int .i64 i,.int .i64 v] h0 (.int .i64 (eB N l.length Q i v)):=by
 have S:=Si ok
 refine ac (n:=13) (rs:=[.tmp 6]) rfl Tryz.e105 rfl rfl rfl (lbt rfl) ?_
 simp only [BS,LB,Nat.reduceLT,Nat.reduceEqDiff]
 refine ar (ut S.ok t (fun h g=>froms_ok g.ok (t.gr g)) hW) ?_;intro h g;replace S:=S.call g;clear g
 simp only [BS,LB,ab,Nat.reduceLT,Nat.reduceEqDiff]
 exact S.gr
open Tryz in
def Tryz.FFbw150:=aj a1<|aj s1<|aj z1<|aj n1<|aj u2<|aj a2<|aj s2<|aj z2<|aj i2<|aj u3<|aj a3<|aj s3<|aj z3<|aj i3<|aj u4<|aj a4<|aj s4<|aj z4<|aj n4<|aj u38<|aj a38<|aj s38<|aj z38<|aj q38<|aj i38<|aj n38<|aj u40<|aj a40<|aj s40<|aj z40<|aj q40<|aj n40<|aj a70<|aj s70<|aj z70<|aj n70<|aj u71<|aj a71<|aj s71<|aj z71<|aj q71<|aj n71<|aj a96<|aj s96<|aj z96<|aj i96<|aj n96<|aj p96<|aj ff96<|aj d96<|aj a172<|aj s172<|aj z172<|n172
open Tryz in
def Tryz.FFbw119:=aj a1<|aj s1<|aj z1<|aj n1<|aj u2<|aj a2<|aj s2<|aj z2<|aj i2<|aj u3<|aj a3<|aj s3<|aj z3<|aj i3<|aj u4<|aj a4<|aj s4<|aj z4<|aj n4<|aj u5<|aj a5<|aj s5<|aj z5<|aj i5<|aj u6<|aj a6<|aj s6<|aj z6<|aj i6<|aj u38<|aj a38<|aj s38<|aj z38<|aj q38<|aj i38<|aj n38<|aj u40<|aj a40<|aj s40<|aj z40<|aj q40<|aj n40<|aj u71<|aj a71<|aj s71<|aj z71<|aj q71<|aj n71<|aj a96<|aj s96<|aj z96<|aj i96<|aj n96<|aj p96<|aj ff96<|d96
theorem gz{h0:Hp}(ok:h0.t.Sized h0.n){m N:Nat}{p:Value}{l:List Int}{R Q:Nat->List Int}(t:TabAt h0 m p N l R Q){v:Int}:bC xW 98 [p,.int .i64 v] h0 (.bool (decide (0<=v/\v<N))):=by
 have S:=Si ok
 refine ac (n:=13) (rs:=[.tmp 4]) rfl Tryz.e98 rfl rfl rfl (lbt rfl) ?_
 by_cases c:0<=v
 . simp only [BS,LB,Nat.reduceLT,Nat.reduceEqDiff,c]
   refine ar (mN S.ok (t.gr S.gr)) ?_;intro h g;replace S:=S.call g;clear g
   simp only [BS,LB,ab,Nat.reduceLT,Nat.reduceEqDiff]
   exact S.gr
 . simp only [BS,LB,ab,Nat.reduceLT,Nat.reduceEqDiff,c]
   exact⟨by simp,S.gr⟩
theorem wayTo_ok{h0:Hp}(ok:h0.t.Sized h0.n){m N:Nat}{p:Value}{l:List Int}{R Q:Nat->List Int}(t:TabAt h0 m p N l R Q)(hW: ∀i,i<l.length->(R i).length=N){i v w:Int}:
 bC xW 103 [.func (.func 25) #[p] #[],.func (.func 104) #[] #[],.int .i64 i,.int .i64 v,.int .i64 w] h0 (.int .i64 (j9 (eB N l.length R i v) (eB N l.length R i w))):=by
 have S:=Si ok
 refine ac (n:=21) (rs:=[.tmp 10]) rfl Tryz.e103 rfl rfl rfl (lbt rfl) ?_
 simp only [BS,LB,Nat.reduceLT,Nat.reduceEqDiff]
 refine ar (nG S.ok (t.gr S.gr) hW) ?_;intro h g;replace S:=S.call g;clear g
 simp only [BS,LB,Nat.reduceLT,Nat.reduceEqDiff]
 refine ar (nG S.ok (t.gr S.gr) hW) ?_;intro h g;replace S:=S.call g;clear g
 simp only [BS,LB,Nat.reduceLT,Nat.reduceEqDiff]
 refine ar (low_ok S.ok) ?_;intro h g;replace S:=S.call g;clear g
 simp only [BS,LB,ab,Nat.reduceLT,Nat.reduceEqDiff]
 exact S.gr
theorem wayFr_ok{h0:Hp}(ok:h0.t.Sized h0.n){m N:Nat}{p:Value}{l:List Int}{R Q:Nat->List Int}(t:TabAt h0 m p N l R Q)(hW: ∀i,i<l.length->(Q i).length=N){i v w:Int}:
 bC xW 103 [.func (.func 105) #[p] #[],.func (.func 106) #[] #[],.int .i64 i,.int .i64 v,.int .i64 w] h0 (.int .i64 (j9 (eB N l.length Q i w) (eB N l.length Q i v))):=by
 have S:=Si ok
 refine ac (n:=21) (rs:=[.tmp 10]) rfl Tryz.e103 rfl rfl rfl (lbt rfl) ?_
 simp only [BS,LB,Nat.reduceLT,Nat.reduceEqDiff]
 refine ar (rN S.ok (t.gr S.gr) hW) ?_;intro h g;replace S:=S.call g;clear g
 simp only [BS,LB,Nat.reduceLT,Nat.reduceEqDiff]
 refine ar (rN S.ok (t.gr S.gr) hW) ?_;intro h g;replace S:=S.call g;clear g
 simp only [BS,LB,Nat.reduceLT,Nat.reduceEqDiff]
 refine ar (lift_ok S.ok) ?_;intro h g;replace S:=S.call g;clear g
 simp only [BS,LB,ab,Nat.reduceLT,Nat.reduceEqDiff]
 exact S.gr
def cU(N n:Nat)(R Q:Nat->List Int)(i v w:Int):Int:=if(0<=v/\v<N)/\(0<=w/\w<N)/\0<=i/\i<n then max (j9 (eB N n R i v) (eB N n R i w)) (j9 (eB N n Q i w) (eB N n Q i v))else 0
theorem sc{h0:Hp}(ok:h0.t.Sized h0.n){m N:Nat}{p:Value}{l:List Int}{R Q:Nat->List Int}(t:TabAt h0 m p N l R Q)(hR: ∀i,i<l.length->(R i).length=N)(hQ: ∀i,i<l.length->(Q i).length=N)(hl:l.length<1000){i v w:Int}:
 bC xW 50 [p,.int .i64 i,.int .i64 v,.int .i64 w] h0 (.int .i64 (cU N l.length R Q i v w)):=by
 have S:=Si ok
 by_cases c1:0<=v/\v<N
 . by_cases c2:0<=w/\w<N
   . by_cases c3:i<0
     . rw [show cU N l.length R Q i v w=0 from if_neg (by omega)]
       refine ac (n:=43) (rs:=[.tmp 8]) rfl yP rfl rfl rfl (lbt rfl) ?_
       simp only [BS,LB,Nat.reduceLT,Nat.reduceEqDiff]
       refine ar (gz S.ok (t.gr S.gr)) ?_;intro h g;replace S:=S.call g;clear g
       simp only [BS,LB,Nat.reduceLT,Nat.reduceEqDiff,c1]
       refine ar (gz S.ok (t.gr S.gr)) ?_;intro h g;replace S:=S.call g;clear g
       simp only [BS,LB,ab,Nat.reduceLT,Nat.reduceEqDiff,c2,c3]
       exact S.gr
     . by_cases c4:(l.length:Int)<=i
       . rw [show cU N l.length R Q i v w=0 from if_neg (by omega)]
         refine ac (n:=43) (rs:=[.tmp 8]) rfl yP rfl rfl rfl (lbt rfl) ?_
         simp only [BS,LB,Nat.reduceLT,Nat.reduceEqDiff]
         refine ar (gz S.ok (t.gr S.gr)) ?_;intro h g;replace S:=S.call g;clear g
         simp only [BS,LB,Nat.reduceLT,Nat.reduceEqDiff,c1]
         refine ar (gz S.ok (t.gr S.gr)) ?_;intro h g;replace S:=S.call g;clear g
         simp only [BS,LB,Nat.reduceLT,Nat.reduceEqDiff,c2,c3]
         refine step_ret (kL S.ok (t.gr S.gr) hl) ?_;intro v h ⟨g,slM,_⟩;replace S:=S.call g;clear g
         simp only [BS,LB,ab,Nat.reduceLT,Nat.reduceEqDiff,Tryz.FFbw150,c4,slM.lenq]
         exact S.gr
       . rw [show cU N l.length R Q i v w=max (j9 (eB N l.length R i v) (eB N l.length R i w)) (j9 (eB N l.length Q i w) (eB N l.length Q i v))from if_pos ⟨c1,c2,by omega,by omega⟩]
         refine ac (n:=43) (rs:=[.tmp 8]) rfl yP rfl rfl rfl (lbt rfl) ?_
         simp only [BS,LB,Nat.reduceLT,Nat.reduceEqDiff]
         refine ar (gz S.ok (t.gr S.gr)) ?_;intro h g;replace S:=S.call g;clear g
         simp only [BS,LB,Nat.reduceLT,Nat.reduceEqDiff,c1]
         refine ar (gz S.ok (t.gr S.gr)) ?_;intro h g;replace S:=S.call g;clear g
         simp only [BS,LB,Nat.reduceLT,Nat.reduceEqDiff,c2,c3]
         refine step_ret (kL S.ok (t.gr S.gr) hl) ?_;intro v h ⟨g,slM,_⟩;replace S:=S.call g;clear g
         simp only [BS,LB,Nat.reduceLT,Nat.reduceEqDiff,Tryz.FFbw150,c4,slM.lenq]
         refine ar (wayTo_ok S.ok (t.gr S.gr) hR) ?_;intro h g;replace S:=S.call g;clear g
         simp only [BS,LB,Nat.reduceLT,Nat.reduceEqDiff]
         refine ar (wayFr_ok S.ok (t.gr S.gr) hQ) ?_;intro h g;replace S:=S.call g;clear g
         simp only [BS,LB,ab,Nat.reduceLT,Nat.reduceEqDiff]
         exact S.gr
   . rw [show cU N l.length R Q i v w=0 from if_neg (fun h=>c2 h.2.1)]
     refine ac (n:=43) (rs:=[.tmp 8]) rfl yP rfl rfl rfl (lbt rfl) ?_
     simp only [BS,LB,Nat.reduceLT,Nat.reduceEqDiff]
     refine ar (gz S.ok (t.gr S.gr)) ?_;intro h g;replace S:=S.call g;clear g
     simp only [BS,LB,Nat.reduceLT,Nat.reduceEqDiff,c1]
     refine ar (gz S.ok (t.gr S.gr)) ?_;intro h g;replace S:=S.call g;clear g
     simp only [BS,LB,ab,Nat.reduceLT,Nat.reduceEqDiff,c2]
     exact S.gr
 . rw [show cU N l.length R Q i v w=0 from if_neg (fun h=>c1 h.1)]
   refine ac (n:=43) (rs:=[.tmp 8]) rfl yP rfl rfl rfl (lbt rfl) ?_
   simp only [BS,LB,Nat.reduceLT,Nat.reduceEqDiff]
   refine ar (gz S.ok (t.gr S.gr)) ?_;intro h g;replace S:=S.call g;clear g
   simp only [BS,LB,ab,Nat.reduceLT,Nat.reduceEqDiff,c1]
   exact S.gr
def bR(N n:Nat)(R Q:Nat->List Int)(v w:Int)(l:List Int):Int:=l.foldl (fun b i=>max b (cU N n R Q i v w)) 0
theorem uK{h0:Hp}(ok:h0.t.Sized h0.n){m N:Nat}{p:Value}{l:List Int}{R Q:Nat->List Int}(t:TabAt h0 m p N l R Q)(hR: ∀i,i<l.length->(R i).length=N)(hQ: ∀i,i<l.length->(Q i).length=N)(hl:l.length<1000){va:Value}{act:List Int}(ha:aA h0 1 (encI .i64) va act)(hal:act.length<1000){v w:Int}:
 bC xW 19 [p,va,.int .i64 v,.int .i64 w] h0 (.int .i64 (bR N l.length R Q v w act)):=by
 have S:=Si ok
 refine ac (n:=26) (rs:=[.tmp 8]) rfl Tryz.e19 rfl rfl rfl (lbt rfl) ?_
 simp only [BS,LB,Nat.reduceLT,Nat.reduceEqDiff,Tryz.FFbw119,ha.lenq]
 refine aZ (fun(k:Nat) ρ h=>k<=act.length/\Gr h0 h/\ρ 0=p/\ρ 2=.int .i64 v/\ρ 3=.int .i64 w/\ρ 8=.int .i64 (bR N l.length R Q v w (act.take k))/\ρ 11=va/\ρ 12=.int .i64 act.length/\ρ 13=.int .i64 k) (fun k=>act.length-k) ?_ 0 _ _ ?_
 . clear S
   intro k ih ρ h ⟨hk,g0,r0,r2,r3,r8,r11,r12,r13⟩
   have wk:au .i64 ((k:Int)+1)=((k+1:Nat):Int):=by rw [wrap64]<;>omega
   by_cases hlt:k<act.length
   . obtain⟨c,o,hidx,hld⟩:=(ha.gr g0).ix (kd:=.i64) (dJ .i64) hlt
     simp only [BS,LB,Nat.reduceLT,Nat.reduceEqDiff,Tryz.FFbw119,r0,r2,r3,r8,r11,r12,r13,aI,hlt,hidx,hld,encI]
     refine ar (sc g0.ok (t.gr g0) hR hQ hl) ?_
     intro h g
     simp only [BS,LB,Nat.reduceLT,Nat.reduceEqDiff,r13,wk]
     refine ih (k+1) _ _ (by omega) ⟨by omega,g0.trans g,by simp [aa,r0],by simp [aa,r2],by simp [aa,r3],?_,by simp [aa,r11],by simp [aa,r12],by simp [aa]⟩
     rw [yn hlt]
     unfold bR
     rw [List.foldl_append]
     simp [aa]
   . simp only [BS,LB,ab,Nat.reduceLT,Nat.reduceEqDiff,r8,r12,r13,aI,hlt]
     rw [List.take_of_length_le (by omega)]
     exact⟨rfl,g0⟩
 . exact⟨ya _,S.gr,by simp [aa,aV],by simp [aa,aV,bV],by simp [aa,aV,bV],by simp [aa,bR],by simp [aa],by simp [aa],by simp [aa]⟩
end Go.Ab
end
section
namespace Go.Ab
def SlW(h:Hp)(kd:IntKind)(v:Value)(xs:List Int):Prop:=(v=.slice none 0 0/\xs=[])\/ ∃b o c,v=.slice (some ⟨b,o,none⟩) xs.length c/\xs.length<=c/\h.load b o (xs.length*1)=some (xs.flatMap (encI kd))
theorem SlW.sl{h:Hp}{kd:IntKind}{v:Value}{xs:List Int}(s:SlW h kd v xs):aA h 1 (encI kd) v xs:=s.imp (fun h=>h) (fun⟨b,o,c,h1,h2,h3⟩=>⟨b,o,none,c,h1,h2,h3⟩)
theorem SlW.low{E:Env}{h:Hp}{kd kd':IntKind}{t e:TypeId}{v:Value}{xs:List Int}(hu:E.und t=some (.slice e))(hs:E.sz e=some 1)(s:SlW h kd v xs){n:Nat}(hn:n<=xs.length):
 ∃v',ep E t v none (some (.int kd' (n:Int))) none=some v'/\aA h 1 (encI kd) v' (xs.take n)/\ ∀c,av v' c->av v c:=by
 have nat: ∀n:Nat,fT (n:Int)=some n:=fun n=>rfl
 rcases s with⟨rfl,rfl⟩|⟨b,o,c,rfl,h2,h3⟩
 . have:n=0:=by simpa using hn
   subst this
   refine⟨.slice none 0 0,?_,.inl ⟨rfl,rfl⟩,fun c hc=>hc⟩
   simp only [ep,hu,d9,dV,nat,hs]
   rfl
 . refine⟨.slice (some ⟨b,o,none⟩) n c,?_,.inr ⟨b,o,none,c,?_,?_,?_⟩,fun c hc=>hc⟩
   . simp only [ep,hu,d9,dV,nat,Nat.ble_eq_true_of_le (yc hn h2),cond_true,hs,Option.isSome_none,cond_false,Nat.sub_zero,d5,yk,Nat.add_zero]
     by_cases hc:c=0
     . subst hc;rfl
     . rw [show Nat.beq c 0=false by cases c with|zero=>exact absurd rfl hc|succ c=>rfl];rfl
   . rw [yi,yJ hn]
   . rw [yi,yJ hn];exact yc hn h2
   . rw [yi,yJ hn]
     have:=kB h3 (i:=0) (m:=n*1) (by omega)
     rw [Nat.add_zero,yr]at this
     rw [this]
     congr 1
     refine List.ext_getElem? fun i=>?_
     have e4: ∀l:List Int,l.flatMap (encI kd)=l.map fun x=>.int kd x:=fun l=>by
      rw [yt,yU,yt];rfl
     rw [e4,e4,yg,List.map_take]
end Go.Ab

end
section
namespace Go.Ab
def swJ(l:List Nat)(j:Nat):List Nat:=(l.set j (l.getD (j-1) 0)).set (j-1) (l.getD j 0)
def bub(key:Nat->Int):Nat->List Nat->List Nat
 |0,l=>l
 |j+1,l=>if key (l.getD j 0)<key (l.getD (j+1) 0)then bub key j (swJ l (j+1))else l
def gf(key:Nat->Int)(k:Nat)(l:List Nat):List Nat:=(xY k).foldl (fun l i=>bub key (i+1) l) l
theorem mQ(key:Nat->Int)(k:Nat)(l:List Nat):gf key (k+1) l=bub key (k+1) (gf key k l):=by
 unfold gf;rw [List.range_succ,List.foldl_append];rfl
theorem swJ_len(l:List Nat)(j:Nat):(swJ l j).length=l.length:=by simp [swJ]
theorem uV{l:List Nat}{j:Nat}(h:j<l.length):(swJ l j).Perm l:=by
 have:((l.set j l[j-1]).set (j-1) l[j]).Perm l:=List.set_set_perm h (by omega)
 unfold swJ
 rwa [show l.getD (j-1) 0=l[j-1] by simp [xX,show j-1<l.length by omega],show l.getD j 0=l[j] by simp [xX,h]]
theorem vg{key:Nat->Int}: ∀(j:Nat) {l:List Nat},j<l.length->(bub key j l).Perm l
 |0,l,_=>.refl _
 | j+1,l,h=>by
   unfold bub
   split
   . exact(vg j (by rw [swJ_len];omega)).trans (uV h)
   . exact .refl _
theorem mS{key:Nat->Int}{l:List Nat}: ∀(k:Nat),k<l.length\/k=0->(gf key k l).Perm l
 |0,_=>.refl _
 | k+1,h=>by
   have ih:=mS (key:=key) (l:=l) k (by omega)
   rw [mQ]
   exact(vg (k+1) (by rw [ih.length_eq];omega)).trans ih
end Go.Ab

end
section
namespace Go.Ab
open Go.Proofs
set_option maxRecDepth 10000
open Tryz in
def Tryz.FFa1165:=aj a1<|aj s1<|aj z1<|aj n1<|aj u2<|aj a2<|aj s2<|aj z2<|aj i2<|aj u3<|aj a3<|aj s3<|aj z3<|aj i3<|aj u4<|aj a4<|aj s4<|aj z4<|aj n4<|aj u5<|aj a5<|aj s5<|aj z5<|aj i5<|aj u6<|aj a6<|aj s6<|aj z6<|aj i6<|aj u40<|aj a40<|aj s40<|aj z40<|aj q40<|aj n40<|aj a111<|aj s111<|aj z111<|n111
open Tryz in
def Tryz.FFa1101:=aj u3<|aj a3<|aj s3<|aj z3<|aj i3<|aj u40<|aj a40<|aj s40<|aj z40<|aj q40<|aj n40<|aj a111<|aj s111<|aj z111<|n111
open Tryz in
def Tryz.FFa138:=aj a1<|aj s1<|aj z1<|aj n1<|aj u2<|aj a2<|aj s2<|aj z2<|aj i2<|aj u3<|aj a3<|aj s3<|aj z3<|aj i3<|aj u4<|aj a4<|aj s4<|aj z4<|aj n4<|aj u40<|aj a40<|aj s40<|aj z40<|aj q40<|n40
open Tryz in
def Tryz.FFa147:=aj a1<|aj s1<|aj z1<|aj n1<|aj u2<|aj a2<|aj s2<|aj z2<|aj i2<|aj u3<|aj a3<|aj s3<|aj z3<|aj i3<|aj u40<|aj a40<|aj s40<|aj z40<|aj q40<|aj n40<|aj a111<|aj s111<|aj z111<|n111
def dU(l:List Nat):List Value:=l.map fun(x:Nat)=>.int .i64 x
theorem pj(l:List Nat):l.flatMap bW=dU l:=by
 unfold dU;rw [yt,yU,yt];rfl
theorem kg(l:List Nat):(dU l).length=l.length:=by simp [dU]
theorem natM_at{l:List Nat}{i:Nat}(h:i<l.length):(dU l)[i]? =some (.int .i64 (l.getD i 0:Nat)):=by
 unfold dU;rw [yE,xZ h];simp [xX,h]
theorem uE(l:List Nat)(i x:Nat):(dU l).set i (.int .i64 (x:Nat))=dU (l.set i x):=by unfold dU;rw [List.map_set]
theorem uO{a b:Int}:jB a b<0↔a<b:=by
 unfold jB
 split
 . omega
 . split<;>omega
def CmpF(E:Env)(hq:Hp)(g:FuncId)(post:List Value)(N:Nat)(key:Nat->Int):Prop:= ∀h,Gr hq h-> ∀i j,i<N->j<N->bC E g ([.int .i64 (i:Nat),.int .i64 (j:Nat)]++post) h (.int .i64 (jB (key j) (key i)))
theorem xx {hq h0:Hp} (gq:Gr hq h0) {b N:Nat} {xs:List Nat} {g:FuncId} {post:Array Value} {key:Nat->Int} (row:Row h0 b (dU xs) 1) (hb:hq.n<=b) (hn:xs.length<=20) (hx: ∀x∈xs,x<N) (hc:CmpF xW hq g post.toList N key):
 Ret xW 165 [.slice (some ⟨b,0,some 1⟩) xs.length xs.length,.int .i64 0,.int .i64 (xs.length:Nat),.func (.func g) #[] post] h0 fun _ h'=>Mo (· =b) h0 h'/\Row h' b (dU (gf key (xs.length-1) xs)) 1:=by
 have ok:=gq.ok
 have S:=St.init1 ok (o:=.row _ 1) row
 have w1:au .i64 (0+1)=((0+1:Nat):Int):=rfl
 refine ac (n:=53) (rs:=[]) rfl Tryz.e165 rfl rfl rfl (lbt rfl) ?_
 simp only [BS,LB,Nat.reduceLT,Nat.reduceEqDiff,Int.reduceAdd]
 refine aZ (fun(i:Nat) ρ h=>i<=xs.length-1/\St (· =b) h0 h [(b,.row (dU (gf key i xs)) 1)] []/\ρ 0=.slice (some ⟨b,0,some 1⟩) xs.length xs.length/\ρ 1=.int .i64 0/\ρ 2=.int .i64 (xs.length:Nat)/\ρ 3=.func (.func g) #[] post/\ρ 8=.int .i64 ((i+1:Nat):Int)) (fun i=>xs.length-i) ?_ 0 _ _ ?_
 . clear S
   intro i ih ρ h ⟨hi,S,r0,r1,r2,r3,r8⟩
   by_cases hlt:i+1<xs.length
   . simp only [BS,LB,Nat.reduceLT,Nat.reduceEqDiff,r2,r8,aI,hlt]
     have pmI:=mS (key:=key) (l:=xs) i (.inl (by omega))
     refine aZ (fun(j:Nat) ρ h=>j<=i+1/\ ∃l,l.Perm xs/\bub key j l=bub key (i+1) (gf key i xs)/\St (· =b) h0 h [(b,.row (dU l) 1)] []/\ρ 0=.slice (some ⟨b,0,some 1⟩) xs.length xs.length/\ρ 1=.int .i64 0/\ρ 2=.int .i64 (xs.length:Nat)/\ρ 3=.func (.func g) #[] post/\ρ 8=.int .i64 ((i+1:Nat):Int)/\ρ 9=.int .i64 (j:Nat)) (fun j=>j) ?_ (i+1) _ _ ?_
     . clear S r0 r1 r2 r3 r8
       intro j ihj ρ h ⟨hj,l,pm,hbub,S,r0,r1,r2,r3,r8,r9⟩
       have ll:=pm.length_eq
       have wi:au .i64 (((i+1:Nat):Int)+1)=((i+1+1:Nat):Int):=by rw [wrap64]<;>omega
       by_cases hj0:0<j
       . obtain⟨k,rfl⟩: ∃k,j=k+1:=⟨j-1,by omega⟩
         have cj:(0:Int)<((k+1:Nat):Int):=by omega
         have wk:au .i64 (((k+1:Nat):Int)-1)=(k:Int):=by rw [wrap64]<;>omega
         have k1:k+1<xs.length:=by omega
         have k0:k<xs.length:=by omega
         have q1:=(S.row (b:=b) m0).load1 (natM_at (i:=k+1) (by omega))
         have q0:=(S.row (b:=b) m0).load1 (natM_at (i:=k) (by omega))
         have d1:l.getD (k+1) 0<N:=by
          refine hx _ (pm.mem_iff.1 ?_)
          rw [xX,xZ (by omega)];exact yp _
         have d0:l.getD k 0<N:=by
          refine hx _ (pm.mem_iff.1 ?_)
          rw [xX,xZ (by omega)];exact yp _
         simp only [BS]
         refine aC (aH rfl) (q:=0) (ps:=[]) (by kernel_rfl) ?_
         simp only [BS,LB,cls,Nat.reduceLT,Nat.reduceEqDiff,Nat.reduceAdd,Nat.reducePow,Nat.reduceDiv,Nat.reduceMod,Nat.reduceLeDiff,Tryz.FFa1165,r0,r1,r3,r9,cj,wk,k1,k0,q1,q0]
         refine cE (hc _ (((gq.fr (M:=NoM)).trans S.fr (fun c e=>.inr (by omega))).gr) _ _ d1 d0) ?_
         intro h g1
         replace S:=S.call g1
         by_cases hk:key (l.getD k 0)<key (l.getD (k+1) 0)
         . have ck:jB (key (l.getD k 0)) (key (l.getD (k+1) 0))<0:=uO.2 hk
           replace q1:=g1.load q1
           replace q0:=g1.load q0
           simp only [BS,LB,cls,Nat.reduceLT,Nat.reduceEqDiff,Nat.reduceAdd,Nat.reducePow,Nat.reduceDiv,Nat.reduceMod,Nat.reduceLeDiff,ck]
           refine aC (aH rfl) (q:=0) (ps:=[]) (by kernel_rfl) ?_
           simp only [BS,LB,cls,Nat.reduceLT,Nat.reduceEqDiff,Nat.reduceAdd,Nat.reducePow,Nat.reduceDiv,Nat.reduceMod,Nat.reduceLeDiff,Tryz.FFa1165,r0,r9,wk,k1,k0,q1,q0]
           refine c5 (aB S (i:=0) rfl yH bw (by rw [kg];omega) ono) ?_
           clear S;rintro h3 ⟨S,mo1⟩
           simp only [LC]at S
           simp only [BS,LB,cls,Nat.reduceLT,Nat.reduceEqDiff,Nat.reduceAdd,Nat.reducePow,Nat.reduceDiv,Nat.reduceMod,Nat.reduceLeDiff,Tryz.FFa1165,k0]
           refine c5 (aB S (i:=0) rfl yH bw (by rw [List.length_set,kg];omega) ono) ?_
           clear S;rintro h4 ⟨S,mo2⟩
           simp only [LC]at S
           rw [uE,uE]at S
           simp only [BS,LB,Nat.reduceLT,Nat.reduceEqDiff,Nat.reduceAdd,r9,wk]
           have e:bub key (k+1) l=bub key k (swJ l (k+1)):=by
            show(if _ then _ else _)=_
            rw [if_pos hk]
           exact ihj k _ _ (by omega) ⟨by omega,swJ l (k+1),(uV (by omega)).trans pm,by rw [<-e];exact hbub,S,by simp [aa,r0],by simp [aa,r1],by simp [aa,r2],by simp [aa,r3],by simp [aa,r8],by simp [aa]⟩
         . have ck: ¬jB (key (l.getD k 0)) (key (l.getD (k+1) 0))<0:=fun h=>hk (uO.1 h)
           have e:bub key (k+1) l=l:=by
            show(if _ then _ else _)=_
            rw [if_neg hk]
           rw [e]at hbub
           simp only [BS,LB,cls,Nat.reduceLT,Nat.reduceEqDiff,Nat.reduceAdd,Nat.reducePow,Nat.reduceDiv,Nat.reduceMod,Nat.reduceLeDiff,r8,ck,wi]
           exact ih (i+1) _ _ (by omega) ⟨by omega,by rw [mQ,<-hbub];exact S,by simp [aa,r0],by simp [aa,r1],by simp [aa,r2],by simp [aa,r3],by simp [aa]⟩
       . have ej:j=0:=by omega
         subst ej
         have hb0:l=bub key (i+1) (gf key i xs):=hbub
         have cj: ¬(0:Int)<((0:Nat):Int):=by omega
         simp only [BS]
         refine aC (aH rfl) (q:=0) (ps:=[]) (by kernel_rfl) ?_
         simp only [BS,LB,cls,Nat.reduceLT,Nat.reduceEqDiff,Nat.reduceAdd,Nat.reducePow,Nat.reduceDiv,Nat.reduceMod,Nat.reduceLeDiff,Int.reduceLT,yj,r1,r8,r9,wi]
         exact ih (i+1) _ _ (by omega) ⟨by omega,by rw [mQ,<-hb0];exact S,by simp [aa,r0],by simp [aa,r1],by simp [aa,r2],by simp [aa,r3],by simp [aa]⟩
     . exact⟨yu _,_,pmI,rfl,S,by simp [aa,r0],by simp [aa,r1],by simp [aa,r2],by simp [aa,r3],by simp [aa,r8],by simp [aa]⟩
   . simp only [BS,LB,Nat.reduceLT,Nat.reduceEqDiff,r2,r8,aI,hlt]
     have ei:i=xs.length-1:=by omega
     subst ei
     exact⟨S.fr,S.row m0⟩
 . exact⟨ya _,S,by simp [aa,ce],by simp [aa,ce],by simp [aa,ce],by simp [aa,ce],by simp [aa];rfl⟩
theorem stable_ok{hq h0:Hp}(gq:Gr hq h0){b N:Nat}{xs:List Nat}{g:FuncId}{post:Array Value}{key:Nat->Int}(row:Row h0 b (dU xs) 1)(hb:hq.n<=b)(hn:xs.length<20)(hx: ∀x∈xs,x<N)(hc:CmpF xW hq g post.toList N key):
 Ret xW 144 [.slice (some ⟨b,0,some 1⟩) xs.length xs.length,.int .i64 (xs.length:Nat),.func (.func g) #[] post] h0 fun _ h'=>Mo (· =b) h0 h'/\Row h' b (dU (gf key (xs.length-1) xs)) 1:=by
 have ok:=gq.ok
 have c1: ¬(20:Int)<=(xs.length:Int):=by omega
 have c2: ¬(20:Int)<(xs.length:Int):=by omega
 have S:=Si ok
 refine ac (n:=63) (rs:=[]) rfl Tryz.e144 rfl rfl rfl (lbt rfl) ?_
 simp only [BS,LB,Nat.reduceLT,Nat.reduceEqDiff]
 rw [bS]
 simp only [BS,LB,Nat.reduceLT,Nat.reduceEqDiff,c1]
 refine step_ret (xx gq row hb (by omega) hx hc) ?_
 rintro r h ⟨f,R⟩
 simp only [BS]
 rw [bS]
 simp only [BS,LB,Nat.reduceLT,Nat.reduceEqDiff,c2]
 exact⟨f,R⟩
theorem tL{hq h0:Hp}(gq:Gr hq h0){b N:Nat}{xs:List Nat}{g:FuncId}{post:Array Value}{key:Nat->Int}(row:Row h0 b (dU xs) 1)(hb:hq.n<=b)(hn:xs.length<20)(hx: ∀x∈xs,x<N)(hc:CmpF xW hq g post.toList N key):
 Ret xW 101 [.slice (some ⟨b,0,some 1⟩) xs.length xs.length,.func (.func g) #[] post] h0 fun _ h'=>Mo (· =b) h0 h'/\Row h' b (dU (gf key (xs.length-1) xs)) 1:=by
 refine ac (n:=9) (rs:=[]) rfl Tryz.e101 rfl rfl rfl (lbt rfl) ?_
 simp only [BS,LB,Nat.reduceLT,Nat.reduceEqDiff,Tryz.FFa1101]
 refine step_ret (stable_ok gq row hb hn hx hc) ?_
 rintro r h q
 simp only [BS]
 exact q
theorem uX{h0:Hp}(ok:h0.t.Sized h0.n){v:Value}{xs:List Nat}(hs:aA h0 1 bW v xs)(hl:xs.length<1000000)(hx:xs≠ []):Ret xW 38 [v] h0 fun r h'=>Gr h0 h'/\ ∃b,r=.slice (some ⟨b,0,some 1⟩) xs.length xs.length/\Row h' b (dU xs) 1/\h0.n<=b:=by
 have S:=Si ok
 rcases hs with⟨_,rfl⟩|⟨b,o,s,c,rfl,h2,h3⟩
 . exact absurd rfl hx
 . refine ac (n:=8) (rs:=[.tmp 2]) rfl Tryz.e38 rfl rfl rfl (lbt rfl) ?_
   simp only [BS,LB,Nat.reduceLT,Nat.reduceEqDiff,Tryz.FFa138]
   refine ae (bL (by exact yv) (by exact yB) (by decide) (by rfl)) S ?_;clear S;intro h bb S n_bb;simp only [LC,aU,bI,ag,Nat.reduceMul,Nat.reduceAdd,yk,yo,yg,yq]at S
   simp only [BS,LB,Nat.reduceLT,Nat.reduceEqDiff]
   have k0:=S.fr.n
   refine eK (S.cloneW (enc:=bW) (ys:=xs) yv yB (by decide) Tryz.n40 (.inr ⟨b,o,s,c,rfl,h2,S.old h3 (fun h=>h)⟩) fH (by decide) (by omega) (S.row m0)) ?_
   rintro h' v ⟨S',g,sl,hc,w⟩
   obtain⟨b',rfl,row⟩:=w hx
   simp only [BS,LB,ab,Nat.reduceLT,Nat.reduceEqDiff]
   rw [pj]at row
   exact⟨S'.gr,b',rfl,row,(hc b' rfl).elim (fun e=>by omega) (fun e=>yc k0 e)⟩
theorem first_ok{hq h0:Hp}(gq:Gr hq h0){N:Nat}{v:Value}{xs:List Nat}{g:FuncId}{post:Array Value}{key:Nat->Int}(hs:aA h0 1 bW v xs)(hne:xs≠ [])(hn:xs.length<20)(hx: ∀x∈xs,x<N)(hc:CmpF xW hq g post.toList N key){m:Nat}(hm:1<=m):
 Ret xW 47 [v,.int .i64 (m:Nat),.func (.func g) #[] post] h0 fun r h'=>Gr h0 h'/\aA h' 1 bW r ((gf key (xs.length-1) xs).take (min m xs.length))/\ ∀c,av r c->h0.n<=c:=by
 have ok:=gq.ok
 have mn:min (m:Int) (xs.length:Int)=((min m xs.length:Nat):Int):=by omega
 have pm:=mS (key:=key) (l:=xs) (xs.length-1) (by cases xs with|nil=>exact absurd rfl hne|cons a l=>simp)
 have S:=Si ok
 refine ac (n:=18) (rs:=[.tmp 6]) rfl Tryz.e47 rfl rfl rfl (lbt rfl) ?_
 simp only [BS,LB,Nat.reduceLT,Nat.reduceEqDiff]
 refine step_ret (uX S.ok hs (by omega) hne) ?_
 rintro r h ⟨g1,b,rfl,row,nb⟩
 have hbq:hq.n<=b:=yc gq.n nb
 simp only [BS,LB,Nat.reduceLT,Nat.reduceEqDiff]
 refine step_ret (tL (gq.trans g1) row hbq hn hx hc) ?_
 rintro r h2 ⟨f,R⟩
 have sl:=uR (kd:=.i64) (b:=b) (len:=xs.length) (n:=min m xs.length) yv yH (cap:=xs.length) (Nat.min_le_right _ _)
 simp only [BS,LB,ab,Nat.reduceLT,Nat.reduceEqDiff,yK,yL,Tryz.FFa147,mn,sl]
 refine⟨((g1.fr (M:=NoM)).trans f (fun c e=>.inr (by omega))).gr,?_,fun c hc=>by have hc:b=c:=hc;omega⟩
 have tl:((gf key (xs.length-1) xs).take (min m xs.length)).length=min m xs.length:=by rw [yi,pm.length_eq];omega
 refine .inr ⟨b,0,some 1,xs.length,by rw [tl],by rw [tl];exact Nat.min_le_right _ _,?_⟩
 rw [tl,R.load (by rw [kg,pm.length_eq];omega),pj,yr,yg]
 unfold dU
 rw [List.map_take]
open Tryz in
def Tryz.FFa248:=aj a1<|aj s1<|aj z1<|aj n1<|aj u2<|aj a2<|aj s2<|aj z2<|aj i2<|aj u3<|aj a3<|aj s3<|aj z3<|aj i3<|aj u38<|aj a38<|aj s38<|aj z38<|aj q38<|aj i38<|aj n38<|aj u40<|aj a40<|aj s40<|aj z40<|aj q40<|aj n40<|aj u71<|aj a71<|aj s71<|aj z71<|aj q71<|aj n71<|aj a96<|aj s96<|aj z96<|aj i96<|aj n96<|aj p96<|aj ff96<|d96
open Tryz in
def Tryz.FFa238:=aj a1<|aj s1<|aj z1<|aj n1<|aj u2<|aj a2<|aj s2<|aj z2<|aj i2<|aj u3<|aj a3<|aj s3<|aj z3<|aj i3<|aj u4<|aj a4<|aj s4<|aj z4<|aj n4<|aj u40<|aj a40<|aj s40<|aj z40<|aj q40<|n40
open Tryz in
def Tryz.FFa2101:=aj u3<|aj a3<|aj s3<|aj z3<|aj i3<|aj u40<|aj a40<|aj s40<|aj z40<|aj q40<|aj n40<|aj a111<|aj s111<|aj z111<|n111
open Tryz in
def Tryz.FFa247:=aj a1<|aj s1<|aj z1<|aj n1<|aj u2<|aj a2<|aj s2<|aj z2<|aj i2<|aj u3<|aj a3<|aj s3<|aj z3<|aj i3<|aj u40<|aj a40<|aj s40<|aj z40<|aj q40<|aj n40<|aj a111<|aj s111<|aj z111<|n111
open Tryz in
def Tryz.FFa218:=aj a1<|aj s1<|aj z1<|aj n1<|aj u2<|aj a2<|aj s2<|aj z2<|aj i2<|aj u3<|aj a3<|aj s3<|aj z3<|aj i3<|aj u4<|aj a4<|aj s4<|aj z4<|aj n4<|aj u5<|aj a5<|aj s5<|aj z5<|aj i5<|aj u6<|aj a6<|aj s6<|aj z6<|aj i6<|aj a7<|aj s7<|aj z7<|aj i7<|aj n7<|aj p7<|aj ff7<|aj d7<|aj u38<|aj a38<|aj s38<|aj z38<|aj q38<|aj i38<|aj n38<|aj u40<|aj a40<|aj s40<|aj z40<|aj q40<|aj n40<|aj u71<|aj a71<|aj s71<|aj z71<|aj q71<|aj n71<|aj a96<|aj s96<|aj z96<|aj i96<|aj n96<|aj p96<|aj ff96<|aj d96<|aj a111<|aj s111<|aj z111<|n111
def keyB(N n:Nat)(R Q:Nat->List Int)(s w:Int)(i:Nat):Int:=cU N n R Q i s w
def actL(N n:Nat)(R Q:Nat->List Int)(s w most:Int):List Nat:=(gf (keyB N n R Q s w) (n-1) (xY n)).take (min (max most 1).toNat n)
theorem xK{hq:Hp}{m N:Nat}{p:Value}{l:List Int}{R Q:Nat->List Int}(t:TabAt hq m p N l R Q)(hR: ∀i,i<l.length->(R i).length=N)(hQ: ∀i,i<l.length->(Q i).length=N)(hl:l.length<1000){s w:Int}{b4 b5 b6:Nat}(l4:hq.load b4 0 1=some [p])(l5:hq.load b5 0 1=some [.int .i64 s])(l6:hq.load b6 0 1=some [.int .i64 w]):
 CmpF xW hq 48 [ptrTo b4,ptrTo b5,ptrTo b6] l.length (keyB N l.length R Q s w):=by
 intro h g i j hi hj
 have fp:Fl p:=by obtain⟨b,_,_,_,rfl,_⟩:=t.ex;exact fb
 have S:=Si g.ok
 have z4:=bg g.ok (g.load l4)
 have z5:=bg g.ok (g.load l5)
 have z6:=bg g.ok (g.load l6)
 refine ac (n:=19) (rs:=[.tmp 7]) rfl Tryz.e48 rfl rfl rfl (lbt rfl) ?_
 simp only [BS,LB]
 refine aC (aH rfl) (q:=0) (ps:=[(4,8),(4,7),(4,5)]) (by kernel_rfl) ?_
 simp only [BS,LB,cls,Nat.reduceLT,Nat.reduceEqDiff,Nat.reduceAdd,Nat.reducePow,Nat.reduceDiv,Nat.reduceMod,Nat.reduceLeDiff,Tryz.FFa248,g.load l4,g.load l5,g.load l6]
 refine cE (sc S.ok ((t.gr g).gr S.gr) hR hQ hl) ?_
 intro h1 g1
 have v4:=ay g1 z4
 have v5:=ay g1 z5
 have v6:=ay g1 z6
 replace S:=S.call g1
 simp only [BS,LB,cls,Nat.reduceLT,Nat.reduceEqDiff,Nat.reduceAdd,Nat.reducePow,Nat.reduceDiv,Nat.reduceMod,Nat.reduceLeDiff,Tryz.FFa248,g1.load (g.load l4),g1.load (g.load l5),g1.load (g.load l6)]
 refine cE (sc S.ok ((t.gr g).gr S.gr) hR hQ hl) ?_
 intro h2 g2
 replace S:=S.call g2
 simp only [BS,LB,cls,Nat.reduceLT,Nat.reduceEqDiff,Nat.reduceAdd,Nat.reducePow,Nat.reduceDiv,Nat.reduceMod,Nat.reduceLeDiff]
 refine cE (vf S.ok) ?_
 intro h3 g3
 replace S:=S.call g3
 simp only [BS,LB,cls,ab,Nat.reduceLT,Nat.reduceEqDiff,Nat.reduceAdd,Nat.reducePow,Nat.reduceDiv,Nat.reduceMod,Nat.reduceLeDiff]
 refine⟨by simp only [aX,bu,aS,bz,aT,ne_eq,not_false_eq_true,bF,bJ,bA,aY,bK,cD,aK,Nat.reduceLT,Nat.reduceEqDiff,reduceIte,yb,ah,ce,aP v4,aP v5,aP v6],?_⟩
 exact⟨rfl,S.gr⟩
theorem insNil_ok{h0:Hp}(ok:h0.t.Sized h0.n){v:Value}:bC xW 165 [.slice none 0 0,.int .i64 0,.int .i64 0,v] h0 (.tuple #[]):=by
 have S:=Si ok
 have w1:au .i64 1=1:=rfl
 have c1: ¬(1:Int)<0:=by decide
 refine ac (n:=53) (rs:=[]) rfl Tryz.e165 rfl rfl rfl (lbt rfl) ?_
 simp only [BS,LB,Nat.reduceLT,Nat.reduceEqDiff,Int.reduceAdd,w1]
 rw [bS]
 simp only [BS,LB,ab,Nat.reduceLT,Nat.reduceEqDiff,c1]
 exact S.gr
theorem wC{h0:Hp}(ok:h0.t.Sized h0.n){m:Nat}{g:FuncId}{post:Array Value}:bC xW 47 [.slice none 0 0,.int .i64 (m:Nat),.func (.func g) #[] post] h0 (.slice none 0 0):=by
 have S:=Si ok
 have cl:bC xW 38 [.slice none 0 0] h0 (.slice none 0 0):=by
  refine ac (n:=8) (rs:=[.tmp 2]) rfl Tryz.e38 rfl rfl rfl (lbt rfl) ?_
  simp only [BS,LB,ab,Nat.reduceLT,Nat.reduceEqDiff,Tryz.FFa238]
  exact S.gr
 have mn:min (m:Int) 0=0:=by omega
 have c1: ¬(20:Int)<=0:=by decide
 have c2: ¬(20:Int)<0:=by decide
 have so: ∀{h:Hp},h.t.Sized h.n->bC xW 101 [.slice none 0 0,.func (.func g) #[] post] h (.tuple #[]):=fun {h} okh=>by
  have S:=Si okh
  have st:bC xW 144 [.slice none 0 0,.int .i64 0,.func (.func g) #[] post] h (.tuple #[]):=by
   refine ac (n:=63) (rs:=[]) rfl Tryz.e144 rfl rfl rfl (lbt rfl) ?_
   simp only [BS,LB,Nat.reduceLT,Nat.reduceEqDiff]
   rw [bS]
   simp only [BS,LB,Nat.reduceLT,Nat.reduceEqDiff,c1]
   refine ar (insNil_ok S.ok) ?_;intro h g;replace S:=S.call g;clear g
   simp only [BS]
   rw [bS]
   simp only [BS,LB,ab,Nat.reduceLT,Nat.reduceEqDiff,c2]
   exact S.gr
  refine ac (n:=9) (rs:=[]) rfl Tryz.e101 rfl rfl rfl (lbt rfl) ?_
  simp only [BS,LB,Nat.reduceLT,Nat.reduceEqDiff,yj,Tryz.FFa2101]
  refine ar st ?_;intro h' g';replace S:=S.call g'
  simp only [BS,LB,ab]
  exact S.gr
 have sl:ep xW 40 (.slice none 0 0) none (some (.int .i64 0)) none=some (.slice none 0 0):=by
  simp only [ep,yv,yH,d9,dV]
  rfl
 refine ac (n:=18) (rs:=[.tmp 6]) rfl Tryz.e47 rfl rfl rfl (lbt rfl) ?_
 simp only [BS,LB,Nat.reduceLT,Nat.reduceEqDiff]
 refine ar cl ?_;intro h g1;replace S:=S.call g1
 simp only [BS,LB,Nat.reduceLT,Nat.reduceEqDiff]
 refine ar (so S.ok) ?_;intro h g1;replace S:=S.call g1
 simp only [BS,LB,ab,Nat.reduceLT,Nat.reduceEqDiff,yj,yK,yL,Tryz.FFa247,mn,sl]
 exact S.gr
theorem xu{h0:Hp}(ok:h0.t.Sized h0.n){m N:Nat}{p:Value}{l:List Int}{R Q:Nat->List Int}(t:TabAt h0 m p N l R Q)(hR: ∀i,i<l.length->(R i).length=N)(hQ: ∀i,i<l.length->(Q i).length=N)(hl:l.length<=16){s w most:Int}:
 Ret xW 18 [p,.int .i64 s,.int .i64 w,.int .i64 most] h0 fun r h'=>Gr h0 h'/\aA h' 1 bW r (actL N l.length R Q s w most)/\ ∀c,av r c->h0.n<=c:=by
 have S:=Si ok
 have fp:Fl p:=by obtain⟨b,_,_,_,rfl,_⟩:=t.ex;exact fb
 obtain⟨mk,hmk⟩: ∃k:Nat,max most 1=(k:Int):=⟨(max most 1).toNat,by omega⟩
 have hmk':(max most 1).toNat=mk:=by omega
 refine ac (n:=27) (rs:=[.tmp 8]) rfl Tryz.e18 rfl rfl rfl (lbt rfl) ?_
 simp only [BS,Nat.reduceLT]
 refine ae (co (by assumption)) S ?_;clear S;intro h b4 S n_b4
 simp only [BS,Nat.reduceLT,Nat.reduceEqDiff,if_false]
 refine ae (co (by exact bw)) S ?_;clear S;intro h b5 S n_b5
 simp only [BS,Nat.reduceLT,Nat.reduceEqDiff,if_false]
 refine ae (co (by exact bw)) S ?_;clear S;intro h b6 S n_b6
 simp only [BS,LB,Nat.reduceLT,Nat.reduceEqDiff,Tryz.FFa218,S.ld (b:=b4) (o:=0) m2 rfl]
 have k0:=S.fr.n
 refine step_ret (kL S.ok (t.gr S.gr) (by omega)) ?_
 rintro r h ⟨g,sl,hc⟩
 replace S:=S.call g
 simp only [BS,LB,Nat.reduceLT,Nat.reduceEqDiff,Tryz.FFa218,sl.lenq]
 replace S:=S.nilG (k:=1)
 refine aZ (fun(i:Nat) ρ h=>i<=l.length/\ ∃vR,St NoM h0 h [(b6,.row [.int .i64 w] 1),(b5,.row [.int .i64 s] 1),(b4,.row [p] 1)] [(vR,1,dU (xY i))]/\(i=0->vR=.slice none 0 0)/\ρ 3=.int .i64 most/\ρ 4=ptrTo b4/\ρ 5=ptrTo b5/\ρ 6=ptrTo b6/\ρ 9=vR/\ρ 13=.int .i64 (l.length:Nat)/\ρ 14=.int .i64 i) (fun i=>l.length-i) ?_ 0 _ _ ?_
 . clear S
   intro i ih ρ h ⟨hi,vR,S,hv,r3,r4,r5,r6,r9,r13,r14⟩
   have wi:au .i64 ((i:Int)+1)=((i+1:Nat):Int):=by rw [wrap64]<;>omega
   by_cases hlt:i<l.length
   . simp only [BS,LB,Nat.reduceLT,Nat.reduceEqDiff,r9,r13,r14,aI,hlt]
     refine ae (bL (by exact yv) (by exact yB) (by decide) (by rfl)) S ?_;clear S;intro h bt S n_bt;simp only [LC,aU,bI,ag,Nat.reduceMul,Nat.reduceAdd,yk,yo,yg,yq]at S
     simp only [BS,LB,Nat.reduceLT,Nat.reduceEqDiff]
     have src:aO h 1 (.slice (some ⟨bt,0,none⟩) 1 1)=some (1,[.int .i64 (i:Nat)]):=by simp only [aO];rw [S.lds (b:=bt) (o:=0) (n:=1*1) m0 (lbt rfl)];rfl
     replace S:=S.drop1
     refine eK (S.grow (j:=0) (m:=1) (new:=[.int .i64 (i:Nat)]) rfl yv yB (by decide) Tryz.n40 src rfl (by decide) rfl (by rw [kg];simp;omega)) ?_
     clear S src;rintro h vR' S
     simp only [LC]at S
     have e:dU (xY i)++[.int .i64 (i:Nat)]=dU (xY (i+1)):=by unfold dU;rw [List.range_succ,List.map_append];rfl
     rw [e]at S
     simp only [BS,LB,Nat.reduceLT,Nat.reduceEqDiff,r14,wi]
     exact ih (i+1) _ _ (by omega) ⟨by omega,vR',S,fun h=>(by omega),by simp [aa,r3],by simp [aa,r4,ah],by simp [aa,r5,ah],by simp [aa,r6,ah],by simp [aa],by simp [aa,r13],by simp [aa]⟩
   . have ei:i=l.length:=by omega
     subst ei
     simp only [BS,LB,Nat.reduceLT,Nat.reduceEqDiff,r3,r4,r5,r6,r9,r13,r14,aI,hlt]
     by_cases hn:l.length=0
     . have ev:=hv hn
       subst ev
       have kS:=S.fr.n
       rw [hmk]
       refine ar (wC S.ok) ?_
       intro h' g
       replace S:=S.call g
       simp only [BS,LB,ab,Nat.reduceLT,Nat.reduceEqDiff]
       refine⟨S.gr,.inl ⟨rfl,?_⟩,fun c hc=>hc.elim⟩
       unfold actL
       rw [hn];simp
     . have sA:aA h 1 bW vR (xY l.length):=(S.gown _ m0).1.sl (pj _).symm fH (by decide)
       have kS:=S.fr.n
       have cf:=xK (t.gr S.gr) hR hQ (by omega) (s:=s) (w:=w) (b4:=b4) (b5:=b5) (b6:=b6) (S.ld m2 rfl) (S.ld m1 rfl) (S.ld m0 rfl)
       rw [hmk]
       refine step_ret (first_ok (N:=l.length) (m:=mk) (Gr.refl S.ok) sA (by intro e;have:=congrArg yY e;rw [yF]at this;exact hn this) (by simp;omega) (fun x hx=>List.mem_range.1 hx) cf (by omega)) ?_
       rintro r h' ⟨g,sl',hc'⟩
       replace S:=S.call g
       simp only [BS,LB,ab,Nat.reduceLT,Nat.reduceEqDiff]
       rw [yF]at sl'
       exact⟨S.gr,by unfold actL;rw [hmk'];exact sl',fun c hc=>yc kS (hc' c hc)⟩
 . exact⟨ya _,_,S,fun _=>rfl,by simp [aa,ce],by simp [aa,ah],by simp [aa,ah],by simp [aa,ah],by simp [aa],by simp [aa],by simp [aa]⟩
open Tryz in
def Tryz.FFb155:=aj a1<|aj s1<|aj z1<|aj n1<|aj u2<|aj a2<|aj s2<|aj z2<|aj i2<|aj u3<|aj a3<|aj s3<|aj z3<|aj i3<|aj u4<|aj a4<|aj s4<|aj z4<|aj n4<|aj u5<|aj a5<|aj s5<|aj z5<|aj i5<|aj u6<|aj a6<|aj s6<|aj z6<|aj i6<|aj a7<|aj s7<|aj z7<|aj i7<|aj n7<|aj p7<|aj ff7<|aj d7<|aj a37<|aj s37<|aj z37<|aj n37<|aj u44<|aj a44<|aj s44<|aj z44<|aj i44<|aj a117<|aj s117<|aj z117<|aj i117<|aj n117<|aj p117<|aj ff117<|aj d117<|aj u173<|aj a173<|aj s173<|aj z173<|aj q173<|n173
open Tryz in
def Tryz.FFb154:=aj a1<|aj s1<|aj z1<|aj n1<|aj u3<|aj a3<|aj s3<|aj z3<|aj i3<|aj u4<|aj a4<|aj s4<|aj z4<|aj n4<|aj a30<|aj s30<|aj z30<|aj i30<|aj n30<|aj p30<|aj ff30<|aj d30<|aj u32<|aj a32<|aj s32<|aj z32<|aj q32<|aj i32<|aj n32<|aj u146<|aj a146<|aj s146<|aj z146<|aj q146<|aj n146<|aj a148<|aj s148<|aj z148<|aj i148<|aj n148<|aj p148<|aj ff148<|d148
open Tryz in
def Tryz.FFb156:=aj a1<|aj s1<|aj z1<|aj n1<|aj u4<|aj a4<|aj s4<|aj z4<|aj n4<|aj a30<|aj s30<|aj z30<|aj i30<|aj n30<|aj p30<|aj ff30<|aj d30<|aj u32<|aj a32<|aj s32<|aj z32<|aj q32<|aj i32<|aj n32<|aj u146<|aj a146<|aj s146<|aj z146<|aj q146<|aj n146<|aj a148<|aj s148<|aj z148<|aj i148<|aj n148<|aj p148<|aj ff148<|d148
open Tryz in
def Tryz.FFb157:=aj a1<|aj s1<|aj z1<|aj n1<|aj u3<|aj a3<|aj s3<|aj z3<|aj i3<|aj u4<|aj a4<|aj s4<|aj z4<|aj n4<|aj a30<|aj s30<|aj z30<|aj i30<|aj n30<|aj p30<|aj ff30<|aj d30<|aj u32<|aj a32<|aj s32<|aj z32<|aj q32<|aj i32<|aj n32<|aj u38<|aj a38<|aj s38<|aj z38<|aj q38<|aj i38<|aj n38<|aj u40<|aj a40<|aj s40<|aj z40<|aj q40<|aj n40<|aj u71<|aj a71<|aj s71<|aj z71<|aj q71<|aj n71<|aj a96<|aj s96<|aj z96<|aj i96<|aj n96<|aj p96<|aj ff96<|aj d96<|aj u146<|aj a146<|aj s146<|aj z146<|aj q146<|aj n146<|aj a148<|aj s148<|aj z148<|aj i148<|aj n148<|aj p148<|aj ff148<|d148
structure Rl where
 g:FuncId
 post:Array Value
 ok:Bool
 code:Int
def encR(r:Rl):List Value:=[.func (.func r.g) #[] r.post,.int .i64 r.code]
theorem encR_len(r:Rl):(encR r).length=2:=rfl
def kX:List Rl->Int
 | []=>0
 |r::l=>if r.ok=true then kX l else r.code
theorem oI{x:Option Tch}:iP none x=true:=by cases x<;>rfl
theorem wo{rs:List Rl}{i:Nat}(hi:i<rs.length):kX (rs.drop i)=if rs[i].ok=true then kX (rs.drop (i+1))else rs[i].code:=by
 rw [List.drop_eq_getElem_cons hi];rfl
theorem vw {h0:Hp} (ok:h0.t.Sized h0.n) {v:Value} {rs:List Rl} (sl:aA h0 2 encR v rs) (hl:rs.length<1000) (hp: ∀i (hi:i<rs.length),(∀j,j<i->(rs.getD j ⟨0,#[],false,0⟩).ok=true)-> ∀h,Gr h0 h->bC xW rs[i].g rs[i].post.toList h (.bool rs[i].ok)):
 bC xW 55 [v] h0 (.int .i64 (kX rs)):=by
 have S:=Si ok
 refine ac (n:=18) (rs:=[.tmp 2]) rfl Tryz.e55 rfl rfl rfl (lbt rfl) ?_
 simp only [BS,LB,Nat.reduceLT,Nat.reduceEqDiff,Tryz.FFb155,sl.lenq]
 refine aZ (fun(i:Nat) ρ h=>i<=rs.length/\St NoM h0 h [] []/\kX rs=kX (rs.drop i)/\(∀j,j<i->(rs.getD j ⟨0,#[],false,0⟩).ok=true)/\ρ 5=v/\ρ 6=.int .i64 (rs.length:Nat)/\ρ 7=.int .i64 i) (fun i=>rs.length-i) ?_ 0 _ _ ?_
 . clear S
   intro i ih ρ h ⟨hi,S,e,hb,r5,r6,r7⟩
   have w:au .i64 ((i:Int)+1)=((i+1:Nat):Int):=by rw [wrap64]<;>omega
   by_cases hlt:i<rs.length
   . obtain⟨c,o,x,y⟩:=(sl.gr S.gr).ix (kd:=.i64) encR_len hlt
     have hr:=hp i hlt hb
     have hi':rs.getD i ⟨0,#[],false,0⟩=rs[i]:=by rw [xX,xZ hlt];rfl
     rw [wo hlt]at e
     generalize rs[i]=r at hr y e hi'
     have gr:=S.gr
     have Sx:=S
     replace S:=Si S.ok
     simp only [BS,LB,Nat.reduceLT,Nat.reduceEqDiff,Tryz.FFb155,r5,r6,r7,aI,hlt,x,y,encR]
     refine ae aw S ?_;clear S;intro h b4 S n_b4
     simp only [BS,LB,Nat.reduceLT,Nat.reduceEqDiff]
     refine az (S.store (i:=0) rfl ?_ ?_ rfl rfl ?_ ono) ?_
     . exact(by exact Tryz.s117)
     . exact(by intro x e;cases e)
     . exact lbt rfl
     clear S;rintro h ⟨S,mo⟩;clear mo;simp only [LC,ag,lay,yl,ym,Nat.reduceAdd]at S
     simp only [BS,LB,Nat.reduceLT,Nat.reduceEqDiff,Tryz.FFb155,S.ld (b:=b4) (o:=0) m0 rfl]
     refine ar (hr _ (gr.trans S.gr)) ?_
     intro h' g'
     replace S:=S.call g'
     cases hk:r.ok with
     | true=>
       rw [hk,if_pos rfl]at e
       simp only [BS,LB,Nat.reduceLT,Nat.reduceEqDiff,r7,w]
       exact ih (i+1) _ _ (by omega) ⟨by omega,Sx.call S.gr,e,fun j hj=>by
        rcases Nat.lt_or_ge j i with h|h
        . exact hb j h
        . rw [show j=i by omega,hi'];exact hk,by simp [aa,r5],by simp [aa,r6],by simp [aa]⟩
     | false=>
       rw [hk,if_neg Bool.false_ne_true]at e
       simp only [BS,LB,ab,Nat.reduceLT,Nat.reduceEqDiff,Tryz.FFb155,S.ld (b:=b4) (o:=1) m0 rfl]
       exact⟨by rw [e],gr.trans S.gr⟩
   . simp only [BS,LB,ab,Nat.reduceLT,Nat.reduceEqDiff,r6,r7,aI,hlt]
     have:i=rs.length:=by omega
     subst this
     rw [List.drop_length]at e
     exact⟨by rw [e];rfl,S.gr⟩
 . exact⟨ya _,S,rfl,fun j hj=>by omega,by simp [aa,aV],by simp [aa],by simp [aa]⟩
structure TabO(E:Env)(h0:Hp)(pt:Value)(nd mk:Nat)(gM gN:FuncId):Prop where
 fl:Fl pt
 marks: ∀h,Gr h0 h->Ret E gM [pt] h fun r h'=>Gr h h'/\ ∃l:List Int,aA h' 1 (encI .i64) r l/\l.length=mk
 nodes: ∀h,Gr h0 h->bC E gN [pt] h (.int .i64 (nd:Nat))
def gw(N nd mk:Nat)(f t:Int):Int:=if¬(0<=f/\f<N)then 17 else if¬(0<=t/\t<N)then 18 else if 0<mk/\nd=N then 0 else 19
theorem uC{hq:Hp}{b2 b3 bp:Nat}{γ:Gra}{nb:Nat}(c:bT hq nb (ptrTo bp) γ){v:Int}(l2:hq.load b2 0 1=some [.int .i64 v])(l3:hq.load b3 0 1=some [ptrTo bp]): ∀h,Gr hq h->bC xW 54 [ptrTo b2,ptrTo b3] h (.bool (decide (0<=v/\v<γ.nodes))):=by
 intro h g
 have S:=Si g.ok
 have z2:=bg g.ok (g.load l2)
 have z3:=bg g.ok (g.load l3)
 refine ac (n:=11) (rs:=[.tmp 2]) rfl Tryz.e54 rfl rfl rfl (lbt rfl) ?_
 simp only [BS]
 refine aC (aH rfl) (q:=0) (ps:=[(3,5)]) (by kernel_rfl) ?_
 by_cases c0:0<=v
 . simp only [BS,LB,cls,Nat.reduceLT,Nat.reduceEqDiff,Nat.reduceAdd,Nat.reducePow,Nat.reduceDiv,Nat.reduceMod,Nat.reduceLeDiff,Tryz.FFb154,g.load l2,g.load l3,c0]
   refine cE (cH S.ok ((c.gr g).gr S.gr)) ?_
   intro h1 g1
   have v2:=ay g1 z2
   have v3:=ay g1 z3
   replace S:=S.call g1
   simp only [BS,LB,cls,ab,Nat.reduceLT,Nat.reduceEqDiff,Nat.reduceAdd,Nat.reducePow,Nat.reduceDiv,Nat.reduceMod,Nat.reduceLeDiff]
   refine⟨by simp only [aX,bu,aS,bz,aT,ne_eq,not_false_eq_true,bF,bJ,aY,jS,bK,cD,aK,Nat.reduceLT,Nat.reduceEqDiff,reduceIte,ah,ce,mK,oI,yb,aN v2,aP v2,aN v3,aP v3],S.gr⟩
 . simp only [BS,LB,cls,ab,Nat.reduceLT,Nat.reduceEqDiff,Nat.reduceAdd,Nat.reducePow,Nat.reduceDiv,Nat.reduceMod,Nat.reduceLeDiff,Tryz.FFb154,g.load l2,g.load l3,c0]
   refine⟨by simp only [aX,bu,aS,bz,aT,ne_eq,not_false_eq_true,bF,bJ,aY,jS,bK,cD,aK,Nat.reduceLT,Nat.reduceEqDiff,reduceIte,ah,ce,mK,oI,yb],by simp [c0],S.gr⟩
theorem node_ok{h0:Hp}(ok:h0.t.Sized h0.n){b3:Nat}{v:Int}:Ret xW 53 [.int .i64 v,ptrTo b3] h0 fun r h'=>Gr h0 h'/\ ∃b2,r=.func (.func 54) #[] #[ptrTo b2,ptrTo b3]/\h'.load b2 0 1=some [.int .i64 v]:=by
 have S:=Si ok
 refine ac (n:=5) (rs:=[.tmp 3]) rfl Tryz.e53 rfl rfl rfl (lbt rfl) ?_
 simp only [BS,Nat.reduceLT]
 refine ae (co (by exact bw)) S ?_;clear S;intro h b2 S n_b2
 simp only [BS,LB,ab,Nat.reduceLT,Nat.reduceEqDiff]
 exact⟨S.gr,b2,rfl,S.ld m0 rfl⟩
def isP:Value->Bool
 | .pointer none=>false
 |_=>true
theorem net2_ok{hq:Hp}{b3:Nat}{p:Value}(hp:(∃b,p=ptrTo b)\/p=.pointer none)(l3:hq.load b3 0 1=some [p]): ∀h,Gr hq h->bC xW 56 [ptrTo b3] h (.bool (isP p)):=by
 intro h g
 have S:=Si g.ok
 refine ac (n:=4) (rs:=[.tmp 1]) rfl Tryz.e56 rfl rfl rfl (lbt rfl) ?_
 rcases hp with⟨bp,rfl⟩|rfl
 . simp only [BS,LB,ab,Nat.reduceLT,Nat.reduceEqDiff,Tryz.FFb156,g.load l3]
   exact⟨rfl,S.gr⟩
 . simp only [BS,LB,ab,Nat.reduceLT,Nat.reduceEqDiff,Tryz.FFb156,g.load l3]
   exact⟨rfl,S.gr⟩
theorem tab3_ok{hq:Hp}{b3 b4 bp nd mk:Nat}{pt:Value}{γ:Gra}{nb:Nat}(c:bT hq nb (ptrTo bp) γ)(T:TabO xW hq pt nd mk 46 58)(l4:hq.load b4 0 1=some [pt])(l3:hq.load b3 0 1=some [ptrTo bp]): ∀h,Gr hq h->bC xW 57 [ptrTo b4,ptrTo b3] h (.bool (decide (0<mk/\nd=γ.nodes))):=by
 intro h g
 have fp:=T.fl
 have S:=Si g.ok
 have z4:=bg g.ok (g.load l4)
 have z3:=bg g.ok (g.load l3)
 refine ac (n:=14) (rs:=[.tmp 2]) rfl Tryz.e57 rfl rfl rfl (lbt rfl) ?_
 simp only [BS]
 refine aC (aH rfl) (q:=0) (ps:=[(6,7)]) (by kernel_rfl) ?_
 simp only [BS,LB,cls,Nat.reduceLT,Nat.reduceEqDiff,Nat.reducePow,Nat.reduceDiv,Nat.reduceMod,Nat.reduceLeDiff,Tryz.FFb157,g.load l4,g.load l3]
 refine dg (T.marks _ (g.trans S.gr)) ?_
 rintro r h1 ⟨g1,l,sl,el⟩
 replace S:=S.call g1
 have v4:=ay g1 z4
 have v3:=ay g1 z3
 by_cases hm:0<mk
 . have c0:(0:Int)<(l.length:Int):=by omega
   simp only [BS,LB,cls,Nat.reduceLT,Nat.reduceEqDiff,Nat.reduceAdd,Nat.reducePow,Nat.reduceDiv,Nat.reduceMod,Nat.reduceLeDiff,Tryz.FFb157,sl.lenq,c0,g1.load (g.load l4),g1.load (g.load l3)]
   refine cE (T.nodes _ (g.trans S.gr)) ?_
   intro h2 g2
   have k4:=ay g2 (yd z4 g1.n)
   have k3:=ay g2 (yd z3 g1.n)
   replace S:=S.call g2
   simp only [BS,LB,cls,Nat.reduceLT,Nat.reduceEqDiff,Nat.reduceAdd,Nat.reducePow,Nat.reduceDiv,Nat.reduceMod,Nat.reduceLeDiff,Tryz.FFb157,g2.load (g1.load (g.load l3))]
   refine cE (cH S.ok ((c.gr g).gr S.gr)) ?_
   intro h3 g3
   have q4:=ay g3 (yd z4 (g1.trans g2).n)
   have q3:=ay g3 (yd z3 (g1.trans g2).n)
   replace S:=S.call g3
   simp only [BS,LB,cls,ab,Nat.reduceLT,Nat.reduceEqDiff,Nat.reduceAdd,Nat.reducePow,Nat.reduceDiv,Nat.reduceMod,Nat.reduceLeDiff]
   refine⟨by simp only [aX,bu,aS,bz,aT,ne_eq,not_false_eq_true,bF,bJ,bA,aY,bK,cD,aK,Nat.reduceLT,Nat.reduceEqDiff,reduceIte,yb,ah,ce,aN v3,aP v3,aN v4,aP v4,aN k3,aP k3,aN k4,aP k4,aN q3,aP q3,aN q4,aP q4],?_⟩
   exact⟨by simp [hm,Int.ofNat_inj],S.gr⟩
 . have c0: ¬(0:Int)<(l.length:Int):=by omega
   simp only [BS,LB,cls,ab,Nat.reduceLT,Nat.reduceEqDiff,Nat.reduceAdd,Nat.reducePow,Nat.reduceDiv,Nat.reduceMod,Nat.reduceLeDiff,Tryz.FFb157,sl.lenq,c0]
   refine⟨by simp only [aX,bu,aS,bz,aT,ne_eq,not_false_eq_true,Nat.reduceEqDiff,mK,oI,yb],by simp [hm],S.gr⟩
open Tryz in
def Tryz.FFb2143:=aj a1<|aj s1<|aj z1<|aj n1<|aj u2<|aj a2<|aj s2<|aj z2<|aj i2<|aj u3<|aj a3<|aj s3<|aj z3<|aj i3<|aj u4<|aj a4<|aj s4<|aj z4<|aj n4<|aj u38<|aj a38<|aj s38<|aj z38<|aj q38<|aj i38<|aj n38<|aj u40<|aj a40<|aj s40<|aj z40<|aj q40<|aj n40<|aj u71<|aj a71<|aj s71<|aj z71<|aj q71<|aj n71<|aj a96<|aj s96<|aj z96<|aj i96<|aj n96<|aj p96<|aj ff96<|aj d96<|aj a126<|aj s126<|aj z126<|aj n126<|aj a169<|aj s169<|aj z169<|n169
open Tryz in
def Tryz.FFb2100:=aj a1<|aj s1<|aj z1<|aj n1<|aj u2<|aj a2<|aj s2<|aj z2<|aj i2<|aj u3<|aj a3<|aj s3<|aj z3<|aj i3<|aj u38<|aj a38<|aj s38<|aj z38<|aj q38<|aj i38<|aj n38<|aj u40<|aj a40<|aj s40<|aj z40<|aj q40<|aj n40<|aj u71<|aj a71<|aj s71<|aj z71<|aj q71<|aj n71<|aj a96<|aj s96<|aj z96<|aj i96<|aj n96<|aj p96<|aj ff96<|d96
open Tryz in
def Tryz.FFb244:=aj a1<|aj s1<|aj z1<|aj n1<|aj u2<|aj a2<|aj s2<|aj z2<|aj i2<|aj u3<|aj a3<|aj s3<|aj z3<|aj i3<|aj u4<|aj a4<|aj s4<|aj z4<|aj n4<|aj u5<|aj a5<|aj s5<|aj z5<|aj i5<|aj u6<|aj a6<|aj s6<|aj z6<|aj i6<|aj u9<|aj a9<|aj s9<|aj z9<|aj n9<|aj u15<|aj a15<|aj s15<|aj z15<|aj q15<|aj i15<|aj n15<|aj u17<|aj a17<|aj s17<|aj z17<|aj q17<|aj i17<|aj n17<|aj u25<|aj a25<|aj s25<|aj z25<|aj q25<|aj n25<|aj u38<|aj a38<|aj s38<|aj z38<|aj q38<|aj i38<|aj n38<|aj u40<|aj a40<|aj s40<|aj z40<|aj q40<|aj n40<|aj u71<|aj a71<|aj s71<|aj z71<|aj q71<|aj n71<|aj a96<|aj s96<|aj z96<|aj i96<|aj n96<|aj p96<|aj ff96<|aj d96<|aj a167<|aj s167<|aj z167<|aj n167<|aj a169<|aj s169<|aj z169<|aj n169<|aj a274<|aj s274<|aj z274<|aj i274<|aj n274<|aj p274<|aj ff274<|d274
theorem fF.keep{h h':Hp}{m n:Nat}{v:Value}{R:Nat->List Int}(ok:h.t.Sized h.n)(g:gU h h')(r:fF h m v n R):fF h' m v n R:=by
 obtain⟨ws,a,b,c,d⟩:=r
 exact⟨ws,a.keep ok g,b,c,fun i w hw=>⟨(d i w hw).1.keep ok g,(d i w hw).2⟩⟩
theorem TabAt.keep{h h':Hp}{m N:Nat}{p:Value}{l:List Int}{R Q:Nat->List Int}(ok:h.t.Sized h.n)(g:gU h h')(t:TabAt h m p N l R Q):TabAt h' m p N l R Q:=by
 obtain⟨b,vM,vT,vF,e,h1,h2,h3,h4,h5,h6⟩:=t.ex
 exact⟨b,vM,vT,vF,e,g.row ok h1,h2.keep ok g,h3.keep ok g,h4.keep ok g,h5,h6⟩
theorem each_ok{h0:Hp}(ok:h0.t.Sized h0.n){pt ve:Value}(f1:Fl pt)(f2:Fl ve):Ret xW 99 [pt,ve] h0 fun v h'=>Gr h0 h'/\ ∃b1 b2,v=.func (.func 143) #[] #[ptrTo b1,ptrTo b2]/\h0.n<=b1/\h0.n<=b2/\h'.load b1 0 1=some [pt]/\h'.load b2 0 1=some [ve]:=by
 have S:=Si ok
 refine ac (n:=6) (rs:=[.tmp 4]) rfl Tryz.e99 rfl rfl rfl (lbt rfl) ?_
 simp only [BS,Nat.reduceLT]
 refine ae (co (by assumption)) S ?_;clear S;intro h b1 S n_b1
 simp only [BS,Nat.reduceLT,Nat.reduceEqDiff,if_false]
 refine ae (co (by assumption)) S ?_;clear S;intro h b2 S n_b2
 simp only [BS,LB,ab,Nat.reduceLT,Nat.reduceEqDiff]
 exact⟨S.gr,b1,b2,rfl,n_b1,n_b2,S.ld m1 rfl,S.ld m0 rfl⟩
def TellF(E:Env)(hq:Hp)(g:FuncId)(post:List Value)(N:Nat)(f:Nat->Int):Prop:= ∀h,h.t.Sized h.n->gU hq h-> ∀v,v<N->bC E g ([.int .i64 (v:Nat)]++post) h (.int .i64 (f v))
theorem each_it{hq h0:Hp}(okq:hq.t.Sized hq.n)(ok0:h0.t.Sized h0.n)(kq:gU hq h0)(nq:hq.n<=h0.n){m N:Nat}{pt:Value}{l:List Int}{R Q:Nat->List Int}(t:TabAt hq m pt N l R Q)(hN:N<=1000){b1 b2:Nat}{g:FuncId}{post:Array Value}{f:Nat->Int}(hf:TellF xW hq g post.toList N f)
 (e1:h0.load b1 0 1=some [pt]) (e2:h0.load b2 0 1=some [.func (.func g) #[] post]):
 pL xW 143 [] [ptrTo b1,ptrTo b2] h0 (fun c=>c=b1\/c=b2\/c<hq.n) ((xY N).map fun(v:Nat)=>[.int .i64 (f v)]):=by
 intro lb J Z hz Y h F s hj
 have l1:=s.load ok0 e1 (.inl rfl)
 have fp:Fl pt:=by obtain⟨b,_,_,_,rfl,_⟩:=t.ex;exact fb
 refine enter (n:=17) (rs:=[]) rfl Tryz.e143 rfl rfl rfl (lbt rfl) ?_
 simp only [BS,LB,Nat.reduceLT,Tryz.FFb2143,l1]
 refine ar (mN s.ok (t.keep okq (s.keep kq nq (fun c hc=>.inr (.inr hc))))) ?_
 intro h' g1
 have sA:=s.gr g1
 have jA:=Y.gr _ _ _ _ hj g1
 simp only [BS]
 refine aZ (fun(i:Nat) ρ h=>i<=N/\ ∃F,ItS h0 (fun c=>c=b1\/c=b2\/c<hq.n) h F/\J i h F/\ρ 0=.func (.yield lb) #[] #[]/\ρ 1=ptrTo b1/\ρ 2=ptrTo b2/\ρ 6=.int .i64 (N:Nat)/\ρ 7=.int .i64 i) (fun i=>N-i) ?_ 0 _ _ ?_
 . clear l1 s hj sA jA F g1 h
   intro i ih ρ h ⟨hi,F,s,hj,r0,r1,r2,r6,r7⟩
   have w:au .i64 ((i:Int)+1)=((i+1:Nat):Int):=by rw [wrap64]<;>omega
   by_cases hlt:i<N
   . have l2:=s.load ok0 e2 (.inr (.inl rfl))
     have hx:((xY N).map fun(v:Nat)=>[Value.int .i64 (f v)])[i]? =some [.int .i64 (f i)]:=by rw [yE,List.getElem?_range hlt];rfl
     simp only [BS,LB,Nat.reduceLT,Nat.reduceEqDiff,Tryz.FFb2143,r0,r2,r6,r7,aI,hlt,l2]
     refine ar (hf _ s.ok (s.keep kq nq (fun c hc=>.inr (.inr hc))) i hlt) ?_
     intro h2 g2
     simp only [BS,LB,Nat.reduceLT,Nat.reduceEqDiff]
     refine eG Y (s.gr g2) (Y.gr _ _ _ _ hj g2) (i:=i) hx ?_ ?_ ?_
     . intro h3 F3 a s3 _ _
       simp only [BS,LB,Nat.reduceLT,Nat.reduceEqDiff,r7,w]
       exact ih (i+1) _ _ (by omega) ⟨by omega,F3,s3,a,by simp [aa,r0],by simp [aa,r1,ah],by simp [aa,r2,ah],by simp [aa,r6],by simp [aa]⟩
     . intro h3 a _
       simp only [BS,LB,Nat.reduceLT,Nat.reduceEqDiff]
       exact iw rfl ⟨rfl,.inr (.inl ⟨_,rfl,a⟩)⟩
     . intro v h3 a
       exact absurd a (hz v h3)
   . simp only [BS,LB,Nat.reduceLT,r6,r7,aI,hlt]
     have:i=N:=by omega
     subst this
     exact dv (dy ⟨rfl,_,rfl,rfl,.inl ⟨_,F,rfl,by simpa using hj⟩⟩)
 . exact⟨ya _,F,sA,jA,by simp [aa,ce],by simp [aa,ce,ah],by simp [aa,ce,ah],by simp [aa],by simp [aa]⟩
theorem pi1_ok{hq:Hp}{m N:Nat}{p:Value}{l:List Int}{R Q:Nat->List Int}(okq:hq.t.Sized hq.n)(t:TabAt hq m p N l R Q)(hR: ∀i,i<l.length->(R i).length=N)(hQ: ∀i,i<l.length->(Q i).length=N)(hl:l.length<1000){va:Value}{act:List Int}(ha:aA hq 1 (encI .i64) va act)(hal:act.length<1000){w:Int}{b3 b4 b5:Nat}(l3:hq.load b3 0 1=some [p])(l4:hq.load b4 0 1=some [va])(l5:hq.load b5 0 1=some [.int .i64 w]):
 TellF xW hq 100 [ptrTo b3,ptrTo b4,ptrTo b5] N (fun v=>bR N l.length R Q v w act):=by
 intro h ok k v hv
 have fp:Fl p:=by obtain⟨b,_,_,_,rfl,_⟩:=t.ex;exact fb
 have fa:=ha.fl
 have S:=Si ok
 refine ac (n:=11) (rs:=[.tmp 5]) rfl Tryz.e100 rfl rfl rfl (lbt rfl) ?_
 simp only [BS,LB,Nat.reduceLT,Nat.reduceEqDiff,Tryz.FFb2100,k.load okq l3,k.load okq l4,k.load okq l5]
 refine ar (uK S.ok (t.keep okq k) hR hQ hl (ha.keep okq k) hal) ?_
 intro h1 g1
 replace S:=S.call g1
 simp only [BS,LB,ab,Nat.reduceLT,Nat.reduceEqDiff]
 exact S.gr
theorem bPi_ok{h0:Hp}(ok:h0.t.Sized h0.n){m N:Nat}{p:Value}{l:List Int}{R Q:Nat->List Int}(t:TabAt h0 m p N l R Q)(hR: ∀i,i<l.length->(R i).length=N)(hQ: ∀i,i<l.length->(Q i).length=N)(hl:l.length<1000)(hN:N<=1000){va:Value}{act:List Int}(ha:aA h0 1 (encI .i64) va act)(hal:act.length<1000){w:Nat}(hw:w<N):
 Ret xW 44 [p,va,.int .i64 (w:Nat)] h0 fun r h'=>Gr h0 h'/\aA h' 1 (encI .i64) r ((xY N).map fun(v:Nat)=>bR N l.length R Q v w act)/\ ∀c,av r c->h0.n<=c:=by
 have fp:Fl p:=by obtain⟨b,_,_,_,rfl,_⟩:=t.ex;exact fb
 have fa:=ha.fl
 have S:=Si ok
 have c0:0<=(w:Int)/\(w:Int)<(N:Int):=by omega
 refine ac (n:=21) (rs:=[.cell 6 25]) rfl Tryz.e44 rfl rfl rfl (lbt rfl) ?_
 simp only [BS,Nat.reduceLT]
 refine ae (co (by assumption)) S ?_;clear S;intro h b3 S n_b3
 simp only [BS,Nat.reduceLT,Nat.reduceEqDiff,if_false]
 refine ae (co (by assumption)) S ?_;clear S;intro h b4 S n_b4
 simp only [BS,Nat.reduceLT,Nat.reduceEqDiff,if_false]
 refine ae (co (by exact bw)) S ?_;clear S;intro h b5 S n_b5
 have gq:=S.gr
 have l3:=S.ld (b:=b3) (o:=0) m2 rfl
 have l4:=S.ld (b:=b4) (o:=0) m1 rfl
 have l5:=S.ld (b:=b5) (o:=0) m0 rfl
 have okq:=S.ok
 clear S
 rename Hp=>hq
 have S:=Si okq
 simp only [BS,Tryz.FFb244]
 refine ae aw S ?_;clear S;intro h b6 S n_b6
 simp only [BS,LB,Nat.reduceLT,Nat.reduceEqDiff,Tryz.FFb244,S.old l3 (fun h=>h),S.old l5 (fun h=>h)]
 refine ar (gz S.ok ((t.gr gq).gr S.gr)) ?_
 intro h g;replace S:=S.call g;clear g
 have dc:decide (0<=(w:Int)/\(w:Int)<(N:Int))=true:=decide_eq_true c0
 simp only [BS,LB,Nat.reduceLT,Nat.reduceEqDiff,Tryz.FFb244,dc,S.old l3 (fun h=>h)]
 have tf:=pi1_ok okq (t.gr gq) hR hQ hl (ha.gr gq) hal l3 l4 l5
 have l6a:=(S.row (b:=b6) m0).lt S.ok
 refine step_ret (each_ok S.ok fp ja) ?_
 rintro r h ⟨g,b1,b2,rfl,n1,n2,y1,y2⟩
 replace S:=S.call g;clear g
 have it:=each_it okq S.ok S.gr.keep S.fr.n (t.gr gq) hN tf y1 y2
 have kn:=S.fr.n
 have kG:=gq.n
 have z1:=bg S.ok y1
 have z2:=bg S.ok y2
 rename Hp=>hE
 have S1:=S
 have okE:=S.ok
 have l6:=(S.row (b:=b6) m0).lt okE
 simp only [BS]
 replace S:=S.base
 replace S:=S.nilG (k:=1)
 generalize hxs:((xY N).map fun(v:Nat)=>bR N l.length R Q v w act)=xs
 have hlx:xs.length=N:=by rw [<-hxs];simp
 replace it:pL xW 143 [] [ptrTo b1,ptrTo b2] hE (fun c=>c=b1\/c=b2\/c<hq.n) (xs.map fun x=>[.int .i64 x]):=by rw [<-hxs,yX];exact it
 refine g8 S (g:=143) (a:=#[]) (b:=#[ptrTo b1,ptrTo b2]) (by simp [bK,aa,ah]) rfl rfl ?_
 intro h2 db lb S' hdb hlb g2
 obtain⟨X,hX,S'⟩: ∃X:eo,X=_/\St (· ∈[b6]) hE h2 [(lb,.loop X),(db,.dfr),(b6,.row [.slice none 0 0] 1)] [(.slice none 0 0,1,[])]:=⟨_,rfl,S'⟩
 have hJ:Yld xW lb (fun k h' F=> ∃(vR:Value),St (· ∈[b6]) hE h' [(lb,.loop X),(db,.dfr),(b6,.row [vR] 1)] [(vR,1,ints (xs.take k))]/\k<=xs.length/\F=keys [(lb,.loop X),(db,.dfr),(b6,.row [vR] 1)] [(vR,1,ints (xs.take k))]) (fun _ _=>False) (xs.map fun x=>[.int .i64 x]):=by
  refine⟨?_,?_,fun _ _ h=>h.elim,?_⟩
  . rintro i h F ⟨vR,S,_,rfl⟩;exact⟨S.ok,fun b hb=>S.key_lt hb⟩
  . rintro i h F h' ⟨vR,S,a,rfl⟩ gg;exact⟨vR,S.call gg,a,rfl⟩
  . rintro i x hR F hx ⟨vR,S,a,rfl⟩
    have hil:i<xs.length:=by
     have:=(List.getElem?_eq_some_iff.1 hx).1
     simpa using this
    rw [yE,xZ hil]at hx
    cases hx
    have tk:ints (xs.take (i+1))=ints (xs.take i)++[.int .i64 xs[i]]:=by rw [List.take_add_one,xZ hil];exact ny _ _
    have tl:(xs.take i).length<=i:=by rw [yi];omega
    subst hX
    refine hI (S.get m0) (by rw [Tryz.e44];rfl) rfl ?_
    have S0:=S
    replace S:=S.base
    simp only [BS,LB,Nat.reduceLT,Nat.reduceEqDiff]
    refine gp S (i:=0) rfl rfl rfl rfl rfl ?_
    clear S;intro h S
    simp only [LC]at S
    simp only [BS,LB,Nat.reduceLT,Nat.reduceEqDiff,Tryz.FFb244,S.ld (b:=b6) (o:=0) m2 rfl]
    refine ae (bL (by exact yZ) (by exact y5) (by decide) (by rfl)) S ?_;clear S;intro h bs S n_bs;simp only [LC,aU,bI,ag,Nat.reduceMul,Nat.reduceAdd,yk,yo,yg,yq]at S
    simp only [BS,LB,Nat.reduceLT,Nat.reduceEqDiff]
    have src:aO h 1 (.slice (some ⟨bs,0,none⟩) 1 1)=some (1,[.int .i64 xs[i]]):=by simp only [aO];rw [S.lds (b:=bs) (o:=0) (n:=1*1) m0 (lbt rfl)];rfl
    replace S:=S.drop1
    refine eK (S.grow (j:=0) (m:=1) (new:=[.int .i64 xs[i]]) rfl yZ y5 (by decide) Tryz.n25 src rfl (by decide) rfl (by rw [dI];simp;omega)) ?_
    clear S src;rintro h vR' S
    simp only [LC]at S
    have fv:Fl vR':=(S.gown _ m0).1.fl
    simp only [BS,LB,Nat.reduceLT,Nat.reduceEqDiff]
    refine az (aB S (i:=2) rfl Tryz.s25 fv (yh (lbt rfl)) ono) ?_
    clear S;rintro h ⟨S,_⟩
    simp only [LC]at S
    simp only [BS]
    refine dY S (i:=0) rfl ?_
    clear S;intro h S
    simp only [LC]at S
    rw [<-tk]at S
    exact .inl ⟨rfl,_,⟨vR',S0.rebase S,by omega,rfl⟩,S.fr,fun c hc=>(S.key_own hc).symm⟩
 refine fg (it lb _ _ (fun _ _ h=>h) hJ h2 _ ?_ ⟨_,S',ya _,rfl⟩) fun o rc h' y=>jJ y ?_
 . refine⟨S'.ok,S'.fr.n,fun b hb hd=>g2.get b hb,fun b hb h=>?_,fun b hb=>S'.key_lt hb⟩
   rcases S'.key_own hb with h1|h1
   . omega
   . have:=List.mem_singleton.1 h1
     omega
 . rintro F ⟨vR,T,b,rfl⟩
   rw [List.length_map,yw]at T
   subst hX
   refine⟨_,T.get m0,Nat.zero_ne_one,?_⟩
   replace T:=T.dead
   have S:=T
   show Run _ _ _ _ _ _ _ _
   simp only [BS,LB,Nat.reduceLT,Nat.reduceEqDiff,Tryz.FFb244,S.ld (b:=b6) (o:=0) m1 rfl]
   have fv:Fl vR:=(T.gown _ m0).1.fl
   clear S
   refine az (aB T (i:=1) rfl Tryz.s25 fv (yh (lbt rfl)) ono) ?_
   clear T;rintro h3 ⟨T,_⟩
   simp only [List.set_cons_zero,List.set_cons_succ]at T
   simp only [BS]
   refine eJ (iD [db] _ (L:=[(b6,_)]) T.base fun h4 S4=>?_)
   refine⟨rfl,(cF (by decide) (by simp only [aK,ah,Nat.reduceEqDiff,reduceIte];exact ii Tryz.a25 (S4.ld (b:=b6) (o:=0) m0 rfl))).2 (dr.2 ⟨gq.trans ((S1.rebase T).rebase S4).gr,(S4.gown _ m0).1.sl rfl (fun _=>rfl) (by decide),fun c hc=>?_⟩)⟩
   rcases(T.gblk m0 hc).1 with h|h
   . omega
   . have:=List.mem_singleton.1 h
     omega
open Tryz in
def Tryz.FFb322:=aj a1<|aj s1<|aj z1<|aj n1<|aj u2<|aj a2<|aj s2<|aj z2<|aj i2<|aj u3<|aj a3<|aj s3<|aj z3<|aj i3<|aj u4<|aj a4<|aj s4<|aj z4<|aj n4<|aj a24<|aj s24<|aj z24<|aj i24<|aj n24<|aj p24<|aj ff24<|aj d24<|aj a30<|aj s30<|aj z30<|aj i30<|aj n30<|aj p30<|aj ff30<|aj d30<|aj u32<|aj a32<|aj s32<|aj z32<|aj q32<|aj i32<|aj n32<|aj a37<|aj s37<|aj z37<|aj n37<|aj u38<|aj a38<|aj s38<|aj z38<|aj q38<|aj i38<|aj n38<|aj u40<|aj a40<|aj s40<|aj z40<|aj q40<|aj n40<|aj u44<|aj a44<|aj s44<|aj z44<|aj i44<|aj u71<|aj a71<|aj s71<|aj z71<|aj q71<|aj n71<|aj a96<|aj s96<|aj z96<|aj i96<|aj n96<|aj p96<|aj ff96<|aj d96<|aj a114<|aj s114<|aj z114<|aj n114<|aj a117<|aj s117<|aj z117<|aj i117<|aj n117<|aj p117<|aj ff117<|aj d117<|aj u146<|aj a146<|aj s146<|aj z146<|aj q146<|aj n146<|aj a148<|aj s148<|aj z148<|aj i148<|aj n148<|aj p148<|aj ff148<|aj d148<|aj u173<|aj a173<|aj s173<|aj z173<|aj q173<|n173
def qW(p:Value)(N nd mk:Nat)(f t:Int):Int:=if isP p=true then gw N nd mk f t else 1
theorem TabO.gr{E:Env}{h h':Hp}{pt:Value}{nd mk:Nat}{gM gN:FuncId}(T:TabO E h pt nd mk gM gN)(g:Gr h h'):TabO E h' pt nd mk gM gN:=⟨T.fl,fun x k=>T.marks x (g.trans k),fun x k=>T.nodes x (g.trans k)⟩
theorem firstC4{p:Value}{N nd mk:Nat}{f t:Int}{g1 g2 g3 g4:FuncId}{a1 a2 a3 a4:Array Value}:kX [⟨g1,a1,isP p,1⟩,⟨g2,a2,decide (0<=f/\f<N),17⟩,⟨g3,a3,decide (0<=t/\t<N),18⟩,⟨g4,a4,decide (0<mk/\nd=N),19⟩]=qW p N nd mk f t:=by
 simp only [kX,qW,gw,decide_eq_true_eq]
 cases isP p with
 |false=>rfl
 | true=>
   simp only [if_true]
   by_cases h1:0<=f/\f<(N:Int)
   . by_cases h2:0<=t/\t<(N:Int)
     . simp only [h1,h2,not_true_eq_false,if_false,and_self,if_true]
     . simp only [h1,h2,not_true_eq_false,not_false_eq_true,if_false,and_self,if_true]
   . simp only [h1,not_false_eq_true,if_false,if_true]
theorem wg{h0:Hp}(ok:h0.t.Sized h0.n){p pt q0:Value}{N nd mk:Nat}{f t a:Int}(fq:Fl q0)(hN:(∃bp γ nb,p=ptrTo bp/\bT h0 nb (ptrTo bp) γ/\N=γ.nodes)\/p=.pointer none)(T:TabO xW h0 pt nd mk 46 58):
 bC xW 22 [p,pt,.agg ⟨[q0,.int .i64 f,.int .i64 t,.int .i64 a]⟩] h0 (.int .i64 (qW p N nd mk f t)):=by
 have fp:Fl p:=by rcases hN with⟨_,_,_,rfl,_⟩|rfl<;>exact fb
 have ft:=T.fl
 have S:=Si ok
 refine ac (n:=25) (rs:=[.tmp 6]) rfl Tryz.e22 rfl rfl rfl (lbt rfl) ?_
 simp only [BS,Nat.reduceLT]
 refine ae (co (by assumption)) S ?_;clear S;intro h b3 S n_b3
 simp only [BS,Nat.reduceLT,Nat.reduceEqDiff,if_false]
 refine ae (co (by assumption)) S ?_;clear S;intro h b4 S n_b4
 simp only [BS,Nat.reduceLT,Nat.reduceEqDiff,if_false]
 refine ae (bE (by intro x e;cases e)) S ?_;clear S;intro h b5 S n_b5;simp only [ag]at S
 have g0:=S.gr
 have okq:=S.ok
 have r3:=S.ld (b:=b3) (o:=0) m2 rfl
 have r4:=S.ld (b:=b4) (o:=0) m1 rfl
 have r51:=S.ld (b:=b5) (o:=1) m0 rfl
 have r52:=S.ld (b:=b5) (o:=2) m0 rfl
 have q5:=(S.row (b:=b5) m0).lt S.ok
 clear S
 rename Hp=>hq
 have S:=Si okq
 simp only [BS,LB,Nat.reduceLT,Nat.reduceEqDiff]
 refine aC (aH rfl) (q:=16384) (ps:=[(5,9)]) (by kernel_rfl) ?_
 simp only [BS,LB,cls,Nat.reduceLT,Nat.reduceEqDiff,Nat.reduceAdd,Nat.reducePow,Nat.reduceDiv,Nat.reduceMod,Nat.reduceLeDiff,Tryz.FFb322,r51]
 refine dg (node_ok S.ok) ?_
 rintro v1 h ⟨g,x1,rfl,l1⟩
 have e1:leaves _ _ b5=true:=ay g q5
 have k1:=g.n
 replace S:=S.call g
 simp only [BS,LB,cls,Nat.reduceLT,Nat.reduceEqDiff,Nat.reduceAdd,Nat.reducePow,Nat.reduceDiv,Nat.reduceMod,Nat.reduceLeDiff,Tryz.FFb322,g.load r52]
 clear g
 refine dg (node_ok S.ok) ?_
 rintro v2 h ⟨g,x2,rfl,l2⟩
 have e2:leaves _ _ b5=true:=ay g (yd q5 k1)
 replace S:=S.call g
 replace l1:=g.load l1
 simp only [BS,LB,cls,Nat.reduceLT,Nat.reduceEqDiff,Nat.reduceAdd,Nat.reducePow,Nat.reduceDiv,Nat.reduceMod,Nat.reduceLeDiff,Tryz.FFb322]
 have gA:=S.gr
 have okA:=S.ok
 clear S g
 rename Hp=>hA
 have S:=Si okA
 refine dt (bL (by exact Tryz.u173) (by exact Tryz.e117E) (by decide) (by rfl)) S ?_;clear S;intro h bs S n_bs e_bs;simp only [LC,aU,bI,ag,Nat.reduceMul,Nat.reduceAdd,yk,yo,yg,yq]at S
 have gB:=S.gr
 have okB:=S.ok
 have l3':=gB.load (gA.load r3)
 have l4':=gB.load (gA.load r4)
 have l1':=gB.load l1
 have l2':=gB.load l2
 have gT:=(g0.trans gA).trans gB
 simp only [BS,LB,cls,Nat.reduceLT,Nat.reduceEqDiff,Nat.reduceAdd,Nat.reducePow,Nat.reduceDiv,Nat.reduceMod,Nat.reduceLeDiff]
 refine cE (vw okB (rs:=[⟨56,#[ptrTo b3],isP p,1⟩,⟨54,#[ptrTo x1,ptrTo b3],decide (0<=f/\f<N),17⟩,⟨54,#[ptrTo x2,ptrTo b3],decide (0<=t/\t<N),18⟩,⟨57,#[ptrTo b4,ptrTo b3],decide (0<mk/\nd=N),19⟩]) (.inr ⟨bs,0,none,4,rfl,yu _,S.lds (b:=bs) (o:=0) (n:=4*2) m0 (lbt rfl)⟩) (by simp) (fun i hi=>?_)) ?_
 . have hi4:i<4:=hi
   rcases(by omega:i=0\/i=1\/i=2\/i=3)with rfl|rfl|rfl|rfl
   . intro _
     refine net2_ok ?_ l3'
     rcases hN with⟨bp,_,_,rfl,_⟩|rfl
     . exact .inl ⟨bp,rfl⟩
     . exact .inr rfl
   . intro hb
     have h1:isP p=true:=hb 0 (by omega)
     rcases hN with⟨bp,γ,nb,rfl,c,rfl⟩|rfl
     . exact uC (c.gr gT) l1' l3'
     . cases h1
   . intro hb
     have h1:isP p=true:=hb 0 (by omega)
     rcases hN with⟨bp,γ,nb,rfl,c,rfl⟩|rfl
     . exact uC (c.gr gT) l2' l3'
     . cases h1
   . intro hb
     have h1:isP p=true:=hb 0 (by omega)
     rcases hN with⟨bp,γ,nb,rfl,c,rfl⟩|rfl
     . exact tab3_ok (c.gr gT) (T.gr gT) l4' l3'
     . cases h1
 . intro h g
   rw [firstC4]
   replace S:=S.call g
   simp only [BS,LB,cls,ab,Nat.reduceLT,Nat.reduceEqDiff,Nat.reduceAdd,Nat.reducePow,Nat.reduceDiv,Nat.reduceMod,Nat.reduceLeDiff]
   refine⟨by simp only [aX,bu,aS,bz,aT,ne_eq,not_false_eq_true,bF,bJ,bA,aY,bK,cD,aK,Nat.reduceLT,Nat.reduceEqDiff,reduceIte,yb,ah,aP e1,aN e1,aP e2,aN e2],?_⟩
   exact(g0.trans gA).trans S.gr
open Tryz in
def Tryz.FFb446:=aj a1<|aj s1<|aj z1<|aj n1<|aj u2<|aj a2<|aj s2<|aj z2<|aj i2<|aj u3<|aj a3<|aj s3<|aj z3<|aj i3<|aj u4<|aj a4<|aj s4<|aj z4<|aj n4<|aj u25<|aj a25<|aj s25<|aj z25<|aj q25<|aj n25<|aj u38<|aj a38<|aj s38<|aj z38<|aj q38<|aj i38<|aj n38<|aj u40<|aj a40<|aj s40<|aj z40<|aj q40<|aj n40<|aj u71<|aj a71<|aj s71<|aj z71<|aj q71<|aj n71<|aj a96<|aj s96<|aj z96<|aj i96<|aj n96<|aj p96<|aj ff96<|d96
open Tryz in
def Tryz.FFb458:=aj a1<|aj s1<|aj z1<|aj n1<|aj u2<|aj a2<|aj s2<|aj z2<|aj i2<|aj u3<|aj a3<|aj s3<|aj z3<|aj i3<|aj u4<|aj a4<|aj s4<|aj z4<|aj n4<|aj u25<|aj a25<|aj s25<|aj z25<|aj q25<|aj n25<|aj u38<|aj a38<|aj s38<|aj z38<|aj q38<|aj i38<|aj n38<|aj u40<|aj a40<|aj s40<|aj z40<|aj q40<|aj n40<|aj u71<|aj a71<|aj s71<|aj z71<|aj q71<|aj n71<|aj a96<|aj s96<|aj z96<|aj i96<|aj n96<|aj p96<|aj ff96<|d96
open Tryz in
def Tryz.FFb415:=aj a1<|aj s1<|aj z1<|aj n1<|aj u2<|aj a2<|aj s2<|aj z2<|aj i2<|aj u3<|aj a3<|aj s3<|aj z3<|aj i3<|aj u4<|aj a4<|aj s4<|aj z4<|aj n4<|aj u5<|aj a5<|aj s5<|aj z5<|aj i5<|aj u6<|aj a6<|aj s6<|aj z6<|aj i6<|aj a7<|aj s7<|aj z7<|aj i7<|aj n7<|aj p7<|aj ff7<|aj d7<|aj a8<|aj s8<|aj z8<|aj i8<|aj n8<|aj p8<|aj ff8<|aj d8<|aj a24<|aj s24<|aj z24<|aj i24<|aj n24<|aj p24<|aj ff24<|aj d24<|aj u25<|aj a25<|aj s25<|aj z25<|aj q25<|aj n25<|aj a30<|aj s30<|aj z30<|aj i30<|aj n30<|aj p30<|aj ff30<|aj d30<|aj u32<|aj a32<|aj s32<|aj z32<|aj q32<|aj i32<|aj n32<|aj u38<|aj a38<|aj s38<|aj z38<|aj q38<|aj i38<|aj n38<|aj u40<|aj a40<|aj s40<|aj z40<|aj q40<|aj n40<|aj u44<|aj a44<|aj s44<|aj z44<|aj i44<|aj a46<|aj s46<|aj z46<|aj i46<|aj n46<|aj p46<|aj ff46<|aj d46<|aj u47<|aj a47<|aj s47<|aj z47<|aj q47<|aj n47<|aj u55<|aj a55<|aj s55<|aj z55<|aj q55<|aj n55<|aj a57<|aj s57<|aj z57<|aj i57<|aj n57<|aj p57<|aj ff57<|aj d57<|aj u71<|aj a71<|aj s71<|aj z71<|aj q71<|aj n71<|aj a96<|aj s96<|aj z96<|aj i96<|aj n96<|aj p96<|aj ff96<|aj d96<|aj a99<|aj s99<|aj z99<|aj i99<|aj n99<|aj p99<|aj ff99<|aj d99<|aj a104<|aj s104<|aj z104<|aj i104<|aj n104<|aj p104<|aj ff104<|aj d104<|aj u146<|aj a146<|aj s146<|aj z146<|aj q146<|aj n146<|aj a148<|aj s148<|aj z148<|aj i148<|aj n148<|aj p148<|aj ff148<|d148
theorem vQ{h0:Hp}(ok:h0.t.Sized h0.n):Ret xW 46 [.pointer none] h0 fun r h'=>Gr h0 h'/\ ∃l:List Int,aA h' 1 (encI .i64) r l/\l.length=0:=by
 have S:=Si ok
 refine ac (n:=10) (rs:=[.tmp 2]) rfl Tryz.e46 rfl rfl rfl (lbt rfl) ?_
 simp only [BS,LB,ab,Nat.reduceLT,Nat.reduceEqDiff,Tryz.FFb446]
 exact⟨S.gr,[],.inl ⟨rfl,rfl⟩,rfl⟩
theorem wp{h0:Hp}(ok:h0.t.Sized h0.n):bC xW 58 [.pointer none] h0 (.int .i64 ((0:Nat):Int)):=by
 have S:=Si ok
 refine ac (n:=9) (rs:=[.tmp 2]) rfl Tryz.e58 rfl rfl rfl (lbt rfl) ?_
 simp only [BS,LB,ab,Nat.reduceLT,Nat.reduceEqDiff,yj,Tryz.FFb458]
 exact S.gr
def TabQ(h:Hp)(pt:Value)(nd:Nat)(l:List Int)(R Q:Nat->List Int):Prop:=(∃m,TabAt h m pt nd l R Q/\(∀i,i<l.length->(R i).length=nd)/\ ∀i,i<l.length->(Q i).length=nd)\/(pt=.pointer none/\nd=0/\l=[])
theorem TabQ.gr{h h':Hp}{pt:Value}{nd:Nat}{l:List Int}{R Q:Nat->List Int}(t:TabQ h pt nd l R Q)(g:Gr h h'):TabQ h' pt nd l R Q:=t.imp (fun⟨m,a,b⟩=>⟨m,a.gr g,b⟩) (fun h=>h)
theorem TabQ.tabO{h:Hp}{pt:Value}{nd:Nat}{l:List Int}{R Q:Nat->List Int}(t:TabQ h pt nd l R Q)(hl:l.length<1000):TabO xW h pt nd l.length 46 58:=by
 rcases t with⟨m,t,_,_⟩|⟨rfl,rfl,rfl⟩
 . refine⟨by obtain⟨b,_,_,_,rfl,_⟩:=t.ex;exact fb,fun x k=>(kL k.ok (t.gr k) hl).mono fun r h' ⟨a,b,c⟩=>⟨a,l,b,rfl⟩,fun x k=>mN k.ok (t.gr k)⟩
 . exact⟨fb,fun x k=>vQ k.ok,fun x k=>wp k.ok⟩
theorem xQ{N nd mk:Nat}{f t:Int}(h:gw N nd mk f t=0):(0<=f/\f<N)/\(0<=t/\t<N)/\0<mk/\nd=N:=by
 unfold gw at h
 split at h
 . cases h
 . split at h
   . cases h
   . split at h
     . rename_i h1 h2 h3;exact⟨by omega,by omega,h3⟩
     . cases h
def ansV(c:Int)(d:Int)(vA vB:Value):Value:=.agg ⟨[.int .i64 c,.int .i64 d,vA,vB]⟩
theorem oG{h0:Hp}(ok:h0.t.Sized h0.n){bp nb nd:Nat}{γ:Gra}(hγ:Good γ)(hn:bT h0 nb (ptrTo bp) γ){pt q0:Value}{l:List Int}{R Q:Nat->List Int}(T:TabQ h0 pt nd l R Q)(hl:l.length<=16)(fq:Fl q0){f t a:Int}:
 Ret xW 15 [ptrTo bp,pt,.agg ⟨[q0,.int .i64 f,.int .i64 t,.int .i64 a]⟩] h0 fun r h'=>Gr h0 h'/\ ∃c d vA vB vE,r=.tuple #[ansV c d vA vB,vE]/\
  (((gw γ.nodes nd l.length f t≠0\/f=t)/\c=gw γ.nodes nd l.length f t/\d=0/\vA=.slice none 0 0/\vB=.slice none 0 0/\vE=.slice none 0 0)\/
   (gw γ.nodes nd l.length f t=0/\f≠t/\ ∃(s w:Nat) (fd:Fd),f=s/\t=w/\s<γ.nodes/\w<γ.nodes/\nd=γ.nodes/\
     Ends γ.arcs (alF []) (piF ((xY γ.nodes).map fun(v:Nat)=>bR γ.nodes l.length R Q v w ((actL γ.nodes l.length R Q f t a).map fun(x:Nat)=>(x:Int)))) w (da (piF ((xY γ.nodes).map fun(v:Nat)=>bR γ.nodes l.length R Q v w ((actL γ.nodes l.length R Q f t a).map fun(x:Nat)=>(x:Int)))) s) fd/\
     aA h' 4 dH vE fd.ev/\
     ((FAR<=fd.dist/\c=20/\d=0/\vA=.slice none 0 0/\vB=.slice none 0 0)\/
      (fd.dist<FAR/\c=0/\d=(fd.dist:Nat)/\aA h' 1 bW vA fd.arcs/\aA h' 1 bW vB (actL γ.nodes l.length R Q f t a))))):=by
 have S:=Si ok
 have ft:Fl pt:=(T.tabO (by omega)).fl
 refine ac (n:=64) (rs:=[.cell 6 46,.tmp 7]) rfl Tryz.e15 rfl rfl rfl (lbt rfl) ?_
 simp only [BS,Nat.reduceLT]
 refine ae (bE (by intro x e;cases e)) S ?_;clear S;intro h b5 S n_b5;simp only [ag]at S
 simp only [BS,Tryz.FFb415]
 refine ae aw S ?_;clear S;intro h b6 S n_b6
 simp only [BS,LB,Nat.reduceLT,Nat.reduceEqDiff,Tryz.FFb415,yr,yA,yN,S.lds (b:=b5) (o:=0) (n:=4) m1 (lbt rfl)]
 refine ar (wg S.ok fq (.inl ⟨bp,γ,nb,rfl,hn.gr S.gr,rfl⟩) ((T.gr S.gr).tabO (by omega)) (a:=a) (f:=f) (t:=t)) ?_
 intro h g
 have eW:qW (.pointer (some ⟨bp,0,none⟩)) γ.nodes nd l.length f t=gw γ.nodes nd l.length f t:=rfl
 rw [eW]
 obtain⟨c,hc⟩: ∃c,gw γ.nodes nd l.length f t=c:=⟨_,rfl⟩
 rw [hc]
 replace S:=S.call g;clear g
 by_cases c0:c=0
 . subst c0
   by_cases hft:f=t
   . subst hft
     simp only [BS,LB,Nat.reduceLT,Nat.reduceEqDiff,Nat.reduceAdd,Tryz.FFb415,S.ld (b:=b5) (o:=1) m1 rfl,S.ld (b:=b5) (o:=2) m1 rfl]
     refine az (S.store (i:=0) rfl yx (by intro x e;cases e) rfl rfl (lbt rfl) ono) ?_
     clear S;rintro h3 ⟨S,mo⟩
     simp only [LC,ag,lay,yl,ym,Nat.reduceAdd]at S
     simp only [BS,ab]
     refine(cF (by decide) (by simp only [aK,ah,Nat.reduceEqDiff,reduceIte];exact cm y6 yx (S.lds (b:=b6) (o:=0) (n:=4) m0 (lbt rfl)))).2 ?_
     refine(jb (by decide)).2 (dr.2 ?_)
     exact⟨S.gr,_,_,_,_,_,rfl,.inl ⟨.inr trivial,rfl,rfl,rfl,rfl,rfl⟩⟩
   . obtain⟨hs0,ht0,hmk,hnd⟩:=xQ hc
     obtain⟨s,rfl⟩:=ye hs0.1
     obtain⟨w,rfl⟩:=ye ht0.1
     have hs:s<γ.nodes:=by omega
     have hw:w<γ.nodes:=by omega
     have hsw:s≠w:=fun e=>hft (by rw [e])
     subst hnd
     obtain⟨m,t,lR,lQ⟩: ∃m,TabAt h0 m pt γ.nodes l R Q/\(∀i,i<l.length->(R i).length=γ.nodes)/\ ∀i,i<l.length->(Q i).length=γ.nodes:=by
      rcases T with h|⟨_,_,rfl⟩
      . exact h
      . simp at hmk
     simp only [BS,LB,Nat.reduceLT,Nat.reduceEqDiff,Tryz.FFb415,hft,S.ld (b:=b5) (o:=1) m1 rfl,S.ld (b:=b5) (o:=2) m1 rfl,S.ld (b:=b5) (o:=3) m1 rfl]
     have k6:=(S.row (b:=b6) m0).lt S.ok
     refine step_ret (xu S.ok (t.gr S.gr) lR lQ hl) ?_
     rintro vB h ⟨g,sB,nB⟩
     replace S:=S.call g;clear g
     have la:(actL γ.nodes l.length R Q s w a).length<=16:=by unfold actL;rw [yi];omega
     have R5:=S.row (b:=b5) m1
     have R6:=S.row (b:=b6) m0
     have S0:=S
     have gV:=S.gr
     have okV:=S.ok
     have l51:=R5.load1 (o:=1) rfl
     have l52:=R5.load1 (o:=2) rfl
     have p5:=R5.lt okV
     have f1:=hγ.n2
     simp only [BS,LB,Nat.reduceLT,Nat.reduceEqDiff]
     clear S
     have S:=Si okV
     rename Hp=>hV
     refine aC (mL (ord:=[15,0,1,2,3,4,5,6,7,8,9,10,11,12,13,14,16,17]) rfl rfl (by simp only [fh,reix,fj,List.getElem?_cons_zero,List.getElem?_cons_succ,List.map_toArray,yS,yW,Nat.reduceBEq,cond_true,cond_false];exact rfl)) (q:=1) (ps:=[(0,12),(5,10),(3,10),(0,10)]) (by kernel_rfl) ?_
     simp only [BS,LB,cls,Nat.reducePow,Nat.reduceDiv,Nat.reduceMod,Nat.reduceLeDiff,Tryz.FFb415]
     refine dt aw S ?_;clear S;intro h b10 S n_b10 e_b10
     have p10:=S.fr.n
     have gB:=S.gr
     have r10:=S.row (b:=b10) m0
     have q10:=r10.lt S.ok
     simp only [BS,LB,cls,Nat.reduceLT,Nat.reduceEqDiff,Nat.reduceAdd,Nat.reducePow,Nat.reduceDiv,Nat.reduceMod,Nat.reduceLeDiff,Tryz.FFb415,gB.load l51,gB.load l52]
     refine dg (bPi_ok S.ok ((t.gr gV).gr gB) lR lQ (by omega) (by omega) (sl_nat (sB.gr gB)) (by rw [List.length_map];omega) hw) ?_
     rintro vP h ⟨g,sP,nP⟩
     have e1:leaves _ _ b5=true:=ay g (yd p5 p10)
     have e2:leaves _ _ b10=true:=ay g q10
     have kq:=g.n
     replace S:=S.call g;clear g
     simp only [BS,LB,cls,Nat.reduceLT,Nat.reduceEqDiff,Nat.reduceAdd,Nat.reducePow,Nat.reduceDiv,Nat.reduceMod,Nat.reduceLeDiff,Tryz.FFb415,sP.fl]
     refine dg (xf S.ok hγ ((hn.gr gV).gr S.gr) hs hw (als:=[]) (.inl ⟨rfl,rfl⟩) (.inl rfl) sP (.inr (by simp))) ?_
     rintro r h ⟨g,v,fd,rfl,⟨xA,xE,rfl,G1,G2,d1,d2⟩,he⟩
     have e3:leaves _ _ b5=true:=ay g (yd p5 (yc p10 kq))
     have e4:leaves _ _ b10=true:=ay g (yd q10 kq)
     have y1:Fl xA:=G1.fl
     have y2:Fl xE:=G2.fl
     replace S:=S.call g
     simp only [BS,LB,cls,Nat.reduceLT,Nat.reduceEqDiff,Nat.reduceAdd,Nat.reducePow,Nat.reduceDiv,Nat.reduceMod,Nat.reduceLeDiff]
     refine c5 (S.store (i:=0) rfl Tryz.s99 (by intro x e;cases e) rfl (by simp only [ag,yC,yI,y1.2.1,y2.2.1,yb];rfl) (lbt rfl) ono) ?_
     have okG:=S.ok
     have b10x: ∀c,av xA c\/av xE c->c≠b10:=fun c hc e=>by
      have:=S.fr.n
      have h1:_<=c:=hc.elim (fun h=>(d1 c h).1) (fun h=>d2 c h)
      omega
     clear S;rintro h3 ⟨S,mo⟩
     simp only [LC,ag,lay,yl,ym,Nat.reduceAdd]at S
     simp only [BS,LB,cls,Nat.reduceLT,Nat.reduceEqDiff,Nat.reduceAdd,Nat.reducePow,Nat.reduceDiv,Nat.reduceMod,Nat.reduceLeDiff,Tryz.FFb415]
     refine⟨by simp only [aX,bu,aS,bz,aT,ne_eq,not_false_eq_true,bF,bJ,bA,aY,bK,cD,aK,Nat.reduceLT,Nat.reduceEqDiff,reduceIte,yb,ah,jQ,aP e1,aN e1,aP e2,aN e2,aP e3,aN e3,aP e4,aN e4,<-e_b10],?_⟩
     have r10:=S.row (b:=b10) m0
     have j0:=r10.load1 (o:=0) rfl
     have j1:=r10.load1 (o:=1) rfl
     have j2:=r10.load1 (o:=2) rfl
     have n10:b6≠b10:=fun e=>by have:=(S0.row (b:=b6) m0).lt okV;omega
     have G1':aA h3 1 bW xA fd.arcs:=(G1.sl rfl fH (by decide)).mo mo (fun c hc e=>b10x c (.inl hc) e)
     have G2':aA h3 4 dH xE fd.ev:=(G2.sl rfl mi (by decide)).mo mo (fun c hc e=>b10x c (.inr hc) e)
     have sB':=sB.gr S.gr
     have g3:=S.gr
     have S1:=S0.call S.gr
     clear S
     have S:=S1
     clear S1
     have far:=dX
     by_cases hd:fd.dist<FAR
     . have hd': ¬(72057594037927936:Int)<=(fd.dist:Int):=by omega
       simp only [BS,LB,Nat.reduceLT,Nat.reduceEqDiff,j0,hd']
       refine aC (aH rfl) (q:=0) (ps:=[(7,8)]) (by kernel_rfl) ?_
       simp only [BS,LB,cls,Nat.reduceLT,Nat.reduceEqDiff,Nat.reduceAdd,Nat.reducePow,Nat.reduceDiv,Nat.reduceMod,Nat.reduceLeDiff,Tryz.FFb415,j0,j1,j2,y1,sB.fl]
       refine c5 (S.store (i:=0) rfl yx (by intro x e;cases e) rfl (by simp only [ag,yC,yI,y1.2.1,y2.2.1,sB.fl.2.1,yb];rfl) (lbt rfl) ono) ?_
       clear S;rintro h4 ⟨S,mo4⟩
       simp only [LC,ag,lay,yl,ym,Nat.reduceAdd]at S
       simp only [BS,LB,cls,ab,Nat.reduceLT,Nat.reduceEqDiff,Nat.reduceAdd,Nat.reducePow,Nat.reduceDiv,Nat.reduceMod,Nat.reduceLeDiff]
       refine⟨by simp only [aX,bu,aS,bz,aT,ne_eq,not_false_eq_true,bF,bJ,bA,aY,bK,cD,aK,Nat.reduceLT,Nat.reduceEqDiff,reduceIte,yb,ah,jQ,iG n10,iG n10.symm],?_⟩
       refine(cF (by decide) (by simp only [aK,ah,Nat.reduceEqDiff,reduceIte];exact cm y6 yx (S.lds (b:=b6) (o:=0) (n:=4) m0 (lbt rfl)))).2 ?_
       refine(jb (by decide)).2 (dr.2 ?_)
       have zE:aA h4 4 dH xE fd.ev:=G2'.mo mo4 (fun c hc e=>by have:=d2 c hc;have:=R6.lt okV;omega)
       have zA:aA h4 1 bW xA fd.arcs:=G1'.mo mo4 (fun c hc e=>by have:=(d1 c hc).1;have:=R6.lt okV;omega)
       have zB:=sB'.mo mo4 (fun c hc e=>by have:=nB c hc;omega)
       exact⟨S.gr,_,_,_,_,_,rfl,.inr ⟨hft,s,w,fd,rfl,rfl,hs,hw,he.resolve_left (fun h=>hsw h.1)|>.2,zE,.inr ⟨hd,rfl,rfl,zA,zB⟩⟩⟩
     . have hd':(72057594037927936:Int)<=(fd.dist:Int):=by omega
       simp only [BS,LB,Nat.reduceLT,Nat.reduceEqDiff,j0,hd']
       refine aC (aH rfl) (q:=0) (ps:=[(2,3)]) (by kernel_rfl) ?_
       simp only [BS,LB,cls,Nat.reduceLT,Nat.reduceEqDiff,Nat.reduceAdd,Nat.reducePow,Nat.reduceDiv,Nat.reduceMod,Nat.reduceLeDiff,Tryz.FFb415,j2]
       refine c5 (S.store (i:=0) rfl yx (by intro x e;cases e) rfl (by simp only [ag,yC,yI,y1.2.1,y2.2.1,yb];rfl) (lbt rfl) ono) ?_
       clear S;rintro h4 ⟨S,mo4⟩
       simp only [LC,ag,lay,yl,ym,Nat.reduceAdd]at S
       simp only [BS,LB,cls,ab,Nat.reduceLT,Nat.reduceEqDiff,Nat.reduceAdd,Nat.reducePow,Nat.reduceDiv,Nat.reduceMod,Nat.reduceLeDiff]
       refine⟨by simp only [aX,bu,aS,bz,aT,ne_eq,not_false_eq_true,bF,bJ,bA,aY,bK,cD,aK,Nat.reduceLT,Nat.reduceEqDiff,reduceIte,yb,ah,jQ,iG n10,iG n10.symm],?_⟩
       refine(cF (by decide) (by simp only [aK,ah,Nat.reduceEqDiff,reduceIte];exact cm y6 yx (S.lds (b:=b6) (o:=0) (n:=4) m0 (lbt rfl)))).2 ?_
       refine(jb (by decide)).2 (dr.2 ?_)
       have zE:aA h4 4 dH xE fd.ev:=G2'.mo mo4 (fun c hc e=>by have:=d2 c hc;have:=R6.lt okV;omega)
       exact⟨S.gr,_,_,_,_,_,rfl,.inr ⟨hft,s,w,fd,rfl,rfl,hs,hw,he.resolve_left (fun h=>hsw h.1)|>.2,zE,.inl ⟨by omega,rfl,rfl,rfl,rfl⟩⟩⟩
 . simp only [BS,LB,Nat.reduceLT,Nat.reduceEqDiff,Nat.reduceAdd,Tryz.FFb415,c0]
   refine az (S.store (i:=0) rfl yx (by intro x e;cases e) rfl rfl (lbt rfl) ono) ?_
   clear S;rintro h3 ⟨S,mo⟩
   simp only [LC,ag,lay,yl,ym,Nat.reduceAdd]at S
   simp only [BS,ab]
   refine(cF (by decide) (by simp only [aK,ah,Nat.reduceEqDiff,reduceIte];exact cm y6 yx (S.lds (b:=b6) (o:=0) (n:=4) m0 (lbt rfl)))).2 ?_
   refine(jb (by decide)).2 (dr.2 ?_)
   exact⟨S.gr,_,_,_,_,_,rfl,.inl ⟨.inl c0,rfl,rfl,rfl,rfl,rfl⟩⟩
open Tryz in
def Tryz.FFb58:=aj a1<|aj s1<|aj z1<|aj n1<|aj u2<|aj a2<|aj s2<|aj z2<|aj i2<|aj u3<|aj a3<|aj s3<|aj z3<|aj i3<|aj u5<|aj a5<|aj s5<|aj z5<|aj i5<|aj u22<|aj a22<|aj s22<|aj z22<|aj q22<|aj n22<|aj a24<|aj s24<|aj z24<|aj i24<|aj n24<|aj p24<|aj ff24<|aj d24<|aj u25<|aj a25<|aj s25<|aj z25<|aj q25<|aj n25<|aj a27<|aj s27<|aj z27<|aj i27<|aj n27<|aj p27<|aj ff27<|aj d27<|aj u28<|aj a28<|aj s28<|aj z28<|aj q28<|aj n28<|aj a30<|aj s30<|aj z30<|aj i30<|aj n30<|aj p30<|aj ff30<|aj d30<|aj a59<|aj s59<|aj z59<|aj i59<|aj n59<|aj p59<|aj ff59<|aj d59<|aj u61<|aj a61<|aj s61<|aj z61<|aj q61<|aj i61<|aj n61<|aj a63<|aj s63<|aj z63<|aj i63<|aj n63<|aj p63<|aj ff63<|d63
open Tryz in
def Tryz.FFb512:=aj a1<|aj s1<|aj z1<|aj n1<|aj u2<|aj a2<|aj s2<|aj z2<|aj i2<|aj u3<|aj a3<|aj s3<|aj z3<|aj i3<|aj u4<|aj a4<|aj s4<|aj z4<|aj n4<|aj u5<|aj a5<|aj s5<|aj z5<|aj i5<|aj u6<|aj a6<|aj s6<|aj z6<|aj i6<|aj a7<|aj s7<|aj z7<|aj i7<|aj n7<|aj p7<|aj ff7<|aj d7<|aj a8<|aj s8<|aj z8<|aj i8<|aj n8<|aj p8<|aj ff8<|aj d8<|aj u9<|aj a9<|aj s9<|aj z9<|aj n9<|aj u10<|aj a10<|aj s10<|aj z10<|aj n10<|aj u11<|aj a11<|aj s11<|aj z11<|aj n11<|aj u12<|aj a12<|aj s12<|aj z12<|aj i12<|aj a13<|aj s13<|aj z13<|aj i13<|aj n13<|aj p13<|aj ff13<|aj d13<|aj a14<|aj s14<|aj z14<|aj i14<|aj n14<|aj p14<|aj ff14<|aj d14<|aj u15<|aj a15<|aj s15<|aj z15<|aj q15<|aj i15<|aj n15<|aj u17<|aj a17<|aj s17<|aj z17<|aj q17<|aj i17<|aj n17<|aj u22<|aj a22<|aj s22<|aj z22<|aj q22<|aj n22<|aj a24<|aj s24<|aj z24<|aj i24<|aj n24<|aj p24<|aj ff24<|aj d24<|aj u25<|aj a25<|aj s25<|aj z25<|aj q25<|aj n25<|aj a27<|aj s27<|aj z27<|aj i27<|aj n27<|aj p27<|aj ff27<|aj d27<|aj u40<|aj a40<|aj s40<|aj z40<|aj q40<|aj n40<|aj a274<|aj s274<|aj z274<|aj i274<|aj n274<|aj p274<|aj ff274<|d274
theorem qT{h0:Hp}(ok:h0.t.Sized h0.n){vB vM vN:Value}{w0 w1 w2 w3:Int}{B:List Int}(hB:SlW h0 .u8 vB B)(fM:Fl vM)(fN:Fl vN):
 Ret xW 8 [.agg ⟨[vB,vM,.int .i64 w0,.int .i64 w1,.int .i64 w2,.int .i64 w3,vN]⟩] h0 fun r h'=>Gr h0 h'/\ ∃γ vx vy va,r=gH γ vx vy va/\Good γ/\cN h' vx vy va γ/\ ∀c,(av vx c\/av vy c\/av va c)->h0.n<=c:=by
 have S:=Si ok
 have mn:min (B.length:Int) 60=((min B.length 60:Nat):Int):=by omega
 obtain⟨vB',hsl,sB,bB⟩:=hB.low (kd':=.i64) (n:=min B.length 60) Tryz.u22 Tryz.s5 (Nat.min_le_left _ _)
 have fB:=hB.sl.fl
 have fB':=sB.fl
 refine ac (n:=15) (rs:=[.cell 2 30]) rfl Tryz.e8 rfl rfl rfl (lbt rfl) ?_
 simp only [BS,Nat.reduceLT]
 refine ae (bE (by intro x e;cases e)) S ?_;clear S;intro h b1 S n_b1;simp only [ag]at S
 simp only [BS,Tryz.FFb58]
 refine ae aw S ?_;clear S;intro h b2 S n_b2
 simp only [BS,LB,Nat.reduceLT,Nat.reduceEqDiff,Nat.reduceAdd,yK,yL,Tryz.FFb58,hB.sl.lenq,mn,hsl,fB',S.ld (b:=b1) (o:=0) m1 rfl]
 refine ae (bE (by intro x e;cases e)) S ?_;clear S;intro h bd S n_bd;simp only [ag]at S
 have hB':aA h 1 (encI .u8) vB' (B.take (min B.length 60)):=sB.gr S.gr
 have nB: ¬av vB' bd:=fun hc=>by have:=sB.lt ok hc;omega
 have lb':(B.take (min B.length 60)).length<1000000:=by rw [yi];omega
 simp only [BS,LB,Nat.reduceLT,Nat.reduceEqDiff]
 have k0:=S.fr.n
 have ap:=S.apart
 simp only [keys,yS,yW,List.filterMap_nil,List.append_nil,List.nodup_cons,yT,List.not_mem_nil,or_false,not_or]at ap
 have lt2:=(S.row (b:=b2) m1).lt S.ok
 refine step_ret (raw_ok S.ok (S.row m0) ⟨hB',nB,lb',by omega⟩) ?_
 rintro v h ⟨f,γ,vx,vy,va,rfl,hγ,ga,hz⟩
 replace S:=S.drop1.step f (fun c hc=>by subst hc;exact .inr n_bd) (fun c hc e=>by simp [keys]at hc;omega)
 have fx:=ga.X.fl
 have fy:=ga.Y.fl
 have fa:=ga.A.fl
 simp only [BS,LB,Nat.reduceLT,Nat.reduceEqDiff,gH]
 refine az (S.store (i:=0) rfl Tryz.s30 (by intro x e;cases e) rfl (by simp only [ag,yC,yI,fx.2.1,fy.2.1,fa.2.1,yb];rfl) (lbt rfl) ono) ?_
 clear S;rintro h ⟨S,mo⟩
 simp only [LC,ag,lay,yl,ym,Nat.reduceAdd]at S
 simp only [BS,ab]
 refine(cF (by decide) (by simp only [aK,ah,Nat.reduceEqDiff,reduceIte];exact cm Tryz.a30 Tryz.s30 (S.lds (b:=b2) (o:=0) (n:=4) m0 (lbt rfl)))).2 (dr.2 ?_)
 exact⟨S.gr,γ,vx,vy,va,rfl,hγ,ga.mo mo (fun c hc e=>by have:=hz c hc;omega),fun c hc=>yc k0 (hz c hc)⟩
theorem sS {h0:Hp} (ok:h0.t.Sized h0.n) {vB vM vN:Value} {w0 w1 w2 w3:Int} {ms:List Int} (fB:Fl vB) (hM:SlW h0 .u8 vM ms) (hMr: ∀x∈ms,0<=x/\x<=255) (hml:ms.length<=9223372036854775807) (fN:Fl vN) {N:Nat} (n1:1<=N) (n2:N<=100):
 Ret xW 12 [.agg ⟨[vB,vM,.int .i64 w0,.int .i64 w1,.int .i64 w2,.int .i64 w3,vN]⟩,.int .i64 N] h0 fun r h'=>Gr h0 h'/\ ∃l,aA h' 1 (encI .i64) r l/\eY N l/\1<=l.length/\l.length<=6/\ ∀c,av r c->h0.n<=c:=by
 have S:=Si ok
 have fM:=hM.sl.fl
 have nz:(N:Int)≠0:=by omega
 refine ac (n:=58) (rs:=[.tmp 4]) rfl Tryz.e12 rfl rfl rfl (lbt rfl) ?_
 simp only [BS,Nat.reduceLT]
 refine ae (bE (by intro x e;cases e)) S ?_;clear S;intro h b2 S n_b2;simp only [ag]at S
 have l1:=(S.row (b:=b2) m0).load1 (o:=1) rfl
 have g0:=S.gr
 have okF:=S.ok
 have kF:=S.fr.n
 clear S
 rename Hp=>hF
 have S:=Si okF
 replace S:=S.nilG (k:=1)
 have slM:=hM.sl.gr g0
 simp only [BS]
 refine aZ (fun(i:Nat) ρ h=>i<=ms.length/\ ∃(vR:Value) (l:List Int),St NoM hF h [] [(vR,1,ints l)]/\eY N l/\l.length<=6/\ρ 1=.int .i64 N/\ρ 2=ptrTo b2/\ρ 5=vR/\ρ 6=.int .i64 i) (fun i=>ms.length-i) ?_ 0 _ _ ?_
 . clear S
   intro i ih ρ h ⟨hi,vR,l,S,hl,hl6,r1,r2,r5,r6⟩
   have sR:aA h 1 (encI .i64) vR l:=(S.gown _ m0).1.sl rfl (fun _=>rfl) (by decide)
   have l1':=S.old l1 (fun h=>h)
   by_cases hgo:i<ms.length/\l.length<6
   . obtain ⟨hlt,hlt6⟩:=hgo
     have c6:(l.length:Int)<6:=by omega
     have w:au .i64 ((i:Int)+1)=((i+1:Nat):Int):=by rw [wrap64]<;>omega
     obtain⟨c,o,hidx,hld⟩:=(slM.gr S.gr).ix (kd:=.i64) (dJ .u8) hlt
     have hx:=hMr _ (yp hlt)
     obtain⟨x,ex⟩: ∃x:Nat,ms[i]=x:=⟨ms[i].toNat,by omega⟩
     rw [ex]at hld hx
     have wc:au .i64 (x:Int)=(x:Int):=by rw [wrap64]<;>omega
     have tm:(x:Int).tmod (N:Int)=((x%N:Nat):Int):=by rw [yD (by omega)];exact(Int.natCast_emod _ _).symm
     have hmod:x%N<N:=Nat.mod_lt _ (by omega)
     simp only [BS,LB,jd,bU,jh,Nat.reduceLT,Nat.reduceEqDiff,Tryz.FFb512,r1,r2,r5,r6,l1',hM.sl.lenq,sR.lenq,aI,hlt,c6,hidx,hld,encI,wc,px nz,tm]
     generalize x%N=v at hmod
     have gI:=S.gr
     have S0:=S
     refine aZ (fun(k:Nat) ρ h'=>k<=l.length/\h'=h/\ρ 1=.int .i64 N/\ρ 2=ptrTo b2/\ρ 5=vR/\ρ 6=.int .i64 i/\ρ 7=.int .i64 v/\ρ 8=.bool (decide ((v:Int)∈l.take k))/\ρ 9=.int .i64 k) (fun k=>l.length-k) ?_ 0 _ _ ?_
     . clear r1 r2 r5 r6
       rintro k ihk ρ h' ⟨hk,rfl,r1,r2,r5,r6,r7,r8,r9⟩
       have wk:au .i64 ((k:Int)+1)=((k+1:Nat):Int):=by rw [wrap64]<;>omega
       by_cases hkt:k<l.length
       . have tk:l.take (k+1)=l.take k++[l[k]]:=yn hkt
         by_cases hm:(v:Int)∈l.take k
         . rw [decide_eq_true hm]at r8
           have m1':(v:Int)∈l.take (k+1):=by rw [tk];exact List.mem_append_left _ hm
           simp only [BS,LB,Nat.reduceLT,Nat.reduceEqDiff,Tryz.FFb512,r5,r8,r9,sR.lenq,aI,hkt,wk]
           exact ihk (k+1) _ _ (by omega) ⟨by omega,rfl,by simp [aa,r1],by simp [aa,r2,ah],by simp [aa,r5],by simp [aa,r6],by simp [aa,r7],by simp [aa,m1'],by simp [aa]⟩
         . rw [decide_eq_false hm]at r8
           obtain⟨c1,o1,i1,y1⟩:=sR.ix (kd:=.i64) (dJ .i64) hkt
           by_cases he:l[k]=(v:Int)
           . have m1':(v:Int)∈l.take (k+1):=by rw [tk,he];exact yy _ (List.mem_singleton.2 rfl)
             simp only [BS,LB,Nat.reduceLT,Nat.reduceEqDiff,Tryz.FFb512,r5,r7,r8,r9,sR.lenq,aI,hkt,wk,i1,y1,encI,he]
             exact ihk (k+1) _ _ (by omega) ⟨by omega,rfl,by simp [aa,r1],by simp [aa,r2,ah],by simp [aa,r5],by simp [aa,r6],by simp [aa,r7],by simp [aa,m1'],by simp [aa]⟩
           . have m2': ¬(v:Int)∈l.take (k+1):=by
              rw [tk]
              intro h
              rcases List.mem_append.1 h with h|h
              . exact hm h
              . exact he (List.mem_singleton.1 h).symm
             simp only [BS,LB,Nat.reduceLT,Nat.reduceEqDiff,Tryz.FFb512,r5,r7,r8,r9,sR.lenq,aI,hkt,wk,i1,y1,encI,he]
             exact ihk (k+1) _ _ (by omega) ⟨by omega,rfl,by simp [aa,r1],by simp [aa,r2,ah],by simp [aa,r5],by simp [aa,r6],by simp [aa,r7],by simp [aa,m2'],by simp [aa]⟩
       . have ek:k=l.length:=by omega
         subst ek
         rw [yw]at r8
         by_cases hm:(v:Int)∈l
         . rw [decide_eq_true hm]at r8
           simp only [BS,LB,Nat.reduceLT,Nat.reduceEqDiff,Tryz.FFb512,r5,r6,r8,r9,sR.lenq,aI,hkt,w]
           exact ih (i+1) _ _ (by omega) ⟨by omega,vR,l,S,hl,hl6,by simp [aa,r1],by simp [aa,r2,ah],by simp [aa,r5],by simp [aa]⟩
         . rw [decide_eq_false hm]at r8
           simp only [BS,LB,Nat.reduceLT,Nat.reduceEqDiff,Tryz.FFb512,r5,r6,r7,r8,r9,sR.lenq,aI,hkt]
           refine ae (bL (by exact yv) (by exact yB) (by decide) (by rfl)) S ?_;clear S;intro h bt S n_bt;simp only [LC,aU,bI,ag,Nat.reduceMul,Nat.reduceAdd,yk,yo,yg,yq]at S
           simp only [BS,LB,Nat.reduceLT,Nat.reduceEqDiff]
           have src:aO h 1 (.slice (some ⟨bt,0,none⟩) 1 1)=some (1,ints [(v:Int)]):=by simp only [aO];rw [S.lds (b:=bt) (o:=0) (n:=1*1) m0 (lbt rfl)];rfl
           replace S:=S.drop1
           refine eK (S.grow (j:=0) (m:=1) (new:=ints [(v:Int)]) rfl yv yB (by decide) Tryz.n40 src rfl (by decide) rfl (by rw [dI,dI];simp;omega)) ?_
           clear S src;rintro h vR' S
           simp only [LC]at S
           rw [<-ny]at S
           simp only [BS,LB,Nat.reduceLT,Nat.reduceEqDiff,r6,w]
           exact ih (i+1) _ _ (by omega) ⟨by omega,vR',l++[(v:Int)],S,hl.push (by omega) (by omega) (by omega) hm,by simp;omega,by simp [aa,r1],by simp [aa,r2,ah],by simp [aa],by simp [aa]⟩
     . exact⟨ya _,rfl,by simp [aa,r1],by simp [aa,r2,ah],by simp [aa,r5],by simp [aa,r6],by simp [aa],by simp [aa],by simp [aa]⟩
   . have nR: ∀c,av vR c->h0.n<=c:=fun c hb=>yc kF (((S.gblk m0 hb).1).elim (fun h=>h) (fun h=>h.elim))
     by_cases hlt:i<ms.length
     . have c6: ¬(l.length:Int)<6:=by omega
       have c0: ¬(l.length:Int)=0:=by omega
       simp only [BS,LB,ab,Nat.reduceLT,Nat.reduceEqDiff,Tryz.FFb512,r2,r5,r6,l1',hM.sl.lenq,sR.lenq,aI,hlt,c6,c0]
       exact⟨g0.trans S.gr,l,sR,hl,by omega,hl6,nR⟩
     . by_cases hz:l.length=0
       . have c0:(l.length:Int)=0:=by omega
         have eq:au .i64 ((N:Int).tdiv 2)=((N/2:Nat):Int):=by
          rw [Int.tdiv_eq_ediv_of_nonneg (by omega),wrap64]<;>omega
         simp only [BS,LB,Nat.reduceLT,Nat.reduceEqDiff,Tryz.FFb512,r1,r2,r5,r6,l1',hM.sl.lenq,sR.lenq,aI,hlt,c0,o9 (n:=2) (by decide),eq]
         refine ae (bL (by exact yv) (by exact yB) (by decide) (by rfl)) S ?_;clear S;intro h bt S n_bt;simp only [LC,aU,bI,ag,Nat.reduceMul,Nat.reduceAdd,yk,yo,yg,yq]at S
         simp only [BS,LB,ab,Nat.reduceLT,Nat.reduceEqDiff]
         refine⟨g0.trans S.gr,[((N/2:Nat):Int)],.inr ⟨bt,0,none,1,rfl,yu _,S.lds (b:=bt) (o:=0) (n:=1*1) m0 (lbt rfl)⟩,(uU N).push (by simp) (by omega) (by omega) (by simp),by simp,by simp,fun c hb=>?_⟩
         have e:c=bt:=hb.symm
         omega
       . have c0: ¬(l.length:Int)=0:=by omega
         simp only [BS,LB,ab,Nat.reduceLT,Nat.reduceEqDiff,Tryz.FFb512,r2,r5,r6,l1',hM.sl.lenq,sR.lenq,aI,hlt,c0]
         exact⟨g0.trans S.gr,l,sR,hl,by omega,hl6,nR⟩
 . exact⟨ya _,_,[],S,uU _,ya _,by simp [aa,ce],by simp [aa,ah],by simp [aa],by simp [aa]⟩
theorem exTo{h0:Hp}(ok:h0.t.Sized h0.n){γ:Gra}(hγ:Good γ){pn:Value}{nb:Nat}(hn:bT h0 nb pn γ){s:Nat}(hs:s<γ.nodes)(v:Nat):IsD (seen γ.arcs Arc.t Arc.s) s v (dOf (seen γ.arcs Arc.t Arc.s) s v):=by
 obtain⟨_,_,_,_,_,_,_,D,_,_,_,_,_,_,_,hD,_⟩:=q8 ok hγ hn hs
 exact(dOf_is (hD v)).2
theorem exFrom{h0:Hp}(ok:h0.t.Sized h0.n){γ:Gra}(hγ:Good γ){pn:Value}{nb:Nat}(hn:bT h0 nb pn γ){s:Nat}(hs:s<γ.nodes)(v:Nat):IsD (seen γ.arcs Arc.s Arc.t) s v (dOf (seen γ.arcs Arc.s Arc.t) s v):=by
 obtain⟨_,_,_,_,_,_,_,D,_,_,_,_,_,_,_,hD,_⟩:=oL ok hγ hn hs
 exact(dOf_is (hD v)).2
theorem eS(B:List Arc)(N s:Nat):(iY B N s).length=N:=by simp [iY]
theorem sb{B:List Arc}{N s v:Nat}(hv:v<N):(iY B N s).getD v 0=(dOf B s v:Nat):=by simp [iY,xX,hv]
theorem iF{γ:Gra}{l:List Int}{i v:Nat}(hi:i<l.length)(hv:v<γ.nodes):eB γ.nodes l.length (toR γ l) i v=(dOf (seen γ.arcs Arc.t Arc.s) (l.getD i 0).toNat v:Nat):=by
 unfold eB
 rw [if_pos ⟨by omega,by omega,by omega,by omega⟩,yf,yf]
 exact sb hv
theorem je{γ:Gra}{l:List Int}{i v:Nat}(hi:i<l.length)(hv:v<γ.nodes):eB γ.nodes l.length (frR γ l) i v=(dOf (seen γ.arcs Arc.s Arc.t) (l.getD i 0).toNat v:Nat):=by
 unfold eB
 rw [if_pos ⟨by omega,by omega,by omega,by omega⟩,yf,yf]
 exact sb hv
theorem iQ{a b:Nat}(ha:a<=72057594037927936)(hb:b<=72057594037927936):j9 (a:Int) (b:Int)=if b<72057594037927936 then(if a<72057594037927936 then max 0 ((a:Int)-b)else 72057594037927936)else 0:=by
 unfold j9 wy
 repeat' split
 all_goals omega
theorem sO(A:List Arc): ∀a∈seen A Arc.s Arc.t,∃b∈seen A Arc.t Arc.s,b.s=a.t/\b.t=a.s/\b.w=a.w:=by
 intro a ha
 obtain⟨i,hi,e⟩:=qw ha
 have e1:=(lK (fs:=Arc.s) (ft:=Arc.t) hi).1
 obtain⟨e2,e3⟩:=lK (fs:=Arc.t) (ft:=Arc.s) hi
 refine⟨_,e3,?_⟩
 rw [e2,<-e,e1]
 exact⟨rfl,rfl,rfl⟩
theorem hZ(γ:Gra):seen γ.arcs Arc.s Arc.t=γ.arcs:=by
 unfold seen
 exact(yz (fun a _=>rfl)).trans (List.map_id _)
end Go.Ab
end
section
namespace Go.Ab
section
variable{key:Nat->Int}{n m:Nat}
theorem eV{α:Type}{f:α->Int}{d:Int}: ∀(l:List α) (b:Int),l.foldl (fun b i=>max b (f i)) b<=d↔b<=d/\ ∀i∈l,f i<=d
 | [],b=>by simp
 | x::l,b=>by
   rw [List.foldl_cons,eV l]
   simp only [yT,forall_eq_or_imp]
   constructor
   . rintro⟨h1,h2⟩;exact⟨by omega,by omega,h2⟩
   . rintro⟨h1,h2,h3⟩;exact⟨by omega,h3⟩
end
end Go.Ab

end
section
namespace Go.Ab
inductive mC(A:List Arc)(s:Nat):List Nat->Nat->Nat->Prop where
 |nil:mC A s [] s 0
 |snoc {l:List Nat} {w a:Nat}:mC A s l (A.getD a default).s w->a<A.length->mC A s (l++[a]) (A.getD a default).t (w+(A.getD a default).w)
def endA(A:List Arc)(s:Nat)(l:List Nat)(i:Nat):Nat:=if i=0 then s else(A.getD (l.getD (i-1) 0) default).t
def sumA(A:List Arc)(l:List Nat)(k:Nat):Nat:=((l.take k).map fun a=>(A.getD a default).w).sum
theorem pS{l:List Nat}{a i:Nat}(h:i<l.length):(l++[a]).getD i 0=l.getD i 0:=by
 rw [xX,xX,yG h]
theorem pO{l:List Nat}{a:Nat}:(l++[a]).getD l.length 0=a:=by simp [xX]
theorem uF{A:List Arc}{s a i:Nat}{l:List Nat}(h:i<=l.length):endA A s (l++[a]) i=endA A s l i:=by
 unfold endA
 split
 . rfl
 . rw [pS (by omega)]
theorem mC.at{A:List Arc}{s t w:Nat}{l:List Nat}(h:mC A s l t w):(∀i,i<l.length->l.getD i 0<A.length/\(A.getD (l.getD i 0) default).s=endA A s l i)/\endA A s l l.length=t/\sumA A l l.length=w:=by
 induction h with
 |nil=>exact⟨fun i hi=>absurd hi (Nat.not_lt_zero _),rfl,rfl⟩
 | @snoc l w a _ ha ih=>
   obtain⟨h1,h2,h3⟩:=ih
   have hl:(l++[a]).length=l.length+1:=by simp
   refine⟨fun i hi=>?_,?_,?_⟩
   . rcases Nat.lt_or_ge i l.length with h|h
     . rw [pS h,uF (Nat.le_of_lt h)];exact h1 i h
     . have:i=l.length:=by omega
       subst this
       rw [pO,uF (yu _)]
       exact⟨ha,h2.symm⟩
   . rw [hl]
     unfold endA
     rw [if_neg (by omega),Nat.add_sub_cancel,pO]
   . unfold sumA at h3⊢
     rw [yw]at h3⊢
     rw [List.map_append,List.sum_append,h3]
     rfl
section
variable{A:List Arc}{N s:Nat}{al:Nat->Bool}{pi:Nat->Int}{σ:SS}
theorem Sv.pathA(h:Sv A N s al pi σ): ∀(n:Nat) {v:Nat},(σ.P v).length<=n->(v∈σ.O\/σ.K v≠none)->mC A s (σ.P v).reverse v (σ.L v):=by
 intro n
 induction n with
 | zero=>
   intro v hl hv
   rcases h.path v hv with⟨rfl,p0,l0⟩|⟨a,_,_,_,_,hp,_⟩
   . rw [p0,l0];exact .nil
   . rw [hp]at hl;simp at hl
 | succ n ih=>
   intro v hl hv
   rcases h.path v hv with⟨rfl,p0,l0⟩|⟨a,ha,_,ht,hs,hp,hL⟩
   . rw [p0,l0];exact .nil
   . rw [hp]at hl⊢
     rw [hL,List.reverse_cons,<-ht]
     exact .snoc (ih (by rw [List.length_cons]at hl;omega) (.inl hs)) ha
theorem ends_path{to:Nat}{r:Fd}(hA: ∀a∈A,a.t<N/\a.w<=cK)(he:Ends A al pi to σ r):Sv A N s al pi σ->r.dist<FAR->mC A s r.arcs to r.dist:=by
 induction he with
 |none hn=>intro _ h;exact absurd h (Nat.lt_irrefl _)
 | @hit σ k hp=>intro h _;exact h.pathA _ (yu _) (.inr (by rw [hp.1];nofun))
 | @step σ v k r hp hne _ ih=>intro h;exact ih (h.next hA hp.1).1
end
end Go.Ab

end
section
namespace Go.Ab
open Go.Proofs
set_option maxRecDepth 10000
section
variable{γ:Gra}{l:List Int}
theorem xR(eT: ∀{s:Nat},s<γ.nodes-> ∀v,IsD (seen γ.arcs Arc.t Arc.s) s v (dOf (seen γ.arcs Arc.t Arc.s) s v))(eF: ∀{s:Nat},s<γ.nodes-> ∀v,IsD (seen γ.arcs Arc.s Arc.t) s v (dOf (seen γ.arcs Arc.s Arc.t) s v))(hl:eY γ.nodes l)
 {v u w d:Nat} (hv:v<γ.nodes) (hu:u<γ.nodes) (hw:w<γ.nodes) (hd:IsD (seen γ.arcs Arc.s Arc.t) v u d) (hdf:d<FAR) (i:Int):cU γ.nodes l.length (toR γ l) (frR γ l) i v w<=d+cU γ.nodes l.length (toR γ l) (frR γ l) i u w:=by
 unfold cU
 by_cases hi:0<=i/\i<(l.length:Int)
 . rw [if_pos ⟨by omega,by omega,hi⟩,if_pos ⟨by omega,by omega,hi⟩]
   obtain⟨i,rfl⟩:=ye hi.1
   have hi:i<l.length:=by omega
   have hm:=hl.2 i hi
   obtain⟨s,es⟩: ∃s:Nat,l.getD i 0=s:=⟨(l.getD i 0).toNat,by omega⟩
   have hs:s<γ.nodes:=by omega
   rw [iF hi hv,iF hi hw,iF hi hu,je hi hv,je hi hw,je hi hu,es,yf]
   have hF:=dX
   have a1:=(eT hs v).le
   have a2:=(eT hs w).le
   have a3:=(eF hs v).le
   have a4:=(eF hs w).le
   have a5:=(eT hs u).le
   have a6:=(eF hs u).le
   have t1:=fun h2=>tri_to (sO γ.arcs) hd (eT hs v) (eT hs u) hdf h2
   have t2:=fun h2=>tri_fr hd (eF hs v) (eF hs u) hdf h2
   rw [iQ (by omega) (by omega),iQ (by omega) (by omega),iQ (by omega) (by omega),iQ (by omega) (by omega)]
   generalize dOf (seen γ.arcs Arc.t Arc.s) s v=p1 at*
   generalize dOf (seen γ.arcs Arc.t Arc.s) s u=p2 at*
   generalize dOf (seen γ.arcs Arc.t Arc.s) s w=p3 at*
   generalize dOf (seen γ.arcs Arc.s Arc.t) s v=q1 at*
   generalize dOf (seen γ.arcs Arc.s Arc.t) s u=q2 at*
   generalize dOf (seen γ.arcs Arc.s Arc.t) s w=q3 at*
   have k1:p2<FAR->p1<=d+p2:=fun h=>(t1 h).2
   have k1':p2<FAR->p1<FAR:=fun h=>(t1 h).1
   have k2:q1<FAR->q2<=q1+d:=fun h=>(t2 h).2
   have k2':q1<FAR->q2<FAR:=fun h=>(t2 h).1
   clear t1 t2 eT eF hl
   have e1:(if p3<72057594037927936 then(if p1<72057594037927936 then max 0 ((p1:Int)-p3)else 72057594037927936)else 0)<=d+(if p3<72057594037927936 then(if p2<72057594037927936 then max 0 ((p2:Int)-p3)else 72057594037927936)else 0):=by
    by_cases h2:p2<FAR
    . have:=k1 h2
      have:=k1' h2
      repeat' split
      all_goals omega
    . repeat' split
      all_goals omega
   have e2:(if q1<72057594037927936 then(if q3<72057594037927936 then max 0 ((q3:Int)-q1)else 72057594037927936)else 0)<=d+(if q2<72057594037927936 then(if q3<72057594037927936 then max 0 ((q3:Int)-q2)else 72057594037927936)else 0):=by
    by_cases h2:q1<FAR
    . have:=k2 h2
      have:=k2' h2
      repeat' split
      all_goals omega
    . repeat' split
      all_goals omega
   omega
 . rw [if_neg (fun h=>hi h.2.2),if_neg (fun h=>hi h.2.2)]
   omega
theorem sm(eT: ∀{s:Nat},s<γ.nodes-> ∀v,IsD (seen γ.arcs Arc.t Arc.s) s v (dOf (seen γ.arcs Arc.t Arc.s) s v))(eF: ∀{s:Nat},s<γ.nodes-> ∀v,IsD (seen γ.arcs Arc.s Arc.t) s v (dOf (seen γ.arcs Arc.s Arc.t) s v))(hl:eY γ.nodes l)
 {v u w d:Nat} (hv:v<γ.nodes) (hu:u<γ.nodes) (hw:w<γ.nodes) (hd:IsD (seen γ.arcs Arc.s Arc.t) v u d) (hdf:d<FAR) (act:List Int):bR γ.nodes l.length (toR γ l) (frR γ l) v w act<=d+bR γ.nodes l.length (toR γ l) (frR γ l) u w act:=by
 have h:=(eV (f:=fun i=>cU γ.nodes l.length (toR γ l) (frR γ l) i u w) act 0).1 (yM _)
 refine(eV (f:=fun i=>cU γ.nodes l.length (toR γ l) (frR γ l) i v w) act 0).2 ⟨?_,fun i hi=>?_⟩
 . have:=h.1
   unfold bR
   omega
 . have h1:=xR eT eF hl hv hu hw hd hdf i
   have h2:=h.2 i hi
   unfold bR
   omega
theorem dT{N n:Nat}{R Q:Nat->List Int}{v w:Int}{act:List Int}:0<=bR N n R Q v w act:=((eV (f:=fun i=>cU N n R Q i v w) act 0).1 (yM _)).1
theorem jI{N v:Nat}{f:Nat->Int}(hv:v<N)(h0:0<=f v):piF ((xY N).map f) v=f v:=by
 have hF:=dX
 unfold piF
 rw [if_neg (by intro h;have:=congrArg yY h;simp at this;omega)]
 have:((xY N).map f).getD v 0=f v:=by simp [xX,hv]
 rw [this]
 omega
theorem pi_feas(eT: ∀{s:Nat},s<γ.nodes-> ∀v,IsD (seen γ.arcs Arc.t Arc.s) s v (dOf (seen γ.arcs Arc.t Arc.s) s v))(eF: ∀{s:Nat},s<γ.nodes-> ∀v,IsD (seen γ.arcs Arc.s Arc.t) s v (dOf (seen γ.arcs Arc.s Arc.t) s v))(hl:eY γ.nodes l)(hγ:Good γ)
 {w:Nat} (hw:w<γ.nodes) (act:List Int) (al:Nat->Bool):Feas γ.arcs al (piF ((xY γ.nodes).map fun(v:Nat)=>bR γ.nodes l.length (toR γ l) (frR γ l) v w act)):=by
 intro i hi _
 have ha:γ.arcs.getD i default∈γ.arcs:=by rw [xX,xZ hi];exact yp hi
 generalize γ.arcs.getD i default=a at ha
 obtain⟨h1,h2,h3⟩:=hγ.arcs a ha
 rw [jI h1 dT,jI h2 dT]
 have hd:=eF h1 a.t
 have hwk:Wk (seen γ.arcs Arc.s Arc.t) a.s a.t (0+a.w):=by rw [hZ];exact .snoc ha .nil
 have hq:=hd.wk hwk
 have:=sm eT eF hl h1 h2 hw hd (by have:=dX;omega) act
 omega
end
end Go.Ab

end
section
namespace Go.Ab
open Go.Proofs
set_option maxRecDepth 10000
theorem xJ{N n:Nat}{R Q:Nat->List Int}{i v:Int}:cU N n R Q i v v=0:=by
 have: ∀x:Int,j9 x x=0:=fun x=>by unfold j9 wy;repeat' split;all_goals omega
 unfold cU
 split
 . rw [this,this];rfl
 . rfl
theorem tg{N n:Nat}{R Q:Nat->List Int}{v:Int}(act:List Int):bR N n R Q v v act=0:=by
 refine Int.le_antisymm ((eV (f:=fun i=>cU N n R Q i v v) act 0).2 ⟨yM _,fun i _=>?_⟩) dT
 show cU N n R Q i v v<=0
 rw [xJ]
 exact yM _
theorem uw{A:List Arc}{s to:Nat}{al:Nat->Bool}{pi:Nat->Int}(hal: ∀i,al i=true)(hp: ∀v w,Wk A v to w->pi v<(FAR:Int)){v w:Nat}(h:Wk A s v w):(∃x,Wk A v to x)->Wk (jj A al pi) s v w:=by
 induction h with
 |nil=>intro _;exact .nil
 | @snoc w a ha _ ih=>
   rintro⟨x,hx⟩
   have h1:Wk A a.s to (0+a.w+x):=(Wk.snoc ha .nil).trans hx
   refine .snoc (k8.2 ?_) (ih ⟨_,h1⟩)
   obtain⟨i,hi,e⟩:=yV ha
   have e':A.getD i default=a:=by rw [xX,xZ hi,e];rfl
   exact⟨i,hi,⟨hal i,by rw [e'];exact hp _ _ h1,by rw [e'];exact hp _ _ hx⟩,e'⟩
theorem sV{A:List Arc}{al:Nat->Bool}{pi:Nat->Int}{a:Arc}(h:a∈jj A al pi):a∈A:=by
 obtain⟨i,hi,_,rfl⟩:=k8.1 h
 rw [xX,xZ hi];exact yp hi
theorem isD_hArcs{A:List Arc}{s to x:Nat}{al:Nat->Bool}{pi:Nat->Int}(hal: ∀i,al i=true)(hp: ∀v w,Wk A v to w->pi v<(FAR:Int))(h:IsD (jj A al pi) s to x):IsD A s to x:=by
 rcases h with⟨a,b,c⟩|⟨a,b⟩
 . exact .inl ⟨a,b.mono (fun _=>sV),fun w hw=>c w (uw hal hp hw ⟨0,.nil⟩)⟩
 . exact .inr ⟨a,fun w hw=>b w (uw hal hp hw ⟨0,.nil⟩)⟩
theorem oh{A:List Arc}{al:Nat->Bool}{pi:Nat->Int}{to:Nat}{σ:SS}{r:Fd}(h:Ends A al pi to σ r)(h0: ∀v,σ.K v=none):r=⟨FAR,[],σ.ev⟩:=h.uniq (.none h0)
theorem wk_first{A:List Arc}{N v u x:Nat}(hA: ∀a∈A,a.s<N)(h:Wk A v u x):v=u\/v<N:=by
 induction h with
 |nil=>exact .inl rfl
 | snoc ha _ ih=>
   rcases ih with e|h
   . exact .inr (by rw [e];exact hA _ ha)
   . exact .inr h
section
variable{γ:Gra}{l:List Int}
theorem mI(eT: ∀{s:Nat},s<γ.nodes-> ∀v,IsD (seen γ.arcs Arc.t Arc.s) s v (dOf (seen γ.arcs Arc.t Arc.s) s v))(eF: ∀{s:Nat},s<γ.nodes-> ∀v,IsD (seen γ.arcs Arc.s Arc.t) s v (dOf (seen γ.arcs Arc.s Arc.t) s v))(hl:eY γ.nodes l)(hγ:Good γ)
 {s w:Nat} (hs:s<γ.nodes) (hw:w<γ.nodes) (hsw:s≠w) {act:List Int} {fd:Fd} (he:Ends γ.arcs (alF []) (piF ((xY γ.nodes).map fun(v:Nat)=>bR γ.nodes l.length (toR γ l) (frR γ l) v w act)) w (da (piF ((xY γ.nodes).map fun(v:Nat)=>bR γ.nodes l.length (toR γ l) (frR γ l) v w act)) s) fd):
 IsD γ.arcs s w fd.dist/\(fd.dist<FAR->mC γ.arcs s fd.arcs w fd.dist):=by
 have hA: ∀a∈γ.arcs,a.t<γ.nodes/\a.w<=cK:=fun a ha=>⟨(hγ.arcs a ha).2.1,(hγ.arcs a ha).2.2⟩
 have hF:=pi_feas eT eF hl hγ hw act (alF [])
 have hal: ∀i,alF [] i=true:=fun _=>rfl
 have far:=dX
 have low: ∀v,v<γ.nodes-> ∀x,Wk γ.arcs v w x->bR γ.nodes l.length (toR γ l) (frR γ l) v w act<(FAR:Int):=fun v hv x hx=>by
  have hd:=eF hv w
  have hq:=hd.wk (by rw [hZ];exact hx)
  have:=sm eT eF hl hv hw hw hd hq.1 act
  rw [tg]at this
  omega
 have nd: ∀v x,Wk γ.arcs v w x->v=w\/v<γ.nodes:=fun v x hx=>wk_first (fun a ha=>(hγ.arcs a ha).1) hx
 have hp: ∀v x,Wk γ.arcs v w x->piF ((xY γ.nodes).map fun(v:Nat)=>bR γ.nodes l.length (toR γ l) (frR γ l) v w act) v<(FAR:Int):=fun v x hx=>by
  have hv:v<γ.nodes:=(nd v x hx).elim (fun h=>by rw [h];exact hw) (fun h=>h)
  rw [jI hv dT]
  exact low v hv x hx
 generalize piF ((xY γ.nodes).map fun(v:Nat)=>bR γ.nodes l.length (toR γ l) (frR γ l) v w act)=pi at he hF hp
 refine⟨?_,ends_path (N:=γ.nodes) hA he (nl hs)⟩
 by_cases hps:pi s<(FAR:Int)
 . refine isD_hArcs hal hp (ends_isD hA hγ.n2 hF he (nl hs) (fe_init hps) ?_)
   unfold da cL
   split<;>exact fun h=>by cases h
 . have h0: ∀v,(da pi s).K v=none:=fun v=>by
    unfold da cL
    split
    . rfl
    . rename_i hc
      simp only [not_or]at hc
      exact absurd (by omega) hps
   rw [oh he h0]
   exact .inr ⟨rfl,fun x hx=>hps (hp s x hx)⟩
end
end Go.Ab

end
section
namespace Go.Ab
end Go.Ab

end
section
namespace Go.Ab
open Go.Proofs
set_option maxRecDepth 10000


open Tryz in
def Tryz.FFb1113:=aj a1<|aj s1<|aj z1<|aj n1<|aj u2<|aj a2<|aj s2<|aj z2<|aj i2<|aj u3<|aj a3<|aj s3<|aj z3<|aj i3<|aj u4<|aj a4<|aj s4<|aj z4<|aj n4<|aj u5<|aj a5<|aj s5<|aj z5<|aj i5<|aj u22<|aj a22<|aj s22<|aj z22<|aj q22<|aj n22<|aj a24<|aj s24<|aj z24<|aj i24<|aj n24<|aj p24<|aj ff24<|aj d24<|aj u25<|aj a25<|aj s25<|aj z25<|aj q25<|aj n25<|aj a27<|aj s27<|aj z27<|aj i27<|aj n27<|aj p27<|aj ff27<|aj d27<|aj u97<|aj a97<|aj s97<|aj z97<|i97
theorem u64_nn(f:Int): ∃m:Nat,au .u64 f=(m:Int):=by
 unfold au
 cases f with
 | ofNat m=>
   simp only []
   cases h:Nat.blt m (hf .u64)<;>exact⟨_,rfl⟩
 |negSucc m=>exact⟨_,rfl⟩
theorem sW{N:Nat}(n2:N<=100):au .u64 (N:Int)=(N:Int):=by
 have h:Nat.blt N (hf .u64)=true:=by
  rw [Nat.blt_eq]
  exact Nat.lt_of_le_of_lt n2 (by decide)
 show(bif Nat.blt N (hf .u64)then Int.ofNat N else _)=_
 rw [h];rfl
theorem u64_mod(f:Int){N:Nat}(n1:1<=N)(n2:N<=100): ∃s:Nat,s<N/\au .i64 ((au .u64 f).tmod (au .u64 (N:Int)))=(s:Int):=by
 obtain⟨m,em⟩:=u64_nn f
 have hm:m%N<N:=Nat.mod_lt _ (by omega)
 refine⟨m%N,hm,?_⟩
 rw [em,sW n2,yD (by omega),<-Int.natCast_emod,wrap64]<;>omega
theorem qP{h0:Hp}(ok:h0.t.Sized h0.n){vB vM vN:Value}{w0 f t a:Int}(fB:Fl vB)(fM:Fl vM)(fN:Fl vN){N:Nat}(n1:1<=N)(n2:N<=100):
 Ret xW 13 [.agg ⟨[vB,vM,.int .i64 w0,.int .i64 f,.int .i64 t,.int .i64 a,vN]⟩,.int .i64 N] h0 fun r h'=>Gr h0 h'/\ ∃(s u:Nat) (a':Int),s<N/\u<N/\r=.agg ⟨[.int .i64 w0,.int .i64 s,.int .i64 u,.int .i64 a']⟩:=by
 have S:=Si ok
 obtain⟨s,hs,es⟩:=u64_mod f n1 n2
 obtain⟨u,hu,eu⟩:=u64_mod t n1 n2
 have nz:au .u64 (N:Int)≠0:=by rw [sW n2];omega
 refine ac (n:=29) (rs:=[.cell 4 24]) rfl Tryz.e13 rfl rfl rfl (lbt rfl) ?_
 simp only [BS,Nat.reduceLT]
 refine ae (bE (by intro x e;cases e)) S ?_;clear S;intro h b2 S n_b2;simp only [ag]at S
 simp only [BS,Tryz.FFb1113]
 refine ae aw S ?_;clear S;intro h b4 S n_b4
 simp only [BS,LB,Nat.reduceLT,Nat.reduceEqDiff,Tryz.FFb1113,yr,List.drop_succ_cons,yA,yN,S.lds (b:=b2) (o:=2) (n:=4) m1 (lbt rfl)]
 refine ae aw S ?_;clear S;intro h b5 S n_b5
 simp only [BS,LB,Nat.reduceLT,Nat.reduceEqDiff]
 refine az (S.store (i:=0) rfl Tryz.s24 (by intro x e;cases e) rfl rfl (lbt rfl) ono) ?_
 clear S;rintro h ⟨S,mo⟩;clear mo
 simp only [LC,ag,lay,yl,ym,Nat.reduceAdd]at S
 simp only [BS]
 refine aC (aH rfl) (q:=0) (ps:=[]) (by kernel_rfl) ?_
 simp only [BS,LB,jd,bU,jh,cls,Nat.reduceLT,Nat.reduceEqDiff,Nat.reduceAdd,Nat.reducePow,Nat.reduceDiv,Nat.reduceMod,Nat.reduceLeDiff,Tryz.FFb1113,px nz,es,eu,S.ld (b:=b5) (o:=1) m0 rfl,S.ld (b:=b5) (o:=2) m0 rfl]
 refine c5 (aB S (i:=0) rfl yH bw (yh (lbt rfl)) ono) ?_
 clear S;rintro h ⟨S,_⟩
 simp only [LC]at S
 simp only [BS,LB,cls,Nat.reduceLT,Nat.reduceEqDiff,Nat.reduceAdd,Nat.reducePow,Nat.reduceDiv,Nat.reduceMod,Nat.reduceLeDiff,Tryz.FFb1113]
 refine c5 (aB S (i:=0) rfl yH bw (yh (lbt rfl)) ono) ?_
 clear S;rintro h ⟨S,_⟩
 simp only [LC]at S
 simp only [BS,LB,Nat.reduceLT,Nat.reduceEqDiff,Nat.reduceAdd,Tryz.FFb1113,px (n:=9) (by decide),S.ld (b:=b5) (o:=3) m0 rfl]
 refine az (aB S (i:=0) rfl yH bw (yh (lbt rfl)) ono) ?_
 clear S;rintro h ⟨S,_⟩
 simp only [LC]at S
 simp only [BS,LB,Nat.reduceLT,Nat.reduceEqDiff,Tryz.FFb1113,yr,yA,yN,S.lds (b:=b5) (o:=0) (n:=4) m0 (lbt rfl)]
 refine az (S.store (i:=1) rfl Tryz.s24 (by intro x e;cases e) rfl rfl (lbt rfl) ono) ?_
 clear S;rintro h ⟨S,mo⟩;clear mo
 simp only [LC,ag,lay,yl,ym,Nat.reduceAdd]at S
 simp only [BS,ab]
 refine(cF (by decide) (by simp only [aK,ah,Nat.reduceEqDiff,reduceIte];exact cm Tryz.a24 Tryz.s24 (S.lds (b:=b4) (o:=0) (n:=4) m1 (lbt rfl)))).2 ?_
 refine dr.2 ?_
 exact⟨S.gr,s,u,_,hs,hu,rfl⟩
end Go.Ab
end
section
namespace Go.Ab
theorem St.toL{M:Nat->Prop}{h0 h:Hp}{L:List (Nat×Ob)}{v:Value}{vs:List Value}(S:St M h0 h L [(v,1,vs)])(hne:vs≠ []): ∃b,v=.slice (some ⟨b,0,some 1⟩) vs.length vs.length/\St M h0 h ((b,.row vs 1)::L) []:=by
 obtain⟨g,k⟩:=S.gown _ (List.mem_singleton.2 rfl)
 rcases g with⟨_,e⟩|⟨b,n,e1,e2,e3⟩
 . exact absurd e hne
 . have en:n=vs.length:=by rw [<-show n*1=vs.length from e2,yg]
   subst en
   have ev:v=.slice (some ⟨b,0,some 1⟩) vs.length vs.length:=e1
   have hk:dR (v,1,vs)=some b:=by rw [ev];rfl
   have ap:=S.apart
   have nb:b∉L.map Prod.fst:=by
    have h1:=ap
    unfold keys at h1
    rw [List.nodup_append]at h1
    exact fun hc=>h1.2.2 b hc b (List.mem_filterMap.2 ⟨_,List.mem_singleton.2 rfl,hk⟩) rfl
   refine⟨b,ev,St.push (St.sub S (List.Sublist.refl _) (List.nil_sublist _)) (k b hk) e3 ?_⟩
   simpa [keys]using nb
def jz(N:Nat)(l:Nat->Nat):List Value:=(xY N).map fun v=>.int .i64 (l v:Nat)
theorem tP{N:Nat}{l:Nat->Nat}{v:Nat}(h:v<N):(jz N l)[v]? =some (.int .i64 (l v:Nat)):=gL (F:=fun v=>Value.int .i64 ((l v:Nat):Int)) h
theorem sJ(N:Nat)(l:Nat->Nat):(jz N l).length=N:=by simp [jz]
theorem ti{N:Nat}{l:Nat->Nat}{v x:Nat}:(jz N l).set v (.int .i64 (x:Nat))=jz N (cJ l v x):=by
 have:=ij (N:=N) (k:=v) (F:=fun v=>Value.int .i64 ((l v:Nat):Int)) (F':=fun u=>Value.int .i64 ((cJ l v x u:Nat):Int)) (fun u _ hu=>by unfold cJ;rw [if_neg hu])
 unfold jz
 rw [<-this]
 simp [cJ]
def Rlx(B:List Arc)(k:Nat)(l:Nat->Nat):Prop:= ∀j,j<k->l (B.getD j default).s<FAR->l (B.getD j default).t<=l (B.getD j default).s+(B.getD j default).w
theorem rlx_all{B:List Arc}{l:Nat->Nat}(h:Rlx B B.length l): ∀a∈B,l a.s<FAR->l a.t<=l a.s+a.w:=by
 intro a ha
 obtain⟨i,hi,e⟩:=List.mem_iff_getElem.1 ha
 have:=h i hi
 rwa [xX,xZ hi,Option.getD_some,e]at this
end Go.Ab

end
section
namespace Go.Ab
open Go.Proofs
set_option maxRecDepth 10000
open Tryz in
def Tryz.FFrl114:=aj a1<|aj s1<|aj z1<|aj n1<|aj u2<|aj a2<|aj s2<|aj z2<|aj i2<|aj u3<|aj a3<|aj s3<|aj z3<|aj i3<|aj u4<|aj a4<|aj s4<|aj z4<|aj n4<|aj u5<|aj a5<|aj s5<|aj z5<|aj i5<|aj u6<|aj a6<|aj s6<|aj z6<|aj i6<|aj a7<|aj s7<|aj z7<|aj i7<|aj n7<|aj p7<|aj ff7<|aj d7<|aj a8<|aj s8<|aj z8<|aj i8<|aj n8<|aj p8<|aj ff8<|aj d8<|aj u9<|aj a9<|aj s9<|aj z9<|aj n9<|aj u10<|aj a10<|aj s10<|aj z10<|aj n10<|aj u11<|aj a11<|aj s11<|aj z11<|aj n11<|aj u12<|aj a12<|aj s12<|aj z12<|aj i12<|aj a13<|aj s13<|aj z13<|aj i13<|aj n13<|aj p13<|aj ff13<|aj d13<|aj a14<|aj s14<|aj z14<|aj i14<|aj n14<|aj p14<|aj ff14<|aj d14<|aj u15<|aj a15<|aj s15<|aj z15<|aj q15<|aj i15<|aj n15<|aj u16<|aj a16<|aj s16<|aj z16<|aj q16<|aj i16<|aj n16<|aj u17<|aj a17<|aj s17<|aj z17<|aj q17<|aj i17<|aj n17<|aj a18<|aj s18<|aj z18<|aj i18<|aj n18<|aj p18<|aj ff18<|aj d18<|aj a19<|aj s19<|aj z19<|aj i19<|aj n19<|aj p19<|aj ff19<|aj d19<|aj u25<|aj a25<|aj s25<|aj z25<|aj q25<|aj n25<|aj u28<|aj a28<|aj s28<|aj z28<|aj q28<|aj n28<|aj a30<|aj s30<|aj z30<|aj i30<|aj n30<|aj p30<|aj ff30<|aj d30<|aj a59<|aj s59<|aj z59<|aj i59<|aj n59<|aj p59<|aj ff59<|aj d59<|aj u197<|aj a197<|aj s197<|aj z197<|aj i197<|aj u263<|aj a263<|aj s263<|aj z263<|aj i263<|aj a274<|aj s274<|aj z274<|aj i274<|aj n274<|aj p274<|aj ff274<|aj d274<|aj u275<|aj a275<|aj s275<|aj z275<|aj n275<|aj a277<|aj s277<|aj z277<|aj i277<|aj n277<|aj u279<|aj a279<|aj s279<|aj z279<|aj i279<|aj a280<|aj s280<|aj z280<|aj n280<|aj u281<|aj a281<|aj s281<|aj z281<|aj q281<|aj i281<|aj n281<|aj u282<|aj a282<|aj s282<|aj z282<|aj i282<|aj u283<|aj a283<|aj s283<|aj z283<|aj i283<|aj a285<|aj s285<|aj z285<|aj i285<|aj n285<|aj p285<|aj ff285<|d285
theorem least_ok {h0:Hp} (ok:h0.t.Sized h0.n) {γ:Gra} (hγ:Good γ) {vx vy va:Value} (ga:cN h0 vx vy va γ) {s:Nat} (hs:s<γ.nodes) (hD: ∀v,v<γ.nodes->IsD γ.arcs s v (dOf γ.arcs s v)):
 Ret xW 14 [gH γ vx vy va,.int .i64 s] h0 fun r h'=>Gr h0 h'/\aA h' 1 (encI .i64) r (iY γ.arcs γ.nodes s)/\ ∀c,av r c->h0.n<=c:=by
 have S:=Si ok
 have n1:=hγ.n1
 have n2:=hγ.n2
 have many:=hγ.many
 have fx:=ga.X.fl
 have fy:=ga.Y.fl
 have fa:=ga.A.fl
 have hF:=dX
 refine ac (n:=78) (rs:=[.tmp 4]) rfl Tryz.e14 rfl rfl rfl (lbt rfl) ?_
 simp only [BS,Nat.reduceLT,gH]
 refine ae (bE (by intro x e;cases e)) S ?_;clear S;intro h b2 S n_b2;simp only [ag]at S
 simp only [BS]
 replace S:=S.nilG (k:=1)
 refine aZ (fun(i:Nat) ρ h=>i<=γ.nodes/\ ∃(vR:Value),St NoM h0 h [(b2,.row [.int .i64 γ.nodes,vx,vy,va] 1)] [(vR,1,List.replicate i (.int .i64 72057594037927936))]/\ρ 1=.int .i64 s/\ρ 2=ptrTo b2/\ρ 5=vR/\ρ 6=.int .i64 i) (fun i=>γ.nodes-i) ?_ 0 _ _ ?_
 . clear S
   intro i ih ρ h ⟨hi,vR,S,r1,r2,r5,r6⟩
   by_cases hlt:i<γ.nodes
   . have w:au .i64 ((i:Int)+1)=((i+1:Nat):Int):=by rw [wrap64]<;>omega
     simp only [BS,LB,Nat.reduceLT,Nat.reduceEqDiff,Tryz.FFrl114,r2,r5,r6,aI,hlt,S.ld (b:=b2) (o:=0) m0 rfl]
     refine ae (bL (by exact yZ) (by exact y5) (by decide) (by rfl)) S ?_;clear S;intro h bt S n_bt;simp only [LC,aU,bI,ag,Nat.reduceMul,Nat.reduceAdd,yk,yo,yg,yq]at S
     simp only [BS,LB,Nat.reduceLT,Nat.reduceEqDiff]
     have src:aO h 1 (.slice (some ⟨bt,0,none⟩) 1 1)=some (1,[.int .i64 72057594037927936]):=by simp only [aO];rw [S.lds (b:=bt) (o:=0) (n:=1*1) m0 (lbt rfl)];rfl
     replace S:=S.drop1
     refine eK (S.grow (j:=0) (m:=1) (new:=[.int .i64 72057594037927936]) rfl yZ y5 (by decide) Tryz.n25 src rfl (by decide) rfl (by simp;omega)) ?_
     clear S src;rintro h vR' S
     simp only [LC,<-List.replicate_succ']at S
     simp only [BS,LB,Nat.reduceLT,Nat.reduceEqDiff,r6,w]
     exact ih (i+1) _ _ (by omega) ⟨by omega,vR',S,by simp [aa,r1],by simp [aa,r2,ah],by simp [aa],by simp [aa]⟩
   . have hiN:i=γ.nodes:=by omega
     subst hiN
     have c1: ¬((s:Int)<0):=by omega
     have c2: ¬((γ.nodes:Int)<=(s:Int)):=by omega
     obtain⟨bl,ev,S2⟩:=S.toL (by intro e;have:=congrArg yY e;simp at this;omega)
     clear S
     have S:=S2
     clear S2
     rw [List.length_replicate]at ev
     subst ev
     have e0:List.replicate γ.nodes (Value.int .i64 72057594037927936)=jz γ.nodes fun _=>FAR:=by
      unfold jz
      rw [List.map_const',yF];rfl
     rw [e0]at S
     have ips:fK (.int .i64 (s:Int)) γ.nodes=some s:=iN hs
     simp only [BS,LB,Nat.reduceLT,Nat.reduceEqDiff,Tryz.FFrl114,r1,r2,r5,r6,aI,hlt,c1,c2,ips,S.ld (b:=b2) (o:=0) m1 rfl]
     refine az (aB S (i:=0) rfl Tryz.s2 bw (by rw [sJ];omega) ono) ?_
     clear S;rintro h ⟨S,_⟩
     have e1:((0:Int))=((0:Nat):Int):=rfl
     simp only [LC]at S
     rw [e1,ti]at S
     simp only [BS]
     have L0:Ls γ.arcs s γ.nodes (cJ (fun _=>FAR) s 0):=by
      refine⟨fun v=>?_,fun v=>?_,by simp [cJ]⟩
      . unfold cJ;split
        . omega
        . exact yu _
      . unfold cJ;split
        . rename_i e;subst e;exact .inr .nil
        . exact .inl rfl
     refine aZ (fun(a:(Nat->Nat)×Bool) ρ h=>Ls γ.arcs s γ.nodes a.1/\St NoM h0 h [(bl,.row (jz γ.nodes a.1) 1),(b2,.row [.int .i64 γ.nodes,vx,vy,va] 1)] []/\(a.2=false->Rlx γ.arcs γ.arcs.length a.1)/\ρ 2=ptrTo b2/\ρ 5=.slice (some ⟨bl,0,some 1⟩) γ.nodes γ.nodes/\ρ 7=.bool a.2) (fun a=>2*sumTo a.1 γ.nodes+a.2.toNat) ?_ (cJ (fun _=>FAR) s 0,true) _ _ ?_
     . clear S L0 e0 r1 r2 r5 r6 hi ih
       rintro⟨l,more⟩ ih ρ h ⟨hL,S,hr,r2,r5,r7⟩
       cases more with
       | false=>
         simp only [BS,LB,ab,Nat.reduceLT,Nat.reduceEqDiff,r5,r7]
         have row:=S.row (b:=bl) m0
         have ec:jz γ.nodes l=ints (iY γ.arcs γ.nodes s):=by
          unfold jz iY
          rw [tU,yX]
          refine yz fun v hv=>?_
          have hv:=List.mem_range.1 hv
          have:=hL.isD (rlx_all (hr rfl)) (hD v hv)
          have this:l v=dOf γ.arcs s v:=this
          show Value.int .i64 ((l v:Nat):Int)=_
          rw [this];rfl
         rw [ec]at row
         refine⟨S.gr,.inr ⟨bl,0,some 1,γ.nodes,by rw [eS],by rw [eS];omega,?_⟩,fun c hc=>?_⟩
         . rw [row.load (by rw [dI];omega),yr,yg,<-dI (iY γ.arcs γ.nodes s),yw];rfl
         . obtain rfl:bl=c:=hc
           exact(S.own _ m0).1.elim (fun h=>h) (fun h=>h.elim)
       | true=>
         simp only [BS,LB,Nat.reduceLT,r7]
         refine aZ (fun(k:Nat) ρ h=>k<=γ.arcs.length/\ ∃(l':Nat->Nat) (ch:Bool),Ls γ.arcs s γ.nodes l'/\St NoM h0 h [(bl,.row (jz γ.nodes l') 1),(b2,.row [.int .i64 γ.nodes,vx,vy,va] 1)] []/\((ch=false/\l'=l/\Rlx γ.arcs k l)\/(ch=true/\sumTo l' γ.nodes<sumTo l γ.nodes))/\ρ 2=ptrTo b2/\ρ 5=.slice (some ⟨bl,0,some 1⟩) γ.nodes γ.nodes/\ρ 7=.bool ch/\ρ 8=.int .i64 k) (fun k=>γ.arcs.length-k) ?_ 0 _ _ ?_
         . clear S r2 r5 r7 hL
           intro k ihk ρ h ⟨hk,l',ch,hL,S,hc,r2,r5,r7,r8⟩
           have wk:au .i64 ((k:Int)+1)=((k+1:Nat):Int):=by rw [wrap64]<;>omega
           have gaC:=ga.A.gr S.gr
           by_cases hkt:k<γ.arcs.length
           . obtain⟨c3,o3,x3,y3⟩:=gaC.ix (kd:=.i64) eP hkt
             have am:=yp hkt
             obtain⟨a1,a2,a3⟩:=hγ.arcs _ am
             have ags:γ.arcs.getD k default=γ.arcs[k]:=by simp [xX,hkt]
             generalize γ.arcs[k]=a at am a1 a2 a3 ags y3
             have d1:=hL.le a.s
             have d2:=hL.le a.t
             simp only [BS,LB,Nat.reduceLT,Nat.reduceEqDiff,Tryz.FFrl114,r2,r8,gaC.lenq,aI,hkt,x3,y3,S.ld (b:=b2) (o:=3) m1 rfl]
             refine ae aw S ?_;clear S;intro h b9 S n_b9
             simp only [BS,LB,Nat.reduceLT,Nat.reduceEqDiff,cI]
             refine az (S.store (i:=0) rfl ?_ ?_ rfl rfl ?_ ono) ?_
             . exact(by exact Tryz.s59)
             . exact(by intro x e;cases e)
             . exact lbt rfl
             clear S;rintro h ⟨S,mo⟩;clear mo;simp only [LC,ag,lay,yl,ym,Nat.reduceAdd]at S
             have ips:fK (.int .i64 (a.s:Int)) γ.nodes=some a.s:=iN a1
             have ipt:fK (.int .i64 (a.t:Int)) γ.nodes=some a.t:=iN a2
             have lds:=S.ld (b:=bl) (o:=a.s) m1 (tP a1)
             have ldt:=S.ld (b:=bl) (o:=a.t) m1 (tP a2)
             have wsum:au .i64 ((l' a.s:Int)+(a.w:Int))=((l' a.s+a.w:Nat):Int):=by rw [wrap64]<;>omega
             simp only [BS]
             refine aC (aH rfl) (q:=0) (ps:=[]) (by kernel_rfl) ?_
             by_cases e1:l' a.s<FAR
             . have e1':(l' a.s:Int)<72057594037927936:=by omega
               by_cases e2:l' a.s+a.w<l' a.t
               . have e2':((l' a.s+a.w:Nat):Int)<(l' a.t:Int):=by omega
                 simp only [BS,LB,cls,Nat.reduceLT,Nat.reduceEqDiff,Nat.reduceAdd,Nat.reducePow,Nat.reduceDiv,Nat.reduceMod,Nat.reduceLeDiff,Tryz.FFrl114,r5,ips,ipt,lds,ldt,wsum,e1',e2',S.ld (b:=b9) (o:=0) m0 rfl,S.ld (b:=b9) (o:=1) m0 rfl,S.ld (b:=b9) (o:=2) m0 rfl]
                 refine aC (aH rfl) (q:=0) (ps:=[]) (by kernel_rfl) ?_
                 simp only [BS,LB,cls,Nat.reduceLT,Nat.reduceEqDiff,Nat.reduceAdd,Nat.reducePow,Nat.reduceDiv,Nat.reduceMod,Nat.reduceLeDiff,Tryz.FFrl114,r5,ips,ipt,lds,wsum,S.ld (b:=b9) (o:=0) m0 rfl,S.ld (b:=b9) (o:=1) m0 rfl,S.ld (b:=b9) (o:=2) m0 rfl]
                 refine c5 (aB S (i:=1) rfl Tryz.s2 bw (by rw [sJ];omega) ono) ?_
                 clear S lds ldt;rintro h ⟨S,_⟩
                 simp only [LC,ti]at S
                 simp only [BS,LB,Nat.reduceLT,Nat.reduceEqDiff,Nat.reduceAdd,r8,wk]
                 have hsum:=sum_upd (l:=l') (v:=a.t) (x:=l' a.s+a.w) a2
                 refine ihk (k+1) _ _ (by omega) ⟨by omega,_,true,hL.step am e1 e2,S.drop1,.inr ⟨rfl,?_⟩,by simp [aa,r2,ah],by simp [aa,r5],by simp [aa],by simp [aa]⟩
                 rcases hc with⟨_,rfl,_⟩|⟨_,h⟩<;>omega
               . have e2': ¬((l' a.s+a.w:Nat):Int)<(l' a.t:Int):=by omega
                 simp only [BS,LB,cls,Nat.reduceLT,Nat.reduceEqDiff,Nat.reduceAdd,Nat.reducePow,Nat.reduceDiv,Nat.reduceMod,Nat.reduceLeDiff,Tryz.FFrl114,r5,r8,ips,ipt,lds,ldt,wsum,e1',e2',wk,S.ld (b:=b9) (o:=0) m0 rfl,S.ld (b:=b9) (o:=1) m0 rfl,S.ld (b:=b9) (o:=2) m0 rfl]
                 refine ihk (k+1) _ _ (by omega) ⟨by omega,_,ch,hL,S.drop1,hc.imp (fun⟨x,y,z⟩=>⟨x,y,fun j hj=>?_⟩) id,by simp [aa,r2,ah],by simp [aa,r5],by simp [aa,r7],by simp [aa]⟩
                 by_cases ej:j=k
                 . subst ej;subst y;rw [ags];intro _;omega
                 . exact z j (by omega)
             . have e1': ¬(l' a.s:Int)<72057594037927936:=by omega
               simp only [BS,LB,cls,Nat.reduceLT,Nat.reduceEqDiff,Nat.reduceAdd,Nat.reducePow,Nat.reduceDiv,Nat.reduceMod,Nat.reduceLeDiff,Tryz.FFrl114,r5,r8,ips,lds,e1',wk,S.ld (b:=b9) (o:=0) m0 rfl,S.ld (b:=b9) (o:=1) m0 rfl,S.ld (b:=b9) (o:=2) m0 rfl]
               refine ihk (k+1) _ _ (by omega) ⟨by omega,_,ch,hL,S.drop1,hc.imp (fun⟨x,y,z⟩=>⟨x,y,fun j hj=>?_⟩) id,by simp [aa,r2,ah],by simp [aa,r5],by simp [aa,r7],by simp [aa]⟩
               by_cases ej:j=k
               . subst ej;subst y;rw [ags];intro h;exact absurd h e1
               . exact z j (by omega)
           . simp only [BS,LB,ab,Nat.reduceLT,Nat.reduceEqDiff,Tryz.FFrl114,r2,r5,r8,gaC.lenq,aI,hkt,S.ld (b:=b2) (o:=3) m1 rfl]
             have hk':k=γ.arcs.length:=by omega
             subst hk'
             refine ih (l',ch) _ _ ?_ ⟨hL,S,fun h=>?_,by simp [aa,r2,ah],by simp [aa,r5],by simp [aa,r7]⟩
             . rcases hc with⟨rfl,rfl,_⟩|⟨rfl,h⟩
               . simp
               . simp;omega
             . rcases hc with⟨_,rfl,h⟩|⟨h2,_⟩
               . exact h
               . exact absurd (h2.symm.trans h) (by decide)
         . exact⟨ya _,l,false,hL,S,.inl ⟨rfl,rfl,fun j hj=>by omega⟩,by simp [aa,r2,ah],by simp [aa,r5],by simp [aa],by simp [aa]⟩
     . exact⟨L0,S,fun h=>(by cases h),by simp [aa,r2,ah],by simp [aa,r5],by simp [aa]⟩
 . exact⟨ya _,_,S,by simp [aa,aV,bV],by simp [aa,ah],by simp [aa],by simp [aa]⟩

theorem ends_len{A:List Arc}{N s to:Nat}{al:Nat->Bool}{pi:Nat->Int}{σ:SS}{r:Fd}(hA: ∀a∈A,a.t<N/\a.w<=cK)(hN:N<=12)(hl:A.length<=100)(he:Ends A al pi to σ r):Sv A N s al pi σ->σ.ev.length<=σ.O.length*200->r.arcs.length<=12/\r.ev.length<=3000:=by
 induction he with
 | @none σ hn=>
   intro h hev
   have:=h.len
   exact⟨ya _,by show σ.ev.length<=3000;omega⟩
 | @hit σ k hp=>
   intro h hev
   have h1:=h.len
   have h2:=(h.bd to).2
   refine⟨by show(σ.P to).reverse.length<=12;rw [List.length_reverse];omega,?_⟩
   show(σ.ev++[_]).length<=3000
   simp;omega
 | @step σ v k r hp hne _ ih=>
   intro h hev
   obtain⟨h1,h2⟩:=h.next hA hp.1
   refine ih h1 ?_
   have e1:=uc A al pi v (cG σ v)
   have e2:(cG σ v).ev.length=σ.ev.length+1:=by show(σ.ev++[_]).length=_;simp
   rw [h2.O]
   show _<=(σ.O++[v]).length*200
   simp;omega
theorem sY{γ:Gra}(hγ:Good γ){s to:Nat}(hs:s<γ.nodes){al:Nat->Bool}{pi:Nat->Int}{fd:Fd}(he:(s=to/\fd=⟨0,[],[]⟩)\/(s≠to/\Ends γ.arcs al pi to (da pi s) fd)):fd.arcs.length<=12/\fd.ev.length<=3000:=by
 rcases he with⟨_,rfl⟩|⟨_,he⟩
 . exact⟨ya _,ya _⟩
 . refine ends_len (fun a ha=>⟨(hγ.arcs a ha).2.1,(hγ.arcs a ha).2.2⟩) hγ.n2 hγ.many he (nl hs) ?_
   have k0:(da pi s).ev.length=0:=by unfold da;rw [pX];rfl
   omega
theorem sX{h0:Hp}(ok:h0.t.Sized h0.n):bC xW 10 [] h0 (.bool true):=ret_orc rfl ⟨rfl,Gr.refl ok⟩
theorem SlW.grE{h h':Hp}{kd:IntKind}{v:Value}{xs:List Int}(s:SlW h kd v xs)(g:Gr h h'):SlW h' kd v xs:=s.imp (fun h=>h) (fun⟨b,o,c,h1,h2,h3⟩=>⟨b,o,c,h1,h2,g.load h3⟩)
end Go.Ab
end
section
namespace Go.Ab
open Go.Proofs
set_option maxRecDepth 10000
def cZ(l:List Ev):List Nat:=l.filterMap fun e=>if e.kind=0 then some e.id else none
def jx(A:List Arc)(ok:Nat->Nat->Prop)(l:List Ev):Prop:= ∀(i:Nat) (h:i<l.length),(l[i].kind=1/\l[i].id<A.length/\(A.getD l[i].id default).s∈cZ (l.take i))\/(l[i].kind=0/\l[i].id∉cZ (l.take i)/\ok l[i].id l[i].lab)
theorem jx.snoc{A:List Arc}{ok:Nat->Nat->Prop}{l:List Ev}{e:Ev}(h:jx A ok l)(he:(e.kind=1/\e.id<A.length/\(A.getD e.id default).s∈cZ l)\/(e.kind=0/\e.id∉cZ l/\ok e.id e.lab)):jx A ok (l++[e]):=by
 intro i hi
 by_cases h1:i<l.length
 . rw [List.getElem_append_left h1,List.take_append_of_le_length (by omega)]
   exact h i h1
 . have:i=l.length:=by simp at hi;omega
   subst this
   rw [List.getElem_concat_length rfl,List.take_left]
   exact he
theorem ly(l:List Ev)(e:Ev):cZ (l++[e])=cZ l++if e.kind=0 then [e.id]else []:=by
 unfold cZ
 rw [List.filterMap_append]
 by_cases h:e.kind=0<;>simp [h]
theorem hU{pi:Nat->Int}{σ:SS}{v lab:Nat}{p:List Nat}:(cL pi σ v lab p).ev=σ.ev/\(cL pi σ v lab p).O=σ.O:=by
 unfold cL
 split<;>exact⟨rfl,rfl⟩
section
variable{A:List Arc}{N s:Nat}{al:Nat->Bool}{pi:Nat->Int}{ok:Nat->Nat->Prop}
def EvI(A:List Arc)(ok:Nat->Nat->Prop)(σ:SS):Prop:=jx A ok σ.ev/\cZ σ.ev=σ.O
theorem EvI.scan1{σ:SS}(h:EvI A ok σ){v a:Nat}(hv:v∈σ.O)(ha:a<A.length)(hs:(A.getD a default).s=v):EvI A ok (scan1 A al pi v σ a)/\(scan1 A al pi v σ a).O=σ.O:=by
 unfold Ab.scan1
 split
 . refine⟨⟨?_,?_⟩,hU.2⟩
   . rw [hU.1]
     exact h.1.snoc (.inl ⟨rfl,ha,by rw [h.2];show(A.getD a default).s∈_;rw [hs];exact hv⟩)
   . rw [hU.1,hU.2]
     show cZ (σ.ev++[_])=σ.O
     rw [ly,h.2]
     simp
 . exact⟨h,rfl⟩
theorem EvI.scanL{v:Nat}: ∀(l:List Nat) {σ:SS},EvI A ok σ->v∈σ.O->(∀a∈l,a<A.length/\(A.getD a default).s=v)->EvI A ok (l.foldl (Ab.scan1 A al pi v) σ)
 | [],_,h,_,_=>h
 | a::l,σ,h,hv,hl=>by
   have h1:=h.scan1 (al:=al) (pi:=pi) hv (hl a List.mem_cons_self).1 (hl a List.mem_cons_self).2
   exact EvI.scanL l h1.1 (by rw [h1.2];exact hv) (fun b hb=>hl b (yO _ hb))
theorem EvI.close{σ:SS}(h:EvI A ok σ){v:Nat}(hv:v∉σ.O)(ho:ok v (σ.L v)):EvI A ok (cG σ v):=by
 refine⟨h.1.snoc (.inr ⟨rfl,by rw [h.2];exact hv,ho⟩),?_⟩
 show cZ (σ.ev++[_])=σ.O++[v]
 rw [ly,h.2]
 simp
theorem ends_near{to:Nat}{σ:SS}{r:Fd}(hA: ∀a∈A,a.t<N/\a.w<=cK)(hF:Feas A al pi)(he:Ends A al pi to σ r)
 (H: ∀{τ:SS} {v:Nat} {k:Int},Sv A N s al pi τ->Fe A s al pi τ (fun _=>False)->to∉τ.O->Pops τ.K v k->ok v (τ.L v)):
 Sv A N s al pi σ->Fe A s al pi σ (fun _=>False)->to∉σ.O->EvI A ok σ->jx A ok r.ev:=by
 induction he with
 |none hn=>intro _ _ _ h;exact h.1
 | @hit σ k hp=>intro h f ht he;exact(he.close (h.op _ _ hp.1).2.1 (H h f ht hp)).1
 | @step σ v k r hp hne _ ih=>
   intro h f ht he
   obtain⟨h1,h2⟩:=h.next hA hp.1
   refine ih h1 (f.next h hF hp) ?_ ?_
   . rw [h2.O]
     intro hm
     rcases List.mem_append.1 hm with hm|hm
     . exact ht hm
     . simp at hm;exact hne hm.symm
   . exact EvI.scanL _ (he.close (h.op _ _ hp.1).2.1 (H h f ht hp)) (yy _ (List.mem_singleton.2 rfl)) (fun a ha=>im.1 ha)
theorem evI_init:EvI A ok (da pi s):=by
 unfold da
 refine⟨?_,?_⟩
 . rw [hU.1];intro i hi;cases hi
 . rw [hU.1,hU.2];rfl
theorem wk_up(hal: ∀i,al i=true)(hp: ∀a∈A,pi a.t<(FAR:Int)->pi a.s<(FAR:Int)){v w:Nat}(h:Wk A s v w):pi v<(FAR:Int)->Wk (jj A al pi) s v w:=by
 induction h with
 |nil=>intro _;exact .nil
 | @snoc w a ha _ ih=>
   intro hv
   have hs:=hp a ha hv
   refine .snoc (k8.2 ?_) (ih hs)
   obtain⟨i,hi,e⟩:=yV ha
   have e':A.getD i default=a:=by rw [xX,xZ hi,e];rfl
   exact⟨i,hi,⟨hal i,by rw [e'];exact hs,by rw [e'];exact hv⟩,e'⟩
end
section
variable{γ:Gra}{l:List Int}
theorem bound_far(eT: ∀{s:Nat},s<γ.nodes-> ∀v,IsD (seen γ.arcs Arc.t Arc.s) s v (dOf (seen γ.arcs Arc.t Arc.s) s v))(eF: ∀{s:Nat},s<γ.nodes-> ∀v,IsD (seen γ.arcs Arc.s Arc.t) s v (dOf (seen γ.arcs Arc.s Arc.t) s v))(hl:eY γ.nodes l)
 {v u w d:Nat} (hv:v<γ.nodes) (hu:u<γ.nodes) (hw:w<γ.nodes) (hd:IsD (seen γ.arcs Arc.s Arc.t) v u d) (hdf:d<FAR) (i:Int) (hb:cU γ.nodes l.length (toR γ l) (frR γ l) i u w<(FAR:Int)):cU γ.nodes l.length (toR γ l) (frR γ l) i v w<(FAR:Int):=by
 have hF:=dX
 unfold cU at*
 by_cases hi:0<=i/\i<(l.length:Int)
 . rw [if_pos ⟨by omega,by omega,hi⟩]at hb⊢
   obtain⟨i,rfl⟩:=ye hi.1
   have hi:i<l.length:=by omega
   have hm:=hl.2 i hi
   obtain⟨s,es⟩: ∃s:Nat,l.getD i 0=s:=⟨(l.getD i 0).toNat,by omega⟩
   have hs:s<γ.nodes:=by omega
   rw [iF hi hw,iF hi hu,je hi hw,je hi hu,es,yf]at hb
   rw [iF hi hv,iF hi hw,je hi hv,je hi hw,es,yf]
   have a1:=(eT hs v).le
   have a2:=(eT hs w).le
   have a3:=(eF hs v).le
   have a4:=(eF hs w).le
   have a5:=(eT hs u).le
   have a6:=(eF hs u).le
   have t1:=fun h2=>tri_to (sO γ.arcs) hd (eT hs v) (eT hs u) hdf h2
   have t2:=fun h2=>tri_fr hd (eF hs v) (eF hs u) hdf h2
   rw [iQ (by omega) (by omega),iQ (by omega) (by omega)]at hb⊢
   generalize dOf (seen γ.arcs Arc.t Arc.s) s v=p1 at*
   generalize dOf (seen γ.arcs Arc.t Arc.s) s u=p2 at*
   generalize dOf (seen γ.arcs Arc.t Arc.s) s w=p3 at*
   generalize dOf (seen γ.arcs Arc.s Arc.t) s v=q1 at*
   generalize dOf (seen γ.arcs Arc.s Arc.t) s u=q2 at*
   generalize dOf (seen γ.arcs Arc.s Arc.t) s w=q3 at*
   have k1':p2<FAR->p1<FAR:=fun h=>(t1 h).1
   have k2':q1<FAR->q2<FAR:=fun h=>(t2 h).1
   clear t1 t2 eT eF hl
   have f1:(if p3<72057594037927936 then(if p2<72057594037927936 then max 0 ((p2:Int)-p3)else 72057594037927936)else 0)<(FAR:Int):=by omega
   have f2:(if q2<72057594037927936 then(if q3<72057594037927936 then max 0 ((q3:Int)-q2)else 72057594037927936)else 0)<(FAR:Int):=by omega
   clear hb
   have e1:(if p3<72057594037927936 then(if p1<72057594037927936 then max 0 ((p1:Int)-p3)else 72057594037927936)else 0)<(FAR:Int):=by
    by_cases h2:p2<FAR
    . have:=k1' h2
      repeat' split
      all_goals omega
    . by_cases h3:p3<72057594037927936
      . rw [if_pos h3,if_neg (by omega)]at f1;omega
      . rw [if_neg h3];omega
   have e2:(if q1<72057594037927936 then(if q3<72057594037927936 then max 0 ((q3:Int)-q1)else 72057594037927936)else 0)<(FAR:Int):=by
    by_cases h2:q1<FAR
    . have:=k2' h2
      rw [if_pos (by omega)]at f2⊢
      by_cases h3:q3<72057594037927936
      . rw [if_pos h3];omega
      . rw [if_neg h3]at f2;omega
    . rw [if_neg (by omega)];omega
   omega
 . rw [if_neg (fun h=>hi h.2.2)]
   omega
theorem best_far(eT: ∀{s:Nat},s<γ.nodes-> ∀v,IsD (seen γ.arcs Arc.t Arc.s) s v (dOf (seen γ.arcs Arc.t Arc.s) s v))(eF: ∀{s:Nat},s<γ.nodes-> ∀v,IsD (seen γ.arcs Arc.s Arc.t) s v (dOf (seen γ.arcs Arc.s Arc.t) s v))(hl:eY γ.nodes l)
 {v u w d:Nat} (hv:v<γ.nodes) (hu:u<γ.nodes) (hw:w<γ.nodes) (hd:IsD (seen γ.arcs Arc.s Arc.t) v u d) (hdf:d<FAR) (act:List Int) (hb:bR γ.nodes l.length (toR γ l) (frR γ l) u w act<(FAR:Int)):bR γ.nodes l.length (toR γ l) (frR γ l) v w act<(FAR:Int):=by
 have hF:=dX
 have h:=(eV (f:=fun i=>cU γ.nodes l.length (toR γ l) (frR γ l) i u w) (d:=(FAR:Int)-1) act 0).1 (yQ hb)
 refine yR ((eV (f:=fun i=>cU γ.nodes l.length (toR γ l) (frR γ l) i v w) (d:=(FAR:Int)-1) act 0).2 ⟨h.1,fun i hi=>?_⟩)
 have h1:=bound_far eT eF hl hv hu hw hd hdf i (yR (h.2 i hi))
 exact yQ h1
theorem uj(eT: ∀{s:Nat},s<γ.nodes-> ∀v,IsD (seen γ.arcs Arc.t Arc.s) s v (dOf (seen γ.arcs Arc.t Arc.s) s v))(eF: ∀{s:Nat},s<γ.nodes-> ∀v,IsD (seen γ.arcs Arc.s Arc.t) s v (dOf (seen γ.arcs Arc.s Arc.t) s v))(hl:eY γ.nodes l)(hγ:Good γ)
 {s w:Nat} (hs:s<γ.nodes) (hw:w<γ.nodes) (hsw:s≠w) {act:List Int} {fd:Fd} (he:Ends γ.arcs (alF []) (piF ((xY γ.nodes).map fun(v:Nat)=>bR γ.nodes l.length (toR γ l) (frR γ l) v w act)) w (da (piF ((xY γ.nodes).map fun(v:Nat)=>bR γ.nodes l.length (toR γ l) (frR γ l) v w act)) s) fd) (hfd:fd.dist<FAR):
 jx γ.arcs (fun v x=>v<γ.nodes/\IsD γ.arcs s v x/\(x:Int)+bR γ.nodes l.length (toR γ l) (frR γ l) v w act<=fd.dist) fd.ev:=by
 have hA: ∀a∈γ.arcs,a.t<γ.nodes/\a.w<=cK:=fun a ha=>⟨(hγ.arcs a ha).2.1,(hγ.arcs a ha).2.2⟩
 have hF:=pi_feas eT eF hl hγ hw act (alF [])
 have hal: ∀i,alF [] i=true:=fun _=>rfl
 have far:=dX
 obtain⟨hD,_⟩:=mI eT eF hl hγ hs hw hsw he
 have hup: ∀a∈γ.arcs,piF ((xY γ.nodes).map fun(v:Nat)=>bR γ.nodes l.length (toR γ l) (frR γ l) v w act) a.t<(FAR:Int)->piF ((xY γ.nodes).map fun(v:Nat)=>bR γ.nodes l.length (toR γ l) (frR γ l) v w act) a.s<(FAR:Int):=fun a ha h=>by
  obtain⟨h1,h2,h3⟩:=hγ.arcs a ha
  rw [jI h2 dT]at h
  rw [jI h1 dT]
  have hd:=eF h1 a.t
  have hwk:Wk (seen γ.arcs Arc.s Arc.t) a.s a.t (0+a.w):=by rw [hZ];exact .snoc ha .nil
  exact best_far eT eF hl h1 h2 hw hd (hd.wk hwk).1 act h
 have ew:piF ((xY γ.nodes).map fun(v:Nat)=>bR γ.nodes l.length (toR γ l) (frR γ l) v w act) w=0:=by
  rw [jI hw dT,tg]
 have ev: ∀v,v<γ.nodes->piF ((xY γ.nodes).map fun(v:Nat)=>bR γ.nodes l.length (toR γ l) (frR γ l) v w act) v=bR γ.nodes l.length (toR γ l) (frR γ l) v w act:=fun v hv=>jI hv dT
 generalize hpi:piF ((xY γ.nodes).map fun(v:Nat)=>bR γ.nodes l.length (toR γ l) (frR γ l) v w act)=pi at he hF hup ew ev
 have hW:=wk_up hal hup (hD.far hfd) (by rw [ew];omega)
 by_cases hps:pi s<(FAR:Int)
 . refine ends_near (N:=γ.nodes) hA hF he (fun {τ v k} h f ht hp=>?_) (nl hs) (fe_init hps) ?_ evI_init
   . obtain⟨o1,o2,o3,o4⟩:=h.op v k hp.1
     obtain⟨q1,q2⟩:=f.popped h hF hp
     have h1:=h.wk _ (yu _) (v:=v) (.inr (by rw [hp.1];nofun))
     have h2:=(h.bd v).1
     have h3:=Nat.mul_le_mul_right cK (yc h.len hγ.n2)
     have:=kC
     have h4:=q2 w fd.dist ht hW
     rw [ew,ev v o1]at h4
     refine⟨o1,.inl ⟨by omega,h1.mono (fun _=>sV),fun x hx=>q1 x (wk_up hal hup hx o3)⟩,by omega⟩
   . unfold da
     rw [hU.2]
     exact fun h=>by cases h
 . have h0: ∀v,(da pi s).K v=none:=fun v=>by
    unfold da cL
    split
    . rfl
    . rename_i hc
      simp only [not_or]at hc
      exact absurd (by omega) hps
   rw [oh he h0]at hfd
   exact absurd hfd (Nat.lt_irrefl _)
end
end Go.Ab

end
